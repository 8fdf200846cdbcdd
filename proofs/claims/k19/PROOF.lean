import PyProof.Rows.All
import Wide.All
import OpenK.AllK
import Wide.FinOn
import HandS.ForMost
import HandS.ForExc
import HandS.Walk
import HandS.Flow
import HandS.Wide
import HandS.WideBits
import HandS.WideMore
import HandS.IsInst
import HandS.Style
import HandS.NoneIn
import HandS.TupAny
import HandS.TupMul
import HandS.Text
import HandS.Conv
import HandS.Rev
import HandS.RevRange
import HandS.Small
import HandS.TryOnly
import HandS.TryMany
import HandS.IterVal
import KE.DataEq
import HandS.Zip
import KE.GoesMore
import HandS.SortInts
import HandS.SortRule
import HandS.SetFor
import HandS.More
import PyProof.AutoSeq1
import PyProof.WalksMore
import PyProof.WalkInts
import HandS.Strs
import PyProof.ReprRoads
import PyProof.TupleOfSeq
import HandS.SortKw
import PyProof.MinMaxWalk
import HandS.Defaults
import KE.SortData
import KE.DatumOrd
import PyProof.ListIndex
import PyProof.NeKinds
import PyProof.EqAt
import PyProof.Rows.Top
import PyProof.Rows.IntBool
import PyProof.StrLawsRepr
import PyProof.ReprLen
import PyProof.Rows.ReprOcc
import HandS.Exc
import HandS.ExcOwn
import HandS.ExcIs
import HandS.WordsExc
import KE.KIsAll
import PySem.Challenge.RW_evenwires_k19_whole_rows_on_small_street
set_option Elab.async false
set_option linter.all false
set_option maxRecDepth 100000
set_option maxHeartbeats 4000000
/-! The data layer: values without addresses (D), the objects that change (G), and readings over both. -/
namespace L2.Ew
open PySem PySem.Spec PyProof.Rows

/-- a value: data by what it is; an object that may change by where it stands -/
inductive D where
  | non | bl (b : Bool) | int (i : Int) | str (x : Str) | ty (n : String)
  | tup (ds : List D) | lst (ds : List D) | dk (ks : List Key) (ds : List D) | ptr (a : Addr)
  | scr (ns : List Int)

/-- a deck's form: a dict of cells and numbers by keys, or a list of cells and so many numbers -/
inductive DkS where
  | d (ks : List Str) | l (n : Nat) | b (n : Nat)
def DkS.len : DkS → Nat
  | .d ks => ks.length
  | .l n => n
  | .b _ => 7
/-- what may change, at its address -/
inductive MO where
  | lst (ds : List D) | dk (kvs : List (Key × D)) | dT (kvs : List (List Key × D)) | ins (C : Addr) (fs : List (Str × D))
  | deck (l : Addr) (ks : DkS) | well (n : Nat)
  | fK (o : Obj) (ws : List (Key × V)) (kvs : List (Key × D)) | fT (o : Obj) (ws : List (List Key × V)) (kvs : List (List Key × D))
abbrev DH := Addr → Option MO
abbrev DS := List (Option D)

def uG (G : DH) (a : Addr) (o : MO) : DH := fun b => if b = a then some o else G b
theorem uG_same {G : DH} {a : Addr} {o : MO} : uG G a o a = some o := by unfold uG; rw [if_pos rfl]
theorem uG_ne {G : DH} {a b : Addr} {o : MO} (h : b ≠ a) : uG G a o b = G b := by unfold uG; rw [if_neg h]
theorem uG_uG {G : DH} {a : Addr} {o u : MO} : uG (uG G a o) a u = uG G a u := by funext b; unfold uG; split <;> rfl
theorem uG_keep {G : DH} {a b : Addr} {o u : MO} (n : G a = none) (h : G b = some u) : uG G a o b = some u := by
  rw [uG_ne (fun e => by rw [e, n] at h; cases h)]; exact h

/-- the addresses of what may change -/
def Fp (G : DH) (a : Addr) : Prop := (∃ o, G a = some o) ∨ ∃ b ks, G b = some (.deck a ks)
abbrev Hid := Addr → Prop
def Own (F : Hid) (G : DH) (a : Addr) : Prop := F a ∨ Fp G a

/-- a tuple of the written part -/
def KT (K : PySem.W.Frag) (a : Addr) (xs : List V) : Prop := ∃ (o : Obj) (its : Array Value) (n : Nat), K.lookup a = some o ∧ o.cls = .type "tuple" ∧ o.data = .seq its n ∧ its.size ≤ sizeLine ∧ Vals xs its.toList

def KL (K : PySem.W.Frag) (a : Addr) (xs : List V) : Prop := ∃ (o : Obj) (its : Array Value) (n : Nat), K.lookup a = some o ∧ o.cls = .type "list" ∧ o.dict = none ∧ o.data = .seq its n ∧ its.size ≤ sizeLine ∧ Vals xs its.toList
mutual
inductive Rep (K : PySem.W.Frag) (H : Hp) (O : Addr → Prop) : V → D → Prop
  | non : Rep K H O .non .non
  | bl (b : Bool) : Rep K H O (.bl b) (.bl b)
  | int (i : Int) : Rep K H O (.int i) (.int i)
  | str (x : Str) : Rep K H O (.str x) (.str x)
  | ty (n : String) : Rep K H O (.ty n) (.ty n)
  | ptr (a : Addr) : Rep K H O (.ref a) (.ptr a)
  | scr {a : Addr} {ns : List Int} : Rd H a (.lst (ns.map V.int)) → ¬ O a → Rep K H O (.ref a) (.scr ns)
  | scrK {a : Addr} {ns : List Int} : KL K a (ns.map V.int) → Rep K H O (.ref a) (.scr ns)
  | tup {a : Addr} {xs : List V} {ds : List D} : H a = some (.tup xs) → ¬ O a → RepL K H O xs ds → Rep K H O (.ref a) (.tup ds)
  | lst {a : Addr} {xs : List V} {ds : List D} : H a = some (.lst xs) → ¬ O a → RepL K H O xs ds → Rep K H O (.ref a) (.lst ds)
  | dk {a : Addr} {kvs : List (Key × V)} {ds : List D} : H a = some (.dK kvs) → ¬ O a → RepL K H O (kvs.map Prod.snd) ds → Rep K H O (.ref a) (.dk (kvs.map Prod.fst) ds)
inductive RepL (K : PySem.W.Frag) (H : Hp) (O : Addr → Prop) : List V → List D → Prop
  | nil : RepL K H O [] []
  | cons {v : V} {vs : List V} {d : D} {ds : List D} : Rep K H O v d → RepL K H O vs ds → RepL K H O (v :: vs) (d :: ds)
end

/-- from one heap to another: what is nobody's stays, and stays nobody's -/
structure Step (G : DH) (H : Hp) (G' : DH) (H' : Hp) : Prop where
  at_ : ∀ a o, H a = some o → ¬ Fp G a → H' a = some o ∧ ¬ Fp G' a
  dom : ∀ a o, H a = some o → ∃ o', H' a = some o'
theorem Step.refl {G : DH} {H : Hp} : Step G H G H := ⟨fun _ _ h n => ⟨h, n⟩, fun _ _ h => ⟨_, h⟩⟩
theorem Step.trans {G G1 G2 : DH} {H H1 H2 : Hp} (a : Step G H G1 H1) (b : Step G1 H1 G2 H2) : Step G H G2 H2 :=
  ⟨fun c o h n => b.at_ c o (a.at_ c o h n).1 (a.at_ c o h n).2, fun c o h => let ⟨_, h1⟩ := a.dom c o h; b.dom c _ h1⟩
theorem Step.none {G G' : DH} {H H' : Hp} (st : Step G H G' H') {a : Addr} (h : H' a = none) : H a = none := by
  cases e : H a with
  | none => rfl
  | some o => obtain ⟨u, q⟩ := st.dom a o e; rw [h] at q; cases q

mutual
theorem Rep.imp {K : PySem.W.Frag} {H H' : Hp} {O O' : Addr → Prop} (st : ∀ a o, H a = some o → ¬ O a → H' a = some o ∧ ¬ O' a) : ∀ {v : V} {d : D}, Rep K H O v d → Rep K H' O' v d
  | _, _, .non => .non
  | _, _, .bl b => .bl b
  | _, _, .int i => .int i
  | _, _, .str x => .str x
  | _, _, .ty n => .ty n
  | _, _, .ptr a => .ptr a
  | _, _, .scr (.inl h) n => .scr (.inl (st _ _ h n).1) (st _ _ h n).2
  | _, _, .scr (.inr ⟨o, h⟩) n => .scr (.inr ⟨o, (st _ _ h n).1⟩) (st _ _ h n).2
  | _, _, .scrK k => .scrK k
  | _, _, .tup h n r => .tup (st _ _ h n).1 (st _ _ h n).2 (RepL.imp st r)
  | _, _, .lst h n r => .lst (st _ _ h n).1 (st _ _ h n).2 (RepL.imp st r)
  | _, _, .dk h n r => .dk (st _ _ h n).1 (st _ _ h n).2 (RepL.imp st r)
theorem RepL.imp {K : PySem.W.Frag} {H H' : Hp} {O O' : Addr → Prop} (st : ∀ a o, H a = some o → ¬ O a → H' a = some o ∧ ¬ O' a) : ∀ {vs : List V} {ds : List D}, RepL K H O vs ds → RepL K H' O' vs ds
  | _, _, .nil => .nil
  | _, _, .cons r t => .cons (Rep.imp st r) (RepL.imp st t)
end
theorem own_step {F : Hid} {G G' : DH} {H H' : Hp} (st : Step G H G' H') : ∀ a o, H a = some o → ¬ Own F G a → H' a = some o ∧ ¬ Own F G' a := fun a o h n =>
  let ⟨h1, n1⟩ := st.at_ a o h (fun z => n (.inr z))
  ⟨h1, fun z => z.elim (fun z => n (.inl z)) n1⟩
section
variable {K : PySem.W.Frag} {H H' : Hp} {F : Hid} {G G' : DH} {v : V} {d : D} {vs : List V} {ds : List D}
theorem Rep.step (r : Rep K H (Own F G) v d) (st : Step G H G' H') : Rep K H' (Own F G') v d := r.imp (own_step st)
theorem RepL.step (r : RepL K H (Own F G) vs ds) (st : Step G H G' H') : RepL K H' (Own F G') vs ds := r.imp (own_step st)
end
section
variable {K : PySem.W.Frag} {H : Hp} {O : Addr → Prop} {vs ws : List V} {ds es : List D}
theorem RepL.len : ∀ {vs : List V} {ds : List D}, RepL K H O vs ds → vs.length = ds.length
  | _, _, .nil => rfl
  | _, _, .cons _ t => congrArg (· + 1) (RepL.len t)
theorem RepL.append : ∀ {vs ws : List V} {ds es : List D}, RepL K H O vs ds → RepL K H O ws es → RepL K H O (vs ++ ws) (ds ++ es)
  | _, _, _, _, .nil, s => s
  | _, _, _, _, .cons r t, s => .cons r (RepL.append t s)
theorem RepL.one {v : V} {d : D} (r : Rep K H O v d) : RepL K H O [v] [d] := .cons r .nil
theorem RepL.get : ∀ {vs : List V} {ds : List D} {i : Nat} {d : D}, RepL K H O vs ds → ds[i]? = some d → ∃ v, vs[i]? = some v ∧ Rep K H O v d
  | _, _, _, _, .nil, e => by simp at e
  | _, _, 0, _, .cons r _, e => by simp at e; subst e; exact ⟨_, rfl, r⟩
  | _, _, i + 1, d, .cons _ t, e => by
    obtain ⟨v, h1, h2⟩ := RepL.get (i := i) (d := d) t (by simpa using e)
    exact ⟨v, by simpa using h1, h2⟩
theorem RepL.getV : ∀ {vs : List V} {ds : List D} {i : Nat} {v : V}, RepL K H O vs ds → vs[i]? = some v → ∃ d, ds[i]? = some d ∧ Rep K H O v d
  | _, _, _, _, .nil, e => by simp at e
  | _, _, 0, _, .cons r _, e => by simp at e; subst e; exact ⟨_, rfl, r⟩
  | _, _, i + 1, v, .cons _ t, e => by
    obtain ⟨d, h1, h2⟩ := RepL.getV (i := i) (v := v) t (by simpa using e)
    exact ⟨d, by simpa using h1, h2⟩
theorem RepL.set {v : V} {d : D} (r : Rep K H O v d) : ∀ {vs : List V} {ds : List D} (i : Nat), RepL K H O vs ds → RepL K H O (vs.set i v) (ds.set i d)
  | _, _, _, .nil => .nil
  | _, _, 0, .cons _ t => .cons r t
  | _, _, i + 1, .cons q t => .cons q (RepL.set r i t)
theorem RepL.take : ∀ {vs : List V} {ds : List D} (n : Nat), RepL K H O vs ds → RepL K H O (vs.take n) (ds.take n)
  | _, _, 0, _ => .nil
  | _, _, _ + 1, .nil => .nil
  | _, _, n + 1, .cons r t => .cons r (RepL.take n t)
theorem RepL.drop : ∀ {vs : List V} {ds : List D} (n : Nat), RepL K H O vs ds → RepL K H O (vs.drop n) (ds.drop n)
  | _, _, 0, r => r
  | _, _, _ + 1, .nil => .nil
  | _, _, n + 1, .cons _ t => RepL.drop n t
theorem RepL.ints : ∀ (ns : List Int), RepL K H O (ns.map V.int) (ns.map D.int)
  | [] => .nil
  | n :: ns => .cons (.int n) (RepL.ints ns)
theorem RepL.ints_of : ∀ {ns : List Int} {vs : List V}, RepL K H O vs (ns.map D.int) → vs = ns.map V.int
  | [], _, .nil => rfl
  | n :: ns, _, .cons r t => by cases r; rw [RepL.ints_of t]; rfl
theorem RepL.app_inv : ∀ {ds es : List D} {vs : List V}, RepL K H O vs (ds ++ es) → ∃ us ws, vs = us ++ ws ∧ RepL K H O us ds ∧ RepL K H O ws es
  | [], es, vs, r => ⟨[], vs, rfl, .nil, r⟩
  | d :: ds, es, _, .cons r t => let ⟨us, ws, e, r1, r2⟩ := RepL.app_inv t; ⟨_ :: us, ws, by rw [e]; rfl, .cons r r1, r2⟩
theorem RepL.rev : ∀ {vs : List V} {ds : List D}, RepL K H O vs ds → RepL K H O vs.reverse ds.reverse
  | _, _, .nil => .nil
  | _, _, .cons r t => by rw [List.reverse_cons, List.reverse_cons]; exact (RepL.rev t).append (.one r)
end

/-! ### the objects that change -/
def deckKvs (l : Addr) (ks : List Str) (is : List Int) : List (Key × V) := (.inr "cells", .ref l) :: (ks.zip is).map fun p => (.inr p.1, .int p.2)
/-- a deck's numbers: one a key, none below nought -/
def DkI (ks : DkS) (is : List Int) : Prop := match ks with
  | .b n => is.length = 3 ∧ (∀ i ∈ is, 0 ≤ i) ∧ is.getD 1 0 ≤ (n : Int)
  | ks => is.length = ks.len ∧ ∀ i ∈ is, 0 ≤ i
def deckHO (l : Addr) (ks : DkS) (is : List Int) : HO := match ks with
  | .d ks => .dK (deckKvs l ks is)
  | .l _ => .lst (.ref l :: is.map V.int)
  | .b _ => .lst (.ref l :: is.map V.int)
def RepO (K : PySem.W.Frag) (H : Hp) (O : Addr → Prop) (a : Addr) : MO → Prop
  | .lst ds => ∃ xs, H a = some (.lst xs) ∧ RepL K H O xs ds
  | .dk kvs => ∃ ws, H a = some (.dK ws) ∧ ws.map Prod.fst = kvs.map Prod.fst ∧ RepL K H O (ws.map Prod.snd) (kvs.map Prod.snd)
  | .dT kvs => ∃ ws, H a = some (.dT ws) ∧ ws.map Prod.fst = kvs.map Prod.fst ∧ RepL K H O (ws.map Prod.snd) (kvs.map Prod.snd)
  | .ins C fs => ∃ dx ws, H a = some (.ins C dx ws) ∧ ws.map Prod.fst = fs.map Prod.fst ∧ RepL K H O (ws.map Prod.snd) (fs.map Prod.snd)
  | .deck l ks => ∃ (is cs : List Int), H a = some (deckHO l ks is) ∧ DkI ks is ∧ H l = some (.lst (cs.map V.int))
  | .well n => ∃ is : List Int, H a = some (.lst (is.map V.int)) ∧ is.length = 3 ∧ (∀ i ∈ is, 0 ≤ i) ∧ is.getD 2 0 ≤ (n : Int)
  | .fK o ws kvs => H a = some (.frz o (.dK ws)) ∧ ws.map Prod.fst = kvs.map Prod.fst ∧ RepL K H O (ws.map Prod.snd) (kvs.map Prod.snd)
  | .fT o ws kvs => H a = some (.frz o (.dT ws)) ∧ ws.map Prod.fst = kvs.map Prod.fst ∧ RepL K H O (ws.map Prod.snd) (kvs.map Prod.snd)
/-- no tuple -/
def NT (o : HO) : Prop := ∀ xs, o ≠ .tup xs
structure RepG (K : PySem.W.Frag) (H : Hp) (F : Hid) (G : DH) : Prop where
  ob : ∀ a o, G a = some o → RepO K H (Own F G) a o
  dk : ∀ a l ks, G a = some (.deck l ks) → G l = none
  dd : ∀ a b l ks ks', G a = some (.deck l ks) → G b = some (.deck l ks') → a = b
  hid : ∀ a, F a → (∃ o, H a = some o ∧ NT o) ∧ ¬ Fp G a
section
variable {K : PySem.W.Frag} {H H' : Hp} {F : Hid} {G G' : DH} {a p : Addr}
theorem RepO.imp {O O' : Addr → Prop} {o : MO} (r : RepO K H O a o) (st : ∀ a o, H a = some o → ¬ O a → H' a = some o ∧ ¬ O' a) (e : H' a = H a) (el : ∀ l ks, o = .deck l ks → H' l = H l) : RepO K H' O' a o := by
  cases o with
  | lst ds => obtain ⟨xs, h, r⟩ := r; exact ⟨xs, by rw [e]; exact h, r.imp st⟩
  | dk kvs => obtain ⟨xs, h, h2, r⟩ := r; exact ⟨xs, by rw [e]; exact h, h2, r.imp st⟩
  | dT kvs => obtain ⟨xs, h, h2, r⟩ := r; exact ⟨xs, by rw [e]; exact h, h2, r.imp st⟩
  | ins C fs => obtain ⟨dx, xs, h, h2, r⟩ := r; exact ⟨dx, xs, by rw [e]; exact h, h2, r.imp st⟩
  | deck l ks => obtain ⟨is, cs, h, h2, r⟩ := r; exact ⟨is, cs, by rw [e]; exact h, h2, by rw [el _ _ rfl]; exact r⟩
  | well n => obtain ⟨is, h, h2⟩ := r; exact ⟨is, by rw [e]; exact h, h2⟩
  | fK ob ws kvs => obtain ⟨h, h2, r⟩ := r; exact ⟨by rw [e]; exact h, h2, r.imp st⟩
  | fT ob ws kvs => obtain ⟨h, h2, r⟩ := r; exact ⟨by rw [e]; exact h, h2, r.imp st⟩
theorem RepO.there {O : Addr → Prop} {o : MO} (r : RepO K H O a o) : ∃ u, H a = some u := by
  cases o with
  | lst ds => obtain ⟨xs, h, _⟩ := r; exact ⟨_, h⟩
  | dk kvs => obtain ⟨xs, h, _⟩ := r; exact ⟨_, h⟩
  | dT kvs => obtain ⟨xs, h, _⟩ := r; exact ⟨_, h⟩
  | ins C fs => obtain ⟨dx, xs, h, _⟩ := r; exact ⟨_, h⟩
  | deck l ks => obtain ⟨is, cs, h, _⟩ := r; exact ⟨_, h⟩
  | well n => obtain ⟨is, h, _⟩ := r; exact ⟨_, h⟩
  | fK ob ws kvs => exact ⟨_, r.1⟩
  | fT ob ws kvs => exact ⟨_, r.1⟩
theorem RepG.there (g : RepG K H F G) (h : Fp G a) : ∃ u, H a = some u := by
  rcases h with ⟨o, h⟩ | ⟨b, ks, h⟩
  · exact (g.ob a o h).there
  · obtain ⟨is, cs, _, _, h⟩ := g.ob b _ h; exact ⟨_, h⟩
theorem RepG.fresh (g : RepG K H F G) (h : H p = none) : ¬ Own F G p := fun z => by
  rcases z with z | z
  · obtain ⟨⟨u, e, _⟩, _⟩ := g.hid p z; rw [h] at e; cases e
  · obtain ⟨u, e⟩ := g.there z; rw [h] at e; cases e
theorem RepG.none (g : RepG K H F G) (h : H p = none) : G p = none := by
  cases q : G p with
  | none => rfl
  | some o => exact absurd (.inr (.inl ⟨o, q⟩)) (g.fresh h)
/-- a new object that is nobody's -/
theorem step_new (h : H p = Option.none) {o : HO} : Step G H G (upd H p o) :=
  ⟨fun a u e n => ⟨by rw [upd_ne (ne_of_none e h)]; exact e, n⟩, fun a u e => ⟨u, by rw [upd_ne (ne_of_none e h)]; exact e⟩⟩
theorem RepG.new (g : RepG K H F G) (h : H p = Option.none) {o : HO} : RepG K (upd H p o) F G := by
  refine ⟨fun a u e => (g.ob a u e).imp (own_step (step_new h)) ?_ ?_, g.dk, g.dd, fun a z => ?_⟩
  · obtain ⟨w, q⟩ := (g.ob a u e).there; rw [upd_ne (ne_of_none q h)]
  · rintro l ks rfl; obtain ⟨is, cs, _, _, q⟩ := g.ob a _ e; rw [upd_ne (ne_of_none q h)]
  · obtain ⟨⟨u, q, t⟩, n⟩ := g.hid a z; exact ⟨⟨u, by rw [upd_ne (ne_of_none q h)]; exact q, t⟩, n⟩
/-- a new object that may change -/
theorem fp_uG {o : MO} (hd : ∀ l ks, o ≠ .deck l ks) (h : Fp (uG G p o) a) : a = p ∨ Fp G a := by
  by_cases e : a = p
  · exact .inl e
  · rcases h with ⟨u, h⟩ | ⟨b, ks, h⟩
    · rw [uG_ne e] at h; exact .inr (.inl ⟨u, h⟩)
    · by_cases eb : b = p
      · subst eb; rw [uG_same] at h; cases h; exact absurd rfl (hd _ _)
      · rw [uG_ne eb] at h; exact .inr (.inr ⟨b, ks, h⟩)
theorem step_adopt (h : H p = Option.none) {o : HO} {u : MO} (hd : ∀ l ks, u ≠ .deck l ks) : Step G H (uG G p u) (upd H p o) :=
  ⟨fun a w e n => ⟨by rw [upd_ne (ne_of_none e h)]; exact e, fun z => (fp_uG hd z).elim (ne_of_none e h) n⟩, fun a u e => ⟨u, by rw [upd_ne (ne_of_none e h)]; exact e⟩⟩
theorem RepG.adopt (g : RepG K H F G) (h : H p = Option.none) {o : HO} {u : MO} (hd : ∀ l ks, u ≠ .deck l ks) (r : RepO K (upd H p o) (Own F (uG G p u)) p u) : RepG K (upd H p o) F (uG G p u) := by
  have hn := g.none h
  refine ⟨fun a w e => ?_, fun a l ks e => ?_, fun a b l ks ks' e1 e2 => ?_, fun a z => ?_⟩
  · by_cases ea : a = p
    · subst ea; rw [uG_same] at e; cases e; exact r
    · rw [uG_ne ea] at e
      refine (g.ob a w e).imp (own_step (step_adopt h hd)) (upd_ne ea) ?_
      rintro l ks rfl; obtain ⟨is, cs, _, _, q⟩ := g.ob a _ e; rw [upd_ne (ne_of_none q h)]
  · by_cases ea : a = p
    · subst ea; rw [uG_same] at e; cases e; exact absurd rfl (hd _ _)
    · rw [uG_ne ea] at e
      have q := g.dk a l ks e
      by_cases el : l = p
      · subst el; obtain ⟨is, cs, _, _, z⟩ := g.ob a _ e; rw [h] at z; cases z
      · rw [uG_ne el]; exact q
  · have ha : a ≠ p := fun z => by subst z; rw [uG_same] at e1; cases e1; exact hd _ _ rfl
    have hb : b ≠ p := fun z => by subst z; rw [uG_same] at e2; cases e2; exact hd _ _ rfl
    rw [uG_ne ha] at e1; rw [uG_ne hb] at e2; exact g.dd a b l ks ks' e1 e2
  · obtain ⟨⟨w, q, t⟩, n⟩ := g.hid a z
    have ne := ne_of_none q h
    exact ⟨⟨w, by rw [upd_ne ne]; exact q, t⟩, fun z => (fp_uG hd z).elim ne n⟩
/-- an object that may change is changed -/
theorem step_write {o : HO} {u v : MO} (hg : G p = some v) (hd : ∀ l ks, u ≠ .deck l ks) : Step G H (uG G p u) (upd H p o) := by
  refine ⟨fun a w e n => ?_, fun a w e => ?_⟩
  · have ne : a ≠ p := fun z => by subst z; exact n (.inl ⟨v, hg⟩)
    exact ⟨by rw [upd_ne ne]; exact e, fun z => (fp_uG hd z).elim ne n⟩
  · by_cases ne : a = p
    · exact ⟨o, by rw [ne]; exact upd_same⟩
    · exact ⟨w, by rw [upd_ne ne]; exact e⟩
theorem RepG.write (g : RepG K H F G) {o : HO} {u v : MO} (hg : G p = some v) (hv : ∀ l ks, v ≠ .deck l ks) (hd : ∀ l ks, u ≠ .deck l ks) (r : RepO K (upd H p o) (Own F (uG G p u)) p u) : RepG K (upd H p o) F (uG G p u) := by
  have hl : ∀ a l ks, G a = some (.deck l ks) → l ≠ p := fun a l ks e z => by subst z; rw [g.dk a l ks e] at hg; cases hg
  refine ⟨fun a w e => ?_, fun a l ks e => ?_, fun a b l ks ks' e1 e2 => ?_, fun a z => ?_⟩
  · by_cases ea : a = p
    · subst ea; rw [uG_same] at e; cases e; exact r
    · rw [uG_ne ea] at e
      refine (g.ob a w e).imp (own_step (step_write hg hd)) (upd_ne ea) ?_
      rintro l ks rfl; rw [upd_ne (hl a l ks e)]
  · by_cases ea : a = p
    · subst ea; rw [uG_same] at e; cases e; exact absurd rfl (hd _ _)
    · rw [uG_ne ea] at e; rw [uG_ne (hl a l ks e)]; exact g.dk a l ks e
  · have ha : a ≠ p := fun z => by subst z; rw [uG_same] at e1; cases e1; exact hd _ _ rfl
    have hb : b ≠ p := fun z => by subst z; rw [uG_same] at e2; cases e2; exact hd _ _ rfl
    rw [uG_ne ha] at e1; rw [uG_ne hb] at e2; exact g.dd a b l ks ks' e1 e2
  · obtain ⟨⟨w, q, t⟩, n⟩ := g.hid a z
    have ne : a ≠ p := fun z => by subst z; exact n (.inl ⟨v, hg⟩)
    exact ⟨⟨w, by rw [upd_ne ne]; exact q, t⟩, fun z => (fp_uG hd z).elim ne n⟩
/-- less is told of -/
def Sub (G2 G : DH) : Prop := ∀ a o, G2 a = some o → G a = some o
theorem Sub.refl {G : DH} : Sub G G := fun _ _ h => h
theorem Sub.trans {G1 G2 G3 : DH} (a : Sub G1 G2) (b : Sub G2 G3) : Sub G1 G3 := fun c o h => b c o (a c o h)
theorem Sub.new {G2 G : DH} {o : MO} (s : Sub G2 G) (n : G2 p = Option.none) : Sub G2 (uG G p o) := fun c u h => by
  rw [uG_ne (fun z => by subst z; rw [n] at h; cases h)]; exact s c u h
theorem Sub.fp {G2 : DH} (s : Sub G2 G) (h : Fp G2 a) : Fp G a := h.elim (fun ⟨o, h⟩ => .inl ⟨o, s _ _ h⟩) fun ⟨b, ks, h⟩ => .inr ⟨b, ks, s _ _ h⟩
theorem RepG.sub {G2 : DH} (g : RepG K H F G) (s : Sub G2 G) : RepG K H F G2 := by
  refine ⟨fun a o h => (g.ob a o (s _ _ h)).imp (fun b u e n => ⟨e, fun z => n (z.imp id s.fp)⟩) rfl (fun _ _ _ => rfl), fun a l ks h => ?_, fun a b l ks ks' h1 h2 => g.dd a b l ks ks' (s _ _ h1) (s _ _ h2), fun a z => ⟨(g.hid a z).1, fun q => (g.hid a z).2 (s.fp q)⟩⟩
  cases q : G2 l with
  | none => rfl
  | some o => have e := s _ _ q; rw [g.dk a l ks (s _ _ h)] at e; cases e
theorem Step.sub {G2 : DH} (st : Step G H G' H') (s : Sub G2 G') : Step G H G2 H' := ⟨fun a o h n => ⟨(st.at_ a o h n).1, fun z => (st.at_ a o h n).2 (s.fp z)⟩, st.dom⟩
theorem Rep.sub {G2 : DH} {v : V} {d : D} (r : Rep K H (Own F G) v d) (s : Sub G2 G) : Rep K H (Own F G2) v d := r.imp fun _ _ e n => ⟨e, fun z => n (z.imp id s.fp)⟩
theorem RepL.sub {G2 : DH} {v : List V} {d : List D} (r : RepL K H (Own F G) v d) (s : Sub G2 G) : RepL K H (Own F G2) v d := r.imp fun _ _ e n => ⟨e, fun z => n (z.imp id s.fp)⟩
end

/-! ### the slots -/
structure RepS (K : PySem.W.Frag) (H : Hp) (O : Addr → Prop) (σ : St) (s : DS) : Prop where
  len : σ.length = s.length
  at_ : ∀ (i : Nat) (d : D), s[i]? = some (some d) → ∃ v, σ[i]? = some (some v) ∧ Rep K H O v d
section
variable {K : PySem.W.Frag} {H H' : Hp} {F : Hid} {G G' : DH} {σ : St} {s : DS}
theorem RepS.imp {O O' : Addr → Prop} (r : RepS K H O σ s) (st : ∀ a o, H a = some o → ¬ O a → H' a = some o ∧ ¬ O' a) : RepS K H' O' σ s := ⟨r.len, fun i d e => let ⟨v, h, q⟩ := r.at_ i d e; ⟨v, h, q.imp st⟩⟩
theorem RepS.step (r : RepS K H (Own F G) σ s) (st : Step G H G' H') : RepS K H' (Own F G') σ s := r.imp (own_step st)
theorem RepS.set {O : Addr → Prop} {v : V} {d : D} (r : RepS K H O σ s) (q : Rep K H O v d) (i : Nat) : RepS K H O (σ.set i (some v)) (s.set i (some d)) := by
  refine ⟨by rw [List.length_set, List.length_set]; exact r.len, fun j e h => ?_⟩
  rw [List.getElem?_set] at h
  rw [List.getElem?_set]
  by_cases ij : i = j
  · rw [if_pos ij] at h ⊢
    by_cases hl : i < s.length
    · rw [if_pos hl] at h
      cases h
      rw [if_pos (by rw [r.len]; exact hl)]
      exact ⟨v, rfl, q⟩
    · rw [if_neg hl] at h
      cases h
  · rw [if_neg ij] at h ⊢
    exact r.at_ j e h
theorem RepS.unset {O : Addr → Prop} (r : RepS K H O σ s) (x : Option V) (i : Nat) : RepS K H O (σ.set i x) (s.set i none) := by
  refine ⟨by rw [List.length_set, List.length_set]; exact r.len, fun j e h => ?_⟩
  rw [List.getElem?_set] at h
  rw [List.getElem?_set]
  by_cases ij : i = j
  · rw [if_pos ij] at h
    split at h <;> cases h
  · rw [if_neg ij] at h ⊢
    exact r.at_ j e h
def wipeD (s : DS) : List Nat → DS
  | [] => s
  | v :: vs => (wipeD s vs).set v none
theorem RepS.wipe {O : Addr → Prop} (r : RepS K H O σ s) : ∀ vs : List Nat, RepS K H O (wipe σ vs) (wipeD s vs)
  | [] => r
  | v :: vs => (RepS.wipe r vs).unset none v
end

/-! ### readings over data -/
abbrev DK := D → DH → Prop
abbrev DE := DS → DH → DK → Prop
abbrev DTT := DS → DH → (Bool → DH → Prop) → Prop
abbrev DA := DS → DH → (List D → DH → Prop) → Prop
structure DEnds where
  nx : DS → DH → Prop
  rt : DK
  bk : DS → DH → Prop := fun _ _ => False
  ct : DS → DH → Prop := fun _ _ => False
abbrev DT := DEnds → DS → DH → Prop
/-- an exception: its class, its fields -/
abbrev XD := Value → Option (List (Str × D)) → DH → Prop

section
variable (K : PySem.W.Frag)
def Post (F : Hid) (G : DH) (H : Hp) (R : DK) (Q : VK) : Prop := ∀ d G' v H', Step G H G' H' → Rep K H' (Own F G') v d → RepG K H' F G' → R d G' → Q v H'
def PostB (F : Hid) (G : DH) (H : Hp) (R : Bool → DH → Prop) (Q : Bool → Hp → Prop) : Prop := ∀ b G' H', Step G H G' H' → RepG K H' F G' → R b G' → Q b H'
def PostL (F : Hid) (G : DH) (H : Hp) (R : List D → DH → Prop) (Q : List V → Hp → Prop) : Prop := ∀ ds G' vs H', Step G H G' H' → RepL K H' (Own F G') vs ds → RepG K H' F G' → R ds G' → Q vs H'
def PostN (F : Hid) (G : DH) (H : Hp) (R : DS → DH → Prop) (Q : St → Hp → Prop) : Prop := ∀ s G' σ H', Step G H G' H' → RepS K H' (Own F G') σ s → RepG K H' F G' → R s G' → Q σ H'
structure PostS (F : Hid) (G : DH) (H : Hp) (R : DEnds) (Q : Ends) : Prop where
  nx : PostN K F G H R.nx Q.nx
  rt : Post K F G H R.rt Q.rt
  bk : PostN K F G H R.bk Q.bk
  ct : PostN K F G H R.ct Q.ct
def low (t : DE) : TE := fun σ H Q => ∃ F s G R, RepS K H (Own F G) σ s ∧ RepG K H F G ∧ t s G R ∧ Post K F G H R Q
def lowB (t : DTT) : TT := fun σ H Q => ∃ F s G R, RepS K H (Own F G) σ s ∧ RepG K H F G ∧ t s G R ∧ PostB K F G H R Q
def lowA (t : DA) : TA := fun σ H Q => ∃ F s G R, RepS K H (Own F G) σ s ∧ RepG K H F G ∧ t s G R ∧ PostL K F G H R Q
def lowS (t : DT) : TS := fun D σ H => ∃ F s G R, RepS K H (Own F G) σ s ∧ RepG K H F G ∧ t R s G ∧ PostS K F G H R D
end
section
variable {K : PySem.W.Frag} {F : Hid} {G G1 : DH} {H H1 : Hp}
theorem Post.step {R : DK} {Q : VK} (p : Post K F G H R Q) (st : Step G H G1 H1) : Post K F G1 H1 R Q := fun d G' v H' s => p d G' v H' (st.trans s)
theorem PostB.step {R Q} (p : PostB K F G H R Q) (st : Step G H G1 H1) : PostB K F G1 H1 R Q := fun d G' H' s => p d G' H' (st.trans s)
theorem PostL.step {R Q} (p : PostL K F G H R Q) (st : Step G H G1 H1) : PostL K F G1 H1 R Q := fun d G' v H' s => p d G' v H' (st.trans s)
theorem PostN.step {R Q} (p : PostN K F G H R Q) (st : Step G H G1 H1) : PostN K F G1 H1 R Q := fun d G' v H' s => p d G' v H' (st.trans s)
theorem PostS.step {R Q} (p : PostS K F G H R Q) (st : Step G H G1 H1) : PostS K F G1 H1 R Q := ⟨p.nx.step st, p.rt.step st, p.bk.step st, p.ct.step st⟩
end

structure PED (X : Cx) (e : Expr) (t : DE) : Prop where
  out : PE X e (low X.K t)
structure PTD (X : Cx) (e : Expr) (t : DTT) : Prop where
  out : PT X e (lowB X.K t)
structure PWD (X : Cx) (e : Expr) (t : DTT) : Prop where
  out : PW X e (lowB X.K t)
structure PAD (X : Cx) (es : List Expr) (t : DA) : Prop where
  out : PA X es (lowA X.K t)
structure PSD (X : Cx) (st : Stmt) (t : DT) : Prop where
  out : PS X st (lowS X.K t)
structure PSsD (X : Cx) (st : List Stmt) (t : DT) : Prop where
  out : PSs X st (lowS X.K t)

section
variable {X : Cx} {e : Expr} {es : List Expr} {st : Stmt} {sts : List Stmt}
theorem _root_.L2.PE.weak {t t' : TE} (h : PE X e t) (f : ∀ σ H Q, t' σ H Q → t σ H Q) : PE X e t' := ⟨fun pins s σ H Q I q => h.run pins s σ H Q I (f _ _ _ q)⟩
theorem _root_.L2.PT.weak {t t' : TT} (h : PT X e t) (f : ∀ σ H Q, t' σ H Q → t σ H Q) : PT X e t' := ⟨fun pins s σ H Q I q => h.run pins s σ H Q I (f _ _ _ q)⟩
theorem _root_.L2.PW.weak {t t' : TT} (h : PW X e t) (f : ∀ σ H Q, t' σ H Q → t σ H Q) : PW X e t' := ⟨fun w pins s σ H Q I q => h.run w pins s σ H Q I (f _ _ _ q)⟩
theorem _root_.L2.PA.weak {t t' : TA} (h : PA X es t) (f : ∀ σ H Q, t' σ H Q → t σ H Q) : PA X es t' := ⟨fun p pins s σ H Q I q => h.run p pins s σ H Q I (f _ _ _ q)⟩
theorem _root_.L2.PS.weak {t t' : TS} (h : PS X st t) (f : ∀ D σ H, t' D σ H → t D σ H) : PS X st t' := ⟨fun pins s σ H D I q => h.run pins s σ H D I (f _ _ _ q)⟩
theorem _root_.L2.PSs.weak {t t' : TS} (h : PSs X sts t) (f : ∀ D σ H, t' D σ H → t D σ H) : PSs X sts t' := ⟨fun pins s σ H D I q => h.run pins s σ H D I (f _ _ _ q)⟩
end
end L2.Ew

set_option Elab.async false
set_option linter.all false
set_option maxRecDepth 100000
set_option maxHeartbeats 4000000
/-! Expressions over data. -/
namespace L2.Ew
open PySem PySem.Spec PyProof.Rows
section
variable {K : PySem.W.Frag} {H : Hp} {F : Hid} {G : DH} {x : V} {d : D} {xs : List V} {ds : List D}
/-- the end of an operation that changed nothing -/
theorem Post.here {R : DK} {Q : VK} (p : Post K F G H R Q) (g : RepG K H F G) (r : Rep K H (Own F G) x d) (q : R d G) : Q x H := p d G x H Step.refl r g q
/-- a list, by value or by place -/
def res (G : DH) : D → D
  | .ptr a => match G a with
    | some (.lst ds) => .lst ds
    | _ => .ptr a
  | d => d
theorem res_ptr {a : Addr} (h : G a = some (.lst ds)) : res G (.ptr a) = .lst ds := by unfold res; simp only [h]
theorem lst_at (g : RepG K H F G) (r : Rep K H (Own F G) x d) (e : res G d = .lst ds) : ∃ a xs, x = .ref a ∧ H a = some (.lst xs) ∧ RepL K H (Own F G) xs ds := by
  cases r with
  | lst h n r => simp only [res] at e; cases e; exact ⟨_, _, rfl, h, r⟩
  | ptr a =>
    cases q : G a with
    | none => simp only [res, q] at e; cases e
    | some o =>
      cases o with
      | lst es =>
        simp only [res, q] at e; cases e
        obtain ⟨xs, h, r⟩ := g.ob a _ q
        exact ⟨a, xs, rfl, h, r⟩
      | _ => simp only [res, q] at e; cases e
  | _ => simp only [res] at e; cases e
theorem tup_at (r : Rep K H (Own F G) x (.tup ds)) : ∃ a xs, x = .ref a ∧ SqT K H a xs ∧ RepL K H (Own F G) xs ds := by
  cases r with
  | tup h n r => exact ⟨_, _, rfl, SqT.of h, r⟩
end
section
variable {X : Cx} {e a b : Expr} {es : List Expr} {pos : Pos} {te ta tb : DE}
theorem PED.mk' {t : TE} {u : DE} (h : PE X e t) (f : ∀ F σ H s G R Q, RepS X.K H (Own F G) σ s → RepG X.K H F G → u s G R → Post X.K F G H R Q → t σ H Q) : PED X e u :=
  ⟨h.weak fun σ H Q ⟨F, s, G, R, rs, rg, q, p⟩ => f F σ H s G R Q rs rg q p⟩
theorem PTD.mk' {t : TT} {u : DTT} (h : PT X e t) (f : ∀ F σ H s G R Q, RepS X.K H (Own F G) σ s → RepG X.K H F G → u s G R → PostB X.K F G H R Q → t σ H Q) : PTD X e u :=
  ⟨h.weak fun σ H Q ⟨F, s, G, R, rs, rg, q, p⟩ => f F σ H s G R Q rs rg q p⟩

/-! ### names, constants -/
def sl : DS → Nat → Option D
  | [], _ => none
  | x :: _, 0 => x
  | _ :: s, i + 1 => sl s i
theorem sl_get : ∀ {s : DS} {i : Nat} {d : D}, sl s i = some d → s[i]? = some (some d)
  | x :: _, 0, _, h => by simp only [sl] at h; rw [h]; rfl
  | _ :: s, i + 1, _, h => by simp only [sl] at h; rw [List.getElem?_cons_succ]; exact sl_get h
def dVar (i : Nat) : DE := fun s G Q => match sl s i with
  | some d => Q d G
  | none => False
def dC (d : D) : DE := fun _ G Q => Q d G
theorem low_var {K : PySem.W.Frag} {i : Nat} {σ : L2.St} {H : Hp} {Q : VK} (h : low K (dVar i) σ H Q) : tVar i σ H Q := by
  obtain ⟨F, s, G, R, rs, rg, q, p⟩ := h
  unfold dVar at q
  cases e : sl s i with
  | none => rw [e] at q; exact q.elim
  | some d =>
    rw [e] at q
    obtain ⟨v, h1, h2⟩ := rs.at_ i d (sl_get e)
    exact ⟨v, h1, p.here rg h2 q⟩
theorem dv (i : Nat) {x : Str} {pos : Pos} (hN : X.N[i]? = some x := by rfl) (hv : Vis X.env.scope x := by first | exact Or.inl rfl | exact Or.inr (Or.inl rfl) | exact Or.inr (Or.inr rfl)) (hd : (x == ("__debug__" : Str)) = false := by decide)
    (hcd : (x == ("__classdict__" : Str)) = false := by decide) : PED X (.Name x pos) (dVar i) := ⟨(pe_var hN hv hd hcd).weak fun _ _ _ h => low_var h⟩
theorem low_c {K : PySem.W.Frag} {v : V} {d : D} (r : ∀ H O, Rep K H O v d) {σ : L2.St} {H : Hp} {Q : VK} (h : low K (dC d) σ H Q) : tC v σ H Q := by
  obtain ⟨F, s, G, R, rs, rg, q, p⟩ := h
  exact p.here rg (r _ _) q
theorem ped_int {i : Int} {j} {pos : Pos} : PED X (.Constant (.int i) j pos) (dC (.int i)) := ⟨pe_int.weak fun _ _ _ h => low_c (fun _ _ => .int i) h⟩
theorem ped_bl {b : Bool} {j} {pos : Pos} : PED X (.Constant (.bool b) j pos) (dC (.bl b)) := ⟨pe_bl.weak fun _ _ _ h => low_c (fun _ _ => .bl b) h⟩
theorem ped_non {j} {pos : Pos} : PED X (.Constant .none j pos) (dC .non) := ⟨pe_non.weak fun _ _ _ h => low_c (fun _ _ => .non) h⟩
theorem ped_str {x : Str} {j} {pos : Pos} : PED X (.Constant (.str x) j pos) (dC (.str x)) := ⟨pe_str.weak fun _ _ _ h => low_c (fun _ _ => .str x) h⟩
/-- a module's constant -/
structure GC (X : Cx) (x : Str) (d : D) : Prop where
  ex : ∃ v u, X.mg x = some u ∧ RelV v u ∧ ∀ H O, Rep X.K H O v d
theorem ped_glob {x : Str} {d : D} (g : GC X x d) (hg : Gl X x) (hd : (x == ("__debug__" : Str)) = false := by decide) : PED X (.Name x pos) (dC d) := by
  obtain ⟨v, u, hm, r, q⟩ := g.ex
  exact ⟨(pe_glob hg hm r hd).weak fun _ _ _ h => low_c q h⟩
theorem ped_ty {x : Str} {n : String} (hg : Gl X x) (hm : X.mg x = none) (hv : bootBuiltins x = some (.type n)) (hn : x ≠ "__name__" := by decide) (hd : (x == ("__debug__" : Str)) = false := by decide) : PED X (.Name x pos) (dC (.ty n)) :=
  ⟨(pe_bltn (v := .ty n) hg hm hv rfl hn hd).weak fun _ _ _ h => low_c (fun _ _ => .ty n) h⟩

/-! ### operators by values -/
abbrev DR2 := D → D → DH → DK → Prop
abbrev DR1 := D → DH → DK → Prop
abbrev DRs := List D → DH → DK → Prop
def low2 (K : PySem.W.Frag) (r : DR2) : R2 := fun x y H Q => ∃ F d e G R, Rep K H (Own F G) x d ∧ Rep K H (Own F G) y e ∧ RepG K H F G ∧ r d e G R ∧ Post K F G H R Q
def low1 (K : PySem.W.Frag) (r : DR1) : V → Hp → VK → Prop := fun x H Q => ∃ F d G R, Rep K H (Own F G) x d ∧ RepG K H F G ∧ r d G R ∧ Post K F G H R Q
def lowC (K : PySem.W.Frag) (r : DRs) : List V → Hp → VK → Prop := fun xs H Q => ∃ F ds G R, RepL K H (Own F G) xs ds ∧ RepG K H F G ∧ r ds G R ∧ Post K F G H R Q
structure OpD (X : Cx) (f : Value → Value → Sem Value) (r : DR2) : Prop where
  out : OpR X f (low2 X.K r)
structure UnD (X : Cx) (f : Value → Sem Value) (r : DR1) : Prop where
  out : UnR X f (low1 X.K r)
structure CallD (X : Cx) (f : Value) (r : DRs) : Prop where
  out : CallR X f (lowC X.K r)
def dBin (r : DR2) (ta tb : DE) : DE := fun s G Q => ta s G fun d G1 => tb s G1 fun e G2 => r d e G2 Q
def dUn (r : DR1) (ta : DE) : DE := fun s G Q => ta s G fun d G1 => r d G1 Q
theorem low_bin {K : PySem.W.Frag} {r : DR2} {σ : L2.St} {H : Hp} {Q : VK} (h : low K (dBin r ta tb) σ H Q) : tOp (low2 K r) (low K ta) (low K tb) σ H Q := by
  obtain ⟨F, s, G, R, rs, rg, q, p⟩ := h
  refine ⟨F, s, G, _, rs, rg, q, fun d G1 x H1 st rx rg1 q1 => ?_⟩
  exact ⟨F, s, G1, _, rs.step st, rg1, q1, fun e G2 y H2 st2 ry rg2 q2 => ⟨F, d, e, G2, R, rx.step st2, ry, rg2, q2, p.step (st.trans st2)⟩⟩
theorem low_un {K : PySem.W.Frag} {r : DR1} {σ : L2.St} {H : Hp} {Q : VK} (h : low K (dUn r ta) σ H Q) : tUn (low1 K r) (low K ta) σ H Q := by
  obtain ⟨F, s, G, R, rs, rg, q, p⟩ := h
  exact ⟨F, s, G, _, rs, rg, q, fun d G1 x H1 st rx rg1 q1 => ⟨F, d, G1, R, rx, rg1, q1, p.step st⟩⟩
theorem ped_op {op : Operator} {r : DR2} (ho : OpD X (binaryOp op) r) (ha : PED X a ta) (hb : PED X b tb) : PED X (.BinOp a op b pos) (dBin r ta tb) := ⟨(pe_op ho.out ha.out hb.out).weak fun _ _ _ h => low_bin h⟩
theorem ped_un {op : UnaryOp} {r : DR1} (ho : UnD X (unaryOp op) r) (ha : PED X a ta) : PED X (.UnaryOp op a pos) (dUn r ta) := ⟨(pe_un ho.out ha.out).weak fun _ _ _ h => low_un h⟩
theorem ped_cmp {op : CmpOp} {r : DR2} (ho : OpD X (compareOp op) r) (ha : PED X a ta) (hb : PED X b tb) (hm : behindInMarks op b = false := by rfl) : PED X (.Compare a [op] [b] pos) (dBin r ta tb) := ⟨(pe_cmpR ho.out ha.out hb.out hm).weak fun _ _ _ h => low_bin h⟩
/-- a test by a value that is a truth -/
def dTest (t : DE) : DTT := fun s G Q => t s G fun d G1 => match d with
  | .bl b => Q b G1
  | _ => False
theorem low_test {K : PySem.W.Frag} {t : DE} {u : TE} (f : ∀ σ H Q, low K t σ H Q → u σ H Q) {σ : L2.St} {H : Hp} {Q : Bool → Hp → Prop} (h : lowB K (dTest t) σ H Q) : tTest u σ H Q := by
  obtain ⟨F, s, G, R, rs, rg, q, p⟩ := h
  refine f _ _ _ ⟨F, s, G, _, rs, rg, q, fun d G1 x H1 st rx rg1 q1 => ?_⟩
  cases rx with
  | bl b => exact ⟨b, rfl, p b G1 H1 st rg1 q1⟩
  | _ => exact q1.elim
theorem ptd_cmp {op : CmpOp} {r : DR2} (ho : OpD X (compareOp op) r) (ha : PED X a ta) (hb : PED X b tb) (hm : behindInMarks op b = false := by rfl) : PTD X (.Compare a [op] [b] pos) (dTest (dBin r ta tb)) :=
  ⟨(pt_cmpR ho.out ha.out hb.out hm).weak fun _ _ _ h => low_test (fun _ _ _ z => low_bin z) h⟩
def dChain (r r' : DR2) (ta tb tc : DE) : DE := fun s G Q => ta s G fun d G1 => tb s G1 fun e G2 => r d e G2 fun k G3 => match k with
  | .bl true => tc s G3 fun f G4 => r' e f G4 Q
  | .bl false => Q (.bl false) G3
  | _ => False
theorem low_chain {K : PySem.W.Frag} {r r' : DR2} {tc : DE} {σ : L2.St} {H : Hp} {Q : VK} (h : low K (dChain r r' ta tb tc) σ H Q) : tChain (low2 K r) (low2 K r') (low K ta) (low K tb) (low K tc) σ H Q := by
  obtain ⟨F, s, G, R, rs, rg, q, p⟩ := h
  refine ⟨F, s, G, _, rs, rg, q, fun d G1 x H1 st rx rg1 q1 => ?_⟩
  refine ⟨F, s, G1, _, rs.step st, rg1, q1, fun e G2 y H2 st2 ry rg2 q2 => ⟨F, d, e, G2, _, rx.step st2, ry, rg2, q2, fun k G3 z H3 st3 rz rg3 q3 => ?_⟩⟩
  cases rz with
  | bl b =>
    refine ⟨b, rfl, ?_⟩
    cases b with
    | true =>
      rw [if_pos rfl]
      exact ⟨F, s, G3, _, ((rs.step st).step st2).step st3, rg3, q3, fun f G4 w H4 st4 rw rg4 q4 => ⟨F, e, f, G4, R, (ry.step st3).step st4, rw, rg4, q4, p.step (((st.trans st2).trans st3).trans st4)⟩⟩
    | false =>
      rw [if_neg Bool.false_ne_true]
      exact p _ G3 _ H3 ((st.trans st2).trans st3) (.bl false) rg3 q3
  | _ => exact q3.elim
theorem ped_chain {c : Expr} {op op' : CmpOp} {r r' : DR2} {tc : DE} (ho : OpD X (compareOp op) r) (ho' : OpD X (compareOp op') r') (ha : PED X a ta) (hb : PED X b tb) (hc : PED X c tc)
    (hm : lastMarks [op, op'] [b, c] = false := by with_unfolding_all rfl) : PED X (.Compare a [op, op'] [b, c] pos) (dChain r r' ta tb tc) := ⟨(pe_chain ho.out ho'.out ha.out hb.out hc.out hm).weak fun _ _ _ h => low_chain h⟩
theorem ptd_chain {c : Expr} {op op' : CmpOp} {r r' : DR2} {tc : DE} (ho : OpD X (compareOp op) r) (ho' : OpD X (compareOp op') r') (ha : PED X a ta) (hb : PED X b tb) (hc : PED X c tc)
    (hm : lastMarks [op, op'] [b, c] = false := by with_unfolding_all rfl) : PTD X (.Compare a [op, op'] [b, c] pos) (dTest (dChain r r' ta tb tc)) := ⟨(pt_chain ho.out ho'.out ha.out hb.out hc.out hm).weak fun _ _ _ h => low_test (fun _ _ _ z => low_chain z) h⟩

/-! ### tests -/
/-- a test by the truth of a value -/
def truD (G : DH) : D → Option Bool
  | .non => some false
  | .bl b => some b
  | .int i => some (i != 0)
  | .str x => some ((x.length : Int) != 0)
  | .tup ds => some (!ds.isEmpty)
  | .lst ds => some (!ds.isEmpty)
  | .ptr a => match G a with
    | some (.lst ds) => some (!ds.isEmpty)
    | _ => none
  | _ => none
def dAnd (t u : DTT) : DTT := fun s G Q => t s G fun c G1 => if c = true then u s G1 Q else Q false G1
def dOr (t u : DTT) : DTT := fun s G Q => t s G fun c G1 => if c = true then Q true G1 else u s G1 Q
def dNot (t : DTT) : DTT := fun s G Q => t s G fun c G1 => Q (!c) G1
theorem ptd_val (h : PED X e te) (he : ∀ whole, isTrue e X.env whole = (do let v ← whole; standAt e.pos; holding [v] (truthy v)) := by intro _; rfl) : PTD X e (dTest te) :=
  ⟨(pt_val h.out he).weak fun σ H Q z => low_test (fun _ _ _ z => z) z⟩
theorem PTD.pw (h : PWD X e t) : PTD X e t := ⟨h.out.pt⟩
variable {t u : DTT} {rest : List Expr}
theorem pwd_and1 (ha : PTD X a t) : PWD X (.BoolOp .And [a] pos) t := ⟨pw_and1 ha.out⟩
theorem pwd_or1 (ha : PTD X a t) : PWD X (.BoolOp .Or [a] pos) t := ⟨pw_or1 ha.out⟩
theorem pwd_and (ha : PTD X a t) (hb : PWD X (.BoolOp .And (b :: rest) pos) u) : PWD X (.BoolOp .And (a :: b :: rest) pos) (dAnd t u) := by
  refine ⟨(pw_and ha.out hb.out).weak fun σ H Q ⟨F, s, G, R, rs, rg, q, p⟩ => ?_⟩
  refine ⟨F, s, G, _, rs, rg, q, fun c G1 H1 st rg1 q1 => ?_⟩
  cases c with
  | true => rw [if_pos rfl] at q1 ⊢; exact ⟨F, s, G1, R, rs.step st, rg1, q1, p.step st⟩
  | false => rw [if_neg Bool.false_ne_true] at q1 ⊢; exact p _ G1 H1 st rg1 q1
theorem pwd_or (ha : PTD X a t) (hb : PWD X (.BoolOp .Or (b :: rest) pos) u) : PWD X (.BoolOp .Or (a :: b :: rest) pos) (dOr t u) := by
  refine ⟨(pw_or ha.out hb.out).weak fun σ H Q ⟨F, s, G, R, rs, rg, q, p⟩ => ?_⟩
  refine ⟨F, s, G, _, rs, rg, q, fun c G1 H1 st rg1 q1 => ?_⟩
  cases c with
  | true => rw [if_pos rfl] at q1 ⊢; exact p _ G1 H1 st rg1 q1
  | false => rw [if_neg Bool.false_ne_true] at q1 ⊢; exact ⟨F, s, G1, R, rs.step st, rg1, q1, p.step st⟩
theorem ptd_not (ha : PTD X a t) : PTD X (.UnaryOp .Not a pos) (dNot t) := by
  refine ⟨(pt_not ha.out).weak fun σ H Q ⟨F, s, G, R, rs, rg, q, p⟩ => ?_⟩
  exact ⟨F, s, G, _, rs, rg, q, fun c G1 H1 st rg1 q1 => p _ G1 H1 st rg1 q1⟩
theorem ptd_truth (ha : PED X a ta) (he : ∀ whole, isTrue a X.env whole = (do let v ← whole; standAt a.pos; holding [v] (truthy v)) := by intro _; rfl) :
    PTD X a (fun s G Q => ta s G fun d G1 => match truD G1 d with
      | some b => (∀ x, d = .str x → x.length ≤ sizeLine) ∧ Q b G1
      | none => False) := by
  refine ⟨(pt_truth ha.out he).weak fun σ H Q ⟨F, s, G, R, rs, rg, q, p⟩ => ?_⟩
  refine ⟨F, s, G, _, rs, rg, q, fun d G1 x H1 st rx rg1 q1 => ?_⟩
  have lst : ∀ a xs ds, d = .ptr a ∨ d = .lst ds → truD G1 d = some (!ds.isEmpty) → H1 a = some (.lst xs) → RepL X.K H1 (Own F G1) xs ds → x = .ref a → ∃ k, TruV X.K x H1 k ∧ Q k H1 := by
    rintro a xs ds hd e ha ra rfl
    rw [e] at q1
    refine ⟨!ds.isEmpty, .inl ⟨xs, SqL.of ha, ?_⟩, p _ G1 H1 st rg1 q1.2⟩
    have := ra.len
    cases xs <;> cases ds <;> simp_all
  cases rx with
  | non => exact ⟨false, rfl, p _ G1 H1 st rg1 q1.2⟩
  | bl b => exact ⟨b, rfl, p _ G1 H1 st rg1 q1.2⟩
  | int i => exact ⟨i != 0, rfl, p _ G1 H1 st rg1 q1.2⟩
  | str y => exact ⟨_, ⟨q1.1 y rfl, rfl⟩, p _ G1 H1 st rg1 q1.2⟩
  | @tup a xs ds h n r =>
    refine ⟨!ds.isEmpty, .inr (.inl ⟨xs, SqT.of h, ?_⟩), p _ G1 H1 st rg1 q1.2⟩
    have := r.len
    cases xs <;> cases ds <;> simp_all
  | @lst a xs ds h n r => exact lst a xs ds (.inr rfl) rfl h r rfl
  | ptr a =>
    cases qg : G1 a with
    | none => simp only [truD, qg] at q1
    | some o =>
      cases o with
      | lst ds =>
        obtain ⟨xs, h, r⟩ := rg1.ob a _ qg
        exact lst a xs ds (.inl rfl) (by simp only [truD, qg]) h r rfl
      | _ => simp only [truD, qg] at q1
  | _ => exact q1.elim

/-! ### and, or, not as values; a if c else b -/
def dAndV (ta tb : DE) : DE := fun s G Q => ta s G fun d G1 => match d with
  | .bl c => if c = true then tb s G1 Q else Q (.bl false) G1
  | _ => False
def dOrV (ta tb : DE) : DE := fun s G Q => ta s G fun d G1 => match d with
  | .bl c => if c = true then Q (.bl true) G1 else tb s G1 Q
  | _ => False
def dNotV (ta : DE) : DE := fun s G Q => ta s G fun d G1 => match d with
  | .bl c => Q (.bl (!c)) G1
  | _ => False
def dIf (t : DTT) (ta tb : DE) : DE := fun s G Q => t s G fun c G1 => if c = true then ta s G1 Q else tb s G1 Q
theorem ped_one {op : BoolOp} (ha : PED X a ta) : PED X (.BoolOp op [a] pos) ta := ⟨pe_one ha.out⟩
theorem ped_and (ha : PED X a ta) (hb : PED X (.BoolOp .And (b :: rest) pos) tb) : PED X (.BoolOp .And (a :: b :: rest) pos) (dAndV ta tb) := by
  refine ⟨(pe_and ha.out hb.out).weak fun σ H Q ⟨F, s, G, R, rs, rg, q, p⟩ => ?_⟩
  refine ⟨F, s, G, _, rs, rg, q, fun d G1 x H1 st rx rg1 q1 => ?_⟩
  cases rx with
  | bl c =>
    refine ⟨c, rfl, ?_⟩
    cases c with
    | true => exact iteT ⟨F, s, G1, R, rs.step st, rg1, (show tb s G1 R from q1), p.step st⟩
    | false => exact iteF (p _ G1 _ H1 st (.bl false) rg1 (show R (.bl false) G1 from q1))
  | _ => exact q1.elim
theorem ped_or (ha : PED X a ta) (hb : PED X (.BoolOp .Or (b :: rest) pos) tb) : PED X (.BoolOp .Or (a :: b :: rest) pos) (dOrV ta tb) := by
  refine ⟨(pe_or ha.out hb.out).weak fun σ H Q ⟨F, s, G, R, rs, rg, q, p⟩ => ?_⟩
  refine ⟨F, s, G, _, rs, rg, q, fun d G1 x H1 st rx rg1 q1 => ?_⟩
  cases rx with
  | bl c =>
    refine ⟨c, rfl, ?_⟩
    cases c with
    | true => exact iteT (p _ G1 _ H1 st (.bl true) rg1 (show R (.bl true) G1 from q1))
    | false => exact iteF ⟨F, s, G1, R, rs.step st, rg1, (show tb s G1 R from q1), p.step st⟩
  | _ => exact q1.elim
theorem ped_not (ha : PED X a ta) : PED X (.UnaryOp .Not a pos) (dNotV ta) := by
  refine ⟨(pe_not ha.out).weak fun σ H Q ⟨F, s, G, R, rs, rg, q, p⟩ => ?_⟩
  refine ⟨F, s, G, _, rs, rg, q, fun d G1 x H1 st rx rg1 q1 => ?_⟩
  cases rx with
  | bl c => exact ⟨c, rfl, p _ G1 _ H1 st (.bl _) rg1 q1⟩
  | _ => exact q1.elim
theorem ped_if {c : Expr} (hc : PTD X c t) (ha : PED X a ta) (hb : PED X b tb) : PED X (.IfExp c a b pos) (dIf t ta tb) := by
  refine ⟨(pe_ifExp hc.out ha.out hb.out).weak fun σ H Q ⟨F, s, G, R, rs, rg, q, p⟩ => ?_⟩
  refine ⟨F, s, G, _, rs, rg, q, fun c G1 H1 st rg1 q1 => ?_⟩
  cases c with
  | true => rw [if_pos rfl] at q1 ⊢; exact ⟨F, s, G1, R, rs.step st, rg1, q1, p.step st⟩
  | false => rw [if_neg Bool.false_ne_true] at q1 ⊢; exact ⟨F, s, G1, R, rs.step st, rg1, q1, p.step st⟩

/-! ### arguments, tuples, lists -/
def aNil : DA := fun _ G Q => Q [] G
def aCons (ta : DE) (tr : DA) : DA := fun s G Q => ta s G fun d G1 => tr s G1 fun ds G2 => Q (d :: ds) G2
variable {tr : DA}
theorem pad_nil : PAD X [] aNil := ⟨pa_nil.weak fun σ H Q ⟨F, s, G, R, rs, rg, q, p⟩ => p _ G _ H Step.refl .nil rg q⟩
theorem pad_cons (ha : PED X e te) (hr : PAD X es tr) (hs : starEach (e :: es) X.env = (false, eval e X.env) :: starEach es X.env := by rfl) : PAD X (e :: es) (aCons te tr) := by
  refine ⟨(pa_cons ha.out hr.out hs).weak fun σ H Q ⟨F, s, G, R, rs, rg, q, p⟩ => ?_⟩
  refine ⟨F, s, G, _, rs, rg, q, fun d G1 x H1 st rx rg1 q1 => ?_⟩
  exact ⟨F, s, G1, _, rs.step st, rg1, q1, fun ds G2 xs H2 st2 rxs rg2 q2 => p _ G2 _ H2 (st.trans st2) (.cons (rx.step st2) rxs) rg2 q2⟩
def dTup (ta : DA) : DE := fun s G Q => ta s G fun ds G1 => ds.length ≤ 1000 ∧ Q (.tup ds) G1
theorem size1000 {n : Nat} (h : n ≤ 1000) : n ≤ sizeLine := Nat.le_of_lt (small1000 h)
/-- a new tuple stands -/
theorem new_tup {K : PySem.W.Frag} {F : Hid} {G : DH} {H : Hp} {R : DK} {Q : VK} {xs : List V} {ds : List D} (p : Post K F G H R Q) (g : RepG K H F G) (r : RepL K H (Own F G) xs ds) (q : R (.tup ds) G) : ∀ l, H l = none → Q (.ref l) (upd H l (.tup xs)) := fun l hl =>
  p _ G _ _ (step_new hl) (.tup upd_same (g.fresh hl) (r.step (step_new hl))) (g.new hl) q
theorem new_lst {K : PySem.W.Frag} {F : Hid} {G : DH} {H : Hp} {R : DK} {Q : VK} {xs : List V} {ds : List D} (p : Post K F G H R Q) (g : RepG K H F G) (r : RepL K H (Own F G) xs ds) (q : R (.lst ds) G) : ∀ l, H l = none → Q (.ref l) (upd H l (.lst xs)) := fun l hl =>
  p _ G _ _ (step_new hl) (.lst upd_same (g.fresh hl) (r.step (step_new hl))) (g.new hl) q
theorem ped_tup {x1} (h : PAD X es tr) : PED X (.Tuple es x1 pos) (dTup tr) := by
  refine ⟨(pe_tup h.out).weak fun σ H Q ⟨F, s, G, R, rs, rg, q, p⟩ => ?_⟩
  refine ⟨F, s, G, _, rs, rg, q, fun ds G1 xs H1 st rx rg1 q1 => ⟨by rw [rx.len]; exact size1000 q1.1, new_tup (p.step st) rg1 rx q1.2⟩⟩
/-- an expression that makes a new list -/
abbrev DF := DS → DH → (List D → DH → Prop) → Prop
def Hid.add (F : Hid) (p : Addr) : Hid := fun a => F a ∨ a = p
def lowF (K : PySem.W.Frag) (t : DF) : TE := fun σ H Q => ∃ F s G R, RepS K H (Own F G) σ s ∧ RepG K H F G ∧ t s G R ∧
  ∀ ds G' H' p xs, Step G H G' H' → H p = none → H' p = some (.lst xs) → RepL K H' (Own (F.add p) G') xs ds → RepG K H' (F.add p) G' → R ds G' → Q (.ref p) H'
structure PEF (X : Cx) (e : Expr) (t : DF) : Prop where
  out : PE X e (lowF X.K t)
theorem own_add {F : Hid} {G : DH} {p a : Addr} (n : ¬ Own (F.add p) G a) : ¬ Own F G a := fun z => n (z.elim (fun z => .inl (.inl z)) .inr)
theorem RepG.unadd {K : PySem.W.Frag} {H : Hp} {F : Hid} {G : DH} {p : Addr} (g : RepG K H (F.add p) G) : RepG K H F G :=
  ⟨fun a o h => (g.ob a o h).imp (fun b u e n => ⟨e, own_add n⟩) rfl (fun _ _ _ => rfl), g.dk, g.dd, fun a h => g.hid a (.inl h)⟩
theorem RepG.unown {K : PySem.W.Frag} {H : Hp} {F : Hid} {G : DH} {p : Addr} (g : RepG K H (F.add p) G) (hF : ¬ F p) : ¬ Own F G p := fun z => z.elim hF (g.hid p (.inr rfl)).2
/-- a new list as a value -/
def dLv (t : DF) : DE := fun s G Q => t s G fun ds G1 => Q (.lst ds) G1
theorem ped_of {t : DF} (h : PEF X e t) : PED X e (dLv t) := by
  refine ⟨h.out.weak fun σ H Q ⟨F, s, G, R, rs, rg, q, p⟩ => ?_⟩
  refine ⟨F, s, G, _, rs, rg, q, fun ds G' H' l xs st hn hl rx rg' q' => ?_⟩
  have nF : ¬ F l := fun z => by obtain ⟨⟨u, e, _⟩, _⟩ := rg.hid l z; rw [hn] at e; cases e
  exact p _ G' _ H' st (.lst hl (rg'.unown nF) (rx.imp fun b u e n => ⟨e, own_add n⟩)) rg'.unadd q'
def fLst (ta : DA) : DF := fun s G Q => ta s G fun ds G1 => ds.length ≤ 1000 ∧ Q ds G1
/-- what a new list must do -/
def PostF (K : PySem.W.Frag) (F : Hid) (G : DH) (H : Hp) (R : List D → DH → Prop) (Q : VK) : Prop := ∀ ds G' H' p xs, Step G H G' H' → H p = none → H' p = some (.lst xs) → RepL K H' (Own (F.add p) G') xs ds → RepG K H' (F.add p) G' → R ds G' → Q (.ref p) H'
theorem PostF.step {K : PySem.W.Frag} {F : Hid} {G G1 : DH} {H H1 : Hp} {R : List D → DH → Prop} {Q : VK} (p : PostF K F G H R Q) (st : Step G H G1 H1) : PostF K F G1 H1 R Q := fun ds G' H' l xs s hn => p ds G' H' l xs (st.trans s) (st.none hn)
/-- a new list stands -/
theorem new_fresh {K : PySem.W.Frag} {F : Hid} {G : DH} {H : Hp} {R : List D → DH → Prop} {Q : VK} {xs : List V} {ds : List D} (p : PostF K F G H R Q) (g : RepG K H F G) (r : RepL K H (Own F G) xs ds) (q : R ds G) :
    ∀ l, H l = none → Q (.ref l) (upd H l (.lst xs)) := fun l hl => by
  have st : Step G H G (upd H l (.lst xs)) := step_new hl
  refine p ds G _ l xs st hl upd_same (r.imp fun a o e n => ⟨?_, fun z => ?_⟩) ?_ q
  · rw [upd_ne (ne_of_none e hl)]; exact e
  · rcases z with (z | z) | z
    · exact n (.inl z)
    · exact ne_of_none e hl z
    · exact n (.inr z)
  · have g2 := g.new hl (o := .lst xs)
    refine ⟨fun a o h => (g.ob a o h).imp (fun b u e n => ⟨?_, fun z => ?_⟩) ?_ ?_, g.dk, g.dd, fun a z => ?_⟩
    · rw [upd_ne (ne_of_none e hl)]; exact e
    · rcases z with (z | z) | z
      · exact n (.inl z)
      · exact ne_of_none e hl z
      · exact n (.inr z)
    · obtain ⟨w, q⟩ := (g.ob a o h).there; rw [upd_ne (ne_of_none q hl)]
    · rintro l' ks rfl; obtain ⟨is, cs, _, _, q⟩ := g.ob a _ h; rw [upd_ne (ne_of_none q hl)]
    · rcases z with z | rfl
      · exact g2.hid a z
      · exact ⟨⟨_, upd_same, fun _ y => nomatch y⟩, fun z => g.fresh hl (.inr z)⟩
theorem pef_lst (h : PAD X es tr) : PEF X (.List es pos) (fLst tr) := by
  refine ⟨(pe_lst h.out).weak fun σ H Q ⟨F, s, G, R, rs, rg, q, p⟩ => ?_⟩
  exact ⟨F, s, G, _, rs, rg, q, fun ds G1 xs H1 st rx rg1 q1 => ⟨by rw [rx.len]; exact size1000 q1.1, new_fresh (PostF.step p st) rg1 rx q1.2⟩⟩
end
end L2.Ew

set_option Elab.async false
set_option linter.all false
set_option maxRecDepth 100000
set_option maxHeartbeats 4000000
/-! Operators, comparisons, subscripts, calls over data. -/
namespace L2.Ew
open PySem PySem.Spec PySem.SeqAt PyProof.Rows
section
variable {X : Cx} {e a b : Expr} {es : List Expr} {pos : Pos} {te ta tb : DE} {tr : DA}

/-! ### arithmetic -/
def oInt (g : Int → Int → D) : DR2 := fun d e G Q => match d, e with
  | .int i, .int j => Q (g i j) G
  | _, _ => False
def oIntC (C : Int → Int → Prop) (g : Int → Int → D) : DR2 := fun d e G Q => match d, e with
  | .int i, .int j => C i j ∧ Q (g i j) G
  | _, _ => False
theorem OpD.int {f : Value → Value → Sem Value} {g : Int → Int → Int} (h : OpR X f (rI0 fun i j => .int (g i j))) : OpD X f (oInt fun i j => .int (g i j)) := by
  refine ⟨fun pins s σ H x y v u Q I rx ry ⟨F, d, e, G, R, qx, qy, rg, q, p⟩ => ?_⟩
  cases qx <;> cases qy <;> try exact q.elim
  exact h pins s σ H _ _ v u Q I rx ry ⟨_, _, rfl, rfl, p.here rg (.int _) q⟩
theorem OpD.intB {f : Value → Value → Sem Value} {g : Int → Int → Bool} (h : OpR X f (rI0 fun i j => .bl (g i j))) : OpD X f (oInt fun i j => .bl (g i j)) := by
  refine ⟨fun pins s σ H x y v u Q I rx ry ⟨F, d, e, G, R, qx, qy, rg, q, p⟩ => ?_⟩
  cases qx <;> cases qy <;> try exact q.elim
  exact h pins s σ H _ _ v u Q I rx ry ⟨_, _, rfl, rfl, p.here rg (.bl _) q⟩
theorem OpD.intC {f : Value → Value → Sem Value} {C : Int → Int → Prop} {g : Int → Int → Int} (h : OpR X f (rI C fun i j => .int (g i j))) : OpD X f (oIntC C fun i j => .int (g i j)) := by
  refine ⟨fun pins s σ H x y v u Q I rx ry ⟨F, d, e, G, R, qx, qy, rg, q, p⟩ => ?_⟩
  cases qx <;> cases qy <;> try exact q.elim
  exact h pins s σ H _ _ v u Q I rx ry ⟨_, _, rfl, rfl, q.1, p.here rg (.int _) q.2⟩
abbrev oSub : DR2 := oInt fun i j => .int (i - j)
abbrev oFdiv : DR2 := oIntC CDiv fun i j => .int (i / j)
abbrev oMod : DR2 := oIntC (fun _ j => 0 < j) fun i j => .int (i % j)
abbrev oPow : DR2 := oIntC CPow fun i j => .int (i ^ j.toNat)
abbrev oLt : DR2 := oInt fun i j => .bl (decide (i < j))
abbrev oLe : DR2 := oInt fun i j => .bl (decide (i ≤ j))
abbrev oGt : DR2 := oInt fun i j => .bl (decide (j < i))
abbrev oGe : DR2 := oInt fun i j => .bl (decide (j ≤ i))
theorem odSub : OpD X (binaryOp .Sub) oSub := .int op_sub
theorem odFdiv : OpD X (binaryOp .FloorDiv) oFdiv := .intC op_fdiv
theorem odMod : OpD X (binaryOp .Mod) oMod := .intC op_mod
theorem odPow : OpD X (binaryOp .Pow) oPow := .intC op_pow
theorem odLt : OpD X (compareOp .Lt) oLt := .intB op_lt
theorem odLe : OpD X (compareOp .LtE) oLe := .intB op_le
theorem odGt : OpD X (compareOp .Gt) oGt := .intB op_gt
theorem odGe : OpD X (compareOp .GtE) oGe := .intB op_ge
def dNeg : DR1 := fun d G Q => match d with
  | .int i => Q (.int (-i)) G
  | _ => False
theorem udNeg : UnD X (unaryOp .USub) dNeg := by
  refine ⟨fun pins s σ H x v Q I rx ⟨F, d, G, R, qx, rg, q, p⟩ => ?_⟩
  cases qx <;> try exact q.elim
  exact un_neg pins s σ H _ v Q I rx ⟨_, rfl, p.here rg (.int _) q⟩
/-- + of ints, texts, tuples, lists -/
def oAdd : DR2 := fun d e G Q => match res G d, res G e with
  | .int i, .int j => Q (.int (i + j)) G
  | .str x, .str y => x.length + y.length ≤ sizeLine ∧ Q (.str (x ++ y)) G
  | .tup x, .tup y => x.length + y.length ≤ sizeLine ∧ Q (.tup (x ++ y)) G
  | .lst x, .lst y => x.length + y.length ≤ sizeLine ∧ Q (.lst (x ++ y)) G
  | _, _ => False
theorem res_id {G : DH} {d : D} (h : ∀ a, d ≠ .ptr a) : res G d = d := by
  cases d <;> first | rfl | exact absurd rfl (h _)
theorem res_not {G : DH} {d e : D} (h : res G d = e) (n : ∀ ds, e ≠ .lst ds) : d = e := by
  cases d with
  | ptr a =>
    cases q : G a with
    | none => simpa only [res, q] using h
    | some o =>
      cases o with
      | lst ds => simp only [res, q] at h; exact absurd h.symm (n ds)
      | _ => simpa only [res, q] using h
  | _ => simpa only [res] using h
theorem odAdd : OpD X (binaryOp .Add) oAdd := by
  refine ⟨fun pins s σ H x y v u Q I rx ry ⟨F, d, e, G, R, qx, qy, rg, q, p⟩ => ?_⟩
  unfold oAdd at q
  cases hd : res G d <;> cases he : res G e <;> rw [hd, he] at q <;> try exact q.elim
  · cases res_not hd (fun _ z => nomatch z); cases res_not he (fun _ z => nomatch z)
    cases qx; cases qy
    exact op_add pins s σ H _ _ v u Q I rx ry ⟨_, _, rfl, rfl, p.here rg (.int _) q⟩
  · cases res_not hd (fun _ z => nomatch z); cases res_not he (fun _ z => nomatch z)
    cases qx; cases qy
    exact op_add_str pins s σ H _ _ v u Q I rx ry ⟨_, _, rfl, rfl, q.1, p.here rg (.str _) q.2⟩
  · cases res_not hd (fun _ z => nomatch z); cases res_not he (fun _ z => nomatch z)
    obtain ⟨c, xs, rfl, s1, r1⟩ := tup_at qx
    obtain ⟨c2, ys, rfl, s2, r2⟩ := tup_at qy
    refine op_catA pins s σ H _ _ v u Q I rx ry ⟨c, c2, xs, ys, rfl, rfl, s1, s2, by rw [r1.len, r2.len]; exact q.1, fun e => ?_, fun _ e => ?_, fun _ _ => ?_⟩
    · subst e; cases r1; exact p.here rg qy q.2
    · subst e; cases r2; exact p.here rg qx (by have q2 := q.2; rw [List.append_nil] at q2; exact q2)
    · exact new_tup p rg (r1.append r2) q.2
  · obtain ⟨c, xs, rfl, s1, r1⟩ := lst_at rg qx hd
    obtain ⟨c2, ys, rfl, s2, r2⟩ := lst_at rg qy he
    exact op_cat pins s σ H _ _ v u Q I rx ry ⟨c, c2, xs, ys, rfl, rfl, s1, s2, by rw [r1.len, r2.len]; exact q.1, new_lst p rg (r1.append r2) q.2⟩
/-- * of ints, of a list and an int -/
def oMul : DR2 := fun d e G Q => match d, e with
  | .int i, .int j => (CMul i j ∨ CMulW i j) ∧ Q (.int (i * j)) G
  | .lst x, .int k => k < 2 ^ 63 ∧ -(2 ^ 63) ≤ k ∧ x.length * k.toNat ≤ sizeLine ∧ Q (.lst (List.replicate k.toNat x).flatten) G
  | .tup x, .int k => x ≠ [] ∧ -1000 ≤ k ∧ k ≤ 1000 ∧ x.length ≤ 1000 ∧ Q (.tup (List.replicate k.toNat x).flatten) G
  | _, _ => False
theorem RepL.rep {K : PySem.W.Frag} {H : Hp} {O : Addr → Prop} {xs : List V} {ds : List D} (r : RepL K H O xs ds) : ∀ n, RepL K H O (List.replicate n xs).flatten (List.replicate n ds).flatten
  | 0 => .nil
  | n + 1 => by
    rw [List.replicate_succ, List.replicate_succ, List.flatten_cons, List.flatten_cons]
    exact r.append (RepL.rep r n)
/-! ### a tuple times one, and times nought or less -/
theorem tuple_mul1 (l : Addr) (items : Array Value) (n : Nat) (dd : Option Addr) (sl : Array (Option Value)) (u : Tok) :
    Meets (Builtin.«tuple.__mul__» ⟨[.ref l, .int 1 u], []⟩) (fun _ R s => s.heap.get? l = some { cls := .type "tuple", dict := dd, data := .seq items n, slots := sl } ∧ R (.ok (.ret (Value.ref l))) s) :=
  .of_wp fun prog w A R s h => by
    obtain ⟨hp, g, d, tk, os⟩ := s
    obtain ⟨hl, h⟩ := h
    have f1 := AutoSeq1.idx_int
    have c0 : (decide ((1 : Int) < -(2 ^ 63)) || decide ((1 : Int) ≥ 2 ^ 63)) = false := by decide
    have c1 : (items.isEmpty || (1 : Int) == 1) = true := by simp
    wp_walk using wpAny_loadPart' hl
    repeat (first
      | (refine wpAny_ite_false (decide_eq_false (by rw [c0]; exact Bool.false_ne_true)) ?_; wp_walk using wpAny_loadPart' hl)
      | (refine wpAny_ite_true (decide_eq_true c1) ?_; wp_walk using wpAny_loadPart' hl))
    exact ⟨_, rfl, h⟩
theorem tuple_mul0 (l : Addr) (items : Array Value) (n : Nat) (dd : Option Addr) (sl : Array (Option Value)) (x : Int) (u : Tok) (c0 : (decide (x < -(2 ^ 63)) || decide (x ≥ 2 ^ 63)) = false) (c1 : (items.isEmpty || x == 1) = false) (c2 : (decide (x ≤ 0) || items.isEmpty) = true) :
    Meets (Builtin.«tuple.__mul__» ⟨[.ref l, .int x u], []⟩) (fun _ R s => s.heap.get? l = some { cls := .type "tuple", dict := dd, data := .seq items n, slots := sl } ∧
      R (.ok (.ret (Value.ref s.heap.objs.size))) { s with heap := s.heap.push { cls := Value.type "tuple", data := Data.seq #[] }, toks := s.toks }) :=
  .of_wp fun prog w A R s h => by
    obtain ⟨hp, g, d, tk, os⟩ := s
    obtain ⟨hl, h⟩ := h
    have f1 := AutoSeq1.idx_int
    wp_walk using wpAny_loadPart' hl
    repeat (first
      | (refine wpAny_ite_false (decide_eq_false (by rw [c0]; exact Bool.false_ne_true)) ?_; wp_walk using wpAny_loadPart' hl)
      | (refine wpAny_ite_false (decide_eq_false (by rw [c1]; exact Bool.false_ne_true)) ?_; wp_walk using wpAny_loadPart' hl)
      | (refine wpAny_ite_true (decide_eq_true c2) ?_; wp_walk using wpAny_loadPart' hl))
    exact ⟨_, rfl, h⟩
theorem op_repT1 : OpR X (binaryOp .Mult) (fun x y H Q => ∃ l xs, x = .ref l ∧ y = .int 1 ∧ SqT X.K H l xs ∧ Q (.ref l) H) := by
  intro pins s σ H x y v u Q I rx ry h
  obtain ⟨l, xs, rfl, rfl, hT, q⟩ := h
  cases rx
  obtain ⟨t, rfl⟩ := ry
  obtain ⟨its, r, ⟨⟨cls, dd, data, sl⟩, ho, hc, n, hd⟩, hs⟩ := I.tuple hT
  simp only at hc hd
  subst hc hd
  refine wpAny_binaryOp_repeat_ref (T := "tuple") (U := "int") (by decide) ⟨_, ho, rfl⟩ (fun s' => typeIs_int s' 1 t) noFill_tuple_mul F.fills_int_mul F.slot_int_rmul repeat_tuple F.slot_int_index.lookup
    (call_meets F.slot_int_rmul (typeIs_int s 1 t) F.entry_int_rmul (F.args_int_rmul_2 _ _) (int_rmul_tuple 1 t l its.toArray n dd sl)
      ⟨ho, rfl, ⟨_, ho, rfl⟩, call_meets F.slot_tuple_mul ⟨_, ho, rfl⟩ F.entry_tuple_mul (F.args_tuple_mul_2 _ _) (tuple_mul1 l its.toArray n dd sl t) ⟨ho, ?_⟩⟩)
  exact ⟨.ref l, H, I, rfl, q⟩
theorem op_repT0 : OpR X (binaryOp .Mult) (fun x y H Q => ∃ l k xs, x = .ref l ∧ y = .int k ∧ SqT X.K H l xs ∧ xs ≠ [] ∧ k ≤ 0 ∧ -1000 ≤ k ∧ ∀ p, H p = none → Q (.ref p) (upd H p (.tup (List.replicate k.toNat xs).flatten))) := by
  intro pins s σ H x y v u Q I rx ry h
  obtain ⟨l, k, xs, rfl, rfl, hT, hne, h1, h2, q⟩ := h
  cases rx
  obtain ⟨t, rfl⟩ := ry
  obtain ⟨its, r, ⟨⟨cls, dd, data, sl⟩, ho, hc, n, hd⟩, hs⟩ := I.tuple hT
  simp only at hc hd
  subst hc hd
  have hle : its.length = xs.length := r.length.symm
  have hn : its ≠ [] := fun e => hne (by
    rw [e] at hle
    exact List.eq_nil_of_length_eq_zero hle.symm)
  have hi : its.toArray.isEmpty = false := by
    cases its with
    | nil => exact absurd rfl hn
    | cons a b => rfl
  have c0 : (decide (k < -(2 ^ 63)) || decide (k ≥ 2 ^ 63)) = false := by
    rw [decide_eq_false (by omega), decide_eq_false (by omega)] <;> rfl
  have c1 : (its.toArray.isEmpty || k == 1) = false := by
    rw [hi, Bool.false_or]
    exact beq_eq_false_iff_ne.mpr (by omega)
  have c2 : (decide (k ≤ 0) || its.toArray.isEmpty) = true := by
    rw [hi, Bool.or_false]
    exact decide_eq_true (by omega)
  refine wpAny_binaryOp_repeat_ref (T := "tuple") (U := "int") (by decide) ⟨_, ho, rfl⟩ (fun s' => typeIs_int s' k t) noFill_tuple_mul F.fills_int_mul F.slot_int_rmul repeat_tuple F.slot_int_index.lookup
    (call_meets F.slot_int_rmul (typeIs_int s k t) F.entry_int_rmul (F.args_int_rmul_2 _ _) (int_rmul_tuple k t l its.toArray n dd sl)
      ⟨ho, rfl, ⟨_, ho, rfl⟩, call_meets F.slot_tuple_mul ⟨_, ho, rfl⟩ F.entry_tuple_mul (F.args_tuple_mul_2 _ _) (tuple_mul0 l its.toArray n dd sl k t c0 c1 c2) ⟨ho, ?_⟩⟩)
  have e0 : k.toNat = 0 := by omega
  rw [e0] at q
  refine ⟨.ref s.heap.objs.size, _, I.laid (t' := s.toks) (o := .tup (List.replicate 0 xs).flatten) (fun b ob q => Heap.get?_push_of_some _ q) (Nat.le_refl _) ?_, rfl, q _ (I.hok.fresh (Nat.le_refl _))⟩
  exact ⟨Nat.zero_le _, [], .nil, IsTup.new _ _⟩
theorem odMul : OpD X (binaryOp .Mult) oMul := by
  refine ⟨fun pins s σ H x y v u Q I rx ry ⟨F, d, e, G, R, qx, qy, rg, q, p⟩ => ?_⟩
  cases qy with
  | int k =>
    cases qx with
    | int i =>
      rcases q with ⟨c | c, q⟩
      · exact op_mul pins s σ H _ _ v u Q I rx ry ⟨_, _, rfl, rfl, c, p.here rg (.int _) q⟩
      · exact op_mulW pins s σ H _ _ v u Q I rx ry ⟨_, _, rfl, rfl, c, p.here rg (.int _) q⟩
    | lst h n r => exact op_rep pins s σ H _ _ v u Q I rx ry ⟨_, k, _, rfl, rfl, h, q.2.1, q.1, by rw [r.len]; exact q.2.2.1, new_lst p rg (r.rep _) q.2.2.2⟩
    | tup h n r =>
      have hne := q.1
      by_cases k2 : 2 ≤ k
      · exact op_repT pins s σ H _ _ v u Q I rx ry ⟨_, k, _, rfl, rfl, SqT.of h, fun z => hne (by subst z; cases r; rfl), k2, q.2.2.1, by rw [r.len]; exact q.2.2.2.1, new_tup p rg (r.rep _) q.2.2.2.2⟩
      · by_cases k1 : k = 1
        · subst k1
          have e : ∀ x : List D, (List.replicate (1 : Int).toNat x).flatten = x := fun x => by simp
          have q2 := q.2.2.2.2
          rw [e] at q2
          exact op_repT1 pins s σ H _ _ v u Q I rx ry ⟨_, _, rfl, rfl, SqT.of h, p.here rg (.tup h n r) q2⟩
        · exact op_repT0 pins s σ H _ _ v u Q I rx ry ⟨_, k, _, rfl, rfl, SqT.of h, fun z => hne (by subst z; cases r; rfl), by omega, q.2.1, new_tup p rg (r.rep k.toNat) q.2.2.2.2⟩
    | _ => exact q.elim
  | _ => cases qx <;> exact q.elim

/-! ### == of data -/
mutual
def toP : D → PyData
  | .non => .none | .bl b => .bool b | .int i => .int i | .str x => .str x
  | .tup ds => .tuple (toPs ds) | .lst ds => .list (toPs ds)
  | _ => .none
def toPs : List D → List PyData
  | [] => []
  | d :: ds => toP d :: toPs ds
end
mutual
def plainD : D → Bool
  | .non => true | .bl _ => true | .int _ => true | .str _ => true
  | .tup ds => plainDs ds | .lst ds => plainDs ds
  | _ => false
def plainDs : List D → Bool
  | [] => true
  | d :: ds => plainD d && plainDs ds
end
def eqD (d e : D) : Bool := PyData.eqv (toP d) (toP e)
def depD (d : D) : Nat := (toP d).depth
mutual
theorem plain_toP : ∀ d : D, plainD d = true → (toP d).plain = true
  | .non, _ => rfl
  | .bl _, _ => rfl
  | .int _, _ => rfl
  | .str _, _ => rfl
  | .tup ds, h => plain_toPs ds h
  | .lst ds, h => plain_toPs ds h
  | .ty _, h => nomatch h
  | .dk _ _, h => nomatch h
  | .ptr _, h => nomatch h
  | .scr _, h => nomatch h
theorem plain_toPs : ∀ ds : List D, plainDs ds = true → PyData.plainAll (toPs ds) = true
  | [], _ => rfl
  | d :: ds, h => by
    simp only [plainDs, Bool.and_eq_true] at h
    simp only [toPs, PyData.plainAll, Bool.and_eq_true]
    exact ⟨plain_toP d h.1, plain_toPs ds h.2⟩
end
mutual
theorem rep_dp {K : PySem.W.Frag} {H : Hp} {O : Addr → Prop} : ∀ (d : D) (v : V), Rep K H O v d → plainD d = true → Dp K H v (toP d)
  | .non, _, r, _ => by cases r; exact .non
  | .bl b, _, r, _ => by cases r; exact .bl b
  | .int i, _, r, _ => by cases r; exact .int i
  | .str x, _, r, _ => by cases r; exact .str x
  | .tup ds, _, r, k => by
    cases r with
    | tup h n r => exact .tup (SqT.of h) (repl_dp ds _ r k)
  | .lst ds, _, r, k => by
    cases r with
    | lst h n r => exact .lst (SqL.of h) (repl_dp ds _ r k)
  | .ty _, _, _, h => nomatch h
  | .dk _ _, _, _, h => nomatch h
  | .ptr _, _, _, h => nomatch h
  | .scr _, _, _, h => nomatch h
theorem repl_dp {K : PySem.W.Frag} {H : Hp} {O : Addr → Prop} : ∀ (d : List D) (v : List V), RepL K H O v d → plainDs d = true → DpAll K H v (toPs d)
  | [], _, r, _ => by cases r; exact .nil
  | d :: ds, _, r, k => by
    cases r with
    | cons r t =>
      simp only [plainDs, Bool.and_eq_true] at k
      exact .cons (rep_dp d _ r k.1) (repl_dp ds _ t k.2)
end
theorem Rep.dp {K : PySem.W.Frag} {H : Hp} {O : Addr → Prop} {v : V} {d : D} (r : Rep K H O v d) (k : plainD d = true) : Dp K H v (toP d) := rep_dp d v r k
theorem RepL.dp {K : PySem.W.Frag} {H : Hp} {O : Addr → Prop} {v : List V} {d : List D} (r : RepL K H O v d) (k : plainDs d = true) : DpAll K H v (toPs d) := repl_dp d v r k
/-- a value that is data, a list by place too -/
theorem dp_res {K : PySem.W.Frag} {H : Hp} {F : Hid} {G : DH} {x : V} {d : D} (g : RepG K H F G) (r : Rep K H (Own F G) x d) (k : plainD (res G d) = true) : Dp K H x (toP (res G d)) := by
  cases e : res G d with
  | lst ds =>
    obtain ⟨a, xs, rfl, h, r⟩ := lst_at g r e
    rw [e] at k
    exact .lst (SqL.of h) (r.dp k)
  | _ =>
    have := res_not e (fun _ z => nomatch z)
    subst this
    first
      | exact r.dp (by rw [e] at k; exact k)
      | (rw [e] at k; exact nomatch k)
def okEq (d e : D) : Prop := plainD d = true ∧ plainD e = true ∧ min (depD d) (depD e) ≤ 64
def oEq : DR2 := fun d e G Q => okEq (res G d) (res G e) ∧ Q (.bl (eqD (res G d) (res G e))) G
def oNe : DR2 := fun d e G Q => okEq (res G d) (res G e) ∧ Q (.bl (!eqD (res G d) (res G e))) G
theorem odEq (hu : X.A.units + 64 < cLine) : OpD X (compareOp .Eq) oEq := by
  refine ⟨fun pins s σ H x y v u Q I rx ry ⟨F, d, e, G, R, qx, qy, rg, ⟨⟨kd, ke, dp⟩, q⟩, p⟩ => ?_⟩
  obtain ⟨as, r1⟩ := Dp.reads I _ x v (dp_res rg qx kd) rx
  obtain ⟨bs, r2⟩ := Dp.reads I _ y u (dp_res rg qy ke) ry
  exact eq_plain r1 r2 (plain_toP _ kd) (plain_toP _ ke) (Nat.lt_of_le_of_lt (Nat.add_le_add_left dp _) hu) ⟨.bl _, H, I, rfl, p.here rg (.bl _) q⟩
theorem odNe (hu : X.A.units + 64 < cLine) : OpD X (compareOp .NotEq) oNe := by
  refine ⟨fun pins s σ H x y v u Q I rx ry ⟨F, d, e, G, R, qx, qy, rg, ⟨⟨kd, ke, dp⟩, q⟩, p⟩ => ?_⟩
  obtain ⟨as, r1⟩ := Dp.reads I _ x v (dp_res rg qx kd) rx
  obtain ⟨bs, r2⟩ := Dp.reads I _ y u (dp_res rg qy ke) ry
  exact ne_plain r1 r2 (plain_toP _ kd) (plain_toP _ ke) (Nat.lt_of_le_of_lt (Nat.add_le_add_left dp _) hu) ⟨.bl _, H, I, rfl, p.here rg (.bl _) q⟩
/-- x in a list or tuple of data -/
def oIn : DR2 := fun d e G Q => match res G e with
  | .tup ds => plainD d = true ∧ plainDs ds = true ∧ depD d ≤ 60 ∧ Q (.bl (ds.any fun y => eqD y d)) G
  | .lst ds => plainD d = true ∧ plainDs ds = true ∧ depD d ≤ 60 ∧ Q (.bl (ds.any fun y => eqD y d)) G
  | _ => False
def oNotIn : DR2 := fun d e G Q => match res G e with
  | .tup ds => plainD d = true ∧ plainDs ds = true ∧ depD d ≤ 60 ∧ Q (.bl (!ds.any fun y => eqD y d)) G
  | .lst ds => plainD d = true ∧ plainDs ds = true ∧ depD d ≤ 60 ∧ Q (.bl (!ds.any fun y => eqD y d)) G
  | _ => False
theorem any_toPs (d : D) : ∀ ds : List D, (toPs ds).any (fun y => PyData.eqv y (toP d)) = ds.any fun y => eqD y d
  | [] => rfl
  | e :: ds => by simp only [toPs, List.any_cons, any_toPs d ds]; rfl
theorem odIn (hu : X.A.units + 64 < cLine) : OpD X (compareOp .In) oIn := by
  refine ⟨fun pins s σ H x y v u Q I rx ry ⟨F, d, e, G, R, qx, qy, rg, q, p⟩ => ?_⟩
  unfold oIn at q
  cases he : res G e with
  | tup ds =>
    rw [he] at q
    obtain ⟨k1, k2, k3, q⟩ := q
    have hp := dp_res rg qy (by rw [he]; exact k2)
    rw [he] at hp
    obtain ⟨as, r1⟩ := Dp.reads I _ x v (qx.dp k1) rx
    obtain ⟨bs, r2⟩ := Dp.reads I _ y u hp ry
    refine in_tuple_data r2 r1 (plain_toPs _ k2) (plain_toP _ k1) ?_ ⟨.bl _, H, I, rfl, p.here rg (.bl _) (by rw [any_toPs]; exact q)⟩
    have : min (PyData.depthAll (toPs ds)) (toP d).depth ≤ 60 := Nat.le_trans (Nat.min_le_right _ _) k3
    omega
  | lst ds =>
    rw [he] at q
    obtain ⟨k1, k2, k3, q⟩ := q
    have hp := dp_res rg qy (by rw [he]; exact k2)
    rw [he] at hp
    obtain ⟨as, r1⟩ := Dp.reads I _ x v (qx.dp k1) rx
    obtain ⟨bs, r2⟩ := Dp.reads I _ y u hp ry
    refine in_list_data r2 r1 (plain_toPs _ k2) (plain_toP _ k1) ?_ ⟨.bl _, H, I, rfl, p.here rg (.bl _) (by rw [any_toPs]; exact q)⟩
    have : min (PyData.depthAll (toPs ds)) (toP d).depth ≤ 60 := Nat.le_trans (Nat.min_le_right _ _) k3
    omega
  | _ => rw [he] at q; exact q.elim
theorem odNotIn (hu : X.A.units + 64 < cLine) : OpD X (compareOp .NotIn) oNotIn := by
  refine ⟨fun pins s σ H x y v u Q I rx ry ⟨F, d, e, G, R, qx, qy, rg, q, p⟩ => ?_⟩
  unfold oNotIn at q
  cases he : res G e with
  | tup ds =>
    rw [he] at q
    obtain ⟨k1, k2, k3, q⟩ := q
    have hp := dp_res rg qy (by rw [he]; exact k2)
    rw [he] at hp
    obtain ⟨as, r1⟩ := Dp.reads I _ x v (qx.dp k1) rx
    obtain ⟨bs, r2⟩ := Dp.reads I _ y u hp ry
    refine notIn_tuple_data r2 r1 (plain_toPs _ k2) (plain_toP _ k1) ?_ ⟨.bl _, H, I, rfl, p.here rg (.bl _) (by rw [any_toPs]; exact q)⟩
    have : min (PyData.depthAll (toPs ds)) (toP d).depth ≤ 60 := Nat.le_trans (Nat.min_le_right _ _) k3
    omega
  | lst ds =>
    rw [he] at q
    obtain ⟨k1, k2, k3, q⟩ := q
    have hp := dp_res rg qy (by rw [he]; exact k2)
    rw [he] at hp
    obtain ⟨as, r1⟩ := Dp.reads I _ x v (qx.dp k1) rx
    obtain ⟨bs, r2⟩ := Dp.reads I _ y u hp ry
    refine notIn_list_data r2 r1 (plain_toPs _ k2) (plain_toP _ k1) ?_ ⟨.bl _, H, I, rfl, p.here rg (.bl _) (by rw [any_toPs]; exact q)⟩
    have : min (PyData.depthAll (toPs ds)) (toP d).depth ≤ 60 := Nat.le_trans (Nat.min_le_right _ _) k3
    omega
  | _ => rw [he] at q; exact q.elim
/-- is None, is True -/
def isV : D → D → Option Bool
  | d, .non => match d with
    | .non => some true
    | _ => some false
  | .bl a, .bl b => some (a == b)
  | _, _ => none
def oIs : DR2 := fun d e G Q => match isV d e with
  | some b => Q (.bl b) G
  | none => False
def oIsNot : DR2 := fun d e G Q => match isV d e with
  | some b => Q (.bl (!b)) G
  | none => False
theorem odIs : OpD X (compareOp .Is) oIs := by
  refine ⟨fun pins s σ H x y v u Q I rx ry ⟨F, d, e, G, R, qx, qy, rg, q, p⟩ => ?_⟩
  cases qy with
  | non =>
    refine op_isN pins s σ H _ _ v u Q I rx ry ⟨rfl, ?_⟩
    cases qx <;> exact p.here rg (.bl _) q
  | bl b =>
    cases qx with
    | bl c => exact op_isBl pins s σ H _ _ v u Q I rx ry ⟨c, b, rfl, rfl, p.here rg (.bl _) q⟩
    | _ => exact q.elim
  | _ => cases qx <;> exact q.elim
theorem odIsNot : OpD X (compareOp .IsNot) oIsNot := by
  refine ⟨fun pins s σ H x y v u Q I rx ry ⟨F, d, e, G, R, qx, qy, rg, q, p⟩ => ?_⟩
  cases qy with
  | non =>
    refine op_notN pins s σ H _ _ v u Q I rx ry ⟨rfl, ?_⟩
    cases qx <;> exact p.here rg (.bl _) q
  | bl b =>
    cases qx with
    | bl c => exact op_notBl pins s σ H _ _ v u Q I rx ry ⟨c, b, rfl, rfl, p.here rg (.bl _) q⟩
    | _ => exact q.elim
  | _ => cases qx <;> exact q.elim
end
end L2.Ew

set_option Elab.async false
set_option linter.all false
set_option maxRecDepth 100000
set_option maxHeartbeats 4000000
/-! Subscripts, slices, walks, comprehensions, statements over data. -/
namespace L2.Ew
open PySem PySem.Spec PySem.SeqAt PyProof.Rows
theorem _root_.L2.PE.or {X : Cx} {e : Expr} {t u : TE} (h : PE X e t) (k : PE X e u) : PE X e (fun σ H Q => t σ H Q ∨ u σ H Q) := ⟨fun pins s σ H Q I q => q.elim (h.run pins s σ H Q I) (k.run pins s σ H Q I)⟩
section
variable {X : Cx} {e a b l : Expr} {es : List Expr} {pos : Pos} {te ta tb : DE} {tr : DA}

/-! ### items -/
theorem ix_dict (hu : X.A.units + 1 < cLine) : IxR X (fun x y H Q => ∃ a v, x = .ref a ∧ DGet H a y (some v) ∧ Q v H) := by
  intro value slice pins s σ H x y v u Q I rx ry ⟨a, w, ex, g, q⟩ hs
  subst ex
  obtain rfl : v = Value.ref a := rx
  have fin : ∀ w' s', Inv X pins σ H s' → RelV w w' → EP X pins σ Q w' s' := fun w' s' I' r' => ⟨w, H, I', r', q⟩
  unfold subscriptTail
  refine wpAny_bind ?_
  rw [getitemInPython_of_ne (dict_typeIs I g).not_modules]
  refine wpAny_bind (wpAny_specialOf (dict_typeIs I g) PySem.F.slot_dict_getitem.lookup ?_)
  have fin2 : wpAny (model X.prog X.w) X.A (subscripted slice false (.ref a) u) (fun r s₃ => wpAny (model X.prog X.w) X.A (letTemporaryGo value (.ref a) r >>= fun _ => pure r) (EP X pins σ Q) X.xe s₃) X.xe s := by
    rw [hs]
    exact wpAny_operating (d_getItem hu I g ry fun w' s3 I3 rw' => wpAny_bind (wpAny_letTemporaryGo (wpAny_pure (fin w' s3 I3 rw'))))
  first
    | exact wpAny_pure (wpAny_bind fin2)
    | exact wpAny_bind (wpAny_pure (wpAny_bind fin2))
    | exact wpAny_bind fin2
structure IxD (X : Cx) (r : DR2) : Prop where
  out : IxR X (low2 X.K r)
def keyD : D → Option Key
  | .int i => some (.inl i)
  | .str x => some (.inr x)
  | _ => none
def keyTD : List D → Option (List Key)
  | [] => some []
  | d :: ds => match keyD d, keyTD ds with
    | some k, some ks => some (k :: ks)
    | _, _ => none
def valD {κ : Type} [DecidableEq κ] (kvs : List (κ × D)) (k : κ) : Option D := (kvs.find? fun p => decide (p.1 = k)).map Prod.snd
/-- what an index or a key finds -/
def ixV (G : DH) (d e : D) : Option D :=
  match res G d, e with
  | .lst ds, .int i => atI ds i
  | .tup ds, .int i => atI ds i
  | .str z, .int i => (atI z.cps.toList i).map fun c => .str ⟨#[c]⟩
  | .dk ks ds, e => (keyD e).bind fun k => valD (ks.zip ds) k
  | .ptr a, e => match G a with
    | some (.dk kvs) => (keyD e).bind fun k => valD kvs k
    | some (.dT kvs) => match e with
      | .tup ds => (keyTD ds).bind fun k => valD kvs k
      | _ => none
    | some (.fK _ _ kvs) => (keyD e).bind fun k => valD kvs k
    | some (.fT _ _ kvs) => match e with
      | .tup ds => (keyTD ds).bind fun k => valD kvs k
      | _ => none
    | _ => none
  | _, _ => none
def dIx : DR2 := fun d e G Q => match ixV G d e with
  | some v => (∀ z, d = .str z → z.length ≤ sizeLine) ∧ Q v G
  | none => False
theorem atI_rep {K : PySem.W.Frag} {H : Hp} {O : Addr → Prop} {xs : List V} {ds : List D} (r : RepL K H O xs ds) {i : Int} {d : D} (h : atI ds i = some d) : ∃ v, atI xs i = some v ∧ Rep K H O v d := by
  unfold atI at h ⊢
  rw [r.len]
  cases e : ixN ds.length i with
  | none => rw [e] at h; cases h
  | some j =>
    rw [e] at h
    exact r.get h
theorem key_rep {K : PySem.W.Frag} {H : Hp} {O : Addr → Prop} {y : V} {e : D} {k : Key} (r : Rep K H O y e) (h : keyD e = some k) : y = kV k := by
  cases r <;> simp only [keyD] at h <;> first | (cases h; rfl) | exact nomatch h
theorem keyT_rep {K : PySem.W.Frag} {H : Hp} {O : Addr → Prop} : ∀ {ys : List V} {ds : List D} {k : List Key}, RepL K H O ys ds → keyTD ds = some k → ys = k.map kV
  | _, _, _, .nil, h => by cases h; rfl
  | _, _, _, .cons (d := d) (ds := ds) r t, h => by
    simp only [keyTD] at h
    cases e1 : keyD d with
    | none => rw [e1] at h; cases h
    | some k1 =>
      cases e2 : keyTD ds with
      | none => rw [e1, e2] at h; cases h
      | some k2 =>
        rw [e1, e2] at h
        cases h
        rw [key_rep r e1, keyT_rep t e2]
        rfl
theorem val_rep {K : PySem.W.Frag} {H : Hp} {O : Addr → Prop} {κ : Type} [DecidableEq κ] {k : κ} : ∀ {ws : List (κ × V)} {kvs : List (κ × D)} {d : D}, ws.map Prod.fst = kvs.map Prod.fst → RepL K H O (ws.map Prod.snd) (kvs.map Prod.snd) → valD kvs k = some d → ∃ v, valV ws k = some v ∧ Rep K H O v d
  | [], [], _, _, _, h => by simp [valD] at h
  | w :: ws, p :: kvs, d, e, r, h => by
    simp only [List.map_cons, List.cons.injEq] at e r
    cases r with
    | cons r t =>
      unfold valD at h
      rw [List.find?_cons] at h
      by_cases hk : p.1 = k
      · rw [decide_eq_true hk] at h
        cases h
        exact ⟨w.2, valV_pos (e.1.trans hk), r⟩
      · rw [decide_eq_false hk] at h
        rw [valV_neg (fun z => hk (e.1.symm.trans z))]
        exact val_rep e.2 t h
  | [], _ :: _, _, e, _, _ => by simp at e
  | _ :: _, [], _, e, _, _ => by simp at e
theorem val_none {κ : Type} [DecidableEq κ] {k : κ} : ∀ {ws : List (κ × V)} {kvs : List (κ × D)}, ws.map Prod.fst = kvs.map Prod.fst → valD kvs k = none → valV ws k = none
  | [], [], _, _ => rfl
  | w :: ws, p :: kvs, e, h => by
    simp only [List.map_cons, List.cons.injEq] at e
    unfold valD at h
    rw [List.find?_cons] at h
    by_cases hk : p.1 = k
    · rw [decide_eq_true hk] at h; cases h
    · rw [decide_eq_false hk] at h
      rw [valV_neg (fun z => hk (e.1.symm.trans z))]
      exact val_none e.2 h
  | [], _ :: _, e, _ => by simp at e
  | _ :: _, [], e, _ => by simp at e
theorem zip_fst {α β : Type} : ∀ {ks : List α} {ds : List β}, ks.length = ds.length → (ks.zip ds).map Prod.fst = ks
  | [], [], _ => rfl
  | k :: ks, d :: ds, h => by rw [List.zip_cons_cons, List.map_cons, zip_fst (by simpa using h)]
  | [], _ :: _, h => by simp at h
  | _ :: _, [], h => by simp at h
theorem zip_snd {α β : Type} : ∀ {ks : List α} {ds : List β}, ks.length = ds.length → (ks.zip ds).map Prod.snd = ds
  | [], [], _ => rfl
  | k :: ks, d :: ds, h => by rw [List.zip_cons_cons, List.map_cons, zip_snd (by simpa using h)]
  | [], _ :: _, h => by simp at h
  | _ :: _, [], h => by simp at h
theorem ixd (hu : X.A.units + 1 < cLine) : IxD X dIx := by
  refine ⟨fun value slice pins s σ H x y v u Q I rx ry ⟨F, d, e, G, R, qx, qy, rg, q, p⟩ hs => ?_⟩
  unfold dIx at q
  cases hv : ixV G d e with
  | none => rw [hv] at q; exact q.elim
  | some w =>
    rw [hv] at q
    obtain ⟨qz, q⟩ := q
    unfold ixV at hv
    cases hd : res G d with
    | lst ds =>
      rw [hd] at hv
      obtain ⟨a, xs, rfl, h, r⟩ := lst_at rg qx hd
      cases qy with
      | int i =>
        obtain ⟨z, h1, h2⟩ := atI_rep r hv
        exact ix_list value slice pins s σ H _ _ v u Q I rx ry ⟨a, xs, i, z, rfl, rfl, SqL.of h, h1, p.here rg h2 q⟩ hs
      | _ => exact nomatch hv
    | tup ds =>
      rw [hd] at hv
      cases res_not hd (fun _ z => nomatch z)
      obtain ⟨a, xs, rfl, h, r⟩ := tup_at qx
      cases qy with
      | int i =>
        obtain ⟨z, h1, h2⟩ := atI_rep r hv
        exact ix_tup value slice pins s σ H _ _ v u Q I rx ry ⟨a, xs, i, z, rfl, rfl, h, h1, p.here rg h2 q⟩ hs
      | _ => exact nomatch hv
    | str z =>
      rw [hd] at hv
      cases res_not hd (fun _ z => nomatch z)
      cases qx
      cases qy with
      | int i =>
        cases hc : atI z.cps.toList i with
        | none => simp only [hc] at hv; exact nomatch hv
        | some c =>
          simp only [hc] at hv
          cases hv
          exact ix_str value slice pins s σ H _ _ v u Q I rx ry ⟨z, i, c, rfl, rfl, qz z rfl, hc, p.here rg (.str _) q⟩ hs
      | _ => exact nomatch hv
    | dk ks ds =>
      rw [hd] at hv
      cases res_not hd (fun _ z => nomatch z)
      cases hk : keyD e with
      | none => simp only [hk] at hv; exact nomatch hv
      | some k =>
        simp only [hk] at hv
        cases qx with
        | @dk a kvs ds h n r =>
          have hl : (kvs.map Prod.fst).length = ds.length := by rw [List.length_map, ← r.len, List.length_map]
          obtain ⟨z, h1, h2⟩ := val_rep (ws := kvs) (zip_fst hl).symm (by rw [zip_snd hl]; exact r) hv
          refine ix_dict hu value slice pins s σ H _ _ v u Q I rx ry ⟨a, z, rfl, ?_, p.here rg h2 q⟩ hs
          rw [key_rep qy hk, ← h1]
          exact DGet.k h
    | ptr a =>
      rw [hd] at hv
      cases res_not hd (fun _ z => nomatch z)
      cases qx
      cases hg : G a with
      | none => simp only [hg] at hv; exact nomatch hv
      | some o =>
        cases o with
        | dk kvs =>
          simp only [hg] at hv
          cases hk : keyD e with
          | none => simp only [hk] at hv; exact nomatch hv
          | some k =>
            simp only [hk] at hv
            obtain ⟨ws, h, h2, r⟩ := rg.ob a _ hg
            obtain ⟨z, h3, h4⟩ := val_rep h2 r hv
            refine ix_dict hu value slice pins s σ H _ _ v u Q I rx ry ⟨a, z, rfl, ?_, p.here rg h4 q⟩ hs
            rw [key_rep qy hk, ← h3]
            exact DGet.k h
        | dT kvs =>
          simp only [hg] at hv
          cases e with
          | tup ds =>
            cases hk : keyTD ds with
            | none => simp only [hk] at hv; exact nomatch hv
            | some k =>
              simp only [hk] at hv
              obtain ⟨ws, h, h2, r⟩ := rg.ob a _ hg
              obtain ⟨z, h3, h4⟩ := val_rep h2 r hv
              cases qy with
              | tup hb n rb =>
                refine ix_dict hu value slice pins s σ H _ _ v u Q I rx ry ⟨a, z, rfl, ?_, p.here rg h4 q⟩ hs
                rw [← h3]
                exact DGet.t h (by rw [← keyT_rep rb hk]; exact hb)
          | _ => exact nomatch hv
        | fK ob ws kvs =>
          simp only [hg] at hv
          cases hk : keyD e with
          | none => simp only [hk] at hv; exact nomatch hv
          | some k =>
            simp only [hk] at hv
            obtain ⟨h, h2, r⟩ := rg.ob a _ hg
            obtain ⟨z, h3, h4⟩ := val_rep h2 r hv
            refine ix_dict hu value slice pins s σ H _ _ v u Q I rx ry ⟨a, z, rfl, ?_, p.here rg h4 q⟩ hs
            rw [key_rep qy hk, ← h3]
            exact .inl ⟨ws, k, .inr ⟨ob, h⟩, rfl, rfl⟩
        | fT ob ws kvs =>
          simp only [hg] at hv
          cases e with
          | tup ds =>
            cases hk : keyTD ds with
            | none => simp only [hk] at hv; exact nomatch hv
            | some k =>
              simp only [hk] at hv
              obtain ⟨h, h2, r⟩ := rg.ob a _ hg
              obtain ⟨z, h3, h4⟩ := val_rep h2 r hv
              cases qy with
              | tup hb n rb =>
                refine ix_dict hu value slice pins s σ H _ _ v u Q I rx ry ⟨a, z, rfl, ?_, p.here rg h4 q⟩ hs
                rw [← h3]
                exact .inr ⟨ws, k, _, .inr ⟨ob, h⟩, rfl, by rw [← keyT_rep rb hk]; exact hb, rfl⟩
          | _ => exact nomatch hv
        | _ => simp only [hg] at hv; exact nomatch hv
    | _ => rw [hd] at hv; exact nomatch hv
theorem ped_ix {r : DR2} (hr : IxD X r) (ha : PED X a ta) (hb : PED X b tb) (hs : PlainIx b := by exact fun _ _ => rfl) : PED X (.Subscript a b pos) (dBin r ta tb) := ⟨(pe_ix hr.out ha.out hb.out hs).weak fun _ _ _ h => low_bin h⟩
end
end L2.Ew

set_option Elab.async false
set_option linter.all false
set_option maxRecDepth 100000
set_option maxHeartbeats 4000000
/-! Slices, calls, walks, comprehensions, statements over data. -/
namespace L2.Ew
open PySem PySem.Spec PySem.SeqAt PyProof.Rows
section
variable {X : Cx} {e a b l : Expr} {es : List Expr} {pos : Pos} {te ta tb : DE} {tr : DA}
/-! ### slices -/
abbrev DO := DS → DH → (Option Int → DH → Prop) → Prop
def lowO (K : PySem.W.Frag) (t : DO) : TO := fun σ H Q => ∃ F s G R, RepS K H (Own F G) σ s ∧ RepG K H F G ∧ t s G R ∧ ∀ o G' H', Step G H G' H' → RepG K H' F G' → R o G' → Q o H'
structure POD (X : Cx) (e : Option Expr) (t : DO) : Prop where
  out : PO X e (lowO X.K t)
def oNo : DO := fun _ G Q => Q none G
def oPart (t : DE) : DO := fun s G Q => t s G fun d G1 => match d with
  | .int i => Q (some i) G1
  | _ => False
theorem _root_.L2.PO.weak {o : Option Expr} {t t' : TO} (h : PO X o t) (f : ∀ σ H Q, t' σ H Q → t σ H Q) : PO X o t' := ⟨fun pins s σ H Q I q => h.run pins s σ H Q I (f _ _ _ q)⟩
theorem pod_none : POD X none oNo := ⟨po_none.weak fun σ H Q ⟨F, s, G, R, rs, rg, q, p⟩ => p _ G _ Step.refl rg q⟩
theorem pod_some (h : PED X e te) : POD X (some e) (oPart te) := by
  refine ⟨(po_some h.out).weak fun σ H Q ⟨F, s, G, R, rs, rg, q, p⟩ => ?_⟩
  refine ⟨F, s, G, _, rs, rg, q, fun d G1 x H1 st rx rg1 q1 => ?_⟩
  cases rx <;> first | exact ⟨_, rfl, p _ G1 H1 st rg1 q1⟩ | exact q1.elim
def cutL {α : Type} (xs : List α) (lo hi : Option Int) : List α := (xs.drop (HT.sIx xs.length 0 lo)).take (HT.sIx xs.length xs.length hi - HT.sIx xs.length 0 lo)
abbrev DSl := D → Option Int → Option Int → DH → DK → Prop
def rSl : DSl := fun d lo hi G Q => match res G d with
  | .lst ds => Q (.lst (cutL ds lo hi)) G
  | .tup ds => Q (.tup (cutL ds lo hi)) G
  | .str z => z.length ≤ sizeLine ∧ Q (.str (cutS z lo hi)) G
  | .scr ns => Q (.lst ((cutL ns lo hi).map D.int)) G
  | _ => False
def dSlice (r : DSl) (te : DE) (tl th : DO) : DE := fun s G Q => te s G fun d G1 => tl s G1 fun lo G2 => th s G2 fun hi G3 => r d lo hi G3 Q
def lowSl (K : PySem.W.Frag) (r : DSl) : V → Option Int → Option Int → Hp → VK → Prop := fun x lo hi H Q => ∃ F d G R, Rep K H (Own F G) x d ∧ RepG K H F G ∧ r d lo hi G R ∧ Post K F G H R Q
theorem RepL.cut {K : PySem.W.Frag} {H : Hp} {O : Addr → Prop} {xs : List V} {ds : List D} (r : RepL K H O xs ds) (lo hi : Option Int) : RepL K H O (cutV xs lo hi) (cutL ds lo hi) := by
  unfold cutV cutL
  rw [r.len]
  exact (r.drop _).take _
theorem cut_ints (ns : List Int) (lo hi : Option Int) : cutV (ns.map V.int) lo hi = (cutL ns lo hi).map V.int := by
  unfold cutV cutL
  rw [List.length_map, ← List.map_drop, ← List.map_take]
theorem sl_d : SlR X (lowSl X.K rSl) := by
  intro pins s σ H x v vl vu lo hi sl Q I rx hs h1 h2 ⟨F, d, G, R, qx, rg, q, p⟩
  unfold rSl at q
  cases hd : res G d with
  | lst ds =>
    rw [hd] at q
    obtain ⟨a, xs, rfl, h, r⟩ := lst_at rg qx hd
    exact sl_list pins s σ H _ v vl vu lo hi sl Q I rx hs h1 h2 ⟨a, xs, rfl, SqL.of h, new_lst p rg (r.cut lo hi) q⟩
  | tup ds =>
    rw [hd] at q
    cases res_not hd (fun _ z => nomatch z)
    obtain ⟨a, xs, rfl, h, r⟩ := tup_at qx
    refine sl_tupA pins s σ H _ v vl vu lo hi sl Q I rx hs h1 h2 ⟨a, xs, rfl, h, fun hc => ?_, fun _ => new_tup p rg (r.cut lo hi) q⟩
    have e : cutL ds lo hi = ds := by
      unfold cutL
      rw [r.len] at hc
      rw [hc.1, hc.2, List.drop_zero, Nat.sub_zero, List.take_length]
    have q : R (.tup (cutL ds lo hi)) G := q
    rw [e] at q
    exact p.here rg qx q
  | str z =>
    rw [hd] at q
    cases res_not hd (fun _ z => nomatch z)
    cases qx
    exact sl_str pins s σ H _ v vl vu lo hi sl Q I rx hs h1 h2 ⟨z, rfl, q.1, p.here rg (.str _) q.2⟩
  | scr ns =>
    rw [hd] at q
    cases res_not hd (fun _ z => nomatch z)
    have key : ∀ a, x = .ref a → SqL X.K H a (ns.map V.int) → _ := fun a ex h => by
      subst ex
      exact sl_list pins s σ H _ v vl vu lo hi sl Q I rx hs h1 h2 ⟨a, _, rfl, h, by rw [cut_ints]; exact new_lst p rg (RepL.ints _) q⟩
    cases qx with
    | scr h n => exact key _ rfl (.inl h)
    | scrK h => exact key _ rfl (.inr h)
  | _ => rw [hd] at q; exact q.elim
theorem ped_slice {lo hi : Option Expr} {tl th : DO} {p2 : Pos} (he : PED X e te) (hl : POD X lo tl) (hu : POD X hi th) : PED X (.Subscript e (.Slice lo hi none p2) pos) (dSlice rSl te tl th) := by
  refine ⟨(pe_slice sl_d he.out hl.out hu.out).weak fun σ H Q ⟨F, s, G, R, rs, rg, q, p⟩ => ?_⟩
  refine ⟨F, s, G, _, rs, rg, q, fun d G1 x H1 st rx rg1 q1 => ?_⟩
  refine ⟨F, s, G1, _, rs.step st, rg1, q1, fun lo G2 H2 st2 rg2 q2 => ?_⟩
  exact ⟨F, s, G2, _, (rs.step st).step st2, rg2, q2, fun hi G3 H3 st3 rg3 q3 => ⟨F, d, G3, R, (rx.step st2).step st3, rg3, q3, p.step ((st.trans st2).trans st3)⟩⟩
/-- [::-1] of a list -/
def rRev : DR1 := fun d G Q => match res G d with
  | .lst ds => Q (.lst ds.reverse) G
  | _ => False
theorem ped_rev {k : Nat} {p1 p2 p3 : Pos} (he : PED X e te) : PED X (.Subscript e (.Slice none none (some (.UnaryOp .USub (.Constant (.int 1) k p1) p2)) p3) pos) (dUn rRev te) := by
  refine ⟨(pe_revL he.out).weak fun σ H Q ⟨F, s, G, R, rs, rg, q, p⟩ => ?_⟩
  refine ⟨F, s, G, _, rs, rg, q, fun d G1 x H1 st rx rg1 q1 => ?_⟩
  unfold rRev at q1
  cases hd : res G1 d with
  | lst ds =>
    rw [hd] at q1
    obtain ⟨a, xs, rfl, h, r⟩ := lst_at rg1 rx hd
    exact ⟨a, xs, rfl, SqL.of h, new_lst (p.step st) rg1 r.rev q1⟩
  | _ => rw [hd] at q1; exact q1.elim

/-! ### calls of built-ins -/
def dCall (r : DRs) (ta : DA) : DE := fun s G Q => ta s G fun ds G1 => r ds G1 Q
theorem low_call {K : PySem.W.Frag} {r : DRs} {σ : L2.St} {H : Hp} {Q : VK} (h : low K (dCall r tr) σ H Q) : tCB (lowC K r) (lowA K tr) σ H Q := by
  obtain ⟨F, s, G, R, rs, rg, q, p⟩ := h
  exact ⟨F, s, G, _, rs, rg, q, fun ds G1 xs H1 st rx rg1 q1 => ⟨F, ds, G1, R, rx, rg1, q1, p.step st⟩⟩
theorem ped_callB {id : String} {x : Str} {p : Pos} {r : DRs} (hc : CallD X (.builtin id) r) (hg : Gl X x) (hm : X.mg x = none) (hv : bootBuiltins x = some (.builtin id)) (ha : PAD X (e :: es) tr) (hn : x ≠ "__name__" := by decide) (hdb : (x == ("__debug__" : Str)) = false := by decide)
    (he : starEach (e :: es) X.env = (false, eval e X.env) :: starEach es X.env := by rfl) (hpl : (backTo pos (starEach es X.env)).any (·.1) = false := by rfl) : PED X (.Call (.Name x p) (e :: es) [] pos) (dCall r tr) :=
  ⟨(pe_callB hc.out hg hm hv ha.out hn hdb he hpl).weak fun _ _ _ h => low_call h⟩
theorem ped_callTy {T : String} {x : Str} {p : Pos} {r : DRs} (hc : CallD X (.type T) r) (hg : Gl X x) (hm : X.mg x = none) (hv : bootBuiltins x = some (.type T)) (ha : PAD X (e :: es) tr) (hn : x ≠ "__name__" := by decide) (hdb : (x == ("__debug__" : Str)) = false := by decide)
    (he : starEach (e :: es) X.env = (false, eval e X.env) :: starEach es X.env := by rfl) (hpl : (backTo pos (starEach es X.env)).any (·.1) = false := by rfl) : PED X (.Call (.Name x p) (e :: es) [] pos) (dCall r tr) :=
  ⟨(pe_callTy hc.out hg hm hv ha.out hn hdb he hpl).weak fun _ _ _ h => low_call h⟩
def cAbs : DRs := fun ds G Q => match ds with
  | [.int i] => Q (.int (if i < 0 then -i else i)) G
  | _ => False
def cMax2 : DRs := fun ds G Q => match ds with
  | [.int i, .int j] => Q (.int (if j > i then j else i)) G
  | _ => False
def cMin2 : DRs := fun ds G Q => match ds with
  | [.int i, .int j] => Q (.int (if j < i then j else i)) G
  | _ => False
def cInt : DRs := fun ds G Q => match ds with
  | [.int i] => Q (.int i) G
  | [.bl k] => Q (.int (if k then 1 else 0)) G
  | _ => False
theorem cdAbs : CallD X (.builtin "abs") cAbs := by
  refine ⟨fun pins s σ H xs us Q I r ⟨F, ds, G, R, rx, rg, q, p⟩ => ?_⟩
  unfold cAbs at q
  split at q <;> try exact q.elim
  cases rx with
  | cons r1 r2 =>
    cases r1; cases r2
    exact call_abs pins s σ H _ us Q I r ⟨_, rfl, p.here rg (.int _) q⟩
theorem cdMax2 (hc : X.calm = true) : CallD X (.builtin "max") cMax2 := by
  refine ⟨fun pins s σ H xs us Q I r ⟨F, ds, G, R, rx, rg, q, p⟩ => ?_⟩
  unfold cMax2 at q
  split at q <;> try exact q.elim
  cases rx with
  | cons r1 r2 =>
    cases r2 with
    | cons r2 r3 =>
      cases r1; cases r2; cases r3
      exact call_max2 hc pins s σ H _ us Q I r ⟨_, _, rfl, p.here rg (.int _) q⟩
theorem cdMin2 (hc : X.calm = true) : CallD X (.builtin "min") cMin2 := by
  refine ⟨fun pins s σ H xs us Q I r ⟨F, ds, G, R, rx, rg, q, p⟩ => ?_⟩
  unfold cMin2 at q
  split at q <;> try exact q.elim
  cases rx with
  | cons r1 r2 =>
    cases r2 with
    | cons r2 r3 =>
      cases r1; cases r2; cases r3
      exact call_min2 hc pins s σ H _ us Q I r ⟨_, _, rfl, p.here rg (.int _) q⟩
theorem cdInt : CallD X (.type "int") cInt := by
  refine ⟨fun pins s σ H xs us Q I r ⟨F, ds, G, R, rx, rg, q, p⟩ => ?_⟩
  unfold cInt at q
  split at q <;> try exact q.elim
  · cases rx with
    | cons r1 r2 => cases r1; cases r2; exact call_int1 pins s σ H _ us Q I r (.inl ⟨_, rfl, p.here rg (.int _) q⟩)
  · cases rx with
    | cons r1 r2 => cases r1; cases r2; exact call_int1 pins s σ H _ us Q I r (.inr ⟨_, rfl, p.here rg (.int _) q⟩)
/-- a list of ints -/
def intsD : List D → Option (List Int)
  | [] => some []
  | .int i :: ds => (intsD ds).map (i :: ·)
  | _ => none
theorem intsD_eq : ∀ {ds : List D} {ns : List Int}, intsD ds = some ns → ds = ns.map D.int
  | [], _, h => by cases h; rfl
  | .int i :: ds, ns, h => by
    simp only [intsD] at h
    cases q : intsD ds with
    | none => rw [q] at h; cases h
    | some ms => rw [q] at h; cases h; rw [intsD_eq q]; rfl
theorem intsD_map : ∀ ns : List Int, intsD (ns.map D.int) = some ns
  | [] => rfl
  | n :: ns => by simp only [List.map_cons, intsD, intsD_map ns, Option.map_some]
def boolsD : List D → Option (List Bool)
  | [] => some []
  | .bl i :: ds => (boolsD ds).map (i :: ·)
  | _ => none
theorem boolsD_eq : ∀ {ds : List D} {ns : List Bool}, boolsD ds = some ns → ds = ns.map D.bl
  | [], _, h => by cases h; rfl
  | .bl i :: ds, ns, h => by
    simp only [boolsD] at h
    cases q : boolsD ds with
    | none => rw [q] at h; cases h
    | some ms => rw [q] at h; cases h; rw [boolsD_eq q]; rfl
theorem boolsD_map : ∀ ns : List Bool, boolsD (ns.map D.bl) = some ns
  | [] => rfl
  | n :: ns => by simp only [List.map_cons, boolsD, boolsD_map ns, Option.map_some]
theorem RepL.bools_of {K : PySem.W.Frag} {H : Hp} {O : Addr → Prop} : ∀ {ns : List Bool} {vs : List V}, RepL K H O vs (ns.map D.bl) → vs = ns.map V.bl
  | [], _, .nil => rfl
  | n :: ns, _, .cons r t => by cases r; rw [RepL.bools_of t]; rfl
/-- a function of a list of ints that stands as a list -/
def cInts (C : List Int → Prop) (f : List Int → DK → DH → Prop) : DRs := fun ds G Q => match ds with
  | [d] => match res G d with
    | .lst es => match intsD es with
      | some ns => C ns ∧ f ns Q G
      | none => False
    | _ => False
  | _ => False
theorem cInts_inv {K : PySem.W.Frag} {H : Hp} {F : Hid} {G : DH} {R : DK} {C : List Int → Prop} {f : List Int → DK → DH → Prop} {xs : List V} {ds : List D} (rg : RepG K H F G) (rx : RepL K H (Own F G) xs ds) (q : cInts C f ds G R) :
    ∃ a ns, xs = [.ref a] ∧ H a = some (.lst (ns.map V.int)) ∧ C ns ∧ f ns R G := by
  unfold cInts at q
  split at q <;> try exact q.elim
  split at q <;> try exact q.elim
  split at q <;> try exact q.elim
  rename_i he _ ns hn
  cases rx with
  | cons r1 r2 =>
    cases r2
    obtain ⟨a, ys, rfl, h, r⟩ := lst_at rg r1 he
    rw [intsD_eq hn] at r
    rw [r.ints_of] at h
    exact ⟨a, ns, rfl, h, q⟩
def cSum : DRs := cInts (fun _ => True) fun ns Q G => Q (.int ns.sum) G
def cMaxL : DRs := cInts (fun ns => 0 < ns.length) fun ns Q G => ∀ m, m ∈ ns → (∀ y, y ∈ ns → y ≤ m) → Q (.int m) G
def cMinL : DRs := cInts (fun ns => 0 < ns.length) fun ns Q G => ∀ m, m ∈ ns → (∀ y, y ∈ ns → m ≤ y) → Q (.int m) G
theorem cdSum (hc : X.calm = true) : CallD X (.builtin "sum") cSum := by
  refine ⟨fun pins s σ H xs us Q I r ⟨F, ds, G, R, rx, rg, q, p⟩ => ?_⟩
  obtain ⟨a, ns, rfl, h, _, q⟩ := cInts_inv rg rx q
  exact cr_sum hc pins s σ H _ us Q I r ⟨a, ns, rfl, SqL.of h, p.here rg (.int _) q⟩
theorem cdMaxL (hc : X.calm = true) : CallD X (.builtin "max") cMaxL := by
  refine ⟨fun pins s σ H xs us Q I r ⟨F, ds, G, R, rx, rg, q, p⟩ => ?_⟩
  obtain ⟨a, ns, rfl, h, z, q⟩ := cInts_inv rg rx q
  exact cr_max hc pins s σ H _ us Q I r ⟨a, ns, rfl, SqL.of h, z, fun m h1 h2 => p.here rg (.int _) (q m h1 h2)⟩
theorem cdMinL (hc : X.calm = true) : CallD X (.builtin "min") cMinL := by
  refine ⟨fun pins s σ H xs us Q I r ⟨F, ds, G, R, rx, rg, q, p⟩ => ?_⟩
  obtain ⟨a, ns, rfl, h, z, q⟩ := cInts_inv rg rx q
  exact cr_min hc pins s σ H _ us Q I r ⟨a, ns, rfl, SqL.of h, z, fun m h1 h2 => p.here rg (.int _) (q m h1 h2)⟩
def cBools (f : List Bool → Bool) : DRs := fun ds G Q => match ds with
  | [d] => match res G d with
    | .lst es => match boolsD es with
      | some ns => Q (.bl (f ns)) G
      | none => False
    | _ => False
  | _ => False
theorem cBools_inv {K : PySem.W.Frag} {H : Hp} {F : Hid} {G : DH} {R : DK} {f : List Bool → Bool} {xs : List V} {ds : List D} (rg : RepG K H F G) (rx : RepL K H (Own F G) xs ds) (q : cBools f ds G R) :
    ∃ a ns, xs = [.ref a] ∧ H a = some (.lst (ns.map V.bl)) ∧ R (.bl (f ns)) G := by
  unfold cBools at q
  split at q <;> try exact q.elim
  split at q <;> try exact q.elim
  split at q <;> try exact q.elim
  rename_i he _ ns hn
  cases rx with
  | cons r1 r2 =>
    cases r2
    obtain ⟨a, ys, rfl, h, r⟩ := lst_at rg r1 he
    rw [boolsD_eq hn] at r
    rw [r.bools_of] at h
    exact ⟨a, ns, rfl, h, q⟩
theorem cdAll (hc : X.calm = true) : CallD X (.builtin "all") (cBools fun bs => bs.all id) := by
  refine ⟨fun pins s σ H xs us Q I r ⟨F, ds, G, R, rx, rg, q, p⟩ => ?_⟩
  obtain ⟨a, ns, rfl, h, q⟩ := cBools_inv rg rx q
  exact cr_all hc pins s σ H _ us Q I r ⟨a, ns, rfl, SqL.of h, p.here rg (.bl _) q⟩
theorem cdAny (hc : X.calm = true) : CallD X (.builtin "any") (cBools fun bs => bs.any id) := by
  refine ⟨fun pins s σ H xs us Q I r ⟨F, ds, G, R, rx, rg, q, p⟩ => ?_⟩
  obtain ⟨a, ns, rfl, h, q⟩ := cBools_inv rg rx q
  exact cr_any hc pins s σ H _ us Q I r ⟨a, ns, rfl, SqL.of h, p.here rg (.bl _) q⟩
def cLen : DRs := fun ds G Q => match ds with
  | [d] => match res G d with
    | .lst es => Q (.int es.length) G
    | .tup es => Q (.int es.length) G
    | .str z => z.length ≤ sizeLine ∧ Q (.int z.length) G
    | .scr ns => Q (.int ns.length) G
    | _ => False
  | _ => False
theorem cdLen : CallD X (.builtin "len") cLen := by
  refine ⟨fun pins s σ H xs us Q I r ⟨F, ds, G, R, rx, rg, q, p⟩ => ?_⟩
  unfold cLen at q
  split at q <;> try exact q.elim
  cases rx with
  | cons r1 r2 =>
    cases r2
    split at q <;> try exact q.elim
    · rename_i he
      obtain ⟨a, ys, rfl, h, r'⟩ := lst_at rg r1 he
      exact call_len_seq pins s σ H _ us Q I r ⟨a, ys, rfl, .inl (SqL.of h), by rw [r'.len]; exact p.here rg (.int _) q⟩
    · rename_i he
      cases res_not he (fun _ z => nomatch z)
      obtain ⟨a, ys, rfl, h, r'⟩ := tup_at r1
      exact call_len_seq pins s σ H _ us Q I r ⟨a, ys, rfl, .inr h, by rw [r'.len]; exact p.here rg (.int _) q⟩
    · rename_i he
      cases res_not he (fun _ z => nomatch z)
      cases r1
      exact call_len_str pins s σ H _ us Q I r ⟨_, rfl, q.1, p.here rg (.int _) q.2⟩
    · rename_i he
      cases res_not he (fun _ z => nomatch z)
      cases r1 with
      | scr h n => exact call_len_seq pins s σ H _ us Q I r ⟨_, _, rfl, .inl (.inl h), by rw [List.length_map]; exact p.here rg (.int _) q⟩
      | scrK h => exact call_len_seq pins s σ H _ us Q I r ⟨_, _, rfl, .inl (.inr h), by rw [List.length_map]; exact p.here rg (.int _) q⟩
def cTuple : DRs := fun ds G Q => match ds with
  | [d] => match res G d with
    | .lst es => Q (.tup es) G
    | .tup es => Q (.tup es) G
    | _ => False
  | _ => False
theorem cdTuple : CallD X (.type "tuple") cTuple := by
  refine ⟨fun pins s σ H xs us Q I r ⟨F, ds, G, R, rx, rg, q, p⟩ => ?_⟩
  unfold cTuple at q
  split at q <;> try exact q.elim
  cases rx with
  | cons r1 r2 =>
    cases r2
    split at q <;> try exact q.elim
    · rename_i he
      obtain ⟨a, ys, rfl, h, r'⟩ := lst_at rg r1 he
      exact call_tuple_of pins s σ H _ us Q I r ⟨a, ys, rfl, .inl ⟨SqL.of h, new_tup p rg r' q⟩⟩
    · rename_i he
      cases res_not he (fun _ z => nomatch z)
      obtain ⟨a, ys, rfl, h, r'⟩ := tup_at r1
      exact call_tuple_of pins s σ H _ us Q I r ⟨a, ys, rfl, .inr ⟨h, p.here rg r1 q⟩⟩
def cDivmod : DRs := fun ds G Q => match ds with
  | [.int i, .int j] => CDiv i j ∧ Q (.tup [.int (i / j), .int (i % j)]) G
  | _ => False
theorem cdDivmod : CallD X (.builtin "divmod") cDivmod := by
  refine ⟨fun pins s σ H xs us Q I r ⟨F, ds, G, R, rx, rg, q, p⟩ => ?_⟩
  unfold cDivmod at q
  split at q <;> try exact q.elim
  cases rx with
  | cons r1 r2 =>
    cases r2 with
    | cons r2 r3 =>
      cases r1; cases r2; cases r3
      exact call_divmod pins s σ H _ us Q I r ⟨_, _, rfl, q.1, new_tup p rg (RepL.cons (.int _) (.one (.int _))) q.2⟩
/-- list(x), new -/
def fListOf (te : DE) : DF := fun s G Q => te s G fun d G1 => match res G1 d with
  | .lst es => Q es G1
  | .tup es => Q es G1
  | .scr ns => Q (ns.map D.int) G1
  | _ => False
theorem pef_list {p : Pos} (hg : Gl X "list") (hm : X.mg "list" = none) (ha : PED X e te) (he : starEach [e] X.env = (false, eval e X.env) :: starEach [] X.env := by rfl) : PEF X (.Call (.Name "list" p) [e] [] pos) (fListOf te) := by
  refine ⟨(pe_callTy call_list_of hg hm (by decide +kernel) (pa_cons ha.out pa_nil he) (by decide) (by decide) he rfl).weak fun σ H Q ⟨F, s, G, R, rs, rg, q, p⟩ => ?_⟩
  refine ⟨F, s, G, _, rs, rg, q, fun d G1 x H1 st rx rg1 q1 => ?_⟩
  show ∃ p ys, [x] = [.ref p] ∧ _
  have p' : PostF X.K F G1 H1 R Q := PostF.step p st
  cases he : res G1 d with
  | lst es =>
    simp only [he] at q1
    obtain ⟨a, ys, rfl, h, r'⟩ := lst_at rg1 rx he
    exact ⟨a, ys, rfl, .inl (SqL.of h), new_fresh p' rg1 r' q1⟩
  | tup es =>
    simp only [he] at q1
    cases res_not he (fun _ z => nomatch z)
    obtain ⟨a, ys, rfl, h, r'⟩ := tup_at rx
    exact ⟨a, ys, rfl, .inr h, new_fresh p' rg1 r' q1⟩
  | scr ns =>
    simp only [he] at q1
    cases res_not he (fun _ z => nomatch z)
    cases rx with
    | scr h n => exact ⟨_, _, rfl, .inl (.inl h), new_fresh p' rg1 (RepL.ints _) q1⟩
    | scrK h => exact ⟨_, _, rfl, .inl (.inr h), new_fresh p' rg1 (RepL.ints _) q1⟩
  | _ => simp only [he] at q1
end
end L2.Ew

set_option Elab.async false
set_option linter.all false
set_option maxRecDepth 100000
set_option maxHeartbeats 4000000
/-! Targets, walks, loops, comprehensions, statements over data. -/
namespace L2.Ew
open PySem PySem.Spec PySem.SeqAt PyProof.Rows
/-! ### targets -/
abbrev DG := D → DS → DH → (DS → DH → Prop) → Prop
abbrev DGs := List D → DS → DH → (DS → DH → Prop) → Prop
def PostG (K : PySem.W.Frag) (vs : List Nat) (F : Hid) (G : DH) (H : Hp) (σ : L2.St) (R : DS → DH → Prop) (Q : L2.St → Hp → Prop) : Prop :=
  ∀ s' G' σ' H', Step G H G' H' → RepS K H' (Own F G') σ' s' → RepG K H' F G' → wipe σ' vs = wipe σ vs → R s' G' → Q σ' H'
def lowG (K : PySem.W.Frag) (vs : List Nat) (g : DG) : TG := fun v σ H Q => ∃ F d s G R, Rep K H (Own F G) v d ∧ RepS K H (Own F G) σ s ∧ RepG K H F G ∧ g d s G R ∧ PostG K vs F G H σ R Q
def lowGs (K : PySem.W.Frag) (vs : List Nat) (g : DGs) : TGs := fun v σ H Q => ∃ F d s G R, RepL K H (Own F G) v d ∧ RepS K H (Own F G) σ s ∧ RepG K H F G ∧ g d s G R ∧ PostG K vs F G H σ R Q
structure PGD (X : Cx) (tg : Expr) (vs : List Nat) (g : DG) : Prop where
  out : PG X tg (lowG X.K vs g)
structure PGsD (X : Cx) (tg : List Expr) (vs : List Nat) (g : DGs) : Prop where
  out : PGs X tg (lowGs X.K vs g)
theorem wipe_comm : ∀ (vs : List Nat) (σ : L2.St) (i : Nat), wipe (σ.set i none) vs = (wipe σ vs).set i none
  | [], _, _ => rfl
  | v :: vs, σ, i => by
    show (wipe (σ.set i none) vs).set v none = ((wipe σ vs).set v none).set i none
    rw [wipe_comm vs]
    by_cases e : i = v
    · subst e; rfl
    · rw [List.set_comm _ _ e]
theorem wipe_set : ∀ (vs : List Nat) (σ : L2.St) (i : Nat) (x : Option V), i ∈ vs → wipe (σ.set i x) vs = wipe σ vs
  | v :: vs, σ, i, x, h => by
    show (wipe (σ.set i x) vs).set v none = (wipe σ vs).set v none
    by_cases e : i = v
    · subst e
      rw [← wipe_comm, ← wipe_comm, List.set_set]
    · rw [wipe_set vs σ i x ((List.mem_cons.mp h).resolve_left e)]
section
variable {X : Cx} {e a b l : Expr} {es : List Expr} {pos : Pos} {te ta tb : DE} {tr : DA} {vs : List Nat}
theorem _root_.L2.PG.weak {tg : Expr} {t t' : TG} (h : PG X tg t) (f : ∀ v σ H Q, t' v σ H Q → t v σ H Q) : PG X tg t' := ⟨fun pins s σ H v u Q I r q => h.run pins s σ H v u Q I r (f _ _ _ _ q)⟩
theorem _root_.L2.PGs.weak {tg : List Expr} {t t' : TGs} (h : PGs X tg t) (f : ∀ v σ H Q, t' v σ H Q → t v σ H Q) : PGs X tg t' := ⟨fun pins s σ H v u Q I r q => h.run pins s σ H v u Q I r (f _ _ _ _ q)⟩
def gN (i : Nat) : DG := fun d s G Q => Q (s.set i (some d)) G
theorem pgd_name {i : Nat} {x : Str} (hN : X.N.Nodup) (hi : X.N[i]? = some x) (hx : Loc X.env.scope x) (hv : i ∈ vs := by decide) (hf : X.fn x = true ∨ X.env.scope.names.lookup x = some .local := by first | exact .inl rfl | exact .inr rfl | assumption) : PGD X (.Name x pos) vs (gN i) :=
  ⟨(pg_name hN hi hx hf).weak fun v σ H Q ⟨F, d, s, G, R, rd, rs, rg, q, p⟩ => p _ G _ H Step.refl (rs.set rd i) rg (wipe_set vs σ i _ hv) q⟩
def gN0 : DGs := fun ds s G Q => match ds with
  | [] => Q s G
  | _ => False
def gNc (g : DG) (u : DGs) : DGs := fun ds s G Q => match ds with
  | d :: r => g d s G fun s1 G1 => u r s1 G1 Q
  | _ => False
theorem pgsd_nil : PGsD X [] vs gN0 := ⟨pgs_nil.weak fun v σ H Q ⟨F, d, s, G, R, rd, rs, rg, q, p⟩ => by
  cases rd with
  | nil => exact ⟨rfl, p _ G _ H Step.refl rs rg rfl q⟩
  | cons _ _ => exact q.elim⟩
theorem pgsd_cons {g : DG} {u : DGs} (h1 : PGD X e vs g) (h2 : PGsD X es vs u) (hs : (assignEach (e :: es) X.env).map (·.2) = assign e X.env :: (assignEach es X.env).map (·.2) := by rfl) : PGsD X (e :: es) vs (gNc g u) := by
  refine ⟨(pgs_cons h1.out h2.out hs).weak fun v σ H Q ⟨F, d, s, G, R, rd, rs, rg, q, p⟩ => ?_⟩
  cases rd with
  | nil => exact q.elim
  | @cons v vs' d ds r t =>
    refine ⟨v, vs', rfl, F, d, s, G, _, r, rs, rg, q, fun s1 G1 σ1 H1 st rs1 rg1 w1 q1 => ?_⟩
    exact ⟨F, ds, s1, G1, R, t.step st, rs1, rg1, q1, fun s2 G2 σ2 H2 st2 rs2 rg2 w2 q2 => p _ _ _ _ (st.trans st2) rs2 rg2 (w2.trans w1) q2⟩
def gT (n : Nat) (u : DGs) : DG := fun d s G Q => match d with
  | .tup ds => ds.length = n ∧ u ds s G Q
  | _ => False
theorem pgd_tup {k : Nat} {u : DGs} {n : Nat} (hc : X.calm = true) (h : PGsD X es vs u) (hn : (assignEach es X.env).length = n := by rfl) (hst : (assignEach es X.env).findIdx? (·.1) = none := by rfl) : PGD X (.Tuple es k pos) vs (gT n u) := by
  refine ⟨(pg_tup hc h.out hn hst).weak fun v σ H Q ⟨F, d, s, G, R, rd, rs, rg, q, p⟩ => ?_⟩
  unfold gT at q
  split at q <;> try exact q.elim
  obtain ⟨c, xs, rfl, hq, r⟩ := tup_at rd
  exact ⟨c, xs, rfl, hq, by rw [r.len]; exact q.1, F, _, s, G, R, r, rs, rg, q.2, p⟩
/-- a list unpacked -/
def gL (n : Nat) (u : DGs) : DG := fun d s G Q => match res G d with
  | .lst ds => ds.length = n ∧ u ds s G Q
  | _ => False
theorem pgd_lst {k : Nat} {u : DGs} {n : Nat} (hc : X.calm = true) (h : PGsD X es vs u) (hn : (assignEach es X.env).length = n := by rfl) (hst : (assignEach es X.env).findIdx? (·.1) = none := by rfl) : PGD X (.Tuple es k pos) vs (gL n u) := by
  refine ⟨(pg_unl hc h.out hn hst).weak fun v σ H Q ⟨F, d, s, G, R, rd, rs, rg, q, p⟩ => ?_⟩
  unfold gL at q
  split at q <;> try exact q.elim
  rename_i he
  obtain ⟨c, xs, rfl, hq, r⟩ := lst_at rg rd he
  exact ⟨c, xs, rfl, SqL.of hq, by rw [r.len]; exact q.1, F, _, s, G, R, r, rs, rg, q.2, p⟩

/-! ### statements -/
variable {st : Stmt} {rest : List Stmt} {t u : DT}
theorem psd_expr (he : PED X e te) (hs : swapsWith e none pos.line X.env = pure false := by rfl) : PSD X (.Expr e pos) (fun D s G => te s G fun _ G1 => D.nx s G1) := by
  refine ⟨(ps_expr he.out hs).weak fun D σ H ⟨F, s, G, R, rs, rg, q, p⟩ => ?_⟩
  exact ⟨F, s, G, _, rs, rg, q, fun d G1 x H1 st rx rg1 q1 => p.nx _ _ _ _ st (rs.step st) rg1 q1⟩
def dDrop (te : DE) : DT := fun D s G => te s G fun _ G1 => D.nx s G1
def dNext : DT := fun D s G => D.nx s G
def dSeq (t u : DT) : DT := fun D s G => t { D with nx := u D } s G
def dBreak : DT := fun D s G => D.bk s G
def dCont : DT := fun D s G => D.ct s G
def dRet (te : DE) : DT := fun D s G => te s G D.rt
def dRetN : DT := fun D _ G => D.rt .non G
def dIfS (c : DTT) (t u : DT) : DT := fun D s G => c s G fun b G1 => if b = true then t D s G1 else u D s G1
def dAsg (te : DE) (g : DG) : DT := fun D s G => te s G fun d G1 => g d s G1 D.nx
theorem pssd_nil : PSsD X [] dNext := ⟨pss_nil.weak fun D σ H ⟨F, s, G, R, rs, rg, q, p⟩ => p.nx _ _ _ _ Step.refl rs rg q⟩
theorem pssd_cons (h1 : PSD X st t) (h2 : PSsD X rest u) : PSsD X (st :: rest) (dSeq t u) := by
  refine ⟨(pss_cons h1.out h2.out).weak fun D σ H ⟨F, s, G, R, rs, rg, q, p⟩ => ?_⟩
  refine ⟨F, s, G, _, rs, rg, q, ⟨fun s1 G1 σ1 H1 st1 rs1 rg1 q1 => ⟨F, s1, G1, R, rs1, rg1, q1, p.step st1⟩, p.rt, p.bk, p.ct⟩⟩
theorem pssd_one (h1 : PSD X st t) : PSsD X [st] t := ⟨pss_one h1.out⟩
theorem psd_pass : PSD X (.Pass pos) dNext := ⟨ps_pass.weak fun D σ H ⟨F, s, G, R, rs, rg, q, p⟩ => p.nx _ _ _ _ Step.refl rs rg q⟩
theorem psd_break : PSD X (.Break pos) dBreak := ⟨ps_break.weak fun D σ H ⟨F, s, G, R, rs, rg, q, p⟩ => p.bk _ _ _ _ Step.refl rs rg q⟩
theorem psd_cont : PSD X (.Continue pos) dCont := ⟨ps_continue.weak fun D σ H ⟨F, s, G, R, rs, rg, q, p⟩ => p.ct _ _ _ _ Step.refl rs rg q⟩
theorem psd_drop (he : PED X e te) (hs : swapsWith e none pos.line X.env = pure false := by rfl) : PSD X (.Expr e pos) (dDrop te) := psd_expr he hs
theorem psd_ret (he : PED X e te) : PSD X (.Return (some e) pos) (dRet te) := by
  refine ⟨(ps_ret he.out).weak fun D σ H ⟨F, s, G, R, rs, rg, q, p⟩ => ?_⟩
  exact ⟨F, s, G, _, rs, rg, q, p.rt⟩
theorem psd_retN : PSD X (.Return none pos) dRetN := ⟨ps_retN.weak fun D σ H ⟨F, s, G, R, rs, rg, q, p⟩ => p.rt _ _ _ _ Step.refl .non rg q⟩
theorem psd_if {c : Expr} {xs ys : List Stmt} {tc : DTT} (hc : PTD X c tc) (ha : PSsD X xs t) (hb : PSsD X ys u) : PSD X (.If c xs ys pos) (dIfS tc t u) := by
  refine ⟨(ps_if hc.out ha.out hb.out).weak fun D σ H ⟨F, s, G, R, rs, rg, q, p⟩ => ?_⟩
  refine ⟨F, s, G, _, rs, rg, q, fun c G1 H1 st rg1 q1 => ?_⟩
  cases c with
  | true => rw [if_pos rfl] at q1 ⊢; exact ⟨F, s, G1, R, rs.step st, rg1, q1, p.step st⟩
  | false => rw [if_neg Bool.false_ne_true] at q1 ⊢; exact ⟨F, s, G1, R, rs.step st, rg1, q1, p.step st⟩
theorem psd_set {i : Nat} {x : Str} {pos' : Pos} (hN : X.N.Nodup) (hi : X.N[i]? = some x) (hx : Loc X.env.scope x) (he : PED X e te) (hs : swapsWith e (some (.Name x pos')) pos.line X.env = pure false := by rfl) (hf : X.fn x = true ∨ X.env.scope.names.lookup x = some .local := by first | exact .inl rfl | exact .inr rfl | assumption) :
    PSD X (.Assign [.Name x pos'] e pos) (dAsg te (gN i)) := by
  refine ⟨(ps_set hN hi hx he.out hs hf).weak fun D σ H ⟨F, s, G, R, rs, rg, q, p⟩ => ?_⟩
  exact ⟨F, s, G, _, rs, rg, q, fun d G1 x H1 st rx rg1 q1 => p.nx _ _ _ _ st ((rs.step st).set rx i) rg1 q1⟩
/-- a new list that may change: x = [..] -/
def dAsgL (t : DF) (i : Nat) : DT := fun D s G => t s G fun ds G1 => ∀ p, G1 p = none → D.nx (s.set i (some (.ptr p))) (uG G1 p (.lst ds))
theorem adopt_list {K : PySem.W.Frag} {F : Hid} {G G1 : DH} {H H1 : Hp} {p : Addr} {xs : List V} {ds : List D} (nF : ¬ F p) (st : Step G H G1 H1) (hn : H p = none) (h : H1 p = some (.lst xs)) (r : RepL K H1 (Own (F.add p) G1) xs ds) (g : RepG K H1 (F.add p) G1) :
    G1 p = none ∧ Step G H (uG G1 p (.lst ds)) H1 ∧ RepG K H1 F (uG G1 p (.lst ds)) := by
  have nfp := (g.hid p (.inr rfl)).2
  have hG : G1 p = none := by
    cases q : G1 p with
    | none => rfl
    | some o => exact absurd (.inl ⟨o, q⟩) nfp
  have hd : ∀ l ks, (MO.lst ds) ≠ .deck l ks := fun _ _ z => nomatch z
  have own : ∀ a, ¬ Own (F.add p) G1 a → ¬ Own F (uG G1 p (.lst ds)) a := fun a n z => by
    rcases z with z | z
    · exact n (.inl (.inl z))
    · rcases fp_uG hd z with z | z
      · exact n (.inl (.inr z))
      · exact n (.inr z)
  refine ⟨hG, ⟨fun a o e n => ⟨(st.at_ a o e n).1, fun z => ?_⟩, st.dom⟩, ⟨fun a o e => ?_, fun a l ks e => ?_, fun a b l ks ks' e1 e2 => ?_, fun a z => ?_⟩⟩
  · rcases fp_uG hd z with z | z
    · exact ne_of_none e hn z
    · exact (st.at_ a o e n).2 z
  · by_cases ea : a = p
    · subst ea
      rw [uG_same] at e
      cases e
      exact ⟨xs, h, r.imp fun b u e n => ⟨e, own b n⟩⟩
    · rw [uG_ne ea] at e
      exact (g.ob a o e).imp (fun b u e n => ⟨e, own b n⟩) rfl fun _ _ _ => rfl
  · by_cases ea : a = p
    · subst ea; rw [uG_same] at e; cases e
    · rw [uG_ne ea] at e
      have q := g.dk a l ks e
      by_cases el : l = p
      · subst el; exact absurd (.inr ⟨a, ks, e⟩) nfp
      · rw [uG_ne el]; exact q
  · have ha : a ≠ p := fun z => by subst z; rw [uG_same] at e1; cases e1
    have hb : b ≠ p := fun z => by subst z; rw [uG_same] at e2; cases e2
    rw [uG_ne ha] at e1; rw [uG_ne hb] at e2; exact g.dd a b l ks ks' e1 e2
  · obtain ⟨w, n⟩ := g.hid a (.inl z)
    refine ⟨w, fun q => ?_⟩
    rcases fp_uG hd q with rfl | q
    · exact nF z
    · exact n q
theorem psd_setL {t : DF} {i : Nat} {x : Str} {pos' : Pos} (hN : X.N.Nodup) (hi : X.N[i]? = some x) (hx : Loc X.env.scope x) (he : PEF X e t) (hs : swapsWith e (some (.Name x pos')) pos.line X.env = pure false := by rfl) (hf : X.fn x = true ∨ X.env.scope.names.lookup x = some .local := by first | exact .inl rfl | exact .inr rfl | assumption) :
    PSD X (.Assign [.Name x pos'] e pos) (dAsgL t i) := by
  refine ⟨(ps_set hN hi hx he.out hs hf).weak fun D σ H ⟨F, s, G, R, rs, rg, q, p⟩ => ?_⟩
  refine ⟨F, s, G, _, rs, rg, q, fun ds G1 H1 l xs st hn hl rx rg1 q1 => ?_⟩
  have nF : ¬ F l := fun z => by obtain ⟨⟨u, e, _⟩, _⟩ := rg.hid l z; rw [hn] at e; cases e
  obtain ⟨hG, st2, rg2⟩ := adopt_list nF st hn hl rx rg1
  exact p.nx _ _ _ _ st2 ((rs.step st2).set (.ptr l) i) rg2 (q1 l hG)
theorem psd_asg {tg : Expr} {g : DG} (he : PED X e te) (hg : PGD X tg vs g) (hs : swapsWithSole [tg] e pos.line X.env = pure false := by rfl) (hw : swappedStores [tg] e X.env = pure none := by rfl)
    (h1 : (assignEach [tg] X.env).map (·.2) = [assign tg X.env] := by rfl) : PSD X (.Assign [tg] e pos) (dAsg te g) := by
  refine ⟨(ps_asg he.out hg.out hs hw h1).weak fun D σ H ⟨F, s, G, R, rs, rg, q, p⟩ => ?_⟩
  exact ⟨F, s, G, _, rs, rg, q, fun d G1 x H1 st rx rg1 q1 => ⟨F, d, s, G1, _, rx, rs.step st, rg1, q1, fun s2 G2 σ2 H2 st2 rs2 rg2 _ q2 => p.nx _ _ _ _ (st.trans st2) rs2 rg2 q2⟩⟩

/-! ### what is walked -/
structure DWalk (K : PySem.W.Frag) (F : Hid) (J : It) (xs : List D) (gd : DH → Prop) (G0 : DH) (H0 : Hp) : Prop where
  go : ∀ i G H F', i < xs.length → gd G → RepG K H F' G → (∀ a o, H0 a = some o → ¬ Own F G0 a → H a = some o ∧ ¬ Own F' G a) → J.go i H
  stop : ∀ G H F', gd G → RepG K H F' G → (∀ a o, H0 a = some o → ¬ Own F G0 a → H a = some o ∧ ¬ Own F' G a) → J.stop xs.length H
  yld : ∀ i G H F' v H', i < xs.length → gd G → RepG K H F' G → (∀ a o, H0 a = some o → ¬ Own F G0 a → H a = some o ∧ ¬ Own F' G a) → J.yld i H v H' → ∃ d, xs[i]? = some d ∧ Step G H G H' ∧ RepG K H' F' G ∧ Rep K H' (Own F' G) v d
abbrev DI := DS → DH → (List D → (DH → Prop) → DH → Prop) → Prop
def lowI (K : PySem.W.Frag) (t : DI) : TI := fun σ H R => ∃ F s G Q, RepS K H (Own F G) σ s ∧ RepG K H F G ∧ t s G Q ∧ ∀ xs gd G1 J H1, Step G H G1 H1 → RepG K H1 F G1 → DWalk K F J xs gd G1 H1 → Q xs gd G1 → R J H1
structure PID (X : Cx) (tg iter : Expr) (t : DI) : Prop where
  out : PI X tg iter (lowI X.K t)
theorem _root_.L2.PI.weak {tg iter : Expr} {t t' : TI} (h : PI X tg iter t) (f : ∀ σ H Q, t' σ H Q → t σ H Q) : PI X tg iter t' := ⟨fun pins s σ H Q I q => h.run pins s σ H Q I (f _ _ _ q)⟩
/-- a list or a tuple -/
theorem pi_seq {tg : Expr} {tl : TE} (hl : PE X l tl) : PI X tg l (fun σ H R => tl σ H fun x H1 => (∃ a, x = .ref a ∧ (∃ xs, SqL X.K H1 a xs) ∧ R (Itl X.K a) H1) ∨ ∃ a, x = .ref a ∧ (∃ xs, SqT X.K H1 a xs) ∧ R (Itt X.K a) H1) := by
  refine ⟨fun pins s σ H R I h => ?_⟩
  refine thn (hl.run pins s σ H _ I h) fun v s1 ⟨x, H1, I1, r1, q1⟩ => ?_
  rcases q1 with ⟨a, e, ⟨xs, hq⟩, q⟩ | ⟨a, e, ⟨xs, hq⟩, q⟩
  · subst e
    cases r1
    obtain ⟨its, rv, p, hz⟩ := I1.list hq
    refine wpAny_pyIter_list p.isList ?_
    refine ⟨s1.heap.objs.size, [s1.heap.objs.size], _, _, H1, rfl, I1.kept (t' := s1.toks) fun b o e => Heap.get?_push_of_some _ e, turn_list a _, ⟨_, Heap.get?_push_size _ rfl, rfl, rfl⟩, fun b hb => ?_, q⟩
    have e : b = s1.heap.objs.size := by simpa using hb
    subst e
    exact I1.fpOk (Nat.le_refl _) (I1.hok.fresh (Nat.le_refl _))
  · subst e
    cases r1
    obtain ⟨its, rv, p, hz⟩ := I1.tuple hq
    refine wpAny_pyIter_tuple (show s1.heap.IsTuple a its.toArray from p) ?_
    refine ⟨s1.heap.objs.size, [s1.heap.objs.size], _, _, H1, rfl, I1.kept (t' := s1.toks) fun b o e => Heap.get?_push_of_some _ e, turn_tuple a _, ⟨_, Heap.get?_push_size _ rfl, rfl, rfl⟩, fun b hb => ?_, q⟩
    have e : b = s1.heap.objs.size := by simpa using hb
    subst e
    exact I1.fpOk (Nat.le_refl _) (I1.hok.fresh (Nat.le_refl _))
/-- while a list by place is walked, it stands -/
def gdOf (d : D) (ds : List D) : DH → Prop := match d with
  | .ptr a => fun G => G a = some (.lst ds)
  | _ => fun _ => True
def iSeq (te : DE) : DI := fun s G R => te s G fun d G1 => match res G1 d with
  | .tup ds => R ds (fun _ => True) G1
  | .lst ds => R ds (gdOf d ds) G1
  | _ => False
theorem dwalk_list {K : PySem.W.Frag} {F : Hid} {G : DH} {H : Hp} {a : Addr} {xs : List V} {ds : List D} (h : H a = some (.lst xs)) (n : ¬ Own F G a) (r : RepL K H (Own F G) xs ds) : DWalk K F (Itl K a) ds (fun _ => True) G H := by
  refine ⟨fun i G1 H1 F1 hi _ _ st => ?_, fun G1 H1 F1 _ _ st => ?_, fun i G1 H1 F1 v H' hi _ rg st y => ?_⟩
  · exact ⟨xs, xs[i]'(by rw [r.len]; exact hi), SqL.of (st _ _ h n).1, by simp [r.len, hi]⟩
  · exact ⟨xs, SqL.of (st _ _ h n).1, Nat.le_of_eq r.len⟩
  · obtain ⟨rfl, y⟩ := y
    obtain ⟨d, h1, h2⟩ := r.getV (y xs (SqL.of (st _ _ h n).1))
    exact ⟨d, h1, Step.refl, rg, h2.imp st⟩
theorem dwalk_tup {K : PySem.W.Frag} {F : Hid} {G : DH} {H : Hp} {a : Addr} {xs : List V} {ds : List D} (h : H a = some (.tup xs)) (n : ¬ Own F G a) (r : RepL K H (Own F G) xs ds) : DWalk K F (Itt K a) ds (fun _ => True) G H := by
  refine ⟨fun i G1 H1 F1 hi _ _ st => ?_, fun G1 H1 F1 _ _ st => ?_, fun i G1 H1 F1 v H' hi _ rg st y => ?_⟩
  · exact ⟨xs, xs[i]'(by rw [r.len]; exact hi), SqT.of (st _ _ h n).1, by simp [r.len, hi]⟩
  · exact ⟨xs, SqT.of (st _ _ h n).1, Nat.le_of_eq r.len⟩
  · obtain ⟨rfl, y⟩ := y
    obtain ⟨d, h1, h2⟩ := r.getV (y xs (SqT.of (st _ _ h n).1))
    exact ⟨d, h1, Step.refl, rg, h2.imp st⟩
theorem dwalk_ptr {K : PySem.W.Frag} {F : Hid} {G : DH} {H : Hp} {a : Addr} {ds : List D} : DWalk K F (Itl K a) ds (fun G => G a = some (.lst ds)) G H := by
  refine ⟨fun i G1 H1 F1 hi gd rg st => ?_, fun G1 H1 F1 gd rg st => ?_, fun i G1 H1 F1 v H' hi gd rg st y => ?_⟩
  · obtain ⟨xs, h, r⟩ := rg.ob a _ gd
    exact ⟨xs, xs[i]'(by rw [r.len]; exact hi), SqL.of h, by simp [r.len, hi]⟩
  · obtain ⟨xs, h, r⟩ := rg.ob a _ gd
    exact ⟨xs, SqL.of h, Nat.le_of_eq r.len⟩
  · obtain ⟨xs, h, r⟩ := rg.ob a _ gd
    obtain ⟨rfl, y⟩ := y
    obtain ⟨d, h1, h2⟩ := r.getV (y xs (SqL.of h))
    exact ⟨d, h1, Step.refl, rg, h2⟩
theorem pid_seq {tg : Expr} (hl : PED X l te) : PID X tg l (iSeq te) := by
  refine ⟨(pi_seq hl.out).weak fun σ H R ⟨F, s, G, Q, rs, rg, q, p⟩ => ?_⟩
  refine ⟨F, s, G, _, rs, rg, q, fun d G1 x H1 st rx rg1 q1 => ?_⟩
  cases rx with
  | tup h n r => exact .inr ⟨_, rfl, ⟨_, SqT.of h⟩, p _ _ _ _ _ st rg1 (dwalk_tup h n r) q1⟩
  | lst h n r => exact .inl ⟨_, rfl, ⟨_, SqL.of h⟩, p _ _ _ _ _ st rg1 (dwalk_list h n r) q1⟩
  | ptr a =>
    cases hg : G1 a with
    | none => simp only [res, hg] at q1
    | some o =>
      cases o with
      | lst ds =>
        simp only [res, hg] at q1
        obtain ⟨xs, h, r⟩ := rg1.ob a _ hg
        exact .inl ⟨_, rfl, ⟨_, SqL.of h⟩, p _ _ _ _ _ st rg1 dwalk_ptr q1⟩
      | _ => simp only [res, hg] at q1
  | _ => exact q1.elim
def rangeD (lo hi : Int) : List D := (List.range (hi - lo).toNat).map fun i => .int (lo + (i : Nat))
theorem rangeD_get {lo hi : Int} {i : Nat} (h : i < (hi - lo).toNat) : (rangeD lo hi)[i]? = some (.int (lo + i)) := by
  unfold rangeD
  rw [List.getElem?_map, List.getElem?_range h]
  rfl
theorem dwalk_range {K : PySem.W.Frag} {F : Hid} {G : DH} {H : Hp} {lo hi : Int} : DWalk K F (Itr lo (hi - lo).toNat) (rangeD lo hi) (fun _ => True) G H := by
  have hl : (rangeD lo hi).length = (hi - lo).toNat := by unfold rangeD; rw [List.length_map, List.length_range]
  refine ⟨fun i G1 H1 F1 hi _ _ st => ?_, fun G1 H1 F1 _ _ st => ?_, fun i G1 H1 F1 v H' hi _ rg st y => ?_⟩
  · rw [hl] at hi; exact hi
  · exact Nat.le_of_eq hl.symm
  · obtain ⟨rfl, rfl⟩ := y
    rw [hl] at hi
    exact ⟨_, rangeD_get hi, Step.refl, rg, .int _⟩
def iRange1 (ta : DA) : DI := fun s G R => ta s G fun ds G1 => match ds with
  | [.int n] => -(2 ^ 62) ≤ n ∧ n < 2 ^ 62 ∧ R (rangeD 0 n) (fun _ => True) G1
  | _ => False
def iRange2 (ta : DA) : DI := fun s G R => ta s G fun ds G1 => match ds with
  | [.int m, .int n] => -(2 ^ 62) ≤ m ∧ m < 2 ^ 62 ∧ -(2 ^ 62) ≤ n ∧ n < 2 ^ 62 ∧ R (rangeD m n) (fun _ => True) G1
  | _ => False
theorem pid_range1 {tg : Expr} {p : Pos} (hg : Gl X "range") (hm : X.mg "range" = none) (ha : PAD X [a] tr) (hs : starEach [a] X.env = [(false, eval a X.env)] := by rfl) : PID X tg (.Call (.Name "range" p) [a] [] pos) (iRange1 tr) := by
  refine ⟨(pi_range1 hg hm ha.out hs).weak fun σ H R ⟨F, s, G, Q, rs, rg, q, p⟩ => ?_⟩
  refine ⟨F, s, G, _, rs, rg, q, fun ds G1 xs H1 st rx rg1 q1 => ?_⟩
  split at q1 <;> try exact q1.elim
  rename_i n
  cases rx with
  | cons r1 r2 =>
    cases r1; cases r2
    refine ⟨_, rfl, q1.1, q1.2.1, p _ _ _ _ _ st rg1 ?_ q1.2.2⟩
    have := dwalk_range (K := X.K) (F := F) (G := G1) (H := H1) (lo := 0) (hi := n)
    rw [Int.sub_zero] at this
    exact this
theorem pid_range2 {tg : Expr} {p : Pos} (hg : Gl X "range") (hm : X.mg "range" = none) (ha : PAD X [a, b] tr) (hs : starEach [a, b] X.env = [(false, eval a X.env), (false, eval b X.env)] := by rfl) (hs2 : starEach [b] X.env = [(false, eval b X.env)] := by rfl) :
    PID X tg (.Call (.Name "range" p) [a, b] [] pos) (iRange2 tr) := by
  refine ⟨(pi_range2 hg hm ha.out hs hs2).weak fun σ H R ⟨F, s, G, Q, rs, rg, q, p⟩ => ?_⟩
  refine ⟨F, s, G, _, rs, rg, q, fun ds G1 xs H1 st rx rg1 q1 => ?_⟩
  split at q1 <;> try exact q1.elim
  cases rx with
  | cons r1 r2 =>
    cases r2 with
    | cons r2 r3 =>
      cases r1; cases r2; cases r3
      exact ⟨_, _, rfl, ⟨q1.1, q1.2.1, q1.2.2.1, q1.2.2.2.1⟩, p _ _ _ _ _ st rg1 dwalk_range q1.2.2.2.2⟩

/-! ### for -/
def dLoop (g : DG) (tb : DT) (gd : DH → Prop) (E : DEnds) : List D → DS → DH → Prop
  | [], s, G => gd G ∧ E.nx s G
  | x :: xs, s, G => gd G ∧ g x s G fun s1 G1 => tb { E with nx := dLoop g tb gd E xs, ct := dLoop g tb gd E xs, bk := E.nx } s1 G1
def dFor (it : DI) (g : DG) (tb : DT) : DT := fun D s G => it s G fun xs gd G1 => dLoop g tb gd D xs s G1
theorem psd_for {tg iter : Expr} {body : List Stmt} {it : DI} {g : DG} (hp : PassesOwn (model X.prog X.w) X.A X.env X.xe) (hc : X.calm = true) (hi : PID X tg iter it) (hg : PGD X tg vs g) (hb : PSsD X body t) (hs : ∀ x, foldedSetIterable iter X.env x = pure x := by intro _; rfl) :
    PSD X (.For tg iter body [] pos) (dFor it g t) := by
  refine ⟨(ps_for hp hc hi.out hg.out hb.out hs).weak fun D σ H ⟨F, s, G, R, rs, rg, q, p⟩ => ?_⟩
  refine ⟨F, s, G, _, rs, rg, q, fun xs gd G1 J H1 st rg1 dw q1 => ?_⟩
  refine ⟨fun i m σ' H' => m = xs.length - i ∧ i ≤ xs.length ∧ ∃ s' G', RepS X.K H' (Own F G') σ' s' ∧ RepG X.K H' F G' ∧ Step G1 H1 G' H' ∧ dLoop g t gd R (xs.drop i) s' G', ⟨xs.length, by simp, Nat.zero_le _, s, G1, rs.step st, rg1, Step.refl, q1⟩, ?_⟩
  rintro i m σ' H' ⟨rfl, hi', s', G', rs', rg', st', q'⟩
  by_cases hlt : i < xs.length
  · rw [List.drop_eq_getElem_cons hlt] at q'
    obtain ⟨gd', q'⟩ := q'
    refine .inr ⟨dw.go i G' H' F hlt gd' rg' (own_step st'), fun σ2 H2 => ∃ s2 G2, RepS X.K H2 (Own F G2) σ2 s2 ∧ RepG X.K H2 F G2 ∧ Step G1 H1 G2 H2 ∧ dLoop g t gd R (xs.drop (i + 1)) s2 G2, fun σ2 H2 ⟨s2, G2, z⟩ => ⟨xs.length - (i + 1), by omega, rfl, hlt, s2, G2, z⟩, fun v H2 y => ?_⟩
    obtain ⟨d, e, st2, rg2, rd⟩ := dw.yld i G' H' F v H2 hlt gd' rg' (own_step st') y
    rw [List.getElem?_eq_getElem hlt] at e
    cases e
    refine ⟨F, _, s', G', _, rd, rs'.step st2, rg2, q', fun s3 G3 σ3 H3 st3 rs3 rg3 _ q3 => ?_⟩
    have st4 : Step G1 H1 G3 H3 := (st'.trans st2).trans st3
    exact ⟨F, s3, G3, _, rs3, rg3, q3, ⟨fun s4 G4 σ4 H4 st5 rs4 rg4 q4 => ⟨s4, G4, rs4, rg4, st4.trans st5, q4⟩, p.rt.step (st.trans st4), fun s4 G4 σ4 H4 st5 rs4 rg4 q4 => p.nx _ _ _ _ ((st.trans st4).trans st5) rs4 rg4 q4, fun s4 G4 σ4 H4 st5 rs4 rg4 q4 => ⟨s4, G4, rs4, rg4, st4.trans st5, q4⟩⟩⟩
  · have e : i = xs.length := by omega
    subst e
    rw [List.drop_length] at q'
    exact .inl ⟨dw.stop G' H' F q'.1 rg' (own_step st'), p.nx _ _ _ _ (st.trans st') rs' rg' q'.2⟩

/-! ### while: turns by a measure -/
def dWhile (c : DTT) (tb : DT) : DT := fun D s G => ∃ W : Nat → DS → DH → Prop, (∃ m, W m s G) ∧ ∀ m s G, W m s G →
  c s G fun b G1 => if b = true then tb { D with nx := fun s' G' => ∃ m', m' < m ∧ W m' s' G', ct := fun s' G' => ∃ m', m' < m ∧ W m' s' G', bk := D.nx } s G1 else D.nx s G1
theorem psd_while {c : Expr} {body : List Stmt} {tc : DTT} (hp : PassesOwn (model X.prog X.w) X.A X.env X.xe) (hc : PTD X c tc) (hb : PSsD X body t) : PSD X (.While c body [] pos) (dWhile tc t) := by
  refine ⟨(ps_while hp hc.out hb.out).weak fun D σ H ⟨F, s, G, R, rs, rg, ⟨W, ⟨m0, w0⟩, q⟩, p⟩ => ?_⟩
  refine ⟨fun m σ' H' => ∃ s' G', RepS X.K H' (Own F G') σ' s' ∧ RepG X.K H' F G' ∧ Step G H G' H' ∧ W m s' G', ⟨m0, s, G, rs, rg, Step.refl, w0⟩, ?_⟩
  rintro m σ' H' ⟨s', G', rs', rg', st', w⟩
  refine ⟨F, s', G', _, rs', rg', q m s' G' w, fun b G1 H1 st1 rg1 q1 => ?_⟩
  have st2 := st'.trans st1
  cases b with
  | true =>
    rw [if_pos rfl] at q1
    refine iteT ⟨fun σ2 H2 => ∃ s2 G2, RepS X.K H2 (Own F G2) σ2 s2 ∧ RepG X.K H2 F G2 ∧ Step G H G2 H2 ∧ ∃ m', m' < m ∧ W m' s2 G2, fun σ2 H2 ⟨s2, G2, z1, z2, z3, m', hm, z4⟩ => ⟨m', hm, s2, G2, z1, z2, z3, z4⟩, ?_⟩
    exact ⟨F, s', G1, _, rs'.step st1, rg1, q1, ⟨fun s4 G4 σ4 H4 st5 rs4 rg4 q4 => ⟨s4, G4, rs4, rg4, st2.trans st5, q4⟩, p.rt.step st2, fun s4 G4 σ4 H4 st5 rs4 rg4 q4 => p.nx _ _ _ _ (st2.trans st5) rs4 rg4 q4, fun s4 G4 σ4 H4 st5 rs4 rg4 q4 => ⟨s4, G4, rs4, rg4, st2.trans st5, q4⟩⟩⟩
  | false =>
    rw [if_neg Bool.false_ne_true] at q1
    exact iteF (p.nx _ _ _ _ st2 (rs'.step st1) rg1 q1)
end
end L2.Ew

set_option Elab.async false
set_option linter.all false
set_option maxRecDepth 100000
set_option maxHeartbeats 4000000
/-! Comprehensions, defs, calls, the law's end over data. -/
namespace L2.Ew
open PySem PySem.Spec PySem.SeqAt PyProof.Rows
section
variable {X : Cx} {e a b l : Expr} {es : List Expr} {pos : Pos} {te ta tb : DE} {tr : DA} {vs : List Nat}
/-! ### comprehensions -/
def dCompL (g : DG) (tt : DTT) (te : DE) (gd : DH → Prop) (vs : List Nat) (s : DS) : List D → List D → DH → (List D → DH → Prop) → Prop
  | [], acc, G, Q => gd G ∧ Q acc G
  | x :: xs, acc, G, Q => gd G ∧ g x (wipeD s vs) G fun s1 G1 => tt s1 G1 fun b G2 =>
    if b = true then te s1 G2 fun y G3 => dCompL g tt te gd vs s xs (acc ++ [y]) G3 Q else dCompL g tt te gd vs s xs acc G2 Q
def fComp (it : DI) (g : DG) (tt : DTT) (te : DE) (vs : List Nat) : DF := fun s G Q => it s G fun xs gd G1 => xs.length ≤ 100000 ∧ dCompL g tt te gd vs s xs [] G1 Q
def dYes : DTT := fun _ G Q => Q true G
structure PTsD (X : Cx) (ifs : List Expr) (t : DTT) : Prop where
  out : PTs X ifs (lowB X.K t)
theorem ptsd_nil : PTsD X [] dYes := ⟨⟨fun pins s σ H Q I ⟨F, d, G, R, rs, rg, q, p⟩ => pts_nil.run pins s σ H Q I (p _ G H Step.refl rg q)⟩⟩
theorem ptsd_one {c : Expr} {t : DTT} (h : PTD X c t) : PTsD X [c] t := ⟨pts_one h.out⟩
theorem low_lc {K : PySem.W.Frag} {it : DI} {g : DG} {tt : DTT} {te : DE} {vs : List Nat} {σ : L2.St} {H : Hp} {Q : VK} (h : lowF K (fComp it g tt te vs) σ H Q) : tLc (lowI K it) (lowG K vs g) (lowB K tt) (low K te) vs σ H Q := by
  obtain ⟨F, s, G, R, rs, rg, q, p⟩ := h
  refine ⟨F, s, G, _, rs, rg, q, fun xs gd G1 J H1 st rg1 dw ⟨hx, q1⟩ C hC => ?_⟩
  have hC0 : H C = none := st.none hC
  have nFC : ¬ F C := fun z => by obtain ⟨⟨u, e, _⟩, _⟩ := rg1.hid C z; rw [hC] at e; cases e
  have nfp : ¬ Fp G1 C := fun z => rg1.fresh hC (.inr z)
  -- the heap with the new list
  have stN : Step G1 H1 G1 (upd H1 C (.lst [])) := step_new hC
  have ownC : ∀ G' a, ¬ Own (F.add C) G' a → ¬ Own F G' a ∧ a ≠ C := fun G' a n => ⟨own_add n, fun z => n (.inl (.inr z))⟩
  have rgC : RepG K (upd H1 C (.lst [])) (F.add C) G1 := by
    refine ⟨fun a o h => (rg1.ob a o h).imp (fun b u e n => ⟨by rw [upd_ne (ne_of_none e hC)]; exact e, fun z => ?_⟩) ?_ ?_, rg1.dk, rg1.dd, fun a z => ?_⟩
    · rcases z with (z | z) | z
      · exact n (.inl z)
      · exact ne_of_none e hC z
      · exact n (.inr z)
    · obtain ⟨w, q⟩ := (rg1.ob a o h).there; rw [upd_ne (ne_of_none q hC)]
    · rintro l' ks rfl; obtain ⟨is, cs, _, _, q⟩ := rg1.ob a _ h; rw [upd_ne (ne_of_none q hC)]
    · rcases z with z | rfl
      · obtain ⟨⟨u, e, t⟩, n⟩ := rg1.hid a z; exact ⟨⟨u, by rw [upd_ne (ne_of_none e hC)]; exact e, t⟩, n⟩
      · exact ⟨⟨_, upd_same, fun _ y => nomatch y⟩, nfp⟩
  have rsC : RepS K (upd H1 C (.lst [])) (Own (F.add C) G1) σ s := (rs.step st).imp fun a o e n => ⟨by rw [upd_ne (ne_of_none e hC)]; exact e, fun z => by
    rcases z with (z | z) | z
    · exact n (.inl z)
    · exact ne_of_none e hC z
    · exact n (.inr z)⟩
  -- from H1 on
  have keep : ∀ G' H', Step G1 H1 G' H' → ∀ a o, H1 a = some o → ¬ Own F G1 a → H' a = some o ∧ ¬ Own (F.add C) G' a := fun G' H' st' a o e n => by
    obtain ⟨h1, h2⟩ := own_step (F := F) st' a o e n
    refine ⟨h1, fun z => ?_⟩
    rcases z with (z | z) | z
    · exact h2 (.inl z)
    · exact ne_of_none e hC z
    · exact h2 (.inr z)
  refine ⟨fun i m H' => m = xs.length - i ∧ i ≤ xs.length ∧ ∃ G' acc accV, RepG K H' (F.add C) G' ∧ H' C = some (.lst accV) ∧ RepL K H' (Own (F.add C) G') accV acc ∧ acc.length ≤ i ∧ Step G1 H1 G' H' ∧ RepS K H' (Own (F.add C) G') σ s ∧ dCompL g tt te gd vs s (xs.drop i) acc G' R,
    ⟨xs.length, by simp, Nat.zero_le _, G1, [], [], rgC, upd_same, .nil, Nat.le_refl _, stN, rsC, q1⟩, ?_⟩
  rintro i m H' ⟨rfl, hi, G', acc, accV, rg', hacc, racc, lacc, st', rs', q'⟩
  by_cases hlt : i < xs.length
  · rw [List.drop_eq_getElem_cons hlt] at q'
    obtain ⟨gd', q'⟩ := q'
    refine .inr ⟨dw.go i G' H' _ hlt gd' rg' (keep G' H' st'), fun H2 => ∃ G2 acc2 accV2, RepG K H2 (F.add C) G2 ∧ H2 C = some (.lst accV2) ∧ RepL K H2 (Own (F.add C) G2) accV2 acc2 ∧ acc2.length ≤ i + 1 ∧ Step G1 H1 G2 H2 ∧ RepS K H2 (Own (F.add C) G2) σ s ∧ dCompL g tt te gd vs s (xs.drop (i + 1)) acc2 G2 R,
      fun H2 ⟨G2, z⟩ => ⟨xs.length - (i + 1), by omega, rfl, hlt, G2, z⟩, fun v H2 y => ?_⟩
    obtain ⟨d, e, st2, rg2, rd⟩ := dw.yld i G' H' _ v H2 hlt gd' rg' (keep G' H' st') y
    rw [List.getElem?_eq_getElem hlt] at e
    cases e
    refine ⟨F.add C, _, wipeD s vs, G', _, rd, (rs'.wipe vs).step st2, rg2, q', fun s3 G3 σ3 H3 st3 rs3 rg3 w3 q3 => ⟨?_, ?_⟩⟩
    · rw [w3]
      have ww : ∀ (us : List Nat) (ρ : L2.St), (∀ u ∈ us, u ∈ vs) → wipe (wipe ρ us) vs = wipe ρ vs := by
        intro us
        induction us with
        | nil => intro ρ _; rfl
        | cons u us ih =>
          intro ρ hu
          show wipe ((wipe ρ us).set u none) vs = wipe ρ vs
          rw [wipe_set vs _ u none (hu u (List.mem_cons_self ..)), ih ρ fun x hx => hu x (List.mem_cons_of_mem _ hx)]
      exact ww vs σ fun u h => h
    · have st4 : Step G1 H1 G3 H3 := (st'.trans st2).trans st3
      refine ⟨F.add C, s3, G3, _, rs3, rg3, q3, fun b G4 H4 st5 rg4 q4 => ?_⟩
      have st6 := st4.trans st5
      have inC : ∀ Ga Ha Gb Hb, RepG K Ha (F.add C) Ga → Step Ga Ha Gb Hb → ∀ o, Ha C = some o → Hb C = some o := fun Ga Ha Gb Hb g s o h => (s.at_ C o h (g.hid C (.inr rfl)).2).1
      have hC4 : H4 C = some (.lst accV) := inC _ _ _ _ rg3 st5 _ (inC _ _ _ _ rg2 st3 _ (inC _ _ _ _ rg' st2 _ hacc))
      have racc4 : RepL K H4 (Own (F.add C) G4) accV acc := ((racc.step st2).step st3).step st5
      have rs4 : RepS K H4 (Own (F.add C) G4) σ s := ((rs'.step st2).step st3).step st5
      cases b with
      | false =>
        rw [if_neg Bool.false_ne_true] at q4
        exact iteF ⟨G4, acc, accV, rg4, hC4, racc4, Nat.le_succ_of_le lacc, st6, rs4, q4⟩
      | true =>
        rw [if_pos rfl] at q4
        refine iteT ⟨F.add C, s3, G4, _, rs3.step st5, rg4, q4, fun y G5 u H5 st7 ry rg5 q5 => ?_⟩
        have hC5 : H5 C = some (.lst accV) := inC _ _ _ _ rg4 st7 _ hC4
        have lV : accV.length = acc.length := racc.len
        refine ⟨accV, hC5, ?_, ?_⟩
        · have h1 : accV.length ≤ 100000 := by omega
          exact Nat.lt_of_le_of_lt h1 (by decide)
        have key : ∀ a o, H5 a = some o → ¬ Own (F.add C) G5 a → (upd H5 C (.lst (accV ++ [u]))) a = some o ∧ ¬ Own (F.add C) G5 a := fun a o e n => ⟨by rw [upd_ne (ownC _ _ n).2]; exact e, n⟩
        have st8 := st6.trans st7
        refine ⟨G5, acc ++ [y], accV ++ [u], ⟨fun a o h => (rg5.ob a o h).imp key ?_ ?_, rg5.dk, rg5.dd, fun a z => ?_⟩, upd_same, ((racc4.step st7).append (.one ry)).imp key, ?_, ⟨fun a o e n => ?_, fun a o e => ?_⟩, (rs4.step st7).imp key, q5⟩
        · have : a ≠ C := fun z => by subst z; exact (rg5.hid a (.inr rfl)).2 (.inl ⟨o, h⟩)
          rw [upd_ne this]
        · rintro l' ks rfl
          have : l' ≠ C := fun z => by subst z; exact (rg5.hid l' (.inr rfl)).2 (.inr ⟨a, ks, h⟩)
          rw [upd_ne this]
        · obtain ⟨⟨w, e, t⟩, n⟩ := rg5.hid a z
          refine ⟨?_, n⟩
          by_cases ea : a = C
          · exact ⟨.lst (accV ++ [u]), by rw [ea]; exact upd_same, fun _ y => nomatch y⟩
          · exact ⟨w, by rw [upd_ne ea]; exact e, t⟩
        · rw [List.length_append, List.length_singleton]; omega
        · rw [upd_ne (ne_of_none e hC)]; exact st8.at_ a o e n
        · obtain ⟨w, e'⟩ := st8.dom a o e
          exact ⟨w, by rw [upd_ne (ne_of_none e hC)]; exact e'⟩
  · have e : i = xs.length := by omega
    subst e
    rw [List.drop_length] at q'
    refine .inl ⟨dw.stop G' H' _ q'.1 rg' (keep G' H' st'), p acc G' H' C accV (st.trans st') hC0 hacc racc rg' q'.2⟩
theorem pef_lc {elt tg iter : Expr} {ifs : List Expr} {scope : Scope} {own : List (Str × Nat)} {it : DI} {g : DG} {tt : DTT} (hc : X.calm = true) (hN : X.N.Nodup) (hi : PID X tg iter it) (ok : BlkOk X.N X.env.scope scope own)
    (hg : ∀ (s : Shared) (H : Hp) (C : Addr) (cl : List (Str × Addr)) (fp : List Addr), PGD (X.blk s H scope (compEnvC scope cl C X.env) fp) tg (own.map (·.2)) g) (ht : ∀ (s : Shared) (H : Hp) (C : Addr) (cl : List (Str × Addr)) (fp : List Addr), PTsD (X.blk s H scope (compEnvC scope cl C X.env) fp) ifs tt)
    (he : ∀ (s : Shared) (H : Hp) (C : Addr) (cl : List (Str × Addr)) (fp : List Addr), PED (X.blk s H scope (compEnvC scope cl C X.env) fp) elt te) (hs : ∀ x, foldedSetIterable iter X.env x = pure x := by intro _; rfl) :
    PEF X (.ListComp elt [⟨tg, iter, ifs, 0⟩] scope pos) (fComp it g tt te (own.map (·.2))) :=
  ⟨(pe_lc hc hN hi.out ok (fun s H C cl fp => (hg s H C cl fp).out) (fun s H C cl fp => (ht s H C cl fp).out) (fun s H C cl fp => (he s H C cl fp).out) hs).weak fun _ _ _ h => low_lc h⟩
section
variable {elt tg iter : Expr} {ifs : List Expr} {scope : Scope} {own : List (Str × Nat)} {it : DI} {g : DG} {tt : DTT} {i : Nat} {y : Str} {py spos : Pos}
/-- y = [..], a value -/
theorem psd_setLc (hc : X.calm = true) (hN : X.N.Nodup) (hy : X.N[i]? = some y) (hyl : X.env.scope.names.lookup y = some .local)
    (hsw : swapsWith (.ListComp elt [⟨tg, iter, ifs, 0⟩] scope pos) (some (.Name y py)) spos.line X.env = pure true) (hi : PID X tg iter it) (ok : BlkOk X.N X.env.scope scope own)
    (hg : ∀ (s : Shared) (H : Hp) (C : Addr) (cl : List (Str × Addr)) (fp : List Addr), PGD (X.blk s H scope (compEnvC scope cl C X.env) fp) tg (own.map (·.2)) g) (ht : ∀ (s : Shared) (H : Hp) (C : Addr) (cl : List (Str × Addr)) (fp : List Addr), PTsD (X.blk s H scope (compEnvC scope cl C X.env) fp) ifs tt)
    (he : ∀ (s : Shared) (H : Hp) (C : Addr) (cl : List (Str × Addr)) (fp : List Addr), PED (X.blk s H scope (compEnvC scope cl C X.env) fp) elt te) (hs : ∀ x, foldedSetIterable iter X.env x = pure x := by intro _; rfl) :
    PSD X (.Assign [.Name y py] (.ListComp elt [⟨tg, iter, ifs, 0⟩] scope pos) spos) (dAsg (dLv (fComp it g tt te (own.map (·.2)))) (gN i)) := by
  refine ⟨(ps_setLc (g := lowG X.K (own.map (·.2)) g) (tt := lowB X.K tt) (te := low X.K te) hc hN hy hyl hsw hi.out ok (fun s H C cl fp => (hg s H C cl fp).out) (fun s H C cl fp => (ht s H C cl fp).out) (fun s H C cl fp => (he s H C cl fp).out) hs).weak fun D σ H ⟨F, s, G, R, rs, rg, q, p⟩ => ?_⟩
  refine low_lc ⟨F, s, G, _, rs, rg, q, fun ds G1 H1 l xs st hn hl rx rg1 q1 => ?_⟩
  have nF : ¬ F l := fun z => by obtain ⟨⟨u, e, _⟩, _⟩ := rg.hid l z; rw [hn] at e; cases e
  exact p.nx _ _ _ _ st ((rs.step st).set (.lst hl (rg1.unown nF) (rx.imp fun b u e n => ⟨e, own_add n⟩)) i) rg1.unadd q1
/-- y = [..], a list that may change -/
theorem psd_setLcL (hc : X.calm = true) (hN : X.N.Nodup) (hy : X.N[i]? = some y) (hyl : X.env.scope.names.lookup y = some .local)
    (hsw : swapsWith (.ListComp elt [⟨tg, iter, ifs, 0⟩] scope pos) (some (.Name y py)) spos.line X.env = pure true) (hi : PID X tg iter it) (ok : BlkOk X.N X.env.scope scope own)
    (hg : ∀ (s : Shared) (H : Hp) (C : Addr) (cl : List (Str × Addr)) (fp : List Addr), PGD (X.blk s H scope (compEnvC scope cl C X.env) fp) tg (own.map (·.2)) g) (ht : ∀ (s : Shared) (H : Hp) (C : Addr) (cl : List (Str × Addr)) (fp : List Addr), PTsD (X.blk s H scope (compEnvC scope cl C X.env) fp) ifs tt)
    (he : ∀ (s : Shared) (H : Hp) (C : Addr) (cl : List (Str × Addr)) (fp : List Addr), PED (X.blk s H scope (compEnvC scope cl C X.env) fp) elt te) (hs : ∀ x, foldedSetIterable iter X.env x = pure x := by intro _; rfl) :
    PSD X (.Assign [.Name y py] (.ListComp elt [⟨tg, iter, ifs, 0⟩] scope pos) spos) (dAsgL (fComp it g tt te (own.map (·.2))) i) := by
  refine ⟨(ps_setLc (g := lowG X.K (own.map (·.2)) g) (tt := lowB X.K tt) (te := low X.K te) hc hN hy hyl hsw hi.out ok (fun s H C cl fp => (hg s H C cl fp).out) (fun s H C cl fp => (ht s H C cl fp).out) (fun s H C cl fp => (he s H C cl fp).out) hs).weak fun D σ H ⟨F, s, G, R, rs, rg, q, p⟩ => ?_⟩
  refine low_lc ⟨F, s, G, _, rs, rg, q, fun ds G1 H1 l xs st hn hl rx rg1 q1 => ?_⟩
  have nF : ¬ F l := fun z => by obtain ⟨⟨u, e, _⟩, _⟩ := rg.hid l z; rw [hn] at e; cases e
  obtain ⟨hG, st2, rg2⟩ := adopt_list nF st hn hl rx rg1
  exact p.nx _ _ _ _ st2 ((rs.step st2).set (.ptr l) i) rg2 (q1 l hG)
end

/-! ### defs -/
abbrev DSp := List D → DH → DK → XD → Prop
def PostX (K : PySem.W.Frag) (F : Hid) (G : DH) (H : Hp) (X : XD) (E : XK) : Prop := ∀ c fs G' od H', Step G H G' H' → RepG K H' F G' → (match fs with
    | none => od = none
    | some fs => ∃ d ws, od = some d ∧ H' d = some (.xd ws) ∧ ¬ Own F G' d ∧ ws.map Prod.fst = fs.map Prod.fst ∧ RepL K H' (Own F G') (ws.map Prod.snd) (fs.map Prod.snd)) → X c fs G' → E c od H'
def lower (K : PySem.W.Frag) (sp : DSp) : Sp := fun vs H Q E => ∃ F ds G R X, RepL K H (Own F G) vs ds ∧ RepG K H F G ∧ sp ds G R X ∧ Post K F G H R Q ∧ PostX K F G H X E
structure FnD (P : Program) (w : World) (K : PySem.W.Frag) (mg : Str → Option Value) (base : Heap) (CX : CXT) (k : Nat) (x : Str) (sp : DSp) : Prop where
  ex : ∃ f fd ps, mg x = some (.ref f) ∧ PySem.W.keepIn K (.ref f) = true ∧ Binds K fd ps [] ∧ FnOk P w K mg base CX k f fd ps (lower K sp)
abbrev X0 : XD := fun _ _ _ => False
def dFn (sp : DSp) (ta : DA) : DE := fun s G Q => ta s G fun ds G1 => sp ds G1 Q X0
theorem low_fn {K : PySem.W.Frag} {sp : DSp} {tr : DA} {σ : L2.St} {H : Hp} {Q : VK} (h : low K (dFn sp tr) σ H Q) : tCall (lower K sp) [] E0 (lowA K tr) σ H Q := by
  obtain ⟨F, s, G, R, rs, rg, q, p⟩ := h
  refine ⟨F, s, G, _, rs, rg, q, fun ds G1 xs H1 st rx rg1 q1 => ?_⟩
  show lower K sp (xs ++ []) H1 Q E0
  rw [List.append_nil]
  exact ⟨F, ds, G1, R, X0, rx, rg1, q1, p.step st, fun _ _ _ _ _ _ _ _ z => z.elim⟩
theorem ped_call {k : Nat} {x : Str} {sp : DSp} {p : Pos} (F : FnD X.prog X.w X.K X.mg X.base CX0 k x sp) (hr : Room k X.A) (hg : Gl X x) (ha : PAD X (e :: es) tr) (hdb : (x == ("__debug__" : Str)) = false := by decide)
    (he : starEach (e :: es) X.env = (false, eval e X.env) :: starEach es X.env := by rfl) (hpl : (backTo pos (starEach es X.env)).any (·.1) = false := by rfl) : PED X (.Call (.Name x p) (e :: es) [] pos) (dFn sp tr) := by
  obtain ⟨f, fd, ps, hm, hk, hb, ok⟩ := F.ex
  exact ⟨(pe_call ok hr hg hm hk hb .nil pass0 ha.out hdb he hpl).weak fun _ _ _ h => low_fn h⟩
theorem ped_call0 {k : Nat} {x : Str} {sp : DSp} {p : Pos} (F : FnD X.prog X.w X.K X.mg X.base CX0 k x sp) (hr : Room k X.A) (hg : Gl X x) (hdb : (x == ("__debug__" : Str)) = false := by decide) : PED X (.Call (.Name x p) [] [] pos) (dFn sp aNil) := by
  obtain ⟨f, fd, ps, hm, hk, hb, ok⟩ := F.ex
  refine ⟨(pe_call0 ok hr hg hm hk hb .nil pass0 hdb).weak fun σ H Q ⟨F, s, G, R, rs, rg, q, p⟩ => ?_⟩
  exact ⟨F, [], G, R, X0, .nil, rg, q, p, fun _ _ _ _ _ _ _ _ z => z.elim⟩

/-! ### what a def hands back: what is its own is let go -/
mutual
inductive Frz (G G2 : DH) : D → D → Prop
  | refl (d : D) : Frz G G2 d d
  | lst {a : Addr} {ds es : List D} : G a = some (.lst ds) → G2 a = none → FrzL G G2 ds es → Frz G G2 (.ptr a) (.lst es)
  | dk {a : Addr} {kvs : List (Key × D)} {es : List D} : G a = some (.dk kvs) → G2 a = none → FrzL G G2 (kvs.map Prod.snd) es → Frz G G2 (.ptr a) (.dk (kvs.map Prod.fst) es)
  | tup {ds es : List D} : FrzL G G2 ds es → Frz G G2 (.tup ds) (.tup es)
  | lstV {ds es : List D} : FrzL G G2 ds es → Frz G G2 (.lst ds) (.lst es)
inductive FrzL (G G2 : DH) : List D → List D → Prop
  | nil : FrzL G G2 [] []
  | cons {d e : D} {ds es : List D} : Frz G G2 d e → FrzL G G2 ds es → FrzL G G2 (d :: ds) (e :: es)
end
theorem FrzL.refl {G G2 : DH} : ∀ ds : List D, FrzL G G2 ds ds
  | [] => .nil
  | d :: ds => .cons (.refl d) (FrzL.refl ds)
theorem fp_free {K : PySem.W.Frag} {H : Hp} {F : Hid} {G G2 : DH} {a : Addr} {o : MO} (g : RepG K H F G) (s : Sub G2 G) (h : G a = some o) (n : G2 a = none) : ¬ Own F G2 a := fun z => by
  rcases z with z | ⟨u, z⟩ | ⟨b, ks, z⟩
  · exact (g.hid a z).2 (.inl ⟨o, h⟩)
  · rw [n] at z; cases z
  · have := g.dk b a ks (s _ _ z); rw [this] at h; cases h
mutual
theorem frz_rep {K : PySem.W.Frag} {H : Hp} {F : Hid} {G G2 : DH} (g : RepG K H F G) (s : Sub G2 G) : ∀ {d d2 : D} {v : V}, Frz G G2 d d2 → Rep K H (Own F G) v d → Rep K H (Own F G2) v d2
  | _, _, _, .refl d, r => r.sub s
  | _, _, _, .lst h n t, r => by
    cases r
    obtain ⟨xs, h1, r1⟩ := g.ob _ _ h
    exact .lst h1 (fp_free g s h n) (frz_repL g s t r1)
  | _, _, _, .dk h n t, r => by
    cases r
    obtain ⟨ws, h1, e, r1⟩ := g.ob _ _ h
    rw [← e]
    exact .dk h1 (fp_free g s h n) (frz_repL g s t r1)
  | _, _, _, .tup t, r => by
    cases r with
    | tup h n r => exact .tup h (fun z => n (z.imp id s.fp)) (frz_repL g s t r)
  | _, _, _, .lstV t, r => by
    cases r with
    | lst h n r => exact .lst h (fun z => n (z.imp id s.fp)) (frz_repL g s t r)
theorem frz_repL {K : PySem.W.Frag} {H : Hp} {F : Hid} {G G2 : DH} (g : RepG K H F G) (s : Sub G2 G) : ∀ {d d2 : List D} {v : List V}, FrzL G G2 d d2 → RepL K H (Own F G) v d → RepL K H (Own F G2) v d2
  | _, _, _, .nil, r => by cases r; exact .nil
  | _, _, _, .cons t ts, r => by
    cases r with
    | cons r rs => exact .cons (frz_rep g s t r) (frz_repL g s ts rs)
end
def RetOk (R : DK) : DK := fun d G => ∃ d2 G2, Sub G2 G ∧ Frz G G2 d d2 ∧ R d2 G2
theorem RetOk.same {R : DK} {d : D} {G : DH} (h : R d G) : RetOk R d G := ⟨d, G, Sub.refl, .refl d, h⟩
theorem RetOk.drop {R : DK} {d : D} {G G2 : DH} (s : Sub G2 G) (h : R d G2) : RetOk R d G := ⟨d, G2, s, .refl d, h⟩
theorem Post.ret {K : PySem.W.Frag} {F : Hid} {G : DH} {H : Hp} {R : DK} {Q : VK} (p : Post K F G H R Q) : Post K F G H (RetOk R) Q := fun d G' v H' st r g ⟨d2, G2, s, z, q⟩ =>
  p d2 G2 v H' (st.sub s) (frz_rep g s z r) (g.sub s) q
def dstart (N : List Str) (ds : List D) : DS := ds.map some ++ List.replicate (N.length - ds.length) none
theorem reps_start {K : PySem.W.Frag} {H : Hp} {O : Addr → Prop} {N : List Str} {vs : List V} {ds : List D} (r : RepL K H O vs ds) : RepS K H O (start N vs) (dstart N ds) := by
  have hl := r.len
  refine ⟨by simp [start, dstart, hl], fun i d e => ?_⟩
  unfold dstart at e
  unfold start
  by_cases h : i < ds.length
  · rw [List.getElem?_append_left (by simpa using h), List.getElem?_map] at e
    rw [List.getElem?_append_left (by simpa [hl] using h), List.getElem?_map]
    cases q : ds[i]? with
    | none => rw [q] at e; cases e
    | some d' =>
      rw [q] at e
      cases e
      obtain ⟨v, h1, h2⟩ := r.get q
      exact ⟨v, by rw [h1]; rfl, h2⟩
  · rw [List.getElem?_append_right (by simpa using Nat.le_of_not_lt h), List.getElem?_replicate] at e
    split at e <;> cases e
structure DefAt (K : PySem.W.Frag) (mg : Str → Option Value) (x : Str) (st : Stmt) : Prop where
  ex : ∃ f fd, mg x = some (.ref f) ∧ Fun K x x st f fd
section
variable {P : Program} {w : World} {K : PySem.W.Frag} {mg : Str → Option Value} {base : Heap}
theorem fn_ok {x : Str} {st : Stmt} {f : Addr} {fd : FuncData} {N ps : List Str} {k : Nat} {sp : DSp} {t : DT} (F : Fun K x x st f fd) (S : FnScope N ps (defScope st))
    (body : ∀ (f : Addr) (cdv : Value) (A : Around) (outer : List Env) (s : Shared) (H : Hp) (E : XK), Room k (A.deeper (envOfC x (defScope st) s.heap.objs.size f cdv)) → PSsD (cxOf CX0 P w K mg base N x (defScope st) f cdv A outer s H E).nox (defBody st) t)
    (sem : ∀ ds G R X, sp ds G R X → ds.length = ps.length ∧ t { nx := fun _ G' => RetOk R .non G', rt := RetOk R } (dstart N ds) G) : FnOk P w K mg base CX0 (k + 1) f fd ps (lower K sp) := by
  refine F.ok S (fun vs H Q E ⟨F, ds, G, R, X, r, g, q, _⟩ => ?_) fun cdv A outer s H vs Q E hr ⟨F, ds, G, R, X, r, g, q, p, _⟩ => ⟨_, (body f cdv A outer s H E hr).out, ?_⟩
  · rw [r.len]; exact (sem ds G R X q).1
  · exact ⟨F, dstart N ds, G, _, reps_start r, g, (sem ds G R X q).2, ⟨fun s' G' σ' H' st rs rg q => p.ret _ _ _ _ st .non rg q, p.ret, fun _ _ _ _ _ _ _ z => z.elim, fun _ _ _ _ _ _ _ z => z.elim⟩⟩
theorem fnd_mk {x : Str} {st : Stmt} {N ps : List Str} {k : Nat} {sp : DSp} {t : DT} (A : DefAt K mg x st) (S : FnScope N ps (defScope st))
    (bd : ∀ (kV doc pm : Value) (an : Option Addr) (cdv ct : Value) (us : List Value), us.length = ps.length → bindArgs (PySem.W.fnOf x x (defArgs st) (defBody st) (defScope st) .none kV doc pm an cdv ct) ⟨us, []⟩ = pure (ps.zip us))
    (body : ∀ (f : Addr) (cdv : Value) (A : Around) (outer : List Env) (s : Shared) (H : Hp) (E : XK), Room k (A.deeper (envOfC x (defScope st) s.heap.objs.size f cdv)) → PSsD (cxOf CX0 P w K mg base N x (defScope st) f cdv A outer s H E).nox (defBody st) t)
    (sem : ∀ ds G R X, sp ds G R X → ds.length = ps.length ∧ t { nx := fun _ G' => RetOk R .non G', rt := RetOk R } (dstart N ds) G) : FnD P w K mg base CX0 (k + 1) x sp := by
  obtain ⟨f, fd, hm, F⟩ := A.ex
  exact ⟨f, fd, ps, hm, F.kp, F.binds bd, fn_ok F S body sem⟩
theorem FnD.mono {CX : CXT} {j k : Nat} {x : Str} {sp : DSp} (h : FnD P w K mg base CX j x sp) (l : j ≤ k) : FnD P w K mg base CX k x sp := by
  obtain ⟨f, fd, ps, hm, hk, hb, ok⟩ := h.ex
  exact ⟨f, fd, ps, hm, hk, hb, ok.mono l⟩
theorem FnD.imp {CX : CXT} {k : Nat} {x : Str} {sp sp' : DSp} (h : FnD P w K mg base CX k x sp) (i : ∀ ds G R X, sp' ds G R X → sp ds G R X) : FnD P w K mg base CX k x sp' := by
  obtain ⟨f, fd, ps, hm, hk, hb, ok⟩ := h.ex
  exact ⟨f, fd, ps, hm, hk, hb, ok.imp fun vs H Q E ⟨F, ds, G, R, X, r, g, q, p⟩ => ⟨F, ds, G, R, X, r, g, i _ _ _ _ q, p⟩⟩
theorem def_mk {x : Str} {st : Stmt} {f : Addr} {oc : Value} {od an : Option Addr} {osl : Array (Option Value)} {kV doc pm cdv ct : Value} (hm : mg x = some (.ref f)) (l : K.lookup f = some ⟨oc, od, .func (PySem.W.fnOf x x (defArgs st) (defBody st) (defScope st) .none kV doc pm an cdv ct), osl⟩)
    (c : PySem.W.codeIn K cdv x = true) (k : PySem.W.keepIn K (.ref f) = true) : DefAt K mg x st := ⟨f, _, hm, fun_mk l c k⟩
/-- the law's promise -/
def spLawD : DSp := fun ds G R _ => ∃ ns : List Int, ds = [.scr ns] ∧ ns.length ≤ 63 ∧ (∀ a, G a = none) ∧ R (.bl true) G
def spLawV (K : PySem.W.Frag) : Sp := fun vs H Q _ => ∃ (a : Addr) (ns : List Int), vs = [.ref a] ∧ SqL K H a (ns.map V.int) ∧ ns.length ≤ 63 ∧ ∀ H', Q (.bl true) H'
theorem law_imp : ∀ vs H Q E, spLawV K vs H Q E → lower K spLawD vs H Q E := by
  rintro vs H Q E ⟨a, ns, rfl, hS, hl, k⟩
  have nf : ∀ c, ¬ Own (fun _ => False) (fun _ => none) c := fun c z => by
    rcases z with z | ⟨o, z⟩ | ⟨b, ks, z⟩
    · exact z
    · cases z
    · cases z
  refine ⟨fun _ => False, [.scr ns], fun _ => none, fun d _ => d = .bl true, X0, .one ?_, ⟨(fun _ _ z => nomatch z), (fun _ _ _ z => nomatch z), (fun _ _ _ _ _ z => nomatch z), fun _ (z : False) => z.elim⟩, ⟨ns, rfl, hl, fun _ => rfl, rfl⟩, fun d G' v H' _ r _ e => ?_, fun _ _ _ _ _ _ _ _ z => z.elim⟩
  · rcases hS with h | h
    · exact .scr h (nf a)
    · exact .scrK h
  · subst e; cases r; exact k _
theorem law_ok {x : Str} {st : Stmt} {f : Addr} {fd : FuncData} {N ps : List Str} {k : Nat} {t : DT} (F : Fun K x x st f fd) (S : FnScope N ps (defScope st))
    (body : ∀ (f : Addr) (cdv : Value) (A : Around) (outer : List Env) (s : Shared) (H : Hp) (E : XK), Room k (A.deeper (envOfC x (defScope st) s.heap.objs.size f cdv)) → PSsD (cxOf CX0 P w K mg base N x (defScope st) f cdv A outer s H E).nox (defBody st) t)
    (sem : ∀ ds G R X, spLawD ds G R X → ds.length = ps.length ∧ t { nx := fun _ G' => RetOk R .non G', rt := RetOk R } (dstart N ds) G) : FnOk P w K mg base CX0 (k + 1) f fd ps (spLawV K) :=
  (fn_ok F S body sem).imp law_imp
end
end
end L2.Ew

set_option Elab.async false
set_option linter.all false
set_option maxRecDepth 100000
set_option maxHeartbeats 4000000
/-! Stores, methods of lists, dict displays, decks, isinstance over data. -/
namespace L2.Ew
open PySem PySem.Spec PySem.SeqAt PyProof.Rows
section
variable {X : Cx} {e a b l o i : Expr} {es : List Expr} {pos : Pos} {te ta tb to ti : DE} {tr : DA} {vs : List Nat}
/-- a new list, taken as one that may change -/
def dAd (t : DF) : DE := fun s G Q => t s G fun ds G1 => ∀ p, G1 p = none → Q (.ptr p) (uG G1 p (.lst ds))
theorem ped_ad {t : DF} (h : PEF X e t) : PED X e (dAd t) := by
  refine ⟨h.out.weak fun σ H Q ⟨F, s, G, R, rs, rg, q, p⟩ => ?_⟩
  refine ⟨F, s, G, _, rs, rg, q, fun ds G1 H1 l xs st hn hl rx rg1 q1 => ?_⟩
  have nF : ¬ F l := fun z => by obtain ⟨⟨u, e, _⟩, _⟩ := rg.hid l z; rw [hn] at e; cases e
  obtain ⟨hG, st2, rg2⟩ := adopt_list nF st hn hl rx rg1
  exact p _ _ _ _ st2 (.ptr l) rg2 (q1 l hG)

/-! ### targets of any sequence -/
def gU (n : Nat) (u : DGs) : DG := fun d s G Q => match res G d with
  | .tup ds => ds.length = n ∧ u ds s G Q
  | .lst ds => ds.length = n ∧ u ds s G Q
  | _ => False
theorem pgd_seq {k : Nat} {u : DGs} {n : Nat} (hc : X.calm = true) (h : PGsD X es vs u) (hn : (assignEach es X.env).length = n := by rfl) (hst : (assignEach es X.env).findIdx? (·.1) = none := by rfl) : PGD X (.Tuple es k pos) vs (gU n u) := by
  refine ⟨⟨fun pins s σ H v u' Q I r ⟨F, d, s0, G, R, rd, rs, rg, q, p⟩ => ?_⟩⟩
  unfold gU at q
  split at q <;> try exact q.elim
  · rename_i he
    cases res_not he (fun _ z => nomatch z)
    obtain ⟨c, xs, rfl, hq, r'⟩ := tup_at rd
    exact (pg_tup hc h.out hn hst).run pins s σ H _ u' Q I r ⟨c, xs, rfl, hq, by rw [r'.len]; exact q.1, F, _, s0, G, R, r', rs, rg, q.2, p⟩
  · rename_i he
    obtain ⟨c, xs, rfl, hq, r'⟩ := lst_at rg rd he
    exact (pg_unl hc h.out hn hst).run pins s σ H _ u' Q I r ⟨c, xs, rfl, SqL.of hq, by rw [r'.len]; exact q.1, F, _, s0, G, R, r', rs, rg, q.2, p⟩

/-! ### stores -/
def putD {κ : Type} [DecidableEq κ] (kvs : List (κ × D)) (k : κ) (v : D) : List (κ × D) :=
  if (kvs.any fun kv => decide (kv.1 = k)) = true then kvs.map (fun kv => if kv.1 = k then (kv.1, v) else kv) else kvs ++ [(k, v)]
theorem put_rep {K : PySem.W.Frag} {H : Hp} {O : Addr → Prop} {κ : Type} [DecidableEq κ] {k : κ} {v : V} {d : D} (rv : Rep K H O v d) : ∀ {ws : List (κ × V)} {kvs : List (κ × D)}, ws.map Prod.fst = kvs.map Prod.fst → RepL K H O (ws.map Prod.snd) (kvs.map Prod.snd) →
    (putK ws k v).map Prod.fst = (putD kvs k d).map Prod.fst ∧ RepL K H O ((putK ws k v).map Prod.snd) ((putD kvs k d).map Prod.snd) := fun {ws kvs} e r => by
  have any_eq : ∀ {ws : List (κ × V)} {kvs : List (κ × D)}, ws.map Prod.fst = kvs.map Prod.fst → (ws.any fun kv => decide (kv.1 = k)) = (kvs.any fun kv => decide (kv.1 = k)) := by
    intro ws
    induction ws with
    | nil => intro kvs e; cases kvs with
      | nil => rfl
      | cons p t => simp at e
    | cons w ws ih => intro kvs e; cases kvs with
      | nil => simp at e
      | cons p t =>
        simp only [List.map_cons, List.cons.injEq] at e
        rw [List.any_cons, List.any_cons, ih e.2, e.1]
  have map_eq : ∀ {ws : List (κ × V)} {kvs : List (κ × D)}, ws.map Prod.fst = kvs.map Prod.fst → RepL K H O (ws.map Prod.snd) (kvs.map Prod.snd) →
      (ws.map (fun kv => if kv.1 = k then (kv.1, v) else kv)).map Prod.fst = (kvs.map (fun kv => if kv.1 = k then (kv.1, d) else kv)).map Prod.fst ∧
      RepL K H O ((ws.map (fun kv => if kv.1 = k then (kv.1, v) else kv)).map Prod.snd) ((kvs.map (fun kv => if kv.1 = k then (kv.1, d) else kv)).map Prod.snd) := by
    intro ws
    induction ws with
    | nil => intro kvs e r; cases kvs with
      | nil => exact ⟨rfl, .nil⟩
      | cons p t => simp at e
    | cons w ws ih => intro kvs e r; cases kvs with
      | nil => simp at e
      | cons p t =>
        simp only [List.map_cons, List.cons.injEq] at e r
        cases r with
        | cons r1 r2 =>
          obtain ⟨h1, h2⟩ := ih e.2 r2
          by_cases hk : p.1 = k
          · have hw : w.1 = k := e.1.trans hk
            simp only [List.map_cons, if_pos hk, if_pos hw]
            exact ⟨by rw [h1, e.1], .cons rv h2⟩
          · have hw : ¬ w.1 = k := fun z => hk (e.1.symm.trans z)
            simp only [List.map_cons, if_neg hk, if_neg hw]
            exact ⟨by rw [h1, e.1], .cons r1 h2⟩
  unfold putK putD
  rw [any_eq e]
  by_cases c : (kvs.any fun kv => decide (kv.1 = k)) = true
  · rw [if_pos c, if_pos c]
    exact map_eq e r
  · rw [if_neg c, if_neg c]
    simp only [List.map_append, List.map_cons, List.map_nil]
    exact ⟨by rw [e], r.append (.one rv)⟩
/-- x[i] = v -/
def setV (G : DH) (d e v : D) : Option DH := match d with
  | .ptr a => match G a with
    | some (.lst ds) => match e with
      | .int i => (ixN ds.length i).map fun j => uG G a (.lst (ds.set j v))
      | _ => none
    | some (.dk kvs) => if kvs.length ≤ 100000 then (keyD e).map fun k => uG G a (.dk (putD kvs k v)) else none
    | some (.dT kvs) => if kvs.length ≤ 100000 then (match e with
      | .tup ds => (keyTD ds).map fun k => uG G a (.dT (putD kvs k v))
      | _ => none) else none
    | _ => none
  | _ => none
theorem size100000 {n : Nat} (h : n ≤ 100000) : n < sizeLine := Nat.lt_of_le_of_lt h (by decide)
/-- how a store by values is shown -/
theorem set_d (hu : X.A.units + 1 < cLine) {pins : List (Addr × Obj)} {s : Shared} {σ : L2.St} {H : Hp} {x y z : V} {ov iv u : Value} {Q : Hp → Prop} {F : Hid} {G G2 : DH} {d e v : D} (I : Inv X pins σ H s) (rx : RelV x ov) (ry : RelV y iv) (rz : RelV z u)
    (qx : Rep X.K H (Own F G) x d) (qy : Rep X.K H (Own F G) y e) (qz : Rep X.K H (Own F G) z v) (rg : RepG X.K H F G) (h : setV G d e v = some G2) (q : ∀ H', Step G H G2 H' → RepG X.K H' F G2 → Q H') :
    wpAny (model X.prog X.w) X.A (setItem ov iv u) (fun _ s' => ∃ H', Inv X pins σ H' s' ∧ Q H') X.xe s := by
  cases d with
  | ptr a =>
    cases qx
    cases hg : G a with
    | none => simp only [setV, hg] at h; exact nomatch h
    | some ob =>
      cases ob with
      | lst ds =>
        cases e with
        | int i =>
          cases qy
          cases hj : ixN ds.length i with
          | none => simp only [setV, hg, hj, Option.map_none] at h; exact nomatch h
          | some j =>
            simp only [setV, hg, hj, Option.map_some, Option.some.injEq] at h
            subst h
            obtain ⟨xs, h1, r⟩ := rg.ob a _ hg
            have nd : ∀ (es : List D) l ks, MO.lst es ≠ .deck l ks := fun _ _ _ z => nomatch z
            have st : Step G H (uG G a (.lst (ds.set j v))) (upd H a (.lst (xs.set j z))) := step_write hg (nd _)
            refine set_list pins s σ H _ _ _ ov iv u Q I rx ry rz ⟨a, xs, i, j, rfl, rfl, h1, by rw [r.len]; exact hj, q _ st ?_⟩
            exact rg.write hg (nd _) (nd _) ⟨_, upd_same, ((r.set qz j).step st)⟩
        | _ => simp only [setV, hg] at h; exact nomatch h
      | dk kvs =>
        by_cases hlen : kvs.length ≤ 100000
        · cases hk : keyD e with
          | none => simp only [setV, hg, hk, if_pos hlen, Option.map_none] at h; exact nomatch h
          | some k =>
            simp only [setV, hg, hk, if_pos hlen, Option.map_some, Option.some.injEq] at h
            subst h
            obtain ⟨ws, h1, h2, r⟩ := rg.ob a _ hg
            have nd : ∀ (es : List (Key × D)) l ks, MO.dk es ≠ .deck l ks := fun _ _ _ z => nomatch z
            have st : Step G H (uG G a (.dk (putD kvs k v))) (upd H a (.dK (putK ws k z))) := step_write hg (nd _)
            have hl : ws.length = kvs.length := by have := congrArg List.length h2; simpa using this
            obtain ⟨p1, p2⟩ := put_rep (k := k) qz h2 r
            refine set_dict hu pins s σ H _ _ _ ov iv u Q I rx ry rz ⟨a, _, rfl, .inl ⟨ws, k, h1, key_rep qy hk, by rw [hl]; exact size100000 hlen, rfl⟩, q _ st ?_⟩
            exact rg.write hg (nd _) (nd _) ⟨_, upd_same, p1, p2.step st⟩
        · simp only [setV, hg, if_neg hlen] at h; exact nomatch h
      | dT kvs =>
        by_cases hlen : kvs.length ≤ 100000
        · cases e with
          | tup ds =>
            cases hk : keyTD ds with
            | none => simp only [setV, hg, hk, if_pos hlen, Option.map_none] at h; exact nomatch h
            | some k =>
              simp only [setV, hg, hk, if_pos hlen, Option.map_some, Option.some.injEq] at h
              subst h
              obtain ⟨ws, h1, h2, r⟩ := rg.ob a _ hg
              have nd : ∀ (es : List (List Key × D)) l ks, MO.dT es ≠ .deck l ks := fun _ _ _ z => nomatch z
              have st : Step G H (uG G a (.dT (putD kvs k v))) (upd H a (.dT (putK ws k z))) := step_write hg (nd _)
              have hl : ws.length = kvs.length := by have := congrArg List.length h2; simpa using this
              obtain ⟨p1, p2⟩ := put_rep (k := k) qz h2 r
              cases qy with
              | tup hb n rb =>
                refine set_dict hu pins s σ H _ _ _ ov iv u Q I rx ry rz ⟨a, _, rfl, .inr ⟨ws, k, _, h1, rfl, by rw [← keyT_rep rb hk]; exact hb, by rw [hl]; exact size100000 hlen, rfl⟩, q _ st ?_⟩
                exact rg.write hg (nd _) (nd _) ⟨_, upd_same, p1, p2.step st⟩
          | _ => simp only [setV, hg, if_pos hlen] at h; exact nomatch h
        · simp only [setV, hg, if_neg hlen] at h; exact nomatch h
      | _ => simp only [setV, hg] at h; exact nomatch h
  | _ => simp only [setV] at h; exact nomatch h
def lowSet (K : PySem.W.Frag) : TSet := fun x y z H Q => ∃ F G G2 d e v, Rep K H (Own F G) x d ∧ Rep K H (Own F G) y e ∧ Rep K H (Own F G) z v ∧ RepG K H F G ∧ setV G d e v = some G2 ∧ ∀ H', Step G H G2 H' → RepG K H' F G2 → Q H'
theorem pset_d (hu : X.A.units + 1 < cLine) : PSet X (lowSet X.K) := fun pins s σ H x y z ov iv u Q I rx ry rz ⟨F, G, G2, d, e, v, qx, qy, qz, rg, h, q⟩ => set_d hu I rx ry rz qx qy qz rg h q
def gS (to ti : DE) : DG := fun v s G Q => to s G fun d G1 => ti s G1 fun e G2 => match setV G2 d e v with
  | some G3 => Q s G3
  | none => False
theorem pgd_sub (hu : X.A.units + 1 < cLine) (ho : PED X o to) (hi : PED X i ti)
    (ha : ∀ v, assign (.Subscript o i pos) X.env v = (do
      let ov ← holding [v] (eval o X.env)
      let iv ← holding [v, ov] (eval i X.env)
      standAt pos
      holding [v, ov, iv] (setItem ov iv v)
      release [v, ov, iv] []) := by intro _; rfl) : PGD X (.Subscript o i pos) vs (gS to ti) := by
  refine ⟨(pg_sub ho.out hi.out (pset_d hu) ha).weak fun v σ H Q ⟨F, d, s, G, R, rd, rs, rg, q, p⟩ => ?_⟩
  refine ⟨F, s, G, _, rs, rg, q, fun d1 G1 x H1 st rx rg1 q1 => ?_⟩
  refine ⟨F, s, G1, _, rs.step st, rg1, q1, fun d2 G2 y H2 st2 ry rg2 q2 => ?_⟩
  cases hs : setV G2 d1 d2 d with
  | none => simp only [hs] at q2
  | some G3 =>
    simp only [hs] at q2
    exact ⟨F, G2, G3, d1, d2, d, rx.step st2, ry, (rd.step st).step st2, rg2, hs, fun H' st3 rg3 => p _ _ _ _ ((st.trans st2).trans st3) (((rs.step st).step st2).step st3) rg3 rfl q2⟩

/-! ### op= -/
def ipInt (f : Int → Int → Int) : DR2 := fun d e G Q => match d, e with
  | .int i, .int j => Q (.int (f i j)) G
  | _, _ => False
structure IpD (X : Cx) (op : Operator) (r : DR2) : Prop where
  out : PIp X op (low2 X.K r)
theorem ipd_int {op : Operator} {f : Int → Int → Int} (h : PIp X op (ipI f)) : IpD X op (ipInt f) := by
  refine ⟨fun pins s σ H x y v u Q I rx ry ⟨F, d, e, G, R, qx, qy, rg, q, p⟩ => ?_⟩
  cases qx <;> cases qy <;> try exact q.elim
  exact h pins s σ H _ _ v u Q I rx ry ⟨_, _, rfl, rfl, p.here rg (.int _) q⟩
theorem ipAdd : IpD X .Add (ipInt fun i j => i + j) := ipd_int ip_add
theorem ipSub : IpD X .Sub (ipInt fun i j => i - j) := ipd_int ip_sub
def dAug (i : Nat) (r : DR2) (te : DE) : DT := fun D s G => match sl s i with
  | some d => te s G fun e G1 => r d e G1 fun v G2 => D.nx (s.set i (some v)) G2
  | none => False
theorem psd_aug {i : Nat} {x : Str} {op : Operator} {r : DR2} {pos' : Pos} (hN : X.N.Nodup) (hi : X.N[i]? = some x) (hx : Loc X.env.scope x) (he : PED X e te) (ho : IpD X op r) (hf : X.fn x = true ∨ X.env.scope.names.lookup x = some .local := by first | exact .inl rfl | exact .inr rfl | assumption) :
    PSD X (.AugAssign (.Name x pos') op e pos) (dAug i r te) := by
  refine ⟨(ps_aug hN hi hx he.out ho.out hf).weak fun D σ H ⟨F, s, G, R, rs, rg, q, p⟩ => ?_⟩
  unfold dAug at q
  cases es : sl s i with
  | none => simp only [es] at q
  | some d =>
    simp only [es] at q
    obtain ⟨v, h1, h2⟩ := rs.at_ i d (sl_get es)
    refine ⟨v, h1, F, s, G, _, rs, rg, q, fun d1 G1 x H1 st rx rg1 q1 => ?_⟩
    exact ⟨F, d, d1, G1, _, h2.step st, rx, rg1, q1, fun d2 G2 z H2 st2 rz rg2 q2 => p.nx _ _ _ _ (st.trans st2) (((rs.step st).step st2).set rz i) rg2 q2⟩

/-! ### methods of lists -/
abbrev DRm := D → List D → DH → DK → Prop
def lowM (K : PySem.W.Frag) (r : DRm) : V → List V → Hp → VK → Prop := fun x xs H Q => ∃ F d ds G R, Rep K H (Own F G) x d ∧ RepL K H (Own F G) xs ds ∧ RepG K H F G ∧ r d ds G R ∧ Post K F G H R Q
def dBM (r : DRm) (to : DE) (ta : DA) : DE := fun s G Q => to s G fun d G1 => ta s G1 fun ds G2 => r d ds G2 Q
/-- a method of a list by place: what it makes of the list, and gives -/
def mLst (C : List D → List D → Prop) (f : List D → List D → D × List D) : DRm := fun d ds G Q => match d with
  | .ptr a => match G a with
    | some (.lst xs) => C xs ds ∧ Q (f xs ds).1 (uG G a (.lst (f xs ds).2))
    | _ => False
  | _ => False
theorem mlst_inv {K : PySem.W.Frag} {F : Hid} {G : DH} {H : Hp} {x : V} {d : D} {ds : List D} {R : DK} {C f} (rg : RepG K H F G) (r : Rep K H (Own F G) x d) (q : mLst C f d ds G R) :
    ∃ a xs ys, x = .ref a ∧ d = .ptr a ∧ G a = some (.lst xs) ∧ H a = some (.lst ys) ∧ RepL K H (Own F G) ys xs ∧ C xs ds ∧ R (f xs ds).1 (uG G a (.lst (f xs ds).2)) := by
  unfold mLst at q
  split at q <;> try exact q.elim
  cases r
  split at q <;> try exact q.elim
  rename_i a _ xs hg
  obtain ⟨ys, h, r⟩ := rg.ob a _ hg
  exact ⟨a, xs, ys, rfl, rfl, hg, h, r, q⟩
theorem mlst_end {K : PySem.W.Frag} {F : Hid} {G : DH} {H : Hp} {a : Addr} {xs xs' : List D} {ys' : List V} {R : DK} {Q : VK} {v : V} {d : D} (p : Post K F G H R Q) (rg : RepG K H F G) (hg : G a = some (.lst xs)) (r : RepL K H (Own F G) ys' xs') (rv : Rep K H (Own F G) v d) (q : R d (uG G a (.lst xs'))) : Q v (upd H a (.lst ys')) := by
  have nd : ∀ (es : List D) l ks, MO.lst es ≠ .deck l ks := fun _ _ _ z => nomatch z
  have st : Step G H (uG G a (.lst xs')) (upd H a (.lst ys')) := step_write hg (nd _)
  exact p _ _ _ _ st (rv.step st) (rg.write hg (nd _) (nd _) ⟨_, upd_same, r.step st⟩) q
def dAppend (to te : DE) : DE := fun s G Q => to s G fun d G1 => ∃ a, d = .ptr a ∧ (∃ zs, G1 a = some (.lst zs)) ∧ te s G1 fun y G2 => ∃ xs, G2 a = some (.lst xs) ∧ xs.length ≤ 100000 ∧ Q .non (uG G2 a (.lst (xs ++ [y])))
theorem ped_append {apos : Pos} (ho : PED X o to) (ha : PED X e te) (hbase : attributeBase o "append" X.env (eval o X.env) = eval o X.env := by rfl)
    (hfew : ((backTo pos (starEach [e] X.env)).all (fun x => !x.1) && (backToKw pos (keywordEach [] X.env)).all (fun x => x.1.isSome) && decide ([e].length + ([] : List Keyword).length + (if ([] : List Keyword).isEmpty then 0 else 1) < 30)) = true := by rfl)
    (hline : (apos.endLine == pos.line) = true := by rfl) (hs : starEach [e] X.env = (false, eval e X.env) :: starEach [] X.env := by rfl) :
    PED X (.Call (.Attribute o "append" apos) [e] [] pos) (dAppend to te) := by
  refine ⟨(pe_bm PySem.F.plainAttrs_list PySem.F.slot_list_append PySem.F.type_list_append mt_append ho.out (pa_cons ha.out pa_nil hs) hbase hfew hline hs rfl).weak fun σ H Q ⟨F, s, G, R, rs, rg, q, p⟩ => ?_⟩
  refine ⟨F, s, G, _, rs, rg, q, fun d G1 x H1 st rx rg1 ⟨a, ed, ⟨zs, hz⟩, q1⟩ => ?_⟩
  subst ed
  cases rx
  obtain ⟨ys, h, r⟩ := rg1.ob a _ hz
  refine ⟨.inl ⟨rfl, ys, SqL.of h⟩, F, s, G1, _, rs.step st, rg1, q1, fun y G2 u H2 st2 ry rg2 ⟨xs, hg, hl, q2⟩ => ?_⟩
  obtain ⟨ys2, h2, r2⟩ := rg2.ob a _ hg
  exact ⟨a, ys2, u, rfl, rfl, h2, by rw [r2.len]; exact size100000 hl, mlst_end (p.step (st.trans st2)) rg2 hg (r2.append (.one ry)) .non q2⟩
/-- x.pop(k) -/
def dPopAt (to te : DE) : DE := fun s G Q => to s G fun d G1 => ∃ a, d = .ptr a ∧ (∃ zs, G1 a = some (.lst zs)) ∧ te s G1 fun y G2 => ∃ xs i k v, G2 a = some (.lst xs) ∧ y = .int i ∧ -(2 ^ 63) ≤ i ∧ i < 2 ^ 63 ∧ seqIndex? i xs.length = some k ∧ xs[k]? = some v ∧ Q v (uG G2 a (.lst (xs.eraseIdx k)))
theorem RepL.erase {K : PySem.W.Frag} {H : Hp} {O : Addr → Prop} : ∀ {xs : List V} {ds : List D} (k : Nat), RepL K H O xs ds → RepL K H O (xs.eraseIdx k) (ds.eraseIdx k)
  | _, _, _, .nil => .nil
  | _, _, 0, .cons _ t => t
  | _, _, k + 1, .cons r t => .cons r (RepL.erase k t)
theorem ped_popAt {apos : Pos} (ho : PED X o to) (ha : PED X e te) (hbase : attributeBase o "pop" X.env (eval o X.env) = eval o X.env := by rfl)
    (hfew : ((backTo pos (starEach [e] X.env)).all (fun x => !x.1) && (backToKw pos (keywordEach [] X.env)).all (fun x => x.1.isSome) && decide ([e].length + ([] : List Keyword).length + (if ([] : List Keyword).isEmpty then 0 else 1) < 30)) = true := by rfl)
    (hline : (apos.endLine == pos.line) = true := by rfl) (hs : starEach [e] X.env = (false, eval e X.env) :: starEach [] X.env := by rfl) :
    PED X (.Call (.Attribute o "pop" apos) [e] [] pos) (dPopAt to te) := by
  refine ⟨(pe_bm PySem.F.plainAttrs_list PySem.F.slot_list_pop PySem.F.type_list_pop mt_popAt ho.out (pa_cons ha.out pa_nil hs) hbase hfew hline hs rfl).weak fun σ H Q ⟨F, s, G, R, rs, rg, q, p⟩ => ?_⟩
  refine ⟨F, s, G, _, rs, rg, q, fun d G1 x H1 st rx rg1 ⟨a, ed, ⟨zs, hz⟩, q1⟩ => ?_⟩
  subst ed
  cases rx
  obtain ⟨ys, h, r⟩ := rg1.ob a _ hz
  refine ⟨.inl ⟨rfl, ys, SqL.of h⟩, F, s, G1, _, rs.step st, rg1, q1, fun y G2 u H2 st2 ry rg2 ⟨xs, i, k, v, hg, ey, h0, h1, hk, hv, q2⟩ => ?_⟩
  subst ey
  cases ry
  obtain ⟨ys2, h2, r2⟩ := rg2.ob a _ hg
  obtain ⟨w, hw, rw'⟩ := r2.get hv
  exact ⟨a, ys2, i, k, w, rfl, rfl, h2, h0, h1, by rw [r2.len]; exact hk, hw, mlst_end (p.step (st.trans st2)) rg2 hg (r2.erase k) rw' q2⟩
/-- x.pop() -/
def dPop (to : DE) : DE := fun s G Q => to s G fun d G1 => ∃ a xs v, d = .ptr a ∧ G1 a = some (.lst xs) ∧ xs[xs.length - 1]? = some v ∧ Q v (uG G1 a (.lst xs.dropLast))
theorem RepL.dropLast {K : PySem.W.Frag} {H : Hp} {O : Addr → Prop} {xs : List V} {ds : List D} (r : RepL K H O xs ds) : RepL K H O xs.dropLast ds.dropLast := by
  rw [List.dropLast_eq_take, List.dropLast_eq_take, r.len]
  exact r.take _
theorem ped_pop {apos : Pos} (ho : PED X o to) (hbase : attributeBase o "pop" X.env (eval o X.env) = eval o X.env := by rfl) (hline : (apos.endLine == pos.line) = true := by rfl) : PED X (.Call (.Attribute o "pop" apos) [] [] pos) (dPop to) := by
  refine ⟨(pe_bm0 PySem.F.plainAttrs_list PySem.F.slot_list_pop PySem.F.type_list_pop mt_pop ho.out hbase hline).weak fun σ H Q ⟨F, s, G, R, rs, rg, q, p⟩ => ?_⟩
  refine ⟨F, s, G, _, rs, rg, q, fun d G1 x H1 st rx rg1 ⟨a, xs, v, ed, hg, hv, q1⟩ => ?_⟩
  subst ed
  cases rx
  obtain ⟨ys, h, r⟩ := rg1.ob a _ hg
  obtain ⟨w, hw, rw'⟩ := r.get hv
  exact ⟨.inl ⟨rfl, ys, SqL.of h⟩, a, ys, w, rfl, rfl, h, by rw [r.len]; exact hw, mlst_end (p.step st) rg1 hg r.dropLast rw' q1⟩
end
end L2.Ew

set_option Elab.async false
set_option linter.all false
set_option maxRecDepth 100000
set_option maxHeartbeats 4000000
/-! Dict displays, decks, isinstance over data. -/
namespace L2.Ew
open PySem PySem.Spec PySem.SeqAt PyProof.Rows
section
variable {X : Cx} {e a b l o i : Expr} {es : List Expr} {pos : Pos} {te ta tb to ti : DE} {tr : DA} {vs : List Nat}
/-! ### dict displays -/
abbrev DPs := DS → DH → (List (D × D) → DH → Prop) → Prop
def dPairs : List (DE × DE) → DPs
  | [], _, G, Q => Q [] G
  | (tk, tv) :: r, s, G, Q => tk s G fun x G1 => tv s G1 fun y G2 => dPairs r s G2 fun ps G3 => Q ((x, y) :: ps) G3
def keysD : List (D × D) → Option (List (Key × D))
  | [] => some []
  | (x, y) :: r => match keyD x, keysD r with
    | some k, some ks => some ((k, y) :: ks)
    | _, _ => none
def mergeD (kvs more : List (Key × D)) : List (Key × D) := more.foldl (fun acc kv => putD acc kv.1 kv.2) kvs
structure PPsD (X : Cx) (pos : Pos) (keys : List (Option Expr)) (values : List Expr) (trs : List (DE × DE)) : Prop where
  out : PPs X pos keys values (trs.map fun t => (low X.K t.1, low X.K t.2))
theorem ppsd_nil : PPsD X pos [] [] [] := ⟨pps_nil⟩
theorem ppsd_cons {k v : Expr} {ks : List (Option Expr)} {vs : List Expr} {tk tv : DE} {trs : List (DE × DE)} (hk : PED X k tk) (hv : PED X v tv) (hr : PPsD X pos ks vs trs) : PPsD X pos (some k :: ks) (v :: vs) ((tk, tv) :: trs) := ⟨pps_cons hk.out hv.out hr.out⟩
/-- a new dict, taken as one that may change -/
def dDisp (trs : List (DE × DE)) : DE := fun s G Q => dPairs trs s G fun ps G1 => match keysD ps with
  | some kvs => kvs.length ≤ 15 ∧ ∀ p, G1 p = none → Q (.ptr p) (uG G1 p (.dk (mergeD [] kvs)))
  | none => False
inductive RepP (K : PySem.W.Frag) (H : Hp) (O : Addr → Prop) : List (V × V) → List (D × D) → Prop
  | nil : RepP K H O [] []
  | cons {x y : V} {d e : D} {xs : List (V × V)} {ds : List (D × D)} : Rep K H O x d → Rep K H O y e → RepP K H O xs ds → RepP K H O ((x, y) :: xs) ((d, e) :: ds)
theorem low_pairs {K : PySem.W.Frag} {F : Hid} {σ : L2.St} : ∀ {trs : List (DE × DE)} {G : DH} {H : Hp} {s : DS} {R : List (D × D) → DH → Prop} {Q : List (V × V) → Hp → Prop}, RepS K H (Own F G) σ s → RepG K H F G → dPairs trs s G R →
    (∀ ds G' xs H', Step G H G' H' → RepP K H' (Own F G') xs ds → RepG K H' F G' → R ds G' → Q xs H') → tPairs (trs.map fun t => (low K t.1, low K t.2)) σ H Q
  | [], G, H, s, R, Q, rs, rg, q, p => p [] G [] H Step.refl .nil rg q
  | (tk, tv) :: r, G, H, s, R, Q, rs, rg, q, p => by
    refine ⟨F, s, G, _, rs, rg, q, fun d G1 x H1 st rx rg1 q1 => ?_⟩
    refine ⟨F, s, G1, _, rs.step st, rg1, q1, fun e G2 y H2 st2 ry rg2 q2 => ?_⟩
    exact low_pairs ((rs.step st).step st2) rg2 q2 fun ds G3 xs H3 st3 rp rg3 q3 => p _ G3 _ H3 ((st.trans st2).trans st3) (.cons ((rx.step st2).step st3) (ry.step st3) rp) rg3 q3
theorem keys_rep {K : PySem.W.Frag} {H : Hp} {O : Addr → Prop} : ∀ {xs : List (V × V)} {ds : List (D × D)} {kvs : List (Key × D)}, RepP K H O xs ds → keysD ds = some kvs → ∃ ws : List (Key × V), xs = ws.map (fun kv => (kV kv.1, kv.2)) ∧ ws.map Prod.fst = kvs.map Prod.fst ∧ RepL K H O (ws.map Prod.snd) (kvs.map Prod.snd)
  | _, _, _, .nil, h => by cases h; exact ⟨[], rfl, rfl, .nil⟩
  | _, _, _, .cons (d := d) (e := e) (y := y) (ds := ds) r1 r2 t, h => by
    simp only [keysD] at h
    cases e1 : keyD d with
    | none => simp only [e1] at h; exact nomatch h
    | some k =>
      cases e2 : keysD ds with
      | none => simp only [e1, e2] at h; exact nomatch h
      | some ks =>
        simp only [e1, e2, Option.some.injEq] at h
        subst h
        obtain ⟨ws, h1, h2, h3⟩ := keys_rep t e2
        exact ⟨(k, y) :: ws, by rw [h1, key_rep r1 e1]; rfl, by simp [h2], .cons r2 h3⟩
theorem merge_rep {K : PySem.W.Frag} {H : Hp} {O : Addr → Prop} : ∀ {ws : List (Key × V)} {kvs : List (Key × D)} {acc : List (Key × V)} {bcc : List (Key × D)}, ws.map Prod.fst = kvs.map Prod.fst → RepL K H O (ws.map Prod.snd) (kvs.map Prod.snd) → acc.map Prod.fst = bcc.map Prod.fst → RepL K H O (acc.map Prod.snd) (bcc.map Prod.snd) →
    (mergeK acc ws).map Prod.fst = (mergeD bcc kvs).map Prod.fst ∧ RepL K H O ((mergeK acc ws).map Prod.snd) ((mergeD bcc kvs).map Prod.snd)
  | [], [], acc, bcc, _, _, e, r => ⟨e, r⟩
  | w :: ws, p :: kvs, acc, bcc, e1, r1, e, r => by
    simp only [List.map_cons, List.cons.injEq] at e1 r1
    cases r1 with
    | cons r0 r1 =>
      obtain ⟨h1, h2⟩ := put_rep (k := p.1) r0 e r
      have ih := merge_rep e1.2 r1 h1 h2
      rw [← e1.1] at ih
      have e2 : p.1 = w.1 := e1.1.symm
      show (mergeK (putK acc w.1 w.2) ws).map Prod.fst = (mergeD (putD bcc p.1 p.2) kvs).map Prod.fst ∧ RepL K H O ((mergeK (putK acc w.1 w.2) ws).map Prod.snd) ((mergeD (putD bcc p.1 p.2) kvs).map Prod.snd)
      rw [e2]
      exact ih
  | [], _ :: _, _, _, e, _, _, _ => by simp at e
  | _ :: _, [], _, _, e, _, _, _ => by simp at e
theorem ped_disp {keys : List (Option Expr)} {values : List Expr} {trs : List (DE × DE)} (h : PPsD X pos keys values trs) (hall : keys.all (·.isSome) = true := by rfl) (hl : keys.length = values.length := by rfl) (h0 : keys ≠ [] := by exact fun z => nomatch z) (h15 : keys.length ≤ 15 := by decide) :
    PED X (.Dict keys values pos) (dDisp trs) := by
  refine ⟨(pe_disp h.out hall hl h0 h15).weak fun σ H Q ⟨F, s, G, R, rs, rg, q, p⟩ => ?_⟩
  intro C hC
  have nF : ¬ F C := fun z => by obtain ⟨⟨u, e, _⟩, _⟩ := rg.hid C z; rw [hC] at e; cases e
  have nfp : ¬ Fp G C := fun z => rg.fresh hC (.inr z)
  have rgC : RepG X.K (upd H C (.dK [])) (F.add C) G := by
    refine ⟨fun a o h => (rg.ob a o h).imp (fun b u e n => ⟨by rw [upd_ne (ne_of_none e hC)]; exact e, fun z => ?_⟩) ?_ ?_, rg.dk, rg.dd, fun a z => ?_⟩
    · rcases z with (z | z) | z
      · exact n (.inl z)
      · exact ne_of_none e hC z
      · exact n (.inr z)
    · obtain ⟨w, q⟩ := (rg.ob a o h).there; rw [upd_ne (ne_of_none q hC)]
    · rintro l' ks rfl; obtain ⟨is, cs, _, _, q⟩ := rg.ob a _ h; rw [upd_ne (ne_of_none q hC)]
    · rcases z with z | rfl
      · obtain ⟨⟨u, e, t⟩, n⟩ := rg.hid a z; exact ⟨⟨u, by rw [upd_ne (ne_of_none e hC)]; exact e, t⟩, n⟩
      · exact ⟨⟨_, upd_same, fun _ y => nomatch y⟩, nfp⟩
  have rsC : RepS X.K (upd H C (.dK [])) (Own (F.add C) G) σ s := rs.imp fun a o e n => ⟨by rw [upd_ne (ne_of_none e hC)]; exact e, fun z => by
    rcases z with (z | z) | z
    · exact n (.inl z)
    · exact ne_of_none e hC z
    · exact n (.inr z)⟩
  refine low_pairs rsC rgC q fun ds G1 xs H1 st rp rg1 q1 => ?_
  have hC1 : H1 C = some (.dK []) := (st.at_ C _ upd_same nfp).1
  refine ⟨hC1, ?_⟩
  cases hk : keysD ds with
  | none => simp only [hk] at q1
  | some kvs =>
    simp only [hk] at q1
    obtain ⟨ws, h1, h2, h3⟩ := keys_rep rp hk
    have hl' : ws.length = kvs.length := by have := congrArg List.length h2; simpa using this
    refine ⟨ws, h1, by rw [hl']; exact q1.1, ?_⟩
    obtain ⟨m1, m2⟩ := merge_rep (acc := []) (bcc := []) h2 h3 rfl .nil
    have nfp1 : ¬ Fp G1 C := (rg1.hid C (.inr rfl)).2
    have hG : G1 C = none := by
      cases q : G1 C with
      | none => rfl
      | some o => exact absurd (.inl ⟨o, q⟩) nfp1
    have nd : ∀ (es : List (Key × D)) l ks, MO.dk es ≠ .deck l ks := fun _ _ _ z => nomatch z
    have key : ∀ a o, H1 a = some o → ¬ Own (F.add C) G1 a → (upd H1 C (.dK (mergeK [] ws))) a = some o ∧ ¬ Own F (uG G1 C (.dk (mergeD [] kvs))) a := fun a o e n => by
      have ne : a ≠ C := fun z => n (.inl (.inr z))
      refine ⟨by rw [upd_ne ne]; exact e, fun z => ?_⟩
      rcases z with z | z
      · exact n (.inl (.inl z))
      · rcases fp_uG (nd _) z with z | z
        · exact ne z
        · exact n (.inr z)
    refine p _ _ _ _ ⟨fun a o e n => ?_, fun a o e => ?_⟩ (.ptr C) ⟨fun a o ha => ?_, fun a l ks ha => ?_, fun a b l ks ks' e1 e2 => ?_, fun a z => ?_⟩ (q1.2 C hG)
    · have ne := ne_of_none e hC
      have z := st.at_ a o (by rw [upd_ne ne]; exact e) n
      refine ⟨by rw [upd_ne ne]; exact z.1, fun y => ?_⟩
      rcases fp_uG (nd _) y with y | y
      · exact ne y
      · exact z.2 y
    · have ne := ne_of_none e hC
      obtain ⟨w, z⟩ := st.dom a o (by rw [upd_ne ne]; exact e)
      exact ⟨w, by rw [upd_ne ne]; exact z⟩
    · by_cases ea : a = C
      · subst ea; rw [uG_same] at ha; cases ha; exact ⟨_, upd_same, m1, m2.imp key⟩
      · rw [uG_ne ea] at ha
        refine (rg1.ob a o ha).imp key (upd_ne ea) ?_
        rintro l ks rfl
        have : l ≠ C := fun z => by subst z; exact nfp1 (.inr ⟨a, ks, ha⟩)
        rw [upd_ne this]
    · have ea : a ≠ C := fun z => by subst z; rw [uG_same] at ha; cases ha
      rw [uG_ne ea] at ha
      have : l ≠ C := fun z => by subst z; exact nfp1 (.inr ⟨a, ks, ha⟩)
      rw [uG_ne this]; exact rg1.dk a l ks ha
    · have ha : a ≠ C := fun z => by subst z; rw [uG_same] at e1; cases e1
      have hb : b ≠ C := fun z => by subst z; rw [uG_same] at e2; cases e2
      rw [uG_ne ha] at e1; rw [uG_ne hb] at e2; exact rg1.dd a b l ks ks' e1 e2
    · obtain ⟨⟨w, q, t⟩, n⟩ := rg1.hid a (.inl z)
      have ne : a ≠ C := fun y => by subst y; exact nF z
      exact ⟨⟨w, by rw [upd_ne ne]; exact q, t⟩, fun y => (fp_uG (nd _) y).elim ne n⟩
/-- {} -/
def dDisp0 : DE := fun _ G Q => ∀ p, G p = none → Q (.ptr p) (uG G p (.dk []))
theorem ped_disp0 : PED X (.Dict [] [] pos) dDisp0 := by
  refine ⟨pe_dnewK.weak fun σ H Q ⟨F, s, G, R, rs, rg, q, p⟩ => ?_⟩
  intro C hC
  have nd : ∀ (es : List (Key × D)) l ks, MO.dk es ≠ .deck l ks := fun _ _ _ z => nomatch z
  exact p _ _ _ _ (step_adopt hC (nd _)) (.ptr C) (rg.adopt hC (nd _) ⟨[], upd_same, rfl, .nil⟩) (q C (rg.none hC))

/-! ### isinstance -/
def tyD (G : DH) : D → Option String
  | .non => some "NoneType" | .bl _ => some "bool" | .int _ => some "int" | .str _ => some "str"
  | .tup _ => some "tuple" | .lst _ => some "list" | .dk _ _ => some "dict" | .scr _ => some "list"
  | .ptr a => match G a with
    | some (.lst _) => some "list"
    | some (.dk _) => some "dict"
    | some (.dT _) => some "dict"
    | _ => none
  | .ty _ => none
def isa (n T : String) : Bool := n == T || (n == "bool" && T == "int")
theorem isa_ok {n T : String} (hn : n = "NoneType" ∨ n = "bool" ∨ n = "int" ∨ n = "str" ∨ n = "tuple" ∨ n = "list" ∨ n = "dict") (hT : T = "bool" ∨ T = "int" ∨ T = "str" ∨ T = "tuple" ∨ T = "list" ∨ T = "dict") : kitB n T = some (isa n T) := by
  rcases hn with rfl | rfl | rfl | rfl | rfl | rfl | rfl <;> rcases hT with rfl | rfl | rfl | rfl | rfl | rfl <;> decide +kernel
def cIsi : DRs := fun ds G Q => match ds with
  | [d, .ty T] => match tyD G d with
    | some n => (T = "bool" ∨ T = "int" ∨ T = "str" ∨ T = "tuple" ∨ T = "list" ∨ T = "dict") ∧ Q (.bl (isa n T)) G
    | none => False
  | _ => False
theorem ty_rep {K : PySem.W.Frag} {H : Hp} {F : Hid} {G : DH} {x : V} {d : D} {n : String} (rg : RepG K H F G) (r : Rep K H (Own F G) x d) (h : tyD G d = some n) : TyX K H x (.type n) ∧ (n = "NoneType" ∨ n = "bool" ∨ n = "int" ∨ n = "str" ∨ n = "tuple" ∨ n = "list" ∨ n = "dict") := by
  cases r with
  | non => cases h; exact ⟨.base .non, by simp⟩
  | bl b => cases h; exact ⟨.base (.bl b), by simp⟩
  | int b => cases h; exact ⟨.base (.int b), by simp⟩
  | str b => cases h; exact ⟨.base (.str b), by simp⟩
  | ty b => exact nomatch h
  | tup h1 _ _ => cases h; exact ⟨.base (.tup h1), by simp⟩
  | lst h1 _ _ => cases h; exact ⟨.base (.lst h1), by simp⟩
  | dk h1 _ _ => cases h; exact ⟨.base (.dK h1), by simp⟩
  | scr h1 _ =>
    cases h
    rcases h1 with h1 | ⟨o, h1⟩
    · exact ⟨.base (.lst h1), by simp⟩
    · exact ⟨.base (.frz h1), by simp⟩
  | scrK h1 =>
    cases h
    obtain ⟨o, its, n, h2, h3, _⟩ := h1
    exact ⟨.kList h2 h3, by simp⟩
  | ptr a =>
    cases hg : G a with
    | none => simp only [tyD, hg] at h; exact nomatch h
    | some o =>
      cases o with
      | lst ds => simp only [tyD, hg] at h; cases h; obtain ⟨xs, h1, _⟩ := rg.ob a _ hg; exact ⟨.base (.lst h1), by simp⟩
      | dk ds => simp only [tyD, hg] at h; cases h; obtain ⟨xs, h1, _⟩ := rg.ob a _ hg; exact ⟨.base (.dK h1), by simp⟩
      | dT ds => simp only [tyD, hg] at h; cases h; obtain ⟨xs, h1, _⟩ := rg.ob a _ hg; exact ⟨.base (.dT h1), by simp⟩
      | _ => simp only [tyD, hg] at h; exact nomatch h
theorem cdIsi : CallD X (.builtin "isinstance") cIsi := by
  refine ⟨fun pins s σ H xs us Q I r ⟨F, ds, G, R, rx, rg, q, p⟩ => ?_⟩
  unfold cIsi at q
  split at q <;> try exact q.elim
  rename_i d T
  cases ht : tyD G d with
  | none => simp only [ht] at q
  | some n =>
    simp only [ht] at q
    cases rx with
    | cons r1 r2 =>
      cases r2 with
      | cons r2 r3 =>
        cases r2; cases r3
        obtain ⟨t1, t2⟩ := ty_rep rg r1 ht
        exact call_isi pins s σ H _ us Q I r ⟨_, _, _, _, _, rfl, .ty T, t1, kit_ty (isa_ok t2 q.1), p.here rg (.bl _) q.2⟩

/-! ### decks -/
def deckD (l : Addr) (ks : List Str) (is : List Int) : List (Key × D) := (.inr "cells", .ptr l) :: (ks.zip is).map fun p => (.inr p.1, .int p.2)
def deckMO (l : Addr) (ks : DkS) (is : List Int) : MO := match ks with
  | .d ks => .dk (deckD l ks is)
  | .l _ => .lst (.ptr l :: is.map D.int)
  | .b _ => .lst (.ptr l :: is.map D.int)
theorem deckMO_nd (l : Addr) (ks : DkS) (is : List Int) : ∀ l' ks', deckMO l ks is ≠ .deck l' ks' := fun l' ks' z => by cases ks <;> exact nomatch z
/-- a deck, told by its parts -/
def openG (G : DH) (a l : Addr) (ks : DkS) (is cs : List Int) : DH := uG (uG G l (.lst (cs.map D.int))) a (deckMO l ks is)
theorem deck_fst (l : Addr) (ks : List Str) (is : List Int) : (deckKvs l ks is).map Prod.fst = (deckD l ks is).map Prod.fst := by simp [deckKvs, deckD]
theorem deck_snd {K : PySem.W.Frag} {H : Hp} {O : Addr → Prop} (l : Addr) (ks : List Str) (is : List Int) : RepL K H O ((deckKvs l ks is).map Prod.snd) ((deckD l ks is).map Prod.snd) := by
  simp only [deckKvs, deckD, List.map_cons, List.map_map]
  refine .cons (.ptr l) ?_
  have e1 : (ks.zip is).map (Prod.snd ∘ fun p => ((Sum.inr p.1 : Key), V.int p.2)) = ((ks.zip is).map Prod.snd).map V.int := by simp
  have e2 : (ks.zip is).map (Prod.snd ∘ fun p => ((Sum.inr p.1 : Key), D.int p.2)) = ((ks.zip is).map Prod.snd).map D.int := by simp
  rw [e1, e2]
  exact RepL.ints _
theorem deck_vals {K : PySem.W.Frag} {H : Hp} {O : Addr → Prop} {l : Addr} {ks : List Str} {is : List Int} {ws : List (Key × V)} (h : ws.map Prod.fst = (deckD l ks is).map Prod.fst) (r : RepL K H O (ws.map Prod.snd) ((deckD l ks is).map Prod.snd)) : ws = deckKvs l ks is := by
  have hs : ws.map Prod.snd = (deckKvs l ks is).map Prod.snd := by
    simp only [deckD, deckKvs, List.map_cons, List.map_map] at r ⊢
    have e1 : (ks.zip is).map (Prod.snd ∘ fun p => ((Sum.inr p.1 : Key), V.int p.2)) = ((ks.zip is).map Prod.snd).map V.int := by simp
    have e2 : (ks.zip is).map (Prod.snd ∘ fun p => ((Sum.inr p.1 : Key), D.int p.2)) = ((ks.zip is).map Prod.snd).map D.int := by simp
    rw [e2] at r
    rw [e1]
    cases hw : ws.map Prod.snd with
    | nil => rw [hw] at r; cases r
    | cons v vs =>
      rw [hw] at r
      cases r with
      | cons r0 r1 => cases r0; rw [r1.ints_of]
  have hf := h.trans (deck_fst l ks is).symm
  have ext : ∀ (a b : List (Key × V)), a.map Prod.fst = b.map Prod.fst → a.map Prod.snd = b.map Prod.snd → a = b := by
    intro a
    induction a with
    | nil => intro b h1 _; cases b with
      | nil => rfl
      | cons p t => simp at h1
    | cons p t ih => intro b h1 h2; cases b with
      | nil => simp at h1
      | cons q u =>
        simp only [List.map_cons, List.cons.injEq] at h1 h2
        rw [ih u h1.2 h2.2]
        exact congrArg (· :: u) (Prod.ext h1.1 h2.1)
  exact ext _ _ hf hs
theorem RepL.ints_nil {K : PySem.W.Frag} {H : Hp} {O : Addr → Prop} {l : Addr} {is : List Int} {xs : List V} (r : RepL K H O xs (.ptr l :: is.map D.int)) : xs = .ref l :: is.map V.int := by
  cases r with
  | cons r0 r1 => cases r0; rw [r1.ints_of]
theorem open_obj {K : PySem.W.Frag} {H : Hp} {O : Addr → Prop} {a l : Addr} {ks : DkS} {is : List Int} (h : H a = some (deckHO l ks is)) : RepO K H O a (deckMO l ks is) := by
  cases ks with
  | d kl => exact ⟨_, h, deck_fst _ _ _, deck_snd _ _ _⟩
  | l n => exact ⟨_, h, .cons (.ptr l) (RepL.ints _)⟩
  | b n => exact ⟨_, h, .cons (.ptr l) (RepL.ints _)⟩
theorem close_obj {K : PySem.W.Frag} {H : Hp} {O : Addr → Prop} {a l : Addr} {ks : DkS} {is : List Int} (h : RepO K H O a (deckMO l ks is)) : H a = some (deckHO l ks is) := by
  cases ks with
  | d kl => obtain ⟨ws, h1, h2, h3⟩ := h; rw [deck_vals h2 h3] at h1; exact h1
  | l n => obtain ⟨ws, h1, h2⟩ := h; rw [h2.ints_nil] at h1; exact h1
  | b n => obtain ⟨ws, h1, h2⟩ := h; rw [h2.ints_nil] at h1; exact h1
theorem fp_open {G : DH} {a l : Addr} {ks : DkS} {is cs : List Int} (hg : G a = some (.deck l ks)) (hl : G l = none) (b : Addr) : Fp (openG G a l ks is cs) b ↔ Fp G b := by
  unfold openG
  constructor
  · rintro (⟨o, h⟩ | ⟨c, ks', h⟩)
    · by_cases ea : b = a
      · subst ea; exact .inl ⟨_, hg⟩
      · rw [uG_ne ea] at h
        by_cases el : b = l
        · subst el; exact .inr ⟨a, ks, hg⟩
        · rw [uG_ne el] at h; exact .inl ⟨o, h⟩
    · by_cases ea : c = a
      · subst ea; rw [uG_same] at h; exact absurd (Option.some.inj h) (deckMO_nd _ _ _ _ _)
      · rw [uG_ne ea] at h
        by_cases el : c = l
        · subst el; rw [uG_same] at h; cases h
        · rw [uG_ne el] at h; exact .inr ⟨c, ks', h⟩
  · rintro (⟨o, h⟩ | ⟨c, ks', h⟩)
    · by_cases ea : b = a
      · subst ea; exact .inl ⟨_, uG_same⟩
      · by_cases el : b = l
        · exact .inl ⟨.lst (cs.map D.int), by rw [uG_ne ea, el, uG_same]⟩
        · exact .inl ⟨o, by rw [uG_ne ea, uG_ne el]; exact h⟩
    · by_cases ea : c = a
      · subst ea; rw [hg] at h; cases h
        by_cases el : l = c
        · exact .inl ⟨_, by rw [el]; exact uG_same⟩
        · exact .inl ⟨.lst (cs.map D.int), by rw [uG_ne el, uG_same]⟩
      · by_cases el : c = l
        · by_cases eb : b = a
          · subst eb; exact .inl ⟨_, uG_same⟩
          · by_cases eb2 : b = l
            · exact .inl ⟨.lst (cs.map D.int), by rw [uG_ne eb, eb2, uG_same]⟩
            · subst el; rw [hl] at h; cases h
        · exact .inr ⟨c, ks', by rw [uG_ne ea, uG_ne el]; exact h⟩
theorem own_open {F : Hid} {G : DH} {a l : Addr} {ks : DkS} {is cs : List Int} (hg : G a = some (.deck l ks)) (hl : G l = none) (b : Addr) : Own F (openG G a l ks is cs) b ↔ Own F G b := by
  unfold Own
  rw [fp_open hg hl]
theorem rep_open {K : PySem.W.Frag} {H : Hp} {F : Hid} {G : DH} {a l : Addr} {ks : DkS} {is cs : List Int} (hg : G a = some (.deck l ks)) (hl : G l = none) {v : V} {d : D} : Rep K H (Own F G) v d → Rep K H (Own F (openG G a l ks is cs)) v d := fun r => r.imp fun b _ e n => ⟨e, fun z => n ((own_open hg hl b).mp z)⟩
theorem rep_close {K : PySem.W.Frag} {H : Hp} {F : Hid} {G : DH} {a l : Addr} {ks : DkS} {is cs : List Int} (hg : G a = some (.deck l ks)) (hl : G l = none) {v : V} {d : D} : Rep K H (Own F (openG G a l ks is cs)) v d → Rep K H (Own F G) v d := fun r => r.imp fun b _ e n => ⟨e, fun z => n ((own_open hg hl b).mpr z)⟩
theorem open_deck {K : PySem.W.Frag} {H : Hp} {F : Hid} {G : DH} {a l : Addr} {ks : DkS} (g : RepG K H F G) (hg : G a = some (.deck l ks)) : ∃ is cs : List Int, DkI ks is ∧ RepG K H F (openG G a l ks is cs) := by
  obtain ⟨is, cs, h1, h2, h3⟩ := g.ob a _ hg
  have hl := g.dk a l ks hg
  have nal : a ≠ l := fun z => by subst z; rw [hl] at hg; cases hg
  have im : ∀ b o, H b = some o → ¬ Own F G b → H b = some o ∧ ¬ Own F (openG G a l ks is cs) b := fun b o e n => ⟨e, fun z => n ((own_open hg hl b).mp z)⟩
  refine ⟨is, cs, h2, ⟨fun b o hb => ?_, fun b l' ks' hb => ?_, fun b c l' k1 k2 e1 e2 => ?_, fun b z => ⟨(g.hid b z).1, fun y => (g.hid b z).2 ((fp_open hg hl b).mp y)⟩⟩⟩
  · unfold openG at hb
    by_cases ea : b = a
    · subst ea; rw [uG_same] at hb; cases hb
      exact open_obj h1
    · rw [uG_ne ea] at hb
      by_cases el : b = l
      · subst el; rw [uG_same] at hb; cases hb
        exact ⟨_, h3, RepL.ints _⟩
      · rw [uG_ne el] at hb
        exact (g.ob b o hb).imp im rfl fun _ _ _ => rfl
  · unfold openG at hb ⊢
    have ea : b ≠ a := fun z => by subst z; rw [uG_same] at hb; exact absurd (Option.some.inj hb) (deckMO_nd _ _ _ _ _)
    rw [uG_ne ea] at hb
    have el : b ≠ l := fun z => by subst z; rw [uG_same] at hb; cases hb
    rw [uG_ne el] at hb
    have q := g.dk b l' ks' hb
    have e1 : l' ≠ a := fun z => by subst z; rw [hg] at q; cases q
    have e2 : l' ≠ l := fun z => by subst z; exact ea (g.dd b a _ ks' ks hb hg)
    rw [uG_ne e1, uG_ne e2]
    exact q
  · unfold openG at e1 e2
    have h1 : b ≠ a := fun z => by subst z; rw [uG_same] at e1; exact absurd (Option.some.inj e1) (deckMO_nd _ _ _ _ _)
    have h2 : c ≠ a := fun z => by subst z; rw [uG_same] at e2; exact absurd (Option.some.inj e2) (deckMO_nd _ _ _ _ _)
    rw [uG_ne h1] at e1
    rw [uG_ne h2] at e2
    have h3 : b ≠ l := fun z => by subst z; rw [uG_same] at e1; cases e1
    have h4 : c ≠ l := fun z => by subst z; rw [uG_same] at e2; cases e2
    rw [uG_ne h3] at e1
    rw [uG_ne h4] at e2
    exact g.dd b c l' k1 k2 e1 e2
theorem close_deck {K : PySem.W.Frag} {H : Hp} {F : Hid} {G : DH} {a l : Addr} {ks : DkS} {is cs : List Int} (hg : G a = some (.deck l ks)) (hl : G l = none) (hd : ∀ b ks', G b = some (.deck l ks') → b = a) (hlen : DkI ks is) (g : RepG K H F (openG G a l ks is cs)) : RepG K H F G := by
  have nal : a ≠ l := fun z => by subst z; rw [hl] at hg; cases hg
  have im : ∀ b o, H b = some o → ¬ Own F (openG G a l ks is cs) b → H b = some o ∧ ¬ Own F G b := fun b o e n => ⟨e, fun z => n ((own_open hg hl b).mpr z)⟩
  have at_ : ∀ b o, b ≠ a → b ≠ l → G b = some o → openG G a l ks is cs b = some o := fun b o h1 h2 h => by unfold openG; rw [uG_ne h1, uG_ne h2]; exact h
  have nl : ∀ b o, G b = some o → b ≠ l := fun b o h z => by subst z; rw [hl] at h; cases h
  refine ⟨fun b o hb => ?_, fun b l' ks' hb => ?_, fun b c l' k1 k2 e1 e2 => ?_, fun b z => ⟨(g.hid b z).1, fun y => (g.hid b z).2 ((fp_open hg hl b).mpr y)⟩⟩
  · by_cases ea : b = a
    · subst ea; rw [hg] at hb; cases hb
      have h1 := close_obj (g.ob b _ (show openG G b l ks is cs b = some (deckMO l ks is) by unfold openG; exact uG_same))
      obtain ⟨xs, h4, h5⟩ := g.ob l _ (show openG G b l ks is cs l = some (.lst (cs.map D.int)) by unfold openG; rw [uG_ne nal.symm]; exact uG_same)
      rw [h5.ints_of] at h4
      exact ⟨is, cs, h1, hlen, h4⟩
    · exact (g.ob b o (at_ b o ea (nl b o hb) hb)).imp im rfl fun _ _ _ => rfl
  · by_cases ea : b = a
    · subst ea; rw [hg] at hb; cases hb; exact hl
    · have q := g.dk b l' ks' (at_ b _ ea (nl b _ hb) hb)
      unfold openG at q
      have e1 : l' ≠ a := fun z => by subst z; rw [uG_same] at q; cases q
      rw [uG_ne e1] at q
      have e2 : l' ≠ l := fun z => by subst z; rw [uG_same] at q; cases q
      rw [uG_ne e2] at q
      exact q
  · by_cases ea : b = a
    · subst ea; rw [hg] at e1; cases e1
      exact (hd c k2 e2).symm
    · by_cases ec : c = a
      · subst ec; rw [hg] at e2; cases e2
        exact hd b k1 e1
      · exact g.dd b c l' k1 k2 (at_ b _ ea (nl b _ e1) e1) (at_ c _ ec (nl c _ e2) e2)
/-- a draw, the deck told by its parts -/
def spDrawX (ks : DkS) : DSp := fun ds G R _ => ∃ (a l : Addr) (m : Int) (is cs : List Int), ds = [.ptr a, .int m] ∧ G a = some (deckMO l ks is) ∧ G l = some (.lst (cs.map D.int)) ∧ a ≠ l ∧ DkI ks is ∧ 0 < m ∧ m < 1073741824 ∧
  ∀ (r : Int) (is' cs' : List Int), 0 ≤ r → r < m → DkI ks is' → R (.int r) (openG G a l ks is' cs')
/-- a draw: any number below m -/
def spDraw (ks : DkS) : DSp := fun ds G R _ => ∃ a l m, ds = [.ptr a, .int m] ∧ G a = some (.deck l ks) ∧ 0 < m ∧ m < 1073741824 ∧ ∀ r : Int, 0 ≤ r → r < m → R (.int r) G
theorem open_open {G : DH} {a l : Addr} {ks : DkS} {is cs is' cs' : List Int} : openG (openG G a l ks is cs) a l ks is' cs' = openG G a l ks is' cs' := by
  funext b
  unfold openG uG
  by_cases ea : b = a
  · simp [ea]
  · by_cases el : b = l
    · simp [ea, el]
    · simp [ea, el]
theorem draw_shift {ks : DkS} {K : PySem.W.Frag} : ∀ vs H Q E, lower K (spDraw ks) vs H Q E → lower K (spDrawX ks) vs H Q E := by
  rintro vs H Q E ⟨F, ds, G, R, X, r, g, ⟨a, l, m, rfl, hg, h0, h1, q⟩, p, px⟩
  obtain ⟨is, cs, hlen, gx⟩ := open_deck g hg
  have hl := g.dk a l ks hg
  have nal : a ≠ l := fun z => by subst z; rw [hl] at hg; cases hg
  have hd : ∀ b ks', G b = some (.deck l ks') → b = a := fun b ks' h => g.dd b a l ks' ks h hg
  refine ⟨F, _, openG G a l ks is cs, fun d G' => ∃ (r : Int) (is' cs' : List Int), d = .int r ∧ 0 ≤ r ∧ r < m ∧ DkI ks is' ∧ G' = openG G a l ks is' cs', fun _ _ _ => False, r.imp fun b _ e n => ⟨e, fun z => n ((own_open hg hl b).mp z)⟩, gx, ?_, ?_, fun _ _ _ _ _ _ _ _ z => z.elim⟩
  · exact ⟨a, l, m, is, cs, rfl, by unfold openG; exact uG_same, by unfold openG; rw [uG_ne nal.symm]; exact uG_same, nal, hlen, h0, h1, fun r is' cs' h2 h3 h4 => ⟨r, is', cs', rfl, h2, h3, h4, open_open⟩⟩
  · rintro d G' v H' st rd rg ⟨r, is', cs', rfl, h2, h3, h4, rfl⟩
    refine p (.int r) G v H' ⟨fun b o e n => ?_, st.dom⟩ (rep_close hg hl rd) (close_deck hg hl hd h4 rg) (q r h2 h3)
    have z := st.at_ b o e fun y => n ((fp_open hg hl b).mp y)
    exact ⟨z.1, fun y => z.2 ((fp_open hg hl b).mpr y)⟩
theorem FnD.shift {P : Program} {w : World} {K : PySem.W.Frag} {mg : Str → Option Value} {base : Heap} {CX : CXT} {k : Nat} {x : Str} {sp sp' : DSp} (h : FnD P w K mg base CX k x sp) (i : ∀ vs H Q E, lower K sp' vs H Q E → lower K sp vs H Q E) : FnD P w K mg base CX k x sp' := by
  obtain ⟨f, fd, ps, hm, hk, hb, ok⟩ := h.ex
  exact ⟨f, fd, ps, hm, hk, hb, ok.imp i⟩
/-- a new deck -/
def spDeckX (ks : DkS) : DSp := fun ds G R _ => ∃ ns : List Int, ds = [.scr ns] ∧ ns.length ≤ 63 ∧ ∀ (p l : Addr) (is cs : List Int), G p = none → G l = none → p ≠ l → DkI ks is → R (.ptr p) (openG G p l ks is cs)
def spDeck (ks : DkS) : DSp := fun ds G R _ => ∃ ns : List Int, ds = [.scr ns] ∧ ns.length ≤ 63 ∧ ∀ p l : Addr, G p = none → R (.ptr p) (uG G p (.deck l ks))
theorem deck_shift {ks : DkS} {K : PySem.W.Frag} : ∀ vs H Q E, lower K (spDeck ks) vs H Q E → lower K (spDeckX ks) vs H Q E := by
  rintro vs H Q E ⟨F, ds, G, R, X, r, g, ⟨ns, rfl, h0, q⟩, p, px⟩
  refine ⟨F, _, G, fun d G' => ∃ (b l : Addr) (is cs : List Int), d = .ptr b ∧ G b = none ∧ G l = none ∧ b ≠ l ∧ DkI ks is ∧ G' = openG G b l ks is cs, fun _ _ _ => False, r, g, ⟨ns, rfl, h0, fun b l is cs h1 h2 h3 h4 => ⟨b, l, is, cs, rfl, h1, h2, h3, h4, rfl⟩⟩, ?_, fun _ _ _ _ _ _ _ _ z => z.elim⟩
  rintro d G' v H' st rd rg ⟨b, l, is, cs, rfl, h1, h2, h3, h4, rfl⟩
  have hg : uG G b (.deck l ks) b = some (.deck l ks) := uG_same
  have hl : uG G b (.deck l ks) l = none := by rw [uG_ne h3.symm]; exact h2
  have eo : openG (uG G b (.deck l ks)) b l ks is cs = openG G b l ks is cs := by
    funext c
    unfold openG uG
    by_cases ea : c = b
    · simp [ea]
    · by_cases el : c = l
      · simp [ea, el]
      · simp [ea, el]
  have hd : ∀ c ks', uG G b (.deck l ks) c = some (.deck l ks') → c = b := fun c ks' h => by
    by_cases ea : c = b
    · exact ea
    · rw [uG_ne ea] at h
      have := rg.dk c l ks' (by unfold openG; rw [uG_ne ea, uG_ne (fun z => by subst z; rw [h2] at h; cases h)]; exact h)
      unfold openG at this
      rw [uG_ne h3.symm, uG_same] at this
      cases this
  rw [← eo] at st rd rg
  refine p (.ptr b) (uG G b (.deck l ks)) v H' ⟨fun c o e n => ?_, st.dom⟩ (rep_close hg hl rd) (close_deck hg hl hd h4 rg) (q b l h1)
  have z := st.at_ c o e n
  exact ⟨z.1, fun y => z.2 ((fp_open hg hl c).mpr y)⟩
end
end L2.Ew
namespace L2.Ew
open PySem PySem.Spec PySem.SeqAt PyProof.Rows
theorem putD_new {κ : Type} [DecidableEq κ] {kvs : List (κ × D)} {k : κ} {v : D} (h : ¬ k ∈ kvs.map Prod.fst) : putD kvs k v = kvs ++ [(k, v)] := by
  unfold putD
  rw [if_neg]
  intro q
  obtain ⟨p, hp, e⟩ := List.any_eq_true.mp q
  exact h (List.mem_map.mpr ⟨p, hp, of_decide_eq_true e⟩)
theorem mergeD_app : ∀ (kvs acc : List (Key × D)), ((acc ++ kvs).map Prod.fst).Nodup → mergeD acc kvs = acc ++ kvs
  | [], acc, _ => by rw [List.append_nil]; rfl
  | p :: kvs, acc, h => by
    have h1 : ¬ p.1 ∈ acc.map Prod.fst := by
      rw [List.map_append, List.nodup_append] at h
      exact fun z => h.2.2 _ z _ (by simp) rfl
    show mergeD (putD acc p.1 p.2) kvs = acc ++ p :: kvs
    rw [putD_new h1, mergeD_app kvs (acc ++ [(p.1, p.2)]) (by simpa using h)]
    simp
theorem mergeD_nil {kvs : List (Key × D)} (h : (kvs.map Prod.fst).Nodup) : mergeD [] kvs = kvs := by
  have := mergeD_app kvs [] (by simpa using h)
  simpa using this
theorem mergeD_nil' {kvs : List (Key × D)} {ks : List Key} (e : kvs.map Prod.fst = ks) (h : ks.Nodup) : mergeD [] kvs = kvs := mergeD_nil (by rw [e]; exact h)
end L2.Ew

set_option Elab.async false
set_option linter.all false
set_option maxRecDepth 100000
set_option maxHeartbeats 4000000
/-! Readings, step by step: what is to be shown of each form, from the head. -/
namespace L2.Ew
open PySem PySem.Spec PySem.SeqAt PyProof.Rows
section
variable {s : DS} {G : DH} {Q : DK} {D' : DEnds} {t u : DT} {te ta tb tc to ti : DE} {tt tt' : DTT} {tr : DA} {r r' : DR2} {r1 : DR1} {rs : DRs} {f : DF} {g : DG} {i j k : Int} {a l p : Addr} {b c : Bool} {x y z : Str} {d e v : D} {ds es : List D} {n : Nat} {P : Prop}
theorem st_seq (h : t { D' with nx := u D' } s G) : dSeq t u D' s G := h
theorem st_asg (h : te s G fun d G1 => g d s G1 D'.nx) : dAsg te g D' s G := h
theorem st_drop (h : te s G fun _ G1 => D'.nx s G1) : dDrop te D' s G := h
theorem st_ret (h : te s G D'.rt) : dRet te D' s G := h
theorem st_retN (h : D'.rt .non G) : dRetN D' s G := h
theorem st_next (h : D'.nx s G) : dNext D' s G := h
theorem st_break (h : D'.bk s G) : dBreak D' s G := h
theorem st_cont (h : D'.ct s G) : dCont D' s G := h
theorem st_ifS (h : tt s G fun b G1 => if b = true then t D' s G1 else u D' s G1) : dIfS tt t u D' s G := h
theorem st_var {i : Nat} (h : sl s i = some d) (q : Q d G) : dVar i s G Q := by unfold dVar; rw [h]; exact q
theorem st_c (q : Q d G) : dC d s G Q := q
theorem st_bin (h : ta s G fun d G1 => tb s G1 fun e G2 => r d e G2 Q) : dBin r ta tb s G Q := h
theorem st_un (h : ta s G fun d G1 => r1 d G1 Q) : dUn r1 ta s G Q := h
theorem st_tup (h : tr s G fun ds G1 => ds.length ≤ 1000 ∧ Q (.tup ds) G1) : dTup tr s G Q := h
theorem st_lv (h : f s G fun ds G1 => Q (.lst ds) G1) : dLv f s G Q := h
theorem st_ad (h : f s G fun ds G1 => ∀ p, G1 p = none → Q (.ptr p) (uG G1 p (.lst ds))) : dAd f s G Q := h
theorem st_asgL {i : Nat} (h : f s G fun ds G1 => ∀ p, G1 p = none → D'.nx (s.set i (some (.ptr p))) (uG G1 p (.lst ds))) : dAsgL f i D' s G := h
theorem st_flst {R : List D → DH → Prop} (h : tr s G fun ds G1 => ds.length ≤ 1000 ∧ R ds G1) : fLst tr s G R := h
theorem st_len (h : ds.length ≤ 1000) (q : P) : ds.length ≤ 1000 ∧ P := ⟨h, q⟩
theorem st_nil {R : List D → DH → Prop} (q : R [] G) : aNil s G R := q
theorem st_cons {R : List D → DH → Prop} (q : ta s G fun d G1 => tr s G1 fun ds G2 => R (d :: ds) G2) : aCons ta tr s G R := q
theorem st_call (h : tr s G fun ds G1 => rs ds G1 Q) : dCall rs tr s G Q := h
theorem st_fn {sp : DSp} (h : tr s G fun ds G1 => sp ds G1 Q X0) : dFn sp tr s G Q := h
theorem st_and {R : Bool → DH → Prop} (h : tt s G fun c G1 => if c = true then tt' s G1 R else R false G1) : dAnd tt tt' s G R := h
theorem st_or {R : Bool → DH → Prop} (h : tt s G fun c G1 => if c = true then R true G1 else tt' s G1 R) : dOr tt tt' s G R := h
theorem st_not {R : Bool → DH → Prop} (h : tt s G fun c G1 => R (!c) G1) : dNot tt s G R := h
theorem st_yes {R : Bool → DH → Prop} (h : R true G) : dYes s G R := h
theorem st_dif (h : tt s G fun c G1 => if c = true then ta s G1 Q else tb s G1 Q) : dIf tt ta tb s G Q := h
/-- a truth is what a value is -/
def tsK (d : D) (G : DH) (R : Bool → DH → Prop) : Prop := match d with
  | .bl b => R b G
  | _ => False
theorem st_test {R : Bool → DH → Prop} (h : te s G fun d G1 => tsK d G1 R) : dTest te s G R := h
theorem st_tsK {R : Bool → DH → Prop} (h : R b G) : tsK (.bl b) G R := h
def chK (tc : DE) (r' : DR2) (e : D) (s : DS) (Q : DK) (k : D) (G : DH) : Prop := match k with
  | .bl true => tc s G fun f G4 => r' e f G4 Q
  | .bl false => Q (.bl false) G
  | _ => False
theorem st_chain (h : ta s G fun d G1 => tb s G1 fun e G2 => r d e G2 fun k G3 => chK tc r' e s Q k G3) : dChain r r' ta tb tc s G Q := h
theorem st_chK (h : if b = true then tc s G fun f G4 => r' e f G4 Q else Q (.bl false) G) : chK tc r' e s Q (.bl b) G := by cases b <;> exact h
def avK (tb : DE) (s : DS) (Q : DK) (d : D) (G : DH) : Prop := match d with
  | .bl c => if c = true then tb s G Q else Q (.bl false) G
  | _ => False
theorem st_andV (h : ta s G fun d G1 => avK tb s Q d G1) : dAndV ta tb s G Q := h
theorem st_avK (h : if c = true then tb s G Q else Q (.bl false) G) : avK tb s Q (.bl c) G := h
def ovK (tb : DE) (s : DS) (Q : DK) (d : D) (G : DH) : Prop := match d with
  | .bl c => if c = true then Q (.bl true) G else tb s G Q
  | _ => False
theorem st_orV (h : ta s G fun d G1 => ovK tb s Q d G1) : dOrV ta tb s G Q := h
theorem st_ovK (h : if c = true then Q (.bl true) G else tb s G Q) : ovK tb s Q (.bl c) G := h
def nvK (Q : DK) (d : D) (G : DH) : Prop := match d with
  | .bl c => Q (.bl (!c)) G
  | _ => False
theorem st_notV (h : ta s G fun d G1 => nvK Q d G1) : dNotV ta s G Q := h
theorem st_nvK (h : Q (.bl (!c)) G) : nvK Q (.bl c) G := h
theorem st_ifT {A B : Prop} (h : A) : if true = true then A else B := iteT h
theorem st_ifF {A B : Prop} (h : B) : if false = true then A else B := iteF h
/-! operators -/
theorem st_int {g : Int → Int → D} (h : Q (g i j) G) : oInt g (.int i) (.int j) G Q := h
theorem st_sub (h : Q (.int (i - j)) G) : oSub (.int i) (.int j) G Q := h
theorem st_lt (h : Q (.bl (decide (i < j))) G) : oLt (.int i) (.int j) G Q := h
theorem st_le (h : Q (.bl (decide (i ≤ j))) G) : oLe (.int i) (.int j) G Q := h
theorem st_gt (h : Q (.bl (decide (j < i))) G) : oGt (.int i) (.int j) G Q := h
theorem st_ge (h : Q (.bl (decide (j ≤ i))) G) : oGe (.int i) (.int j) G Q := h
theorem st_fdiv (h0 : 0 < j) (h1 : j < 1073741824) (h : Q (.int (i / j)) G) : oFdiv (.int i) (.int j) G Q := ⟨⟨h0, h1⟩, h⟩
theorem st_mod (h0 : 0 < j) (h : Q (.int (i % j)) G) : oMod (.int i) (.int j) G Q := ⟨h0, h⟩
theorem st_pow (h0 : 0 ≤ j) (h1 : j ≤ 1000000) (h2 : i.natAbs < 2 ^ 64) (h : Q (.int (i ^ j.toNat)) G) : oPow (.int i) (.int j) G Q := ⟨⟨h0, h1, h2⟩, h⟩
theorem st_addI (h : Q (.int (i + j)) G) : oAdd (.int i) (.int j) G Q := h
theorem st_addS (h0 : x.length + y.length ≤ sizeLine) (h : Q (.str (x ++ y)) G) : oAdd (.str x) (.str y) G Q := ⟨h0, h⟩
theorem st_addT (h0 : ds.length + es.length ≤ sizeLine) (h : Q (.tup (ds ++ es)) G) : oAdd (.tup ds) (.tup es) G Q := ⟨h0, h⟩
theorem st_addL (hd : res G d = .lst ds) (he : res G e = .lst es) (h0 : ds.length + es.length ≤ sizeLine) (h : Q (.lst (ds ++ es)) G) : oAdd d e G Q := by unfold oAdd; rw [hd, he]; exact ⟨h0, h⟩
theorem st_mulI (h0 : (-(2 ^ 64) < i ∧ i < 2 ^ 64) ∨ (-(2 ^ 64) < j ∧ j < 2 ^ 64)) (h : Q (.int (i * j)) G) : oMul (.int i) (.int j) G Q := ⟨.inl h0, h⟩
theorem st_neg (h : Q (.int (-i)) G) : dNeg (.int i) G Q := h
theorem st_eqI (h : Q (.bl (decide (i = j))) G) : oEq (.int i) (.int j) G Q := by
  refine ⟨⟨rfl, rfl, by show min 0 0 ≤ 64; decide⟩, ?_⟩
  have : eqD (.int i) (.int j) = decide (i = j) := by show (i == j) = decide (i = j); by_cases e : i = j <;> simp [e]
  rw [show res G (.int i) = .int i from rfl, show res G (.int j) = .int j from rfl, this]
  exact h
theorem st_neI (h : Q (.bl (!decide (i = j))) G) : oNe (.int i) (.int j) G Q := by
  refine ⟨⟨rfl, rfl, by show min 0 0 ≤ 64; decide⟩, ?_⟩
  have : eqD (.int i) (.int j) = decide (i = j) := by show (i == j) = decide (i = j); by_cases e : i = j <;> simp [e]
  rw [show res G (.int i) = .int i from rfl, show res G (.int j) = .int j from rfl, this]
  exact h
theorem st_eqS (h : Q (.bl (decide (x = y))) G) : oEq (.str x) (.str y) G Q := by
  refine ⟨⟨rfl, rfl, by show min 0 0 ≤ 64; decide⟩, ?_⟩
  have : eqD (.str x) (.str y) = decide (x = y) := by show (x == y) = decide (x = y); by_cases e : x = y <;> simp [e]
  rw [show res G (.str x) = .str x from rfl, show res G (.str y) = .str y from rfl, this]
  exact h
theorem st_neS (h : Q (.bl (!decide (x = y))) G) : oNe (.str x) (.str y) G Q := by
  refine ⟨⟨rfl, rfl, by show min 0 0 ≤ 64; decide⟩, ?_⟩
  have : eqD (.str x) (.str y) = decide (x = y) := by show (x == y) = decide (x = y); by_cases e : x = y <;> simp [e]
  rw [show res G (.str x) = .str x from rfl, show res G (.str y) = .str y from rfl, this]
  exact h
theorem st_eq (hd : res G d = v) (he : res G e = w) (h0 : okEq v w) (h : Q (.bl (eqD v w)) G) : oEq d e G Q := by unfold oEq; rw [hd, he]; exact ⟨h0, h⟩
theorem st_ne (hd : res G d = v) (he : res G e = w) (h0 : okEq v w) (h : Q (.bl (!eqD v w)) G) : oNe d e G Q := by unfold oNe; rw [hd, he]; exact ⟨h0, h⟩
theorem eqD_nil : eqD (.lst ds) (.lst []) = ds.isEmpty := by cases ds <;> rfl
theorem eqD_nilT : eqD (.tup ds) (.tup []) = ds.isEmpty := by cases ds <;> rfl
theorem okEq_nil (h : plainDs ds = true) : okEq (.lst ds) (.lst []) := ⟨h, rfl, Nat.le_trans (Nat.min_le_right _ _) (by decide)⟩
theorem okEq_nilT (h : plainDs ds = true) : okEq (.tup ds) (.tup []) := ⟨h, rfl, Nat.le_trans (Nat.min_le_right _ _) (by decide)⟩
theorem st_neNil (hd : res G d = .lst ds) (h0 : plainDs ds = true) (h : Q (.bl (!ds.isEmpty)) G) : oNe d (.lst []) G Q := st_ne (w := .lst []) hd rfl (okEq_nil h0) (by rw [eqD_nil]; exact h)
theorem st_eqNil (hd : res G d = .lst ds) (h0 : plainDs ds = true) (h : Q (.bl ds.isEmpty) G) : oEq d (.lst []) G Q := st_eq (w := .lst []) hd rfl (okEq_nil h0) (by rw [eqD_nil]; exact h)
theorem st_is (h : isV d e = some b) (q : Q (.bl b) G) : oIs d e G Q := by unfold oIs; rw [h]; exact q
theorem st_isNot (h : isV d e = some b) (q : Q (.bl (!b)) G) : oIsNot d e G Q := by unfold oIsNot; rw [h]; exact q
theorem st_inL (he : res G e = .lst ds) (h0 : plainD d = true) (h1 : plainDs ds = true) (h2 : depD d ≤ 60) (h : Q (.bl (ds.any fun y => eqD y d)) G) : oIn d e G Q := by unfold oIn; rw [he]; exact ⟨h0, h1, h2, h⟩
theorem st_inT (he : res G e = .tup ds) (h0 : plainD d = true) (h1 : plainDs ds = true) (h2 : depD d ≤ 60) (h : Q (.bl (ds.any fun y => eqD y d)) G) : oIn d e G Q := by unfold oIn; rw [he]; exact ⟨h0, h1, h2, h⟩
theorem st_notInL (he : res G e = .lst ds) (h0 : plainD d = true) (h1 : plainDs ds = true) (h2 : depD d ≤ 60) (h : Q (.bl (!ds.any fun y => eqD y d)) G) : oNotIn d e G Q := by unfold oNotIn; rw [he]; exact ⟨h0, h1, h2, h⟩
theorem st_notInT (he : res G e = .tup ds) (h0 : plainD d = true) (h1 : plainDs ds = true) (h2 : depD d ≤ 60) (h : Q (.bl (!ds.any fun y => eqD y d)) G) : oNotIn d e G Q := by unfold oNotIn; rw [he]; exact ⟨h0, h1, h2, h⟩
/-! items -/
theorem st_ix (h : ixV G d e = some v) (hz : ∀ z, d = .str z → z.length ≤ sizeLine) (q : Q v G) : dIx d e G Q := by unfold dIx; rw [h]; exact ⟨hz, q⟩
theorem st_ixL (hd : res G d = .lst ds) (h : atI ds i = some v) (q : Q v G) : dIx d (.int i) G Q := st_ix (by unfold ixV; rw [hd]; exact h) (fun z hz => by subst hz; exact nomatch hd) q
theorem st_ixT (h : atI ds i = some v) (q : Q v G) : dIx (.tup ds) (.int i) G Q := st_ix (by unfold ixV; exact h) (fun z hz => nomatch hz) q
theorem st_ixK {kvs : List (Key × D)} {k : Key} (hd : G a = some (.dk kvs)) (hk : keyD e = some k) (h : valD kvs k = some v) (q : Q v G) : dIx (.ptr a) e G Q := by
  refine st_ix ?_ (fun z hz => nomatch hz) q
  simp only [ixV, res, hd, hk, Option.bind_some, h]
theorem st_slice {rl : DSl} {tl th : DO} (h : te s G fun d G1 => tl s G1 fun lo G2 => th s G2 fun hi G3 => rl d lo hi G3 Q) : dSlice rl te tl th s G Q := h
theorem st_no {R : Option Int → DH → Prop} (h : R none G) : oNo s G R := h
def ptK (R : Option Int → DH → Prop) (d : D) (G : DH) : Prop := match d with
  | .int i => R (some i) G
  | _ => False
theorem st_part {R : Option Int → DH → Prop} (h : te s G fun d G1 => ptK R d G1) : oPart te s G R := h
theorem st_ptK {R : Option Int → DH → Prop} (h : R (some i) G) : ptK R (.int i) G := h
theorem st_slL {lo hi : Option Int} (hd : res G d = .lst ds) (h : Q (.lst (cutL ds lo hi)) G) : rSl d lo hi G Q := by unfold rSl; rw [hd]; exact h
theorem st_slT {lo hi : Option Int} (h : Q (.tup (cutL ds lo hi)) G) : rSl (.tup ds) lo hi G Q := h
theorem st_slC {lo hi : Option Int} {ns : List Int} (h : Q (.lst ((cutL ns lo hi).map D.int)) G) : rSl (.scr ns) lo hi G Q := h
theorem st_rev (hd : res G d = .lst ds) (h : Q (.lst ds.reverse) G) : rRev d G Q := by unfold rRev; rw [hd]; exact h
/-! calls -/
theorem st_abs (h : Q (.int (if i < 0 then -i else i)) G) : cAbs [.int i] G Q := h
theorem st_max2 (h : Q (.int (if j > i then j else i)) G) : cMax2 [.int i, .int j] G Q := h
theorem st_min2 (h : Q (.int (if j < i then j else i)) G) : cMin2 [.int i, .int j] G Q := h
theorem st_intI (h : Q (.int i) G) : cInt [.int i] G Q := h
theorem st_intB (h : Q (.int (if b then 1 else 0)) G) : cInt [.bl b] G Q := h
theorem st_lenL (hd : res G d = .lst ds) (h : Q (.int ds.length) G) : cLen [d] G Q := by unfold cLen; simp only [hd]; exact h
theorem st_lenT (h : Q (.int ds.length) G) : cLen [.tup ds] G Q := h
theorem st_lenS (h0 : x.length ≤ sizeLine) (h : Q (.int x.length) G) : cLen [.str x] G Q := ⟨h0, h⟩
theorem st_tupL (hd : res G d = .lst ds) (h : Q (.tup ds) G) : cTuple [d] G Q := by unfold cTuple; simp only [hd]; exact h
theorem st_tupT (h : Q (.tup ds) G) : cTuple [.tup ds] G Q := h
theorem st_sum {ns : List Int} (hd : res G d = .lst ds) (hn : intsD ds = some ns) (h : Q (.int ns.sum) G) : cSum [d] G Q := by unfold cSum cInts; simp only [hd, hn]; exact ⟨trivial, h⟩
theorem st_maxL {ns : List Int} (hd : res G d = .lst ds) (hn : intsD ds = some ns) (h0 : 0 < ns.length) (h : ∀ m, m ∈ ns → (∀ y, y ∈ ns → y ≤ m) → Q (.int m) G) : cMaxL [d] G Q := by unfold cMaxL cInts; simp only [hd, hn]; exact ⟨h0, h⟩
theorem st_minL {ns : List Int} (hd : res G d = .lst ds) (hn : intsD ds = some ns) (h0 : 0 < ns.length) (h : ∀ m, m ∈ ns → (∀ y, y ∈ ns → m ≤ y) → Q (.int m) G) : cMinL [d] G Q := by unfold cMinL cInts; simp only [hd, hn]; exact ⟨h0, h⟩
theorem st_bools {f : List Bool → Bool} {bs : List Bool} (hd : res G d = .lst ds) (hn : boolsD ds = some bs) (h : Q (.bl (f bs)) G) : cBools f [d] G Q := by unfold cBools; simp only [hd, hn]; exact h
theorem st_divmod (h0 : 0 < j) (h1 : j < 1073741824) (h : Q (.tup [.int (i / j), .int (i % j)]) G) : cDivmod [.int i, .int j] G Q := ⟨⟨h0, h1⟩, h⟩
theorem st_isi {m T : String} (hd : tyD G d = some m) (h0 : T = "bool" ∨ T = "int" ∨ T = "str" ∨ T = "tuple" ∨ T = "list" ∨ T = "dict") (h : Q (.bl (isa m T)) G) : cIsi [d, .ty T] G Q := by unfold cIsi; simp only [hd]; exact ⟨h0, h⟩
/-! new lists -/
def lsK (R : List D → DH → Prop) (d : D) (G : DH) : Prop := match res G d with
  | .lst es => R es G
  | .tup es => R es G
  | .scr ns => R (ns.map D.int) G
  | _ => False
theorem st_listOf {R : List D → DH → Prop} (h : te s G fun d G1 => lsK R d G1) : fListOf te s G R := h
theorem st_lsKL {R : List D → DH → Prop} (hd : res G d = .lst ds) (h : R ds G) : lsK R d G := by unfold lsK; rw [hd]; exact h
theorem st_lsKT {R : List D → DH → Prop} (h : R ds G) : lsK R (.tup ds) G := h
/-! targets -/
theorem st_gN {i : Nat} {R : DS → DH → Prop} (h : R (s.set i (some d)) G) : gN i d s G R := h
theorem st_gU {u : DGs} {R : DS → DH → Prop} (hn : ds.length = n) (h : u ds s G R) : gU n u (.tup ds) s G R := ⟨hn, h⟩
theorem st_gUL {u : DGs} {R : DS → DH → Prop} (hd : res G d = .lst ds) (hn : ds.length = n) (h : u ds s G R) : gU n u d s G R := by unfold gU; rw [hd]; exact ⟨hn, h⟩
theorem st_g0 {R : DS → DH → Prop} (h : R s G) : gN0 [] s G R := h
theorem st_gc {u : DGs} {R : DS → DH → Prop} (h : g d s G fun s1 G1 => u ds s1 G1 R) : gNc g u (d :: ds) s G R := h
def gsK (v : D) (s : DS) (R : DS → DH → Prop) (d e : D) (G : DH) : Prop := match setV G d e v with
  | some G3 => R s G3
  | none => False
theorem st_gS {R : DS → DH → Prop} (h : to s G fun d1 G1 => ti s G1 fun e G2 => gsK d s R d1 e G2) : gS to ti d s G R := h
theorem st_gsK {R : DS → DH → Prop} {G2 : DH} (h : setV G d e v = some G2) (q : R s G2) : gsK v s R d e G := by unfold gsK; rw [h]; exact q
theorem setV_dk {kvs : List (Key × D)} {k : Key} (hg : G a = some (.dk kvs)) (hl : kvs.length ≤ 100000) (hk : keyD e = some k) : setV G (.ptr a) e v = some (uG G a (.dk (putD kvs k v))) := by simp only [setV, hg, if_pos hl, hk, Option.map_some]
theorem setV_lst {j : Nat} (hg : G a = some (.lst ds)) (hk : ixN ds.length i = some j) : setV G (.ptr a) (.int i) v = some (uG G a (.lst (ds.set j v))) := by simp only [setV, hg, hk, Option.map_some]
/-! walks -/
def sqK (R : List D → (DH → Prop) → DH → Prop) (d : D) (G : DH) : Prop := match res G d with
  | .tup ds => R ds (fun _ => True) G
  | .lst ds => R ds (gdOf d ds) G
  | _ => False
theorem st_iSeq {R : List D → (DH → Prop) → DH → Prop} (h : te s G fun d G1 => sqK R d G1) : iSeq te s G R := h
theorem st_sqT {R : List D → (DH → Prop) → DH → Prop} (h : R ds (fun _ => True) G) : sqK R (.tup ds) G := h
theorem st_sqL {R : List D → (DH → Prop) → DH → Prop} (h : R ds (fun _ => True) G) : sqK R (.lst ds) G := h
theorem st_sqP {R : List D → (DH → Prop) → DH → Prop} (hg : G a = some (.lst ds)) (h : R ds (fun G => G a = some (.lst ds)) G) : sqK R (.ptr a) G := by unfold sqK; rw [res_ptr hg]; exact h
def rgK1 (R : List D → (DH → Prop) → DH → Prop) (ds : List D) (G : DH) : Prop := match ds with
  | [.int n] => -(2 ^ 62) ≤ n ∧ n < 2 ^ 62 ∧ R (rangeD 0 n) (fun _ => True) G
  | _ => False
theorem st_iRange1 {R : List D → (DH → Prop) → DH → Prop} (h : tr s G fun ds G1 => rgK1 R ds G1) : iRange1 tr s G R := h
theorem st_rgK1 {R : List D → (DH → Prop) → DH → Prop} (h0 : -(2 ^ 62) ≤ i) (h1 : i < 2 ^ 62) (h : R (rangeD 0 i) (fun _ => True) G) : rgK1 R [.int i] G := ⟨h0, h1, h⟩
def rgK2 (R : List D → (DH → Prop) → DH → Prop) (ds : List D) (G : DH) : Prop := match ds with
  | [.int m, .int n] => -(2 ^ 62) ≤ m ∧ m < 2 ^ 62 ∧ -(2 ^ 62) ≤ n ∧ n < 2 ^ 62 ∧ R (rangeD m n) (fun _ => True) G
  | _ => False
theorem st_iRange2 {R : List D → (DH → Prop) → DH → Prop} (h : tr s G fun ds G1 => rgK2 R ds G1) : iRange2 tr s G R := h
theorem st_rgK2 {R : List D → (DH → Prop) → DH → Prop} (h0 : -(2 ^ 62) ≤ i) (h1 : i < 2 ^ 62) (h2 : -(2 ^ 62) ≤ j) (h3 : j < 2 ^ 62) (h : R (rangeD i j) (fun _ => True) G) : rgK2 R [.int i, .int j] G := ⟨h0, h1, h2, h3, h⟩
theorem st_for {it : DI} (h : it s G fun xs gd G1 => dLoop g t gd D' xs s G1) : dFor it g t D' s G := h
theorem st_loop0 {gd : DH → Prop} (h0 : gd G) (h : D'.nx s G) : dLoop g t gd D' [] s G := ⟨h0, h⟩
theorem st_loop1 {gd : DH → Prop} {xs : List D} (h0 : gd G) (h : g d s G fun s1 G1 => t { D' with nx := dLoop g t gd D' xs, ct := dLoop g t gd D' xs, bk := D'.nx } s1 G1) : dLoop g t gd D' (d :: xs) s G := ⟨h0, h⟩
/-- a loop by what holds after so many turns -/
theorem loop_inv {gd : DH → Prop} {xs : List D} (W : Nat → DS → DH → Prop) (h0 : W 0 s G) (hg : ∀ i s G, i ≤ xs.length → W i s G → gd G)
    (ht : ∀ i d s G (E : DEnds), i < xs.length → xs[i]? = some d → W i s G → (∀ s' G', W (i + 1) s' G' → E.nx s' G') → (∀ s' G', W (i + 1) s' G' → E.ct s' G') → E.rt = D'.rt → E.bk = D'.nx → g d s G fun s1 G1 => t E s1 G1) (hd : ∀ s G, W xs.length s G → D'.nx s G) : dLoop g t gd D' xs s G := by
  have key : ∀ (n i : Nat) (s : DS) (G : DH), n + i = xs.length → W i s G → dLoop g t gd D' (xs.drop i) s G := by
    intro n
    induction n with
    | zero =>
      intro i s G e w
      have e' : i = xs.length := by omega
      subst e'
      rw [List.drop_length]
      exact ⟨hg _ s G (Nat.le_refl _) w, hd s G w⟩
    | succ n ih =>
      intro i s G e w
      have hi : i < xs.length := by omega
      rw [List.drop_eq_getElem_cons hi]
      exact ⟨hg i s G (by omega) w, ht i _ s G _ hi (List.getElem?_eq_getElem hi) w (fun s' G' w' => ih (i + 1) s' G' (by omega) w') (fun s' G' w' => ih (i + 1) s' G' (by omega) w') rfl rfl⟩
  have := key xs.length 0 s G (by omega) h0
  rwa [List.drop_zero] at this
theorem st_comp {it : DI} {vs : List Nat} {R : List D → DH → Prop} (h : it s G fun xs gd G1 => xs.length ≤ 100000 ∧ dCompL g tt te gd vs s xs [] G1 R) : fComp it g tt te vs s G R := h
theorem st_comp0 {gd : DH → Prop} {vs : List Nat} {acc : List D} {R : List D → DH → Prop} (h0 : gd G) (h : R acc G) : dCompL g tt te gd vs s [] acc G R := ⟨h0, h⟩
theorem st_comp1 {gd : DH → Prop} {vs : List Nat} {xs acc : List D} {R : List D → DH → Prop} (h0 : gd G) (h : g d (wipeD s vs) G fun s1 G1 => tt s1 G1 fun b G2 => if b = true then te s1 G2 fun y G3 => dCompL g tt te gd vs s xs (acc ++ [y]) G3 R else dCompL g tt te gd vs s xs acc G2 R) : dCompL g tt te gd vs s (d :: xs) acc G R := ⟨h0, h⟩
/-- a comprehension by what it has made after so many items -/
theorem comp_inv {gd : DH → Prop} {vs : List Nat} {xs : List D} {R : List D → DH → Prop} (W : Nat → List D → Prop) (h0 : W 0 []) (hg : gd G)
    (ht : ∀ i d acc (K : List D → DH → Prop), i < xs.length → xs[i]? = some d → W i acc → (∀ acc', W (i + 1) acc' → K acc' G) → g d (wipeD s vs) G fun s1 G1 => tt s1 G1 fun b G2 => if b = true then te s1 G2 fun y G3 => K (acc ++ [y]) G3 else K acc G2) (hd : ∀ acc, W xs.length acc → R acc G) : dCompL g tt te gd vs s xs [] G R := by
  have key : ∀ (n i : Nat) (acc : List D), n + i = xs.length → W i acc → dCompL g tt te gd vs s (xs.drop i) acc G R := by
    intro n
    induction n with
    | zero =>
      intro i acc e w
      have e' : i = xs.length := by omega
      subst e'
      rw [List.drop_length]
      exact ⟨hg, hd acc w⟩
    | succ n ih =>
      intro i acc e w
      have hi : i < xs.length := by omega
      rw [List.drop_eq_getElem_cons hi]
      exact ⟨hg, ht i _ acc (fun a G' => dCompL g tt te gd vs s (xs.drop (i + 1)) a G' R) hi (List.getElem?_eq_getElem hi) w fun acc' w' => ih (i + 1) acc' (by omega) w'⟩
  have := key xs.length 0 [] (by omega) h0
  rwa [List.drop_zero] at this
/-! lists that change -/
theorem st_append (h : to s G fun d G1 => ∃ a, d = .ptr a ∧ (∃ zs, G1 a = some (.lst zs)) ∧ te s G1 fun y G2 => ∃ xs, G2 a = some (.lst xs) ∧ xs.length ≤ 100000 ∧ Q .non (uG G2 a (.lst (xs ++ [y])))) : dAppend to te s G Q := h
theorem st_disp {trs : List (DE × DE)} (h : dPairs trs s G fun ps G1 => match keysD ps with
    | some kvs => kvs.length ≤ 15 ∧ ∀ p, G1 p = none → Q (.ptr p) (uG G1 p (.dk (mergeD [] kvs)))
    | none => False) : dDisp trs s G Q := h
theorem st_prs0 {R : List (D × D) → DH → Prop} (h : R [] G) : dPairs [] s G R := h
theorem st_prs {tk tv : DE} {trs : List (DE × DE)} {R : List (D × D) → DH → Prop} (h : tk s G fun x G1 => tv s G1 fun y G2 => dPairs trs s G2 fun ps G3 => R ((x, y) :: ps) G3) : dPairs ((tk, tv) :: trs) s G R := h
/-! plain data -/
theorem plain_ints : ∀ ns : List Int, plainDs (ns.map D.int) = true
  | [] => rfl
  | n :: ns => by simp only [List.map_cons, plainDs, plainD, plain_ints ns, Bool.and_self]
theorem plain_bools : ∀ ns : List Bool, plainDs (ns.map D.bl) = true
  | [] => rfl
  | n :: ns => by simp only [List.map_cons, plainDs, plainD, plain_bools ns, Bool.and_self]
theorem plainDs_iff : ∀ {ds : List D}, plainDs ds = true ↔ ∀ d ∈ ds, plainD d = true
  | [] => by simp [plainDs]
  | d :: ds => by simp [plainDs, plainDs_iff (ds := ds)]
theorem plainDs_app {ds es : List D} (h1 : plainDs ds = true) (h2 : plainDs es = true) : plainDs (ds ++ es) = true := by
  rw [plainDs_iff] at *
  intro d hd
  rcases List.mem_append.mp hd with h | h
  · exact h1 d h
  · exact h2 d h
theorem eqD_self (h : plainD d = true) : eqD d d = true := eqv_refl_plain _ (plain_toP d h)
theorem depAll_le {n : Nat} : ∀ {ds : List D}, (∀ d ∈ ds, depD d ≤ n) → PyData.depthAll (toPs ds) ≤ n
  | [], _ => Nat.zero_le _
  | d :: ds, h => by
    simp only [toPs, PyData.depthAll]
    exact Nat.max_le.mpr ⟨h d (List.mem_cons_self ..), depAll_le fun e he => h e (List.mem_cons_of_mem _ he)⟩
end
end L2.Ew
namespace L2.Ew
open PySem PySem.Spec PySem.SeqAt PyProof.Rows
section
variable {G : DH} {a l : Addr} {ks : DkS} {kl : List Str} {nl : Nat} {is is' cs cs' : List Int}
theorem uG_id {o : MO} (h : G a = some o) : uG G a o = G := by
  funext b
  unfold uG
  by_cases e : b = a
  · rw [if_pos e, e, h]
  · rw [if_neg e]
theorem og_self (ha : G a = some (deckMO l ks is)) (hl : G l = some (.lst (cs.map D.int))) : openG G a l ks is cs = G := by unfold openG; rw [uG_id hl, uG_id ha]
theorem og_a : openG G a l (.d kl) is cs a = some (.dk (deckD l kl is)) := by unfold openG; exact uG_same
theorem og_aL : openG G a l (.l nl) is cs a = some (.lst (.ptr l :: is.map D.int)) := by unfold openG; exact uG_same
theorem og_l (h : a ≠ l) : openG G a l ks is cs l = some (.lst (cs.map D.int)) := by unfold openG; rw [uG_ne h.symm]; exact uG_same
theorem og_put {kvs : List (Key × D)} (e : kvs = deckD l kl is') : uG (openG G a l (.d kl) is cs) a (.dk kvs) = openG G a l (.d kl) is' cs := by subst e; unfold openG; rw [uG_uG]; rfl
theorem og_putL {ds : List D} (e : ds = .ptr l :: is'.map D.int) : uG (openG G a l (.l nl) is cs) a (.lst ds) = openG G a l (.l nl) is' cs := by subst e; unfold openG; rw [uG_uG]; rfl
theorem og_pop {ds : List D} (h : a ≠ l) (e : ds = cs'.map D.int) : uG (openG G a l ks is cs) l (.lst ds) = openG G a l ks is cs' := by
  subst e
  funext b
  unfold openG uG
  by_cases ea : b = a
  · have : b ≠ l := fun z => h (ea.symm.trans z)
    simp [ea, h]
  · by_cases el : b = l
    · simp [el, h.symm]
    · simp [ea, el]
theorem st_popAt0 {s : DS} {Q : DK} {to te : DE} (h : to s G fun d G1 => ∃ a, d = .ptr a ∧ (∃ zs, G1 a = some (.lst zs)) ∧ te s G1 fun y G2 => ∃ xs i k v, G2 a = some (.lst xs) ∧ y = .int i ∧ -(2 ^ 63) ≤ i ∧ i < 2 ^ 63 ∧ seqIndex? i xs.length = some k ∧ xs[k]? = some v ∧ Q v (uG G2 a (.lst (xs.eraseIdx k)))) : dPopAt to te s G Q := h
theorem st_pop0 {s : DS} {Q : DK} {to : DE} (h : to s G fun d G1 => ∃ a xs v, d = .ptr a ∧ G1 a = some (.lst xs) ∧ xs[xs.length - 1]? = some v ∧ Q v (uG G1 a (.lst xs.dropLast))) : dPop to s G Q := h
end
theorem dki3 {ks : DkS} {a b c : Int} (hk : ks.len = 3) : DkI ks [a, b, c] ↔ 0 ≤ a ∧ 0 ≤ b ∧ 0 ≤ c := by
  cases ks with
  | b n => exact absurd (show 7 = 3 from hk) (by decide)
  | d l => simp [DkI, hk]
  | l n => simp [DkI, hk]
theorem dki3_of {ks : DkS} {is : List Int} (h : DkI ks is) (hk : ks.len = 3) : ∃ a b c, is = [a, b, c] ∧ 0 ≤ a ∧ 0 ≤ b ∧ 0 ≤ c := by
  have h : is.length = ks.len ∧ ∀ i ∈ is, 0 ≤ i := by
    cases ks with
    | b n => exact absurd (show 7 = 3 from hk) (by decide)
    | d l => exact h
    | l n => exact h
  obtain ⟨h1, h2⟩ := h
  rw [hk] at h1
  match is, h1, h2 with
  | [a, b, c], _, h2 => exact ⟨a, b, c, rfl, h2 a (by simp), h2 b (by simp), h2 c (by simp)⟩
end L2.Ew

set_option Elab.async false
set_option linter.all false
set_option maxRecDepth 100000
set_option maxHeartbeats 4000000
/-! [::-1] of tuples; powers of ten; draws. -/
namespace L2.Ew
open PySem PySem.Spec PySem.SeqAt PyProof.Rows
section
variable {prog : Program} {w : World} {A : Around} {E : Value → Shared → Prop} {s : Shared}
theorem sliceApplied_rev {sl : Addr} {vl vu vs : Value} {n : Nat} {Q : Int × Int × Nat → Shared → Prop} (hs : s.heap.IsSliceOf sl vl vu vs) (pl : IsPart vl none) (pu : IsPart vu none) (ps : IsPart vs (some (-1)))
    (h : Q ((n : Int) - 1, -1, n) s) : wpAny (model prog w) A (Builtin.Slice.sliceApplied (.ref sl) (pure (n : Int))) Q E s := by
  obtain ⟨os, hos, hcs, hds⟩ := id hs
  unfold Builtin.Slice.sliceApplied Builtin.Slice.sliceFields
  refine wpAny_bind (wpAny_bind (wpAny_field hos hds (x := vl) rfl (wpAny_bind (wpAny_field hos hds (x := vu) rfl (wpAny_bind (wpAny_field hos hds (x := vs) rfl (wpAny_pure ?_)))))))
  refine wpAny_bind (HT.slicePart_ ps ?_)
  show wpAny _ _ (if ((-1 : Int) == 0) = true then _ else _) _ _ s
  rw [if_neg (by decide)]
  refine wpAny_bind (HT.slicePart_ pl (wpAny_bind (HT.slicePart_ pu (wpAny_bind (wpAny_pure ?_)))))
  have e : Builtin.Slice.slicePlaces ((n : Int) - 1) (-1) (-1) = n := by
    unfold Builtin.Slice.slicePlaces
    rw [if_neg (by decide)]
    by_cases h0 : (n : Int) - 1 > -1
    · rw [if_pos h0]
      have : ((n : Int) - 1 - -1 - 1) / (-(-1)) + 1 = (n : Int) := by
        rw [show (-(-1) : Int) = 1 from rfl, Int.ediv_one]; omega
      rw [this]; omega
    · rw [if_neg h0]; omega
  show wpAny _ _ (pure ((n : Int) - 1, (-1 : Int), Builtin.Slice.slicePlaces ((n : Int) - 1) (-1) (-1))) _ _ s
  rw [e]
  exact wpAny_pure h
theorem pick_rev (xs : Array Value) : ((List.range xs.size).filterMap fun (m : Nat) => xs[(((xs.size : Nat) : Int) - 1 + (m : Int) * (-1)).toNat]?).toArray = xs.toList.reverse.toArray := by
  congr 1
  have e : (List.range xs.size).filterMap (fun (m : Nat) => xs[(((xs.size : Nat) : Int) - 1 + (m : Int) * (-1)).toNat]?) = ((List.range xs.size).map fun k => xs.size - 1 - k).filterMap (xs[·]?) := by
    rw [List.filterMap_map]
    congr 1
    funext m
    have : (((xs.size : Nat) : Int) - 1 + (m : Int) * (-1)).toNat = xs.size - 1 - m := by omega
    simp only [Function.comp, this]
  rw [e, PySem.W.krv_range, List.filterMap_reverse, PySem.W.krv_all]
theorem getItem_tuple_rev {t sl : Addr} {items : Array Value} {vl vu vs : Value} {Q : Value → Shared → Prop} (ht : IsTup s.heap t items) (hs : s.heap.IsSliceOf sl vl vu vs) (pl : IsPart vl none) (pu : IsPart vu none) (ps : IsPart vs (some (-1)))
    (h : Q (.ref s.heap.objs.size) { s with heap := s.heap.push { cls := .type "tuple", data := .seq items.toList.reverse.toArray } }) (hsz : items.size ≤ sizeLine) : wpAny (model prog w) A (getItem (.ref t) (.ref sl)) Q E s := by
  have htake : sizeOk (.seq items.toList.reverse.toArray) := by
    show items.toList.reverse.toArray.size ≤ sizeLine
    simpa using hsz
  obtain ⟨os, hos, hcs, hds⟩ := id hs
  have hTs : s.TypeIs (.ref sl) "slice" := ⟨os, hos, hcs⟩
  unfold getItem
  try with_reducible refine wpAny_holding ?_
  first | refine wpAny_bind (wpAny_pure ?_) | skip
  refine wpAny_bind (wpAny_sequenceKey ht.typeIs (by decide) ?_)
  refine wpAny_bind (wpAny_callSpecial?_slot (name := Str.ofString "__getitem__") ht.typeIs PyProof.Rows.slot_tuple_getitem
    (wpAny_call_entry PyProof.Rows.slot_tuple_getitem ht.typeIs entry_tuple_getitem ?_ (args_tuple_getitem _ _)))
  show wpAny _ _ (Builtin.Tuple.tupleItemsOf (.ref t) >>= _) _ _ s
  refine wpAny_bind (tupleItemsOf_ ht ?_)
  refine wpAny_bind (wpAny_typeOf hTs ?_)
  rw [if_pos (by decide)]
  refine wpAny_bind (sliceApplied_rev hs pl pu ps ?_)
  have hno : ¬ ((((items.size : Nat) : Int) - 1 == 0 && (-1 : Int) == 1 && items.size == items.size) = true) := by
    rw [show ((-1 : Int) == 1) = false from rfl, Bool.and_false, Bool.false_and]
    exact Bool.false_ne_true
  show wpAny _ _ (if (((items.size : Nat) : Int) - 1 == 0 && (-1 : Int) == 1 && items.size == items.size) = true then _ else _) _ _ s
  rw [if_neg hno, pick_rev]
  first
    | exact wpAny_bind (m := Builtin.Tuple.tupleExact _) (wpAny_newObj_type (wpAny_pure ⟨_, rfl, wpAny_pure h⟩) htake)
    | exact wpAny_bind (m := Builtin.Tuple.tupleExact _) (wpAny_newObj_type (wpAny_bind (wpAny_pure (wpAny_pure ⟨_, rfl, wpAny_pure h⟩))) htake)
    | exact wpAny_bind (wpAny_bind (m := Builtin.Tuple.tupleExact _) (wpAny_newObj_type (wpAny_pure (wpAny_pure ⟨_, rfl, wpAny_pure h⟩)) htake))
    | exact wpAny_bind (wpAny_bind (m := Builtin.Tuple.tupleExact _) (wpAny_newObj_type (wpAny_pure ⟨_, rfl, wpAny_pure h⟩) htake))
end
section
variable {X : Cx} {e : Expr} {pos : Pos} {te : DE}
def tRevT (K : PySem.W.Frag) (te : TE) : TE := fun σ H Q => te σ H fun x H1 => ∃ a xs, x = .ref a ∧ SqT K H1 a xs ∧ ∀ p, H1 p = none → Q (.ref p) (upd H1 p (.tup xs.reverse))
theorem pe_revT {te : TE} {k : Nat} {p1 p2 p3 : Pos} (he : PE X e te) : PE X (.Subscript e (.Slice none none (some (.UnaryOp .USub (.Constant (.int 1) k p1) p2)) p3) pos) (tRevT X.K te) := by
  refine ⟨fun pins s σ H Q I h => ?_⟩
  refine Subscript_ (thn (he.run pins s σ H _ I h) fun v s1 ⟨x, H1, I1, r1, q1⟩ => ?_)
  obtain ⟨a, xs, ex, hx, q⟩ := q1
  subst ex
  cases r1
  have hst : PO X (some (.UnaryOp .USub (.Constant (.int 1) k p1) p2)) (tPart (tUn (rU fun i => .int (-i)) (tC (.int 1)))) := po_some (pe_un un_neg pe_int)
  refine wpAny_Slice (thn (po_none.run pins s1 σ H1 (fun o H2 => o = none ∧ H2 = H1) I1 ⟨rfl, rfl⟩) fun vl s2 ⟨l, H2, I2, pl, el, e2⟩ => ?_)
  subst el e2
  refine thn (po_none.run pins s2 σ H2 (fun o H3 => o = none ∧ H3 = H2) I2 ⟨rfl, rfl⟩) fun vu s3 ⟨u, H3, I3, pu, eu, e3⟩ => ?_
  subst eu e3
  refine thn (hst.run pins s3 σ H3 (fun o H4 => o = some (-1) ∧ H4 = H3) I3 ⟨1, rfl, -1, rfl, rfl, rfl⟩) fun vs s4 ⟨o, H4, I4, ps, eo, e4⟩ => ?_
  subst eo e4
  have I5 : Inv X pins σ H4 { s4 with heap := s4.heap.push { cls := .type "slice", data := .fields #[vl, vu, vs] } } := I4.kept (t' := s4.toks) fun b ob q => Heap.get?_push_of_some _ q
  obtain ⟨its, r, ht, hz⟩ := I5.tuple hx
  have hlen := r.length
  show wpAny (model X.prog X.w) X.A (subscriptTail e (.Slice none none (some (.UnaryOp .USub (.Constant (.int 1) k p1) p2)) p3) (.ref a) (.ref s4.heap.objs.size)) (EP X pins σ Q) X.xe { s4 with heap := s4.heap.push { cls := .type "slice", data := .fields #[vl, vu, vs] } }
  refine tail_any (ops := [.ref a, .ref s4.heap.objs.size]) ht.typeIs (PyProof.Rows.slot_tuple_getitem.lookup) ?_ (by with_unfolding_all rfl)
  refine getItem_tuple_rev ht (Heap.IsSliceOf.new _ vl vu vs) pl pu ps ?_ (by rw [List.size_toArray]; omega)
  refine ⟨.ref _, _, I5.laid (t' := s4.toks) (o := .tup xs.reverse) (fun b ob q => Heap.get?_push_of_some _ q) (Nat.le_refl _) ?_, rfl, q _ (I5.hok.fresh (Nat.le_refl _))⟩
  exact ⟨by rw [List.length_reverse]; exact hz, _, r.reverse, IsTup.new _ _⟩
def rRevT : DR1 := fun d G Q => match d with
  | .tup ds => Q (.tup ds.reverse) G
  | _ => False
theorem ped_revT {k : Nat} {p1 p2 p3 : Pos} (he : PED X e te) : PED X (.Subscript e (.Slice none none (some (.UnaryOp .USub (.Constant (.int 1) k p1) p2)) p3) pos) (dUn rRevT te) := by
  refine ⟨(pe_revT he.out).weak fun σ H Q ⟨F, s, G, R, rs, rg, q, p⟩ => ?_⟩
  refine ⟨F, s, G, _, rs, rg, q, fun d G1 x H1 st rx rg1 q1 => ?_⟩
  unfold rRevT at q1
  split at q1 <;> try exact q1.elim
  obtain ⟨a, xs, rfl, h, r⟩ := tup_at rx
  exact ⟨a, xs, rfl, h, new_tup (p.step st) rg1 r.rev q1⟩
end
section
variable {G : DH} {Q : DK} {ds : List D} {i m : Int} {a l : Addr} {ks : DkS} {X : XD} {d : D} {es : List D} {T n : String}
theorem st_len5 {P : Prop} (h : ds.length ≤ 100000) (q : P) : ds.length ≤ 100000 ∧ P := ⟨h, q⟩
theorem int_eq {R : DK} {j : Int} (e : i = j) (h : R (.int i) G) : R (.int j) G := e ▸ h
theorem st_sel {c : Prop} [Decidable c] {A B : D} (h1 : c → Q B G) (h2 : ¬ c → Q A G) : dIx (.lst [A, B]) (.int (if decide c = true then 1 else 0)) G Q := by
  by_cases h : c
  · rw [if_pos (decide_eq_true h)]; exact st_ixL rfl rfl (h1 h)
  · rw [if_neg (by simpa using h)]; exact st_ixL rfl rfl (h2 h)
theorem st_selB {b : Bool} {A B : D} (h1 : b = true → Q B G) (h2 : b = false → Q A G) : dIx (.lst [A, B]) (.int (if b = true then 1 else 0)) G Q := by
  cases b with
  | true => exact st_ixL rfl rfl (h1 rfl)
  | false => exact st_ixL rfl rfl (h2 rfl)
theorem st_selI {c : Prop} [Decidable c] {A B : Int} (h : ∀ v : Int, (v = A ∨ v = B) → Q (.int v) G) : dIx (.lst [.int A, .int B]) (.int (if decide c = true then 1 else 0)) G Q := st_sel (fun _ => h _ (.inr rfl)) (fun _ => h _ (.inl rfl))
theorem st_revT (h : Q (.tup ds.reverse) G) : rRevT (.tup ds) G Q := h
theorem st_p3 (h : Q (.int 1000) G) : oPow (.int 10) (.int 3) G Q := st_pow (by decide) (by decide) (by decide) h
theorem st_p5 (h : Q (.int 100000) G) : oPow (.int 10) (.int 5) G Q := st_pow (by decide) (by decide) (by decide) h
theorem st_p6 (h : Q (.int 1000000) G) : oPow (.int 10) (.int 6) G Q := st_pow (by decide) (by decide) (by decide) h
theorem st_p7 (h : Q (.int 10000000) G) : oPow (.int 10) (.int 7) G Q := st_pow (by decide) (by decide) (by decide) h
theorem st_p8 (h : Q (.int 100000000) G) : oPow (.int 10) (.int 8) G Q := st_pow (by decide) (by decide) (by decide) h
theorem st_p9 (h : Q (.int 1000000000) G) : oPow (.int 10) (.int 9) G Q := st_pow (by decide) (by decide) (by decide) h
theorem st_p10 (h : Q (.int 10000000000) G) : oPow (.int 10) (.int 10) G Q := st_pow (by decide) (by decide) (by decide) h
theorem st_p12 (h : Q (.int 1000000000000) G) : oPow (.int 10) (.int 12) G Q := st_pow (by decide) (by decide) (by decide) h
theorem st_p15 (h : Q (.int 1000000000000000) G) : oPow (.int 10) (.int 15) G Q := st_pow (by decide) (by decide) (by decide) h
theorem st_p18 (h : Q (.int 1000000000000000000) G) : oPow (.int 10) (.int 18) G Q := st_pow (by decide) (by decide) (by decide) h
theorem st_draw (ha : G a = some (.deck l ks)) (h0 : 0 < m) (h1 : m < 1073741824) (h : ∀ r : Int, 0 ≤ r → r < m → Q (.int r) G) : spDraw ks [.ptr a, .int m] G Q X := ⟨a, l, m, rfl, ha, h0, h1, h⟩
theorem st_isiT (hd : tyD G d = some n) (h0 : T = "bool" ∨ T = "int" ∨ T = "str" ∨ T = "tuple" ∨ T = "list" ∨ T = "dict") (hb : isa n T = true) (h : Q (.bl true) G) : cIsi [d, .ty T] G Q := st_isi hd h0 (by rw [hb]; exact h)
theorem st_isiF (hd : tyD G d = some n) (h0 : T = "bool" ∨ T = "int" ∨ T = "str" ∨ T = "tuple" ∨ T = "list" ∨ T = "dict") (hb : isa n T = false) (h : Q (.bl false) G) : cIsi [d, .ty T] G Q := st_isi hd h0 (by rw [hb]; exact h)
theorem iteNT {A B : Prop} (h : B) : if (!true) = true then A else B := by rw [if_neg (by decide)]; exact h
theorem iteNF {A B : Prop} (h : A) : if (!false) = true then A else B := by rw [if_pos (by decide)]; exact h
theorem iteD {c A B : Prop} [Decidable c] (h1 : c → A) (h2 : ¬ c → B) : if decide c = true then A else B := by
  by_cases h : c
  · rw [if_pos (decide_eq_true h)]; exact h1 h
  · rw [if_neg (by simpa using h)]; exact h2 h
theorem iteND {c A B : Prop} [Decidable c] (h1 : c → B) (h2 : ¬ c → A) : if (!decide c) = true then A else B := by
  by_cases h : c
  · rw [if_neg (by simpa using h)]; exact h1 h
  · rw [if_pos (by simpa using h)]; exact h2 h
theorem iteB {b : Bool} {A B : Prop} (h1 : b = true → A) (h2 : b = false → B) : if b = true then A else B := by cases b <;> simp_all
theorem iteNB {b : Bool} {A B : Prop} (h1 : b = true → B) (h2 : b = false → A) : if (!b) = true then A else B := by cases b <;> simp_all
end
end L2.Ew

set_option Elab.async false
set_option linter.all false
set_option maxRecDepth 100000
set_option maxHeartbeats 4000000
/-! One step of a reading, found by its form. -/
namespace L2.Ew
open PySem PySem.Spec PySem.SeqAt PyProof.Rows
/-- to show P it is enough to show Q -/
class Stp (P : Prop) (Q : outParam Prop) : Prop where
  out : Q → P
section
variable {s : DS} {G : DH} {Q : DK} {D' : DEnds} {t u : DT} {te ta tb tc to ti : DE} {tt tt' : DTT} {tr : DA} {r r' : DR2} {r1 : DR1} {rs : DRs} {f : DF} {g : DG} {i j k : Int} {a l p : Addr} {b c : Bool} {x y z : Str} {d e v : D} {ds es : List D} {n : Nat} {P : Prop} {sp : DSp} {R : List D → DH → Prop} {B : Bool → DH → Prop} {R2 : Option Int → DH → Prop} {S : DS → DH → Prop} {W : List D → (DH → Prop) → DH → Prop} {gs : DGs} {nx bk ct : DS → DH → Prop} {rt : DK}
instance : Stp (dSeq t u D' s G) (t { D' with nx := u D' } s G) := ⟨id⟩
instance : Stp (dAsg te g D' s G) (te s G fun d G1 => g d s G1 D'.nx) := ⟨id⟩
instance : Stp (dDrop te D' s G) (te s G fun _ G1 => D'.nx s G1) := ⟨id⟩
instance : Stp (dRet te D' s G) (te s G D'.rt) := ⟨id⟩
instance : Stp (dRetN D' s G) (D'.rt .non G) := ⟨id⟩
instance : Stp (dNext D' s G) (D'.nx s G) := ⟨id⟩
instance : Stp (dBreak D' s G) (D'.bk s G) := ⟨id⟩
instance : Stp (dCont D' s G) (D'.ct s G) := ⟨id⟩
instance : Stp (dIfS tt t u D' s G) (tt s G fun b G1 => if b = true then t D' s G1 else u D' s G1) := ⟨id⟩
instance : Stp (dC d s G Q) (Q d G) := ⟨id⟩
instance : Stp (dBin r ta tb s G Q) (ta s G fun d G1 => tb s G1 fun e G2 => r d e G2 Q) := ⟨id⟩
instance : Stp (dUn r1 ta s G Q) (ta s G fun d G1 => r1 d G1 Q) := ⟨id⟩
instance : Stp (dTup tr s G Q) (tr s G fun ds G1 => ds.length ≤ 1000 ∧ Q (.tup ds) G1) := ⟨id⟩
instance : Stp (dLv f s G Q) (f s G fun ds G1 => Q (.lst ds) G1) := ⟨id⟩
instance : Stp (dAd f s G Q) (f s G fun ds G1 => ∀ p, G1 p = none → Q (.ptr p) (uG G1 p (.lst ds))) := ⟨id⟩
instance {i : Nat} : Stp (dAsgL f i D' s G) (f s G fun ds G1 => ∀ p, G1 p = none → D'.nx (s.set i (some (.ptr p))) (uG G1 p (.lst ds))) := ⟨id⟩
instance : Stp (fLst tr s G R) (tr s G fun ds G1 => ds.length ≤ 1000 ∧ R ds G1) := ⟨id⟩
instance : Stp (aNil s G R) (R [] G) := ⟨id⟩
instance : Stp (aCons ta tr s G R) (ta s G fun d G1 => tr s G1 fun ds G2 => R (d :: ds) G2) := ⟨id⟩
instance : Stp (dCall rs tr s G Q) (tr s G fun ds G1 => rs ds G1 Q) := ⟨id⟩
instance : Stp (dFn sp tr s G Q) (tr s G fun ds G1 => sp ds G1 Q X0) := ⟨id⟩
instance : Stp (dAnd tt tt' s G B) (tt s G fun c G1 => if c = true then tt' s G1 B else B false G1) := ⟨id⟩
instance : Stp (dOr tt tt' s G B) (tt s G fun c G1 => if c = true then B true G1 else tt' s G1 B) := ⟨id⟩
instance : Stp (dNot tt s G B) (tt s G fun c G1 => B (!c) G1) := ⟨id⟩
instance : Stp (dYes s G B) (B true G) := ⟨id⟩
instance : Stp (dIf tt ta tb s G Q) (tt s G fun c G1 => if c = true then ta s G1 Q else tb s G1 Q) := ⟨id⟩
instance : Stp (dTest te s G B) (te s G fun d G1 => tsK d G1 B) := ⟨id⟩
instance : Stp (tsK (.bl b) G B) (B b G) := ⟨id⟩
instance : Stp (dChain r r' ta tb tc s G Q) (ta s G fun d G1 => tb s G1 fun e G2 => r d e G2 fun k G3 => chK tc r' e s Q k G3) := ⟨id⟩
instance : Stp (chK tc r' e s Q (.bl b) G) (if b = true then tc s G fun f G4 => r' e f G4 Q else Q (.bl false) G) := ⟨st_chK⟩
instance : Stp (dAndV ta tb s G Q) (ta s G fun d G1 => avK tb s Q d G1) := ⟨id⟩
instance : Stp (avK tb s Q (.bl c) G) (if c = true then tb s G Q else Q (.bl false) G) := ⟨id⟩
instance : Stp (dOrV ta tb s G Q) (ta s G fun d G1 => ovK tb s Q d G1) := ⟨id⟩
instance : Stp (ovK tb s Q (.bl c) G) (if c = true then Q (.bl true) G else tb s G Q) := ⟨id⟩
instance : Stp (dNotV ta s G Q) (ta s G fun d G1 => nvK Q d G1) := ⟨id⟩
instance : Stp (nvK Q (.bl c) G) (Q (.bl (!c)) G) := ⟨id⟩
instance {A C : Prop} : Stp (if true = true then A else C) A := ⟨iteT⟩
instance {A C : Prop} : Stp (if false = true then A else C) C := ⟨iteF⟩
instance {A C : Prop} : Stp (if (!true) = true then A else C) C := ⟨iteNT⟩
instance {A C : Prop} : Stp (if (!false) = true then A else C) A := ⟨iteNF⟩
instance : Stp (oSub (.int i) (.int j) G Q) (Q (.int (i - j)) G) := ⟨id⟩
instance : Stp (oLt (.int i) (.int j) G Q) (Q (.bl (decide (i < j))) G) := ⟨id⟩
instance : Stp (oLe (.int i) (.int j) G Q) (Q (.bl (decide (i ≤ j))) G) := ⟨id⟩
instance : Stp (oGt (.int i) (.int j) G Q) (Q (.bl (decide (j < i))) G) := ⟨id⟩
instance : Stp (oGe (.int i) (.int j) G Q) (Q (.bl (decide (j ≤ i))) G) := ⟨id⟩
instance : Stp (oAdd (.int i) (.int j) G Q) (Q (.int (i + j)) G) := ⟨id⟩
instance : Stp (dNeg (.int i) G Q) (Q (.int (-i)) G) := ⟨id⟩
instance : Stp (oEq (.int i) (.int j) G Q) (Q (.bl (decide (i = j))) G) := ⟨st_eqI⟩
instance : Stp (oNe (.int i) (.int j) G Q) (Q (.bl (!decide (i = j))) G) := ⟨st_neI⟩
instance : Stp (oEq (.str x) (.str y) G Q) (Q (.bl (decide (x = y))) G) := ⟨st_eqS⟩
instance : Stp (oNe (.str x) (.str y) G Q) (Q (.bl (!decide (x = y))) G) := ⟨st_neS⟩
instance {rl : DSl} {tl th : DO} : Stp (dSlice rl te tl th s G Q) (te s G fun d G1 => tl s G1 fun lo G2 => th s G2 fun hi G3 => rl d lo hi G3 Q) := ⟨id⟩
instance : Stp (oNo s G R2) (R2 none G) := ⟨id⟩
instance : Stp (oPart te s G R2) (te s G fun d G1 => ptK R2 d G1) := ⟨id⟩
instance : Stp (ptK R2 (.int i) G) (R2 (some i) G) := ⟨id⟩
instance {lo hi : Option Int} : Stp (rSl (.tup ds) lo hi G Q) (Q (.tup (cutL ds lo hi)) G) := ⟨id⟩
instance {lo hi : Option Int} : Stp (rSl (.lst ds) lo hi G Q) (Q (.lst (cutL ds lo hi)) G) := ⟨id⟩
-- litslice
instance {a b c d : D} : Stp (rSl (.tup [a, b, c, d]) none (some 2) G Q) (Q (.tup [a, b]) G) := ⟨id⟩
instance {a b c d : D} : Stp (rSl (.tup [a, b, c, d]) (some 2) none G Q) (Q (.tup [c, d]) G) := ⟨id⟩
instance {a b c d : D} : Stp (rSl (.tup [a, b, c, d]) none (some 3) G Q) (Q (.tup [a, b, c]) G) := ⟨id⟩
instance {a b c d : D} : Stp (rSl (.lst [a, b, c, d]) none (some 2) G Q) (Q (.lst [a, b]) G) := ⟨id⟩
instance {a b c d : D} : Stp (rSl (.lst [a, b, c, d]) (some 2) none G Q) (Q (.lst [c, d]) G) := ⟨id⟩
instance {a b c : D} : Stp (rSl (.tup [a, b, c]) none (some 2) G Q) (Q (.tup [a, b]) G) := ⟨id⟩
instance {a b : D} : Stp (rSl (.tup [a, b]) none (some 2) G Q) (Q (.tup [a, b]) G) := ⟨id⟩
instance {a b c d : D} : Stp (oAdd (.tup [a, b]) (.tup [c, d]) G Q) (Q (.tup [a, b, c, d]) G) := ⟨fun h => ⟨by show 4 ≤ sizeLine; decide, h⟩⟩
instance {a b c : D} : Stp (oAdd (.tup [a, b]) (.tup [c]) G Q) (Q (.tup [a, b, c]) G) := ⟨fun h => ⟨by show 3 ≤ sizeLine; decide, h⟩⟩
instance {lo hi : Option Int} {ns : List Int} : Stp (rSl (.scr ns) lo hi G Q) (Q (.lst ((cutL ns lo hi).map D.int)) G) := ⟨id⟩
instance : Stp (rRev (.lst ds) G Q) (Q (.lst ds.reverse) G) := ⟨id⟩
instance : Stp (rRevT (.tup ds) G Q) (Q (.tup ds.reverse) G) := ⟨id⟩
instance : Stp (rRevT (.tup [d, e]) G Q) (Q (.tup [e, d]) G) := ⟨id⟩
instance : Stp (cAbs [.int i] G Q) (Q (.int (if i < 0 then -i else i)) G) := ⟨id⟩
instance : Stp (cMax2 [.int i, .int j] G Q) (Q (.int (if j > i then j else i)) G) := ⟨id⟩
instance : Stp (cMin2 [.int i, .int j] G Q) (Q (.int (if j < i then j else i)) G) := ⟨id⟩
instance : Stp (cInt [.int i] G Q) (Q (.int i) G) := ⟨id⟩
instance : Stp (cInt [.bl b] G Q) (Q (.int (if b then 1 else 0)) G) := ⟨id⟩
instance : Stp (cLen [.tup ds] G Q) (Q (.int ds.length) G) := ⟨id⟩
instance : Stp (cLen [.lst ds] G Q) (Q (.int ds.length) G) := ⟨id⟩
instance : Stp (cTuple [.tup ds] G Q) (Q (.tup ds) G) := ⟨id⟩
instance : Stp (cTuple [.lst ds] G Q) (Q (.tup ds) G) := ⟨id⟩
instance : Stp (fListOf te s G R) (te s G fun d G1 => lsK R d G1) := ⟨id⟩
instance : Stp (lsK R (.tup ds) G) (R ds G) := ⟨id⟩
instance : Stp (lsK R (.lst ds) G) (R ds G) := ⟨id⟩
instance {i : Nat} : Stp (gN i d s G S) (S (s.set i (some d)) G) := ⟨id⟩
instance : Stp (gN0 [] s G S) (S s G) := ⟨id⟩
instance : Stp (gNc g gs (d :: ds) s G S) (g d s G fun s1 G1 => gs ds s1 G1 S) := ⟨id⟩
instance : Stp (gS to ti d s G S) (to s G fun d1 G1 => ti s G1 fun e G2 => gsK d s S d1 e G2) := ⟨id⟩
instance : Stp (iSeq te s G W) (te s G fun d G1 => sqK W d G1) := ⟨id⟩
instance : Stp (sqK W (.tup ds) G) (W ds (fun _ => True) G) := ⟨id⟩
instance : Stp (sqK W (.lst ds) G) (W ds (fun _ => True) G) := ⟨id⟩
instance : Stp (iRange1 tr s G W) (tr s G fun ds G1 => rgK1 W ds G1) := ⟨id⟩
instance : Stp (iRange2 tr s G W) (tr s G fun ds G1 => rgK2 W ds G1) := ⟨id⟩
instance {it : DI} : Stp (dFor it g t D' s G) (it s G fun xs gd G1 => dLoop g t gd D' xs s G1) := ⟨id⟩
instance : Stp (dLoop g t (fun _ => True) D' [] s G) (D'.nx s G) := ⟨fun h => ⟨trivial, h⟩⟩
instance {xs : List D} : Stp (dLoop g t (fun _ => True) D' (d :: xs) s G) (g d s G fun s1 G1 => t { D' with nx := dLoop g t (fun _ => True) D' xs, ct := dLoop g t (fun _ => True) D' xs, bk := D'.nx } s1 G1) := ⟨fun h => ⟨trivial, h⟩⟩
instance {it : DI} {vs : List Nat} : Stp (fComp it g tt te vs s G R) (it s G fun xs gd G1 => xs.length ≤ 100000 ∧ dCompL g tt te gd vs s xs [] G1 R) := ⟨id⟩
instance {vs : List Nat} {acc : List D} : Stp (dCompL g tt te (fun _ => True) vs s [] acc G R) (R acc G) := ⟨fun h => ⟨trivial, h⟩⟩
instance {vs : List Nat} {xs acc : List D} : Stp (dCompL g tt te (fun _ => True) vs s (d :: xs) acc G R) (g d (wipeD s vs) G fun s1 G1 => tt s1 G1 fun b G2 => if b = true then te s1 G2 fun y G3 => dCompL g tt te (fun _ => True) vs s xs (acc ++ [y]) G3 R else dCompL g tt te (fun _ => True) vs s xs acc G2 R) := ⟨fun h => ⟨trivial, h⟩⟩
instance : Stp (dAppend to te s G Q) (to s G fun d G1 => ∃ a, d = .ptr a ∧ (∃ zs, G1 a = some (.lst zs)) ∧ te s G1 fun y G2 => ∃ xs, G2 a = some (.lst xs) ∧ xs.length ≤ 100000 ∧ Q .non (uG G2 a (.lst (xs ++ [y])))) := ⟨id⟩
instance : Stp (dPopAt to te s G Q) (to s G fun d G1 => ∃ a, d = .ptr a ∧ (∃ zs, G1 a = some (.lst zs)) ∧ te s G1 fun y G2 => ∃ xs i k v, G2 a = some (.lst xs) ∧ y = .int i ∧ -(2 ^ 63) ≤ i ∧ i < 2 ^ 63 ∧ seqIndex? i xs.length = some k ∧ xs[k]? = some v ∧ Q v (uG G2 a (.lst (xs.eraseIdx k)))) := ⟨id⟩
instance : Stp (dPop to s G Q) (to s G fun d G1 => ∃ a xs v, d = .ptr a ∧ G1 a = some (.lst xs) ∧ xs[xs.length - 1]? = some v ∧ Q v (uG G1 a (.lst xs.dropLast))) := ⟨id⟩
instance {trs : List (DE × DE)} : Stp (dDisp trs s G Q) (dPairs trs s G fun ps G1 => match keysD ps with
    | some kvs => kvs.length ≤ 15 ∧ ∀ p, G1 p = none → Q (.ptr p) (uG G1 p (.dk (mergeD [] kvs)))
    | none => False) := ⟨id⟩
instance {R : List (D × D) → DH → Prop} : Stp (dPairs [] s G R) (R [] G) := ⟨id⟩
instance {tk tv : DE} {trs : List (DE × DE)} {R : List (D × D) → DH → Prop} : Stp (dPairs ((tk, tv) :: trs) s G R) (tk s G fun x G1 => tv s G1 fun y G2 => dPairs trs s G2 fun ps G3 => R ((x, y) :: ps) G3) := ⟨id⟩
end
end L2.Ew

set_option Elab.async false
set_option linter.all false
set_option maxRecDepth 100000
set_option maxHeartbeats 4000000
/-! More steps: choices, joins, boxes of numbers. -/
namespace L2.Ew
open PySem PySem.Spec PySem.SeqAt PyProof.Rows
section
variable {s : DS} {G : DH} {Q : DK} {D' : DEnds} {t : DT} {te : DE} {g : DG} {i j : Int} {d e v w : D} {ds es : List D} {b c : Bool} {X : XD}
/-- an expression by the one value that it has -/
theorem st_join (h : ∀ Q' : DK, Q' v G → te s G Q') (q : Q v G) : te s G Q := h Q q
theorem st_pickI {ns : List Int} (h0 : 0 ≤ i) (h1 : i < ns.length) (h : ∀ n, n ∈ ns → Q (.int n) G) : dIx (.lst (ns.map D.int)) (.int i) G Q := by
  have hlt : i.toNat < ns.length := by omega
  have e0 : i = ((i.toNat : Nat) : Int) := by omega
  generalize i.toNat = k at hlt e0
  subst e0
  refine st_ixL (v := .int ns[k]) rfl ?_ (h _ (List.getElem_mem _))
  rw [atI_nat (v := .int ns[k])]
  rw [List.getElem?_map, List.getElem?_eq_getElem hlt]
  rfl
theorem st_selV {c : Prop} [Decidable c] {A B : Int} (h : Q (.int (if c then B else A)) G) : dIx (.lst [.int A, .int B]) (.int (if decide c = true then 1 else 0)) G Q :=
  st_sel (fun x => by rw [if_pos x] at h; exact h) (fun x => by rw [if_neg x] at h; exact h)
theorem st_eqB (h : Q (.bl (b == c)) G) : oEq (.bl b) (.bl c) G Q := by
  refine st_eq (v := .bl b) (w := .bl c) rfl rfl ⟨rfl, rfl, (by have e : depD (.bl b) = 0 := rfl; rw [e]; omega)⟩ ?_
  have e : eqD (.bl b) (.bl c) = (b == c) := by cases b <;> cases c <;> rfl
  rw [e]; exact h
theorem st_neB (h : Q (.bl (!(b == c))) G) : oNe (.bl b) (.bl c) G Q := by
  refine st_ne (v := .bl b) (w := .bl c) rfl rfl ⟨rfl, rfl, (by have e : depD (.bl b) = 0 := rfl; rw [e]; omega)⟩ ?_
  have e : eqD (.bl b) (.bl c) = (b == c) := by cases b <;> cases c <;> rfl
  rw [e]; exact h
theorem isLoop {gd : DH → Prop} {xs : List D} (h : dLoop g t gd D' xs s G) : dLoop g t gd D' xs s G := h
/-- a thing beside itself -/
theorem st_neSelf (hp : plainD d = true) (hd : depD d ≤ 60) (hr : res G d = d) (h : Q (.bl false) G) : oNe d d G Q := by
  refine st_ne hr hr ⟨hp, hp, Nat.le_trans (Nat.min_le_left _ _) (Nat.le_trans hd (by decide))⟩ ?_
  rw [eqD_self hp]; exact h
theorem st_eqSelf (hp : plainD d = true) (hd : depD d ≤ 60) (hr : res G d = d) (h : Q (.bl true) G) : oEq d d G Q := by
  refine st_eq hr hr ⟨hp, hp, Nat.le_trans (Nat.min_le_left _ _) (Nat.le_trans hd (by decide))⟩ ?_
  rw [eqD_self hp]; exact h
end
/-! boxes of four numbers -/
structure Bx where
  a : Int
  b : Int
  c : Int
  d : Int
  deriving Inhabited
abbrev bD (p : Bx) : D := .tup [.int p.a, .int p.b, .int p.c, .int p.d]
def bO : Option Bx → D
  | none => .non
  | some p => bD p
def okB (p : Bx) : Prop := p.a ≤ p.b ∧ p.c ≤ p.d
def mxI (i j : Int) : Int := if j > i then j else i
def mnI (i j : Int) : Int := if j < i then j else i
theorem mxI_eq (i j : Int) : mxI i j = max i j := by unfold mxI; split <;> omega
theorem mnI_eq (i j : Int) : mnI i j = min i j := by unfold mnI; split <;> omega
theorem st_selMx {G : DH} {Q : DK} {i j : Int} (h : Q (.int (mxI i j)) G) : dIx (.lst [.int i, .int j]) (.int (if decide (i < j) = true then 1 else 0)) G Q :=
  st_sel (fun x => by rw [show mxI i j = j from if_pos x] at h; exact h) (fun x => by rw [show mxI i j = i from if_neg x] at h; exact h)
theorem st_selMn {G : DH} {Q : DK} {i j : Int} (h : Q (.int (mnI i j)) G) : dIx (.lst [.int i, .int j]) (.int (if decide (j < i) = true then 1 else 0)) G Q :=
  st_sel (fun x => by rw [show mnI i j = j from if_pos x] at h; exact h) (fun x => by rw [show mnI i j = i from if_neg x] at h; exact h)
def mkB (a b c d : Int) : Option Bx := if a > b ∨ c > d then none else some ⟨a, b, c, d⟩
/-- the box of both -/
def metB (p q : Bx) : Option Bx := mkB (mxI p.a q.a) (mnI p.b q.b) (mxI p.c q.c) (mnI p.d q.d)
def metO : Option Bx → Option Bx → Option Bx
  | some p, some q => metB p q
  | _, _ => none
def insB (p : Bx) (u v : Int) : Prop := p.a ≤ u ∧ u ≤ p.b ∧ p.c ≤ v ∧ v ≤ p.d
instance (p : Bx) (u v : Int) : Decidable (insB p u v) := inferInstanceAs (Decidable (_ ∧ _))
def insO : Option Bx → Int → Int → Bool
  | none, _, _ => false
  | some p, u, v => decide (insB p u v)
theorem metB_comm (p q : Bx) : metB p q = metB q p := by
  unfold metB
  simp only [mxI_eq, mnI_eq]
  rw [Int.max_comm, Int.min_comm, Int.max_comm p.c, Int.min_comm p.d]
theorem metB_self (p : Bx) (h : okB p) : metB p p = some p := by
  unfold metB mkB
  simp only [mxI_eq, mnI_eq, Int.max_self, Int.min_self]
  rw [if_neg (by have := h.1; have := h.2; omega)]
theorem metO3 (p q r : Bx) : metO (metB p q) (some r) = mkB (max (max p.a q.a) r.a) (min (min p.b q.b) r.b) (max (max p.c q.c) r.c) (min (min p.d q.d) r.d) := by
  unfold metB mkB
  simp only [mxI_eq, mnI_eq]
  split
  · rw [if_pos (by omega)]; rfl
  · show metB _ _ = _
    unfold metB mkB
    simp only [mxI_eq, mnI_eq]
theorem metO_ins (p q : Bx) (u v : Int) : insO (metB p q) u v = (decide (insB p u v) && decide (insB q u v)) := by
  unfold metB mkB
  simp only [mxI_eq, mnI_eq]
  rw [Bool.eq_iff_iff]
  simp only [Bool.and_eq_true, decide_eq_true_eq]
  split
  · unfold insO insB; constructor
    · intro x; exact nomatch x
    · intro x; omega
  · unfold insO
    simp only [decide_eq_true_eq]
    unfold insB; dsimp only; omega
theorem plain_bO : ∀ o, plainD (bO o) = true
  | none => rfl
  | some _ => rfl
theorem dep_bO (o : Option Bx) : depD (bO o) ≤ 60 := by
  cases o with
  | none => with_unfolding_all decide
  | some p => show 0 + 1 ≤ 60; decide
theorem res_bO {G : DH} (o : Option Bx) : res G (bO o) = bO o := by cases o <;> rfl
end L2.Ew

set_option Elab.async false
set_option linter.all false
set_option maxRecDepth 100000
set_option maxHeartbeats 4000000
/-! The greatest of some numbers told one by one. -/
namespace L2.Ew
open PySem PySem.Spec PySem.SeqAt PyProof.Rows
open Sem (wp)
section
variable {prog : Program} {w : World} {A : Around} {E : Value → Shared → Prop} {s : Shared}
theorem call_max_many {a b : Value} {rest : List Value} {Q : Value → Shared → Prop} (hargs : argsOk "max" ⟨a :: b :: rest, []⟩) (hr : rest.length ≤ 10)
    (h : wpAny (model prog w) A.in1 (pyIter (.ref s.heap.objs.size)) (fun it s₂ => ∃ I fp wr n P St bt, it = .ref I ∧ Walks prog w A.in1 I fp wr n P St ∧ St 0 s₂.heap ∧ (∀ b ∈ fp, b < s₂.heap.objs.size) ∧ 0 < n ∧ CmpOf prog w A.in1 .Gt P bt ∧
      ∀ v h' tk, P (argBest bt (n - 1)) v → (∀ b o, b ∉ wr → s₂.heap.get? b = some o → h'.get? b = some o) → Q v { s₂ with heap := h', toks := tk }) E
      { s with heap := s.heap.push { cls := .type "tuple", data := .seq (a :: b :: rest).toArray } }) :
    wpAny (model prog w) A (call (.builtin "max") (a :: b :: rest)) Q E s := by
  have hname : (toString "max" ++ toString ".loop" : String) = "max.loop" := by decide
  refine call_function_tree F.kind_max F.plain_max F.entry_max hargs ?_
  show wpAny _ A.in1 (Builtin.Builtins.bindParams "max" ["key", "default"] 0 ⟨[], []⟩ >>= _) _ _ s
  refine wpAny_bind (wpAny_of_eq (show Builtin.Builtins.bindParams "max" ["key", "default"] 0 ⟨[], []⟩ = pure [none, none] from rfl) ?_)
  show wpAny _ A.in1 (newTuple (a :: b :: rest) >>= _) _ _ s
  refine wpAny_bind (wpAny_newObj_type (hd := by show (a :: b :: rest).toArray.size ≤ sizeLine; rw [sizeLine_eq]; simp; omega) ?_)
  refine wpAny_bind (wpAny_mono h (fun it s₂ h₂ => ?_) fun _ _ e => e)
  obtain ⟨I, fp, wr, n, P, St, bt, rfl, W, hst, hfp, hn, hcmp, hQ⟩ := h₂
  refine wpAny_bind (wpAny_newObj_type ?_)
  have hSf : s₂.heap.objs.size ∉ fp := fun hm => Nat.lt_irrefl _ (hfp _ hm)
  rw [hname]
  refine wpAny_pure ⟨plainId_quiet F.plain_max_loop _, codeAny_max_loop_first W bt hcmp s₂.heap.objs.size hSf hn (W.frame _ _ _ hst fun b _ o e => Heap.get?_push_of_some _ e) (Heap.get?_push_size _ rfl) fun v h' tk hP hk => ?_⟩
  exact hQ v h' tk hP fun b o hbw e => hk b o hbw (Nat.ne_of_lt (Heap.lt_size e)) (Heap.get?_push_of_some _ e)
theorem max_many_ints {a b : Int × Tok} {rest : List (Int × Tok)} {Q : Value → Shared → Prop} (hh : A.handled = none) (hargs : argsOk "max" ⟨(a :: b :: rest).map (fun p => Value.int p.1 p.2), []⟩) (hr : rest.length ≤ 10)
    (h : ∀ h' tk m t, (∀ d o, s.heap.get? d = some o → h'.get? d = some o) → m ∈ (a :: b :: rest).map (·.1) → (∀ y ∈ (a :: b :: rest).map (·.1), y ≤ m) → Q (.int m t) { s with heap := h', toks := tk }) :
    wpAny (model prog w) A (call (.builtin "max") ((a :: b :: rest).map (fun p => Value.int p.1 p.2))) Q E s := by
  have eI : intItems (a :: b :: rest).toArray = ((a :: b :: rest).map (fun p => Value.int p.1 p.2)).toArray := by simp [intItems]
  have hT : (s.heap.push { cls := .type "tuple", data := .seq ((a :: b :: rest).map (fun p => Value.int p.1 p.2)).toArray }).IsTuple s.heap.objs.size (intItems (a :: b :: rest).toArray) := ⟨_, Heap.get?_push_size _ rfl, rfl, 0, by rw [eI]⟩
  refine call_max_many hargs (by simpa using hr) (wpAny_pyIter_tuple hT ?_)
  have hsz : (s.heap.push { cls := .type "tuple", data := .seq ((a :: b :: rest).map (fun p => Value.int p.1 p.2)).toArray }).objs.size = s.heap.objs.size + 1 := Heap.size_push ..
  refine ⟨_, [_, s.heap.objs.size], [_], _, _, _, _, rfl, Walks.tuple (A := A.in1) hh _ s.heap.objs.size (by show s.heap.objs.size ≠ (s.heap.push _).objs.size; rw [Heap.size_push]; exact Nat.ne_of_lt (Nat.lt_succ_self _)) (intItems (a :: b :: rest).toArray),
    ⟨⟨_, Heap.get?_push_size _ rfl, rfl, rfl⟩, hT.push _⟩, fun d hd => ?_, by simp [intItems], CmpOf.ints_gt (numAt (a :: b :: rest).toArray) (fun _ _ => intItems_at), fun v h' tk hP hk => ?_⟩
  · show d < ((s.heap.push _).push _).objs.size
    rw [Heap.size_push, Heap.size_push]
    rcases List.mem_cons.mp hd with rfl | hd
    · rw [show (Heap.push _ _).objs.size = s.heap.objs.size + 1 from Heap.size_push ..]; exact Nat.lt_succ_self _
    · rcases List.mem_cons.mp hd with rfl | hd
      · exact Nat.lt_succ_of_lt (Nat.lt_succ_self _)
      · cases hd
  · have hold : ∀ d o, s.heap.get? d = some o → h'.get? d = some o := fun d o e => by
      refine hk d o (fun hm => ?_) (Heap.get?_push_of_some _ (Heap.get?_push_of_some _ e))
      rcases List.mem_cons.mp hm with e1 | hm
      · have := Heap.lt_size e; rw [e1, show (Heap.push _ _).objs.size = s.heap.objs.size + 1 from Heap.size_push ..] at this; exact Nat.lt_irrefl _ (Nat.lt_of_succ_lt this)
      · cases hm
    have hn : (intItems (a :: b :: rest).toArray).size - 1 = rest.length + 1 := by simp [intItems]
    rw [hn] at hP
    obtain ⟨t, rfl⟩ := intItems_at hP
    obtain ⟨h1, h2⟩ := argBest_gt (numAt (a :: b :: rest).toArray) (rest.length + 1)
    have en : ∀ j (hj : j < rest.length + 2), numAt (a :: b :: rest).toArray j = ((a :: b :: rest).map (·.1))[j]'(by simpa using hj) := fun j hj => by
      unfold numAt
      rw [List.getElem?_toArray, List.getElem?_eq_getElem (by simpa using hj)]
      show (a :: b :: rest)[j].fst = _
      exact (List.getElem_map ..).symm
    refine h h' tk _ t hold ?_ fun y hy => ?_
    · rw [en _ (by omega)]; exact List.getElem_mem _
    · obtain ⟨j, hj, rfl⟩ := List.getElem_of_mem hy
      have hj' : j < rest.length + 2 := by simpa using hj
      rw [← en j hj']; exact h2 j (by omega)
theorem args_max4 (a b c d : Value) : argsOk "max" ⟨[a, b, c, d], []⟩ := by unfold argsOk; kernel_rfl
theorem args_max5 (a b c d e : Value) : argsOk "max" ⟨[a, b, c, d, e], []⟩ := by unfold argsOk; kernel_rfl
end
/-- the greatest of three, four or five numbers -/
def cMaxN : DRs := fun ds G Q => ∃ ns : List Int, ds = ns.map D.int ∧ (3 ≤ ns.length ∧ ns.length ≤ 5) ∧ ∀ m, m ∈ ns → (∀ y, y ∈ ns → y ≤ m) → Q (.int m) G
theorem cdMaxN {X : Cx} (hc : X.calm = true) : CallD X (.builtin "max") cMaxN := by
  refine ⟨fun pins s σ H xs us Q I r ⟨F, ds, G, R, rx, rg, q, p⟩ => ?_⟩
  obtain ⟨ns, rfl, ⟨n3, n5⟩, q⟩ := q
  match ns, n3, n5, rx, q with
  | [a, b, c], _, _, rx, q =>
    cases rx with
    | cons r1 rx => cases rx with
      | cons r2 rx => cases rx with
        | cons r3 rx =>
          cases rx; cases r1; cases r2; cases r3
          cases r with
          | cons q1 r => cases r with
            | cons q2 r => cases r with
              | cons q3 r =>
                cases r
                obtain ⟨t1, rfl⟩ := q1; obtain ⟨t2, rfl⟩ := q2; obtain ⟨t3, rfl⟩ := q3
                exact max_many_ints (a := (a, t1)) (b := (b, t2)) (rest := [(c, t3)]) (I.ok.hd hc) (_root_.PySem.F.args_max3 _ _ _) (by simp) fun h' tk m t k h1 h2 => ⟨.int m, H, I.kept k, ⟨_, rfl⟩, p.here rg (.int _) (q m h1 h2)⟩
  | [a, b, c, d], _, _, rx, q =>
    cases rx with
    | cons r1 rx => cases rx with
      | cons r2 rx => cases rx with
        | cons r3 rx => cases rx with
          | cons r4 rx =>
            cases rx; cases r1; cases r2; cases r3; cases r4
            cases r with
            | cons q1 r => cases r with
              | cons q2 r => cases r with
                | cons q3 r => cases r with
                  | cons q4 r =>
                    cases r
                    obtain ⟨t1, rfl⟩ := q1; obtain ⟨t2, rfl⟩ := q2; obtain ⟨t3, rfl⟩ := q3; obtain ⟨t4, rfl⟩ := q4
                    exact max_many_ints (a := (a, t1)) (b := (b, t2)) (rest := [(c, t3), (d, t4)]) (I.ok.hd hc) (args_max4 _ _ _ _) (by simp) fun h' tk m t k h1 h2 => ⟨.int m, H, I.kept k, ⟨_, rfl⟩, p.here rg (.int _) (q m h1 h2)⟩
  | [a, b, c, d, e], _, _, rx, q =>
    cases rx with
    | cons r1 rx => cases rx with
      | cons r2 rx => cases rx with
        | cons r3 rx => cases rx with
          | cons r4 rx => cases rx with
            | cons r5 rx =>
              cases rx; cases r1; cases r2; cases r3; cases r4; cases r5
              cases r with
              | cons q1 r => cases r with
                | cons q2 r => cases r with
                  | cons q3 r => cases r with
                    | cons q4 r => cases r with
                      | cons q5 r =>
                        cases r
                        obtain ⟨t1, rfl⟩ := q1; obtain ⟨t2, rfl⟩ := q2; obtain ⟨t3, rfl⟩ := q3; obtain ⟨t4, rfl⟩ := q4; obtain ⟨t5, rfl⟩ := q5
                        exact max_many_ints (a := (a, t1)) (b := (b, t2)) (rest := [(c, t3), (d, t4), (e, t5)]) (I.ok.hd hc) (args_max5 _ _ _ _ _) (by simp) fun h' tk m t k h1 h2 => ⟨.int m, H, I.kept k, ⟨_, rfl⟩, p.here rg (.int _) (q m h1 h2)⟩
theorem st_maxN {G : DH} {Q : DK} {ns : List Int} (h0 : 3 ≤ ns.length) (h1 : ns.length ≤ 5) (h : ∀ m, m ∈ ns → (∀ y, y ∈ ns → y ≤ m) → Q (.int m) G) : cMaxN (ns.map D.int) G Q := ⟨ns, rfl, ⟨h0, h1⟩, h⟩
/-- a statement by what holds after it -/
theorem st_cut {t : DT} {D' : DEnds} {s : DS} {G : DH} (W : DS → DH → Prop) (h : ∀ E : DEnds, E.rt = D'.rt → (∀ s' G', W s' G' → E.nx s' G') → t E s G) (q : ∀ s' G', W s' G' → D'.nx s' G') : t D' s G := h D' rfl q
/-- a greatest number that is known -/
theorem st_maxIs {G : DH} {Q : DK} {ns : List Int} {m : Int} (h0 : 3 ≤ ns.length) (h1 : ns.length ≤ 5) (hm : m ∈ ns) (hk : ∀ y, y ∈ ns → y ≤ m) (h : Q (.int m) G) : cMaxN (ns.map D.int) G Q :=
  st_maxN h0 h1 fun k k1 k2 => (Int.le_antisymm (k2 m hm) (hk k k1) : m = k) ▸ h
end L2.Ew

set_option Elab.async false
set_option linter.all false
set_option maxRecDepth 100000
set_option maxHeartbeats 4000000
/-! enumerate, zip, steps down, ranges as lists, sorted, dicts asked. -/
namespace L2.Ew
open PySem PySem.Spec PySem.SeqAt PyProof.Rows

/-! ### enumerate of a tuple -/
def IteT (K : PySem.W.Frag) (a : Addr) : It :=
  ⟨fun i H => ∃ (xs : List V) (x : V), SqT K H a xs ∧ xs[i]? = some x, fun i H v H' => ∃ T x, v = .ref T ∧ H T = none ∧ H' = upd H T (.tup [.int (i : Nat), x]) ∧ ∀ xs, SqT K H a xs → xs[i]? = some x, fun i H => ∃ xs : List V, SqT K H a xs ∧ xs.length ≤ i⟩
theorem turn_enumT {P : Program} {w : World} {K : PySem.W.Frag} {elts : List Expr} {kk : Nat} {tpos : Pos} (a e it : Addr) (hai : a ≠ it) (hae : a ≠ e) :
    Turn P w K (.Tuple elts kk tpos) (IteT K a) [e, it] e (fun i h => (∃ old, IsEnum h e it ((i : Nat) : Int) old) ∧ h.IsTupleIter it a i ∧ e ≠ it) where
  mem := by simp
  obj := fun i h st b hb => by
    obtain ⟨⟨old, he⟩, ⟨o, ho, hc, hd⟩, _⟩ := st
    have e' : b = e ∨ b = it := by simpa using hb
    rcases e' with z | z
    · rw [z]; exact ⟨_, he, fun v q => nomatch q⟩
    · rw [z]; exact ⟨o, ho, fun v q => by rw [hd] at q; cases q⟩
  keep := fun i h h' st k => let ⟨⟨old, he⟩, hi, hne⟩ := st; ⟨⟨old, k e (by simp) _ he⟩, hi.at fun o q => k it (by simp) o q, hne⟩
  item := by
    intro X hP hw hK hc i pins s σ H E I hf st hg
    subst hP hw hK
    obtain ⟨⟨old, he⟩, hit, hne⟩ := st
    obtain ⟨xs, x, hq, hx⟩ := hg
    obtain ⟨its, rv, p, hz⟩ := I.tuple hq
    obtain ⟨u, hu, ru⟩ := rv.get hx
    have hel : e < s.heap.objs.size := Heap.lt_size he
    have hil : it < s.heap.objs.size := by obtain ⟨_, q, _⟩ := hit; exact Heap.lt_size q
    have hlt : i < its.toArray.size := by
      have := (List.getElem?_eq_some_iff.mp hu).1
      simpa using this
    refine wpAny_pyNext_enum_itemD (Draws.tuple (A := X.A.in1) (I.ok.hd hc) it a hai its.toArray) he (show s.heap.IsTupleIter it a i ∧ s.heap.IsTuple a its.toArray from ⟨hit, p⟩) hlt hne (by simp [hne, Ne.symm hae]) fun u' h' tk hu' ho hst' hT hsz hk => ?_
    have eu : u' = u := by
      have h1 : its.toArray[i]? = some u := by simpa using hu
      rw [h1] at hu'; exact (Option.some.inj hu').symm
    subst eu
    refine ⟨_, rfl, wpAny_letOwnedTupleGo_enum (s := { s with heap := h', toks := tk + 1 }) ho fun h'' he' sb => ?_⟩
    have hT2 : h''.get? s.heap.objs.size = some { cls := .type "tuple", data := .seq #[.int i tk, u'] } := (sb.2 _ (Nat.ne_of_gt hel)).trans hT
    have new : ObjOk X.prog X.w (upd H s.heap.objs.size (.tup [.int (i : Nat), x])) h'' s.heap.objs.size (.tup [.int (i : Nat), x]) :=
      ⟨by show 2 ≤ sizeLine; decide, [.int i tk, u'], .cons ⟨_, rfl⟩ (.cons ru .nil), ⟨_, hT2, rfl, _, rfl⟩⟩
    have I1 : Inv X pins σ (upd H s.heap.objs.size (.tup [.int (i : Nat), x])) { s with heap := h'', toks := tk + 1 } :=
      I.turnedNew (ch := [e, it]) (fun b ob hb q => (sb.2 b (fun z => hb (by simp [z]))).trans (hk b ob (fun z => hb (by simp [z])) (fun z => hb (by simp [z])) q)) hf (Nat.le_refl _) new
    refine ⟨.ref s.heap.objs.size, _, I1, rfl, ⟨_, x, rfl, I.hok.fresh (Nat.le_refl _), rfl, fun ys hy => by rw [I.tuple_inj hy hq]; exact hx⟩, ⟨⟨u', ?_⟩, hst'.1.at fun o q => (sb.2 it (Ne.symm hne)).trans q, hne⟩, fun b hb => ?_⟩
    · have e1 : ((i + 1 : Nat) : Int) = (i : Int) + 1 := by omega
      rw [e1]; exact he'
    · have hb' : b < s.heap.objs.size := by
        have e' : b = e ∨ b = it := by simpa using hb
        rcases e' with z | z
        · rw [z]; exact hel
        · rw [z]; exact hil
      rw [upd_ne (Nat.ne_of_lt hb')]
      exact (hf b hb).1
  done := by
    intro X hP hw hK hc i pins s σ H E I hf st hg
    subst hP hw hK
    obtain ⟨⟨old, he⟩, hit, hne⟩ := st
    obtain ⟨xs, hq, hx⟩ := hg
    obtain ⟨its, rv, p, hz⟩ := I.tuple hq
    obtain ⟨f0, f1, f2, f3, f4, f5⟩ := hf it (by simp)
    have hl := rv.length
    unfold pyNext
    have hT : s.TypeIs (.ref e) "enumerate" := ⟨_, he, rfl⟩
    refine wpAny_bind (wpAny_attempt (wpAny_callSpecial?_slot (name := Str.ofString "__next__") hT F.slot_enumerate_next
      (wpAny_call_entry F.slot_enumerate_next hT F.entry_enumerate_next ?_ (F.args_enumerate_next_1 _))))
    show wpAny _ _ (field (.ref e) 2 >>= _) _ _ _
    refine wpAny_bind (wpAny_field he rfl (x := .ref it) rfl ?_)
    refine wpAny_bind (wpAny_nextOf_tuple_end (I.ok.hd hc) hit (show s.heap.IsTuple a its.toArray from p) (by simp; omega) fun h' x he' hx' => ?_)
    obtain ⟨o, ho, hc'⟩ := hx'
    refine wpAny_bind (wpAny_isInstance (T := "StopIteration") (b := true) ⟨o, ho, hc'⟩ isSubtype_stop ?_)
    exact wpAny_pure ⟨rfl, I.turned (t' := s.toks) (fun b o hb q => he' b o hb q) f0 f1 f3 f4 f5⟩
  self := fun A i s Q E st h => let ⟨⟨_, he⟩, _⟩ := st; wpAny_pyIter_enum he h
theorem meets_enumerate_new1 {v : Value} {o : Obj} {H : Heap → Prop} (B : Begins v o H) :
    Meets (Builtin.«enumerate.__new__» ⟨[.type "enumerate", v], []⟩) (fun _ R s => H s.heap ∧
      R (.ok (.ret (.ref (s.heap.push o).objs.size))) { s with heap := (s.heap.push o).push { cls := .type "enumerate", data := .fields #[.none, .bool false, .ref s.heap.objs.size, rawInt 0, .none, .none] } }) :=
  .of_wp fun prog w A R s h => by
    obtain ⟨hp, g, d, tk, os⟩ := s; obtain ⟨h1, h⟩ := h
    have hsub := sub_enumerate
    have q1 : ∀ {A' : Around} {E : Value → Shared → Prop} {Q : Value → Shared → Prop}, Q (.ref hp.objs.size) ⟨hp.push o, g, d, tk, os⟩ → wpAny (model prog w) A' (pyIter v) Q E ⟨hp, g, d, tk, os⟩ :=
      fun q => B.iter prog w _ _ ⟨hp, g, d, tk, os⟩ _ h1 q
    wp_walk using q1
    refine wpAny_stack_any fun st => wpAny_pure ?_
    split
    · rename_i c _ _ _ _ _
      cases (c == Value.type "enumerate")
      · wp_walk using q1
        exact ⟨_, rfl, h⟩
      · wp_walk using q1
        exact ⟨_, rfl, h⟩
    · wp_walk using q1
      exact ⟨_, rfl, h⟩
theorem call_enumerate_tup {prog : Program} {w : World} {A : Around} {E : Value → Shared → Prop} {s : Shared} {t : Addr} {items : Array Value} {Q : Value → Shared → Prop} (hL : s.heap.IsTuple t items)
    (h : ∀ h', IsEnum h' (s.heap.objs.size + 1) s.heap.objs.size 0 .none → h'.IsTupleIter s.heap.objs.size t 0 → h'.objs.size = s.heap.objs.size + 2 →
      (∀ b o, s.heap.get? b = some o → h'.get? b = some o) → Q (.ref (s.heap.objs.size + 1)) { s with heap := h' }) :
    wpAny (model prog w) A (call (.type "enumerate") [.ref t]) Q E s := by
  have B := begins_tuple t items
  refine callType_new F.called_enumerate (by decide) (F.typeCall_enumerate_1 _) (F.newCall_enumerate_1 _) (fun obj => F.args_object_init_2 obj _) F.entry_enumerate_new
    (meets_enumerate_new1 B) ⟨hL, ?_⟩
  have hz : (s.heap.push { cls := .type "tuple_iterator", data := .fields #[.ref t, .int 0 0] }).objs.size = s.heap.objs.size + 1 := Heap.size_push ..
  show _ ∧ _
  rw [hz]
  have he : IsEnum ((s.heap.push { cls := .type "tuple_iterator", data := .fields #[.ref t, .int 0 0] }).push
      { cls := .type "enumerate", data := .fields #[.none, .bool false, .ref s.heap.objs.size, rawInt 0, .none, .none] }) (s.heap.objs.size + 1) s.heap.objs.size 0 .none := by
    have := Heap.get?_push_size (s.heap.push { cls := .type "tuple_iterator", data := .fields #[.ref t, .int 0 0] })
      (o := { cls := .type "enumerate", data := .fields #[.none, .bool false, .ref s.heap.objs.size, rawInt 0, .none, .none] }) rfl
    rw [hz] at this; exact this
  refine ⟨⟨_, he, rfl⟩, h _ he ⟨_, Heap.get?_push_of_some _ (Heap.get?_push_size _ rfl), rfl, rfl⟩ (by rw [Heap.size_push, hz]) fun b o x => Heap.get?_push_of_some _ (Heap.get?_push_of_some _ x)⟩
def iEnumA (K : PySem.W.Frag) (ta : TA) : TI := fun σ H R => ta σ H fun vs H1 => ∃ a xs, vs = [.ref a] ∧ ((SqL K H1 a xs ∧ R (Ite K a) H1) ∨ (SqT K H1 a xs ∧ R (IteT K a) H1))
theorem pi_enumA {X : Cx} {e : Expr} {ta : TA} {p pos tpos : Pos} {elts : List Expr} {kk : Nat} (hg : Gl X "enumerate") (hm : X.mg "enumerate" = none) (ha : PA X [e] ta) (hs : starEach [e] X.env = [(false, eval e X.env)] := by rfl) :
    PI X (.Tuple elts kk tpos) (.Call (.Name "enumerate" p) [e] [] pos) (iEnumA X.K ta) := by
  refine ⟨fun pins s σ H R I h => ?_⟩
  refine Call_ (ld_blt I hg hm boot_enumerate (PyProof.Rows.callWith_type1 (thn (ha.run pos pins s σ H _ I h) fun us s1 ⟨vs, H1, I1, r1, q1⟩ => ?_) hs rfl))
  obtain ⟨a, xs, ex, q⟩ := q1
  subst ex
  cases r1 with
  | cons r rr =>
    cases rr
    cases r
    have fr : ∀ b ∈ [s1.heap.objs.size + 1, s1.heap.objs.size], FpOk X pins H1 b := fun b hb => by
      have e' : b = s1.heap.objs.size + 1 ∨ b = s1.heap.objs.size := by simpa using hb
      have hle : s1.heap.objs.size ≤ b := by
        rcases e' with z | z
        · rw [z]; exact Nat.le_add_right _ _
        · rw [z]; exact Nat.le_refl _
      exact I1.fpOk hle (I1.hok.fresh hle)
    rcases q with ⟨hq, q⟩ | ⟨hq, q⟩
    · obtain ⟨its, rv, p', hz⟩ := I1.list hq
      refine call_enumerate_list p'.isList fun h' he hit hsz hk => wpAny_pyIter_enum he ?_
      have I2 : Inv X pins σ H1 { s1 with heap := h' } := I1.kept (t' := s1.toks) hk
      exact ⟨s1.heap.objs.size + 1, [s1.heap.objs.size + 1, s1.heap.objs.size], _, _, H1, rfl, I2, turn_enum a (s1.heap.objs.size + 1) s1.heap.objs.size, ⟨⟨.none, he⟩, hit, Nat.succ_ne_self _⟩, fr, q⟩
    · obtain ⟨its, rv, p', hz⟩ := I1.tuple hq
      have hT : s1.heap.IsTuple a its.toArray := p'
      have hal : a < s1.heap.objs.size := by obtain ⟨o, ho, _⟩ := id hT; exact Heap.lt_size ho
      refine call_enumerate_tup hT fun h' he hit hsz hk => wpAny_pyIter_enum he ?_
      have I2 : Inv X pins σ H1 { s1 with heap := h' } := I1.kept (t' := s1.toks) hk
      exact ⟨s1.heap.objs.size + 1, [s1.heap.objs.size + 1, s1.heap.objs.size], _, _, H1, rfl, I2, turn_enumT a (s1.heap.objs.size + 1) s1.heap.objs.size (Nat.ne_of_lt hal) (Nat.ne_of_lt (Nat.lt_succ_of_lt hal)), ⟨⟨.none, he⟩, hit, Nat.succ_ne_self _⟩, fr, q⟩
section
variable {K : PySem.W.Frag} {F : Hid} {G : DH} {H : Hp} {a b : Addr} {xs ys : List V} {ds es : List D}
def enumD (ds : List D) : List D := ds.zipIdx.map fun p => .tup [.int (p.2 : Nat), p.1]
theorem enumD_len : (enumD ds).length = ds.length := by unfold enumD; rw [List.length_map, List.length_zipIdx]
theorem enumD_get {i : Nat} {d : D} (h : ds[i]? = some d) : (enumD ds)[i]? = some (.tup [.int (i : Nat), d]) := by
  unfold enumD
  rw [List.getElem?_map, List.getElem?_zipIdx, h]
  simp
/-- a pair, new -/
theorem yld_pair {F' : Hid} {G' : DH} {H1 : Hp} {T : Addr} {x y : V} {d e : D} (hT : H1 T = none) (rg : RepG K H1 F' G') (rx : Rep K H1 (Own F' G') x d) (ry : Rep K H1 (Own F' G') y e) :
    Step G' H1 G' (upd H1 T (.tup [x, y])) ∧ RepG K (upd H1 T (.tup [x, y])) F' G' ∧ Rep K (upd H1 T (.tup [x, y])) (Own F' G') (.ref T) (.tup [d, e]) :=
  ⟨step_new hT, rg.new hT, .tup upd_same (rg.fresh hT) (.cons (rx.step (step_new hT)) (.cons (ry.step (step_new hT)) .nil))⟩
theorem dwalk_enumL (h : H a = some (.lst xs)) (n : ¬ Own F G a) (r : RepL K H (Own F G) xs ds) : DWalk K F (Ite K a) (enumD ds) (fun _ => True) G H := by
  refine ⟨fun i G1 H1 F1 hi _ _ st => ?_, fun G1 H1 F1 _ _ st => ?_, fun i G1 H1 F1 v H' hi _ rg st y => ?_⟩
  · rw [enumD_len] at hi; exact ⟨xs, xs[i]'(by rw [r.len]; exact hi), SqL.of (st _ _ h n).1, by simp [r.len, hi]⟩
  · exact ⟨xs, SqL.of (st _ _ h n).1, by rw [enumD_len, r.len]; exact Nat.le_refl _⟩
  · obtain ⟨T, x, rfl, hT, rfl, y⟩ := y
    obtain ⟨d, h1, h2⟩ := r.getV (y xs (SqL.of (st _ _ h n).1))
    obtain ⟨z1, z2, z3⟩ := yld_pair hT rg (.int (i : Nat)) (h2.imp st)
    exact ⟨_, enumD_get h1, z1, z2, z3⟩
theorem dwalk_enumT (h : H a = some (.tup xs)) (n : ¬ Own F G a) (r : RepL K H (Own F G) xs ds) : DWalk K F (IteT K a) (enumD ds) (fun _ => True) G H := by
  refine ⟨fun i G1 H1 F1 hi _ _ st => ?_, fun G1 H1 F1 _ _ st => ?_, fun i G1 H1 F1 v H' hi _ rg st y => ?_⟩
  · rw [enumD_len] at hi; exact ⟨xs, xs[i]'(by rw [r.len]; exact hi), SqT.of (st _ _ h n).1, by simp [r.len, hi]⟩
  · exact ⟨xs, SqT.of (st _ _ h n).1, by rw [enumD_len, r.len]; exact Nat.le_refl _⟩
  · obtain ⟨T, x, rfl, hT, rfl, y⟩ := y
    obtain ⟨d, h1, h2⟩ := r.getV (y xs (SqT.of (st _ _ h n).1))
    obtain ⟨z1, z2, z3⟩ := yld_pair hT rg (.int (i : Nat)) (h2.imp st)
    exact ⟨_, enumD_get h1, z1, z2, z3⟩
theorem dwalk_enumP : DWalk K F (Ite K a) (enumD ds) (fun G => G a = some (.lst ds)) G H := by
  refine ⟨fun i G1 H1 F1 hi gd rg st => ?_, fun G1 H1 F1 gd rg st => ?_, fun i G1 H1 F1 v H' hi gd rg st y => ?_⟩
  · obtain ⟨xs, h, r⟩ := rg.ob a _ gd
    rw [enumD_len] at hi; exact ⟨xs, xs[i]'(by rw [r.len]; exact hi), SqL.of h, by simp [r.len, hi]⟩
  · obtain ⟨xs, h, r⟩ := rg.ob a _ gd
    exact ⟨xs, SqL.of h, by rw [enumD_len, r.len]; exact Nat.le_refl _⟩
  · obtain ⟨xs, h, r⟩ := rg.ob a _ gd
    obtain ⟨T, x, rfl, hT, rfl, y⟩ := y
    obtain ⟨d, h1, h2⟩ := r.getV (y xs (SqL.of h))
    obtain ⟨z1, z2, z3⟩ := yld_pair hT rg (.int (i : Nat)) h2
    exact ⟨_, enumD_get h1, z1, z2, z3⟩
/-! ### a list called by script -/
theorem ints_app (ns : List Int) : RepL K H (Own F G) (ns.map V.int) (ns.map D.int) := RepL.ints ns
theorem dwalk_enumC {ns : List Int} (hr : Rep K H (Own F G) (.ref a) (.scr ns)) : DWalk K F (Ite K a) (enumD (ns.map D.int)) (fun _ => True) G H := by
  have sq : ∀ G1 H1 F1, (∀ c o, H c = some o → ¬ Own F G c → H1 c = some o ∧ ¬ Own F1 G1 c) → SqL K H1 a (ns.map V.int) := fun G1 H1 F1 st => by
    cases hr with
    | scr h n =>
      rcases h with h | ⟨o, h⟩
      · exact .inl (.inl (st _ _ h n).1)
      · exact .inl (.inr ⟨o, (st _ _ h n).1⟩)
    | scrK h => exact .inr h
  have hl : (ns.map V.int).length = ns.length := List.length_map ..
  refine ⟨fun i G1 H1 F1 hi _ _ st => ?_, fun G1 H1 F1 _ _ st => ?_, fun i G1 H1 F1 v H' hi _ rg st y => ?_⟩
  · rw [enumD_len, List.length_map] at hi
    exact ⟨_, .int ns[i], sq _ _ _ st, by simp [hi]⟩
  · exact ⟨_, sq _ _ _ st, by simp [enumD_len]⟩
  · obtain ⟨T, x, rfl, hT, rfl, y⟩ := y
    rw [enumD_len, List.length_map] at hi
    have hx := y _ (sq _ _ _ st)
    have ex : x = .int ns[i] := by simpa [hi] using hx.symm
    subst ex
    obtain ⟨z1, z2, z3⟩ := yld_pair hT rg (.int (i : Nat)) (.int ns[i])
    exact ⟨_, enumD_get (by simp [hi]), z1, z2, z3⟩
end
section
variable {X : Cx} {e a b c l : Expr} {es : List Expr} {pos p tpos : Pos} {te ta tb : DE} {tr : DA} {elts : List Expr} {kk : Nat}
def enK (W : List D → (DH → Prop) → DH → Prop) (d : D) (G : DH) : Prop := match d with
  | .scr ns => W (enumD (ns.map D.int)) (fun _ => True) G
  | d => match res G d with
    | .tup ds => W (enumD ds) (fun _ => True) G
    | .lst ds => W (enumD ds) (gdOf d ds) G
    | _ => False
def iEnum (te : DE) : DI := fun s G R => te s G fun d G1 => enK R d G1
theorem pid_enumerate (hg : Gl X "enumerate") (hm : X.mg "enumerate" = none) (ha : PED X e te) (hs : starEach [e] X.env = [(false, eval e X.env)] := by rfl) :
    PID X (.Tuple elts kk tpos) (.Call (.Name "enumerate" p) [e] [] pos) (iEnum te) := by
  refine ⟨(pi_enumA hg hm (pa_cons ha.out pa_nil hs) hs).weak fun σ H R ⟨F, s, G, Q, rs, rg, q, p⟩ => ?_⟩
  refine ⟨F, s, G, _, rs, rg, q, fun d G1 x H1 st rx rg1 q1 => ?_⟩
  unfold enK at q1
  cases rx with
  | tup h n r => exact ⟨_, _, rfl, .inr ⟨SqT.of h, p _ _ _ _ _ st rg1 (dwalk_enumT h n r) q1⟩⟩
  | lst h n r => exact ⟨_, _, rfl, .inl ⟨SqL.of h, p _ _ _ _ _ st rg1 (dwalk_enumL h n r) q1⟩⟩
  | @scr a ns h n => exact ⟨a, _, rfl, .inl ⟨.inl h, p _ _ _ _ _ st rg1 (dwalk_enumC (.scr h n)) q1⟩⟩
  | @scrK a ns h => exact ⟨a, _, rfl, .inl ⟨.inr h, p _ _ _ _ _ st rg1 (dwalk_enumC (.scrK h)) q1⟩⟩
  | ptr a =>
    cases hg : G1 a with
    | none => simp only [res, hg] at q1
    | some o =>
      cases o with
      | lst ds =>
        simp only [res, hg] at q1
        obtain ⟨xs, h, r⟩ := rg1.ob a _ hg
        exact ⟨_, _, rfl, .inl ⟨SqL.of h, p _ _ _ _ _ st rg1 dwalk_enumP q1⟩⟩
      | _ => simp only [res, hg] at q1
  | _ => exact q1.elim
end
end L2.Ew

set_option Elab.async false
set_option linter.all false
set_option maxRecDepth 100000
set_option maxHeartbeats 4000000
/-! zip, steps of a range, ranges as lists and tuples, sorted, a key asked of a dict, more methods of lists. -/
namespace L2.Ew
open PySem PySem.Spec PySem.SeqAt PyProof.Rows
section
variable {K : PySem.W.Frag} {F : Hid} {G : DH} {H : Hp} {a b : Addr} {xs ys : List V} {ds es : List D}
/-! ### zip -/
def zipD (ds es : List D) : List D := (ds.zip es).map fun p => .tup [p.1, p.2]
theorem zipD_len : (zipD ds es).length = min ds.length es.length := by unfold zipD; rw [List.length_map, List.length_zip]
theorem zipD_get {i : Nat} {d e : D} (h : ds[i]? = some d) (k : es[i]? = some e) : (zipD ds es)[i]? = some (.tup [d, e]) := by
  unfold zipD
  have h1 := List.getElem?_eq_some_iff.mp h
  have h2 := List.getElem?_eq_some_iff.mp k
  obtain ⟨l1, rfl⟩ := h1
  obtain ⟨l2, rfl⟩ := h2
  rw [List.getElem?_map, List.getElem?_eq_getElem (by rw [List.length_zip]; omega), List.getElem_zip]
  rfl
/-- what is read of a list that may be one by place -/
structure LWalk (K : PySem.W.Frag) (F : Hid) (G0 : DH) (H0 : Hp) (a : Addr) (ds : List D) (gd : DH → Prop) : Prop where
  out : ∀ G H F', gd G → RepG K H F' G → (∀ c o, H0 c = some o → ¬ Own F G0 c → H c = some o ∧ ¬ Own F' G c) → ∃ xs, SqL K H a xs ∧ RepL K H (Own F' G) xs ds
theorem lwalk_v (h : H a = some (.lst xs)) (n : ¬ Own F G a) (r : RepL K H (Own F G) xs ds) : LWalk K F G H a ds (fun _ => True) := ⟨fun G1 H1 F1 _ _ st => ⟨xs, SqL.of (st _ _ h n).1, r.imp st⟩⟩
theorem lwalk_p : LWalk K F G H a ds (fun G => G a = some (.lst ds)) := ⟨fun G1 H1 F1 gd rg st => by
  obtain ⟨xs, h, r⟩ := rg.ob a _ gd
  exact ⟨xs, SqL.of h, r⟩⟩
theorem lwalk_c {ns : List Int} (hr : Rep K H (Own F G) (.ref a) (.scr ns)) : LWalk K F G H a (ns.map D.int) (fun _ => True) := ⟨fun G1 H1 F1 _ _ st => by
  refine ⟨ns.map V.int, ?_, RepL.ints ns⟩
  cases hr with
  | scr h n =>
    rcases h with h | ⟨o, h⟩
    · exact .inl (.inl (st _ _ h n).1)
    · exact .inl (.inr ⟨o, (st _ _ h n).1⟩)
  | scrK h => exact .inr h⟩
theorem dwalk_zipL {gd1 gd2 : DH → Prop} (w1 : LWalk K F G H a ds gd1) (w2 : LWalk K F G H b es gd2) : DWalk K F (Itz K a b) (zipD ds es) (fun G => gd1 G ∧ gd2 G) G H := by
  refine ⟨fun i G1 H1 F1 hi gd rg st => ?_, fun G1 H1 F1 gd rg st => ?_, fun i G1 H1 F1 v H' hi gd rg st y => ?_⟩
  · obtain ⟨xs, h1, r1⟩ := w1.out _ _ _ gd.1 rg st
    obtain ⟨ys, h2, r2⟩ := w2.out _ _ _ gd.2 rg st
    rw [zipD_len, ← r1.len, ← r2.len] at hi
    exact ⟨xs, ys, xs[i]'(by omega), ys[i]'(by omega), h1, h2, List.getElem?_eq_getElem (by omega), List.getElem?_eq_getElem (by omega)⟩
  · obtain ⟨xs, h1, r1⟩ := w1.out _ _ _ gd.1 rg st
    obtain ⟨ys, h2, r2⟩ := w2.out _ _ _ gd.2 rg st
    exact ⟨xs, ys, h1, h2, by rw [zipD_len, r1.len, r2.len]; omega⟩
  · obtain ⟨xs, h1, r1⟩ := w1.out _ _ _ gd.1 rg st
    obtain ⟨ys, h2, r2⟩ := w2.out _ _ _ gd.2 rg st
    obtain ⟨T, x, y', rfl, hT, rfl, k1, k2⟩ := y
    obtain ⟨d, e1, q1⟩ := r1.getV (k1 xs h1)
    obtain ⟨e, e2, q2⟩ := r2.getV (k2 ys h2)
    obtain ⟨z1, z2, z3⟩ := yld_pair hT rg q1 q2
    exact ⟨_, zipD_get e1 e2, z1, z2, z3⟩
theorem dwalk_zipT (h : H a = some (.tup xs)) (n : ¬ Own F G a) (r : RepL K H (Own F G) xs ds) (h' : H b = some (.tup ys)) (n' : ¬ Own F G b) (r' : RepL K H (Own F G) ys es) : DWalk K F (RZ.ItzT K a b) (zipD ds es) (fun _ => True) G H := by
  refine ⟨fun i G1 H1 F1 hi _ rg st => ?_, fun G1 H1 F1 _ rg st => ?_, fun i G1 H1 F1 v H' hi _ rg st y => ?_⟩
  · rw [zipD_len, ← r.len, ← r'.len] at hi
    exact ⟨xs, ys, xs[i]'(by omega), ys[i]'(by omega), SqT.of (st _ _ h n).1, SqT.of (st _ _ h' n').1, List.getElem?_eq_getElem (by omega), List.getElem?_eq_getElem (by omega)⟩
  · exact ⟨xs, ys, SqT.of (st _ _ h n).1, SqT.of (st _ _ h' n').1, by rw [zipD_len, r.len, r'.len]; omega⟩
  · obtain ⟨T, x, y', rfl, hT, rfl, k1, k2⟩ := y
    obtain ⟨d, e1, q1⟩ := r.getV (k1 xs (SqT.of (st _ _ h n).1))
    obtain ⟨e, e2, q2⟩ := r'.getV (k2 ys (SqT.of (st _ _ h' n').1))
    obtain ⟨z1, z2, z3⟩ := yld_pair hT rg (q1.imp st) (q2.imp st)
    exact ⟨_, zipD_get e1 e2, z1, z2, z3⟩
/-- what a list is, read -/
def lstOf (G : DH) : D → Option (List D)
  | .scr ns => some (ns.map D.int)
  | .lst ds => some ds
  | .ptr a => match G a with
    | some (.lst ds) => some ds
    | _ => none
  | _ => none
def gdL (d : D) (ds : List D) : DH → Prop := match d with
  | .ptr a => fun G => G a = some (.lst ds)
  | _ => fun _ => True
theorem lwalk_of {x : V} {d : D} (g : RepG K H F G) (r : Rep K H (Own F G) x d) (h : lstOf G d = some ds) : ∃ a xs, x = .ref a ∧ SqL K H a xs ∧ LWalk K F G H a ds (gdL d ds) := by
  cases r with
  | lst h1 n r => cases h; exact ⟨_, _, rfl, SqL.of h1, lwalk_v h1 n r⟩
  | scr h1 n => cases h; exact ⟨_, _, rfl, .inl h1, lwalk_c (.scr h1 n)⟩
  | scrK h1 => cases h; exact ⟨_, _, rfl, .inr h1, lwalk_c (.scrK h1)⟩
  | ptr a =>
    cases q : G a with
    | none => simp only [lstOf, q] at h; exact nomatch h
    | some o =>
      cases o with
      | lst es =>
        simp only [lstOf, q] at h; cases h
        obtain ⟨xs, h1, r⟩ := g.ob a _ q
        exact ⟨a, xs, rfl, SqL.of h1, lwalk_p⟩
      | _ => simp only [lstOf, q] at h; exact nomatch h
  | _ => exact nomatch h
def zpK (W : List D → (DH → Prop) → DH → Prop) (d e : D) (G : DH) : Prop := match d, e with
  | .tup ds, .tup es => W (zipD ds es) (fun _ => True) G
  | d, e => match lstOf G d, lstOf G e with
    | some ds, some es => W (zipD ds es) (fun G => gdL d ds G ∧ gdL e es G) G
    | _, _ => False
def iZip2 (ta tb : DE) : DI := fun s G R => ta s G fun d G1 => tb s G1 fun e G2 => zpK R d e G2
end
section
variable {X : Cx} {e a b c l o : Expr} {es : List Expr} {pos p tpos : Pos} {te ta tb to : DE} {tr : DA} {elts : List Expr} {kk : Nat}
theorem pid_zip (hg : Gl X "zip") (hm : X.mg "zip" = none) (ha : PED X a ta) (hb : PED X b tb)
    (hs : starEach [a, b] X.env = (false, eval a X.env) :: starEach [b] X.env := by rfl) (hs2 : starEach [b] X.env = (false, eval b X.env) :: starEach [] X.env := by rfl) (hpl : (backTo pos (starEach [b] X.env)).any (·.1) = false := by rfl) :
    PID X (.Tuple elts kk tpos) (.Call (.Name "zip" p) [a, b] [] pos) (iZip2 ta tb) := by
  refine ⟨(RZ.pi_zipA hg hm (pa_cons ha.out (pa_cons hb.out pa_nil hs2) hs) hs hpl).weak fun σ H R ⟨F, s, G, Q, rs, rg, q, p⟩ => ?_⟩
  refine ⟨F, s, G, _, rs, rg, q, fun d G1 x H1 st rx rg1 q1 => ?_⟩
  refine ⟨F, s, G1, _, rs.step st, rg1, q1, fun d' G2 y H2 st2 ry rg2 q2 => ?_⟩
  have rx2 := rx.step st2
  unfold zpK at q2
  split at q2
  · cases rx2 with
    | tup h n r => cases ry with
      | tup h' n' r' => exact ⟨_, _, _, _, rfl, .inr ⟨SqT.of h, SqT.of h', p _ _ _ _ _ (st.trans st2) rg2 (dwalk_zipT h n r h' n' r') q2⟩⟩
  · split at q2 <;> try exact q2.elim
    rename_i h1 h2
    obtain ⟨a1, xs, rfl, s1, w1⟩ := lwalk_of rg2 rx2 h1
    obtain ⟨a2, ys, rfl, s2, w2⟩ := lwalk_of rg2 ry h2
    exact ⟨_, _, _, _, rfl, .inl ⟨s1, s2, p _ _ _ _ _ (st.trans st2) rg2 (dwalk_zipL w1 w2) q2⟩⟩
/-! ### a range downwards, one by one -/
def downD (hi lo : Int) : List D := (List.range (hi - lo).toNat).map fun i => .int (hi - (i : Nat))
theorem dwalk_down {K : PySem.W.Frag} {F : Hid} {G : DH} {H : Hp} {lo hi : Int} : DWalk K F (Itc hi (-1) (hi - lo).toNat) (downD hi lo) (fun _ => True) G H := by
  have hl : (downD hi lo).length = (hi - lo).toNat := by unfold downD; rw [List.length_map, List.length_range]
  refine ⟨fun i G1 H1 F1 hi _ _ st => ?_, fun G1 H1 F1 _ _ st => ?_, fun i G1 H1 F1 v H' hi _ rg st y => ?_⟩
  · rw [hl] at hi; exact hi
  · exact Nat.le_of_eq hl.symm
  · obtain ⟨rfl, rfl⟩ := y
    rw [hl] at hi
    refine ⟨_, ?_, Step.refl, rg, .int _⟩
    unfold downD
    rw [List.getElem?_map, List.getElem?_range hi]
    show some (D.int _) = some (D.int _)
    congr 2; omega
def rgK3 (R : List D → (DH → Prop) → DH → Prop) (ds : List D) (G : DH) : Prop := match ds with
  | [.int m, .int n, .int c] => c = -1 ∧ -(2 ^ 62) ≤ m ∧ m < 2 ^ 62 ∧ -(2 ^ 62) ≤ n ∧ n < 2 ^ 62 ∧ R (downD m n) (fun _ => True) G
  | _ => False
def iRange3 (ta : DA) : DI := fun s G R => ta s G fun ds G1 => rgK3 R ds G1
theorem pid_range3 {tg : Expr} (hg : Gl X "range") (hm : X.mg "range" = none) (ha : PAD X [a, b, c] tr) (hs : starEach [a, b, c] X.env = (false, eval a X.env) :: starEach [b, c] X.env := by rfl) (hpl : (backTo pos (starEach [b, c] X.env)).any (·.1) = false := by rfl) :
    PID X tg (.Call (.Name "range" p) [a, b, c] [] pos) (iRange3 tr) := by
  refine ⟨(pi_range3 hg hm ha.out hs hpl).weak fun σ H R ⟨F, s, G, Q, rs, rg, q, p⟩ => ?_⟩
  refine ⟨F, s, G, _, rs, rg, q, fun ds G1 xs H1 st rx rg1 q1 => ?_⟩
  unfold rgK3 at q1
  split at q1 <;> try exact q1.elim
  obtain ⟨rfl, h1, h2, h3, h4, q1⟩ := q1
  cases rx with
  | cons r1 rx => cases rx with
    | cons r2 rx => cases rx with
      | cons r3 rx =>
        cases rx; cases r1; cases r2; cases r3
        exact ⟨_, _, _, _, rfl, RgC.neg h1 h2 h3 h4, p _ _ _ _ _ st rg1 dwalk_down q1⟩
/-- reversed(range(n)) -/
theorem dwalk_revRange {K : PySem.W.Frag} {F : Hid} {G : DH} {H : Hp} {n : Int} : DWalk K F (Itc (0 + (((n - 0).toNat : Nat) : Int) - 1) (-1) (n - 0).toNat) ((List.range n.toNat).map fun i => .int (n - 1 - (i : Nat))) (fun _ => True) G H := by
  have hl : ((List.range n.toNat).map fun i => D.int (n - 1 - (i : Nat))).length = (n - 0).toNat := by rw [List.length_map, List.length_range, Int.sub_zero]
  refine ⟨fun i G1 H1 F1 hi _ _ st => ?_, fun G1 H1 F1 _ _ st => ?_, fun i G1 H1 F1 v H' hi _ rg st y => ?_⟩
  · rw [hl] at hi; exact hi
  · exact Nat.le_of_eq hl.symm
  · obtain ⟨rfl, rfl⟩ := y
    rw [hl] at hi
    refine ⟨_, ?_, Step.refl, rg, .int _⟩
    rw [List.getElem?_map, List.getElem?_range (by omega)]
    show some (D.int _) = some (D.int _)
    congr 2; omega
def rvK (R : List D → (DH → Prop) → DH → Prop) (d : D) (G : DH) : Prop := match d with
  | .int n => -(2 ^ 62) ≤ n ∧ n < 2 ^ 62 ∧ R ((List.range n.toNat).map fun i => .int (n - 1 - (i : Nat))) (fun _ => True) G
  | _ => False
def iRevRange (te : DE) : DI := fun s G R => te s G fun d G1 => rvK R d G1
theorem pid_revRange {tg : Expr} {p2 pos2 : Pos} (hg : Gl X "reversed") (hm : X.mg "reversed" = none) (hg2 : Gl X "range") (hm2 : X.mg "range" = none) (ha : PED X a ta)
    (na : starEach [a] X.env = (false, eval a X.env) :: starEach [] X.env := by rfl) (hs : starEach [.Call (.Name "range" p2) [a] [] pos2] X.env = (false, eval (.Call (.Name "range" p2) [a] [] pos2) X.env) :: starEach [] X.env := by rfl) :
    PID X tg (.Call (.Name "reversed" p) [.Call (.Name "range" p2) [a] [] pos2] [] pos) (iRevRange ta) := by
  refine ⟨(pi_revR hg hm (prg_1 hg2 hm2 ha.out na) hs).weak fun σ H R ⟨F, s, G, Q, rs, rg, q, p⟩ => ?_⟩
  refine ⟨F, s, G, _, rs, rg, q, fun d G1 x H1 st rx rg1 q1 => ?_⟩
  cases rx with
  | int n =>
    obtain ⟨h1, h2, q1⟩ := q1
    exact ⟨n, rfl, by decide, by decide, h1, h2, p _ _ _ _ _ st rg1 dwalk_revRange q1⟩
  | _ => exact q1.elim
/-! ### list(range(n)), tuple(range(n)) -/
theorem rgV_rep {K : PySem.W.Frag} {H : Hp} {O : Addr → Prop} (n : Int) : RepL K H O (rgV 0 n) (rangeD 0 n) := by
  unfold rgV rangeD
  generalize List.range (n - 0).toNat = l
  induction l with
  | nil => exact .nil
  | cons i l ih => exact .cons (.int _) ih
def lrK (R : List D → DH → Prop) (d : D) (G : DH) : Prop := match d with
  | .int n => 0 ≤ n ∧ n ≤ 16777216 ∧ R (rangeD 0 n) G
  | _ => False
def fListRange (ta : DE) : DF := fun s G R => ta s G fun d G1 => lrK R d G1
theorem pef_listRange {p2 pos2 : Pos} (hg : Gl X "list") (hm : X.mg "list" = none) (hg2 : Gl X "range") (hm2 : X.mg "range" = none) (ha : PED X a ta) (hc : X.calm = true := by rfl)
    (na : starEach [a] X.env = (false, eval a X.env) :: starEach [] X.env := by rfl) (hs : starEach [.Call (.Name "range" p2) [a] [] pos2] X.env = (false, eval (.Call (.Name "range" p2) [a] [] pos2) X.env) :: starEach [] X.env := by rfl) :
    PEF X (.Call (.Name "list" p) [.Call (.Name "range" p2) [a] [] pos2] [] pos) (fListRange ta) := by
  refine ⟨(pe_listRg hc hg hm (prg_1 hg2 hm2 ha.out na) hs).weak fun σ H Q ⟨F, s, G, R, rs, rg, q, p⟩ => ?_⟩
  refine ⟨F, s, G, _, rs, rg, q, fun d G1 x H1 st rx rg1 q1 => ?_⟩
  cases rx with
  | int n =>
    obtain ⟨h1, h2, q1⟩ := q1
    exact ⟨n, rfl, RgOk.of_le (by decide) h2 (by decide) h1, new_fresh (PostF.step p st) rg1 (rgV_rep n) q1⟩
  | _ => exact q1.elim
def dTupRange (ta : DE) : DE := fun s G Q => ta s G fun d G1 => lrK (fun ds G2 => Q (.tup ds) G2) d G1
theorem ped_tupRange {p2 pos2 : Pos} (hg : Gl X "tuple") (hm : X.mg "tuple" = none) (hg2 : Gl X "range") (hm2 : X.mg "range" = none) (ha : PED X a ta) (hc : X.calm = true := by rfl)
    (na : starEach [a] X.env = (false, eval a X.env) :: starEach [] X.env := by rfl) (hs : starEach [.Call (.Name "range" p2) [a] [] pos2] X.env = (false, eval (.Call (.Name "range" p2) [a] [] pos2) X.env) :: starEach [] X.env := by rfl) :
    PED X (.Call (.Name "tuple" p) [.Call (.Name "range" p2) [a] [] pos2] [] pos) (dTupRange ta) := by
  refine ⟨(pe_tupRg hc hg hm (prg_1 hg2 hm2 ha.out na) hs).weak fun σ H Q ⟨F, s, G, R, rs, rg, q, p⟩ => ?_⟩
  refine ⟨F, s, G, _, rs, rg, q, fun d G1 x H1 st rx rg1 q1 => ?_⟩
  cases rx with
  | int n =>
    obtain ⟨h1, h2, q1⟩ := q1
    exact ⟨n, rfl, RgOk.of_le (by decide) h2 (by decide) h1, new_tup (p.step st) rg1 (rgV_rep n) q1⟩
  | _ => exact q1.elim
/-! ### sorted -/
def cSorted : DRs := fun ds G Q => match ds with
  | [d] => match (lstOf G d).bind intsD with
    | some ns => ∀ ns' : List Int, ns'.Perm ns → ns'.Pairwise (· ≤ ·) → Q (.lst (ns'.map D.int)) G
    | none => False
  | _ => False
theorem cdSorted : CallD X (.builtin "sorted") cSorted := by
  refine ⟨fun pins s σ H xs us Q I r ⟨F, ds, G, R, rx, rg, q, p⟩ => ?_⟩
  unfold cSorted at q
  split at q <;> try exact q.elim
  rename_i d
  split at q <;> try exact q.elim
  rename_i ns he
  cases rx with
  | cons r1 r2 =>
    cases r2
    cases hd : lstOf G d with
    | none => rw [hd] at he; exact nomatch he
    | some zs =>
      rw [hd] at he
      have ez := intsD_eq he
      subst ez
      obtain ⟨a, ys, rfl, h1, w⟩ := lwalk_of rg r1 hd
      have gdl : gdL d (ns.map D.int) G := by
        unfold gdL
        cases d with
        | ptr b =>
          show G b = some _
          cases hb : G b with
          | none => simp only [lstOf, hb] at hd; exact nomatch hd
          | some o => cases o with
            | lst us => simp only [lstOf, hb] at hd; cases hd; rfl
            | _ => simp only [lstOf, hb] at hd; exact nomatch hd
        | _ => trivial
      obtain ⟨zs, h2, r3⟩ := w.out G H F gdl rg (fun _ _ e n => ⟨e, n⟩)
      have := r3.ints_of
      subst this
      exact cr_sortedI pins s σ H _ us Q I r ⟨a, ns, rfl, h2, fun ns' q' h3 h4 hq => new_lst p rg (RepL.ints ns') (q ns' h3 h4) q' hq⟩
/-! ### a key in a dict -/
def inDk (G : DH) (d e : D) : Option Bool := match d with
  | .dk ks ds => (keyD e).map fun k => (valD (ks.zip ds) k).isSome
  | .ptr a => match G a with
    | some (.dk kvs) => (keyD e).map fun k => (valD kvs k).isSome
    | some (.dT kvs) => match e with
      | .tup ds => (keyTD ds).map fun k => (valD kvs k).isSome
      | _ => none
    | _ => none
  | _ => none
theorem inDk_get {K : PySem.W.Frag} {H : Hp} {F : Hid} {G : DH} {x y : V} {d e : D} {c : Bool} (rg : RepG K H F G) (rx : Rep K H (Own F G) x d) (ry : Rep K H (Own F G) y e) (h : inDk G d e = some c) : ∃ a o, x = .ref a ∧ DGet H a y o ∧ o.isSome = c := by
  have fin : ∀ {κ : Type} [DecidableEq κ] {k : κ} {ws : List (κ × V)} {kvs : List (κ × D)}, ws.map Prod.fst = kvs.map Prod.fst → RepL K H (Own F G) (ws.map Prod.snd) (kvs.map Prod.snd) → (valV ws k).isSome = (valD kvs k).isSome := by
    intro κ _ k ws kvs h1 h2
    cases hv : valD kvs k with
    | none => rw [val_none h1 hv]; rfl
    | some w => obtain ⟨z, h3, _⟩ := val_rep h1 h2 hv; rw [h3]; rfl
  cases rx with
  | @dk a kvs ds h1 n r =>
    simp only [inDk] at h
    cases hk : keyD e with
    | none => rw [hk] at h; exact nomatch h
    | some k =>
      rw [hk] at h
      have hl : (kvs.map Prod.fst).length = ds.length := by rw [List.length_map, ← r.len, List.length_map]
      refine ⟨a, valV kvs k, rfl, ?_, ?_⟩
      · rw [key_rep ry hk]; exact DGet.k h1
      · rw [fin (kvs := (kvs.map Prod.fst).zip ds) (zip_fst hl).symm (by rw [zip_snd hl]; exact r)]
        exact Option.some.inj h
  | ptr a =>
    simp only [inDk] at h
    cases hg : G a with
    | none => simp only [hg] at h; exact nomatch h
    | some o => cases o with
      | dk kvs =>
        simp only [hg] at h
        cases hk : keyD e with
        | none => rw [hk] at h; exact nomatch h
        | some k =>
          rw [hk] at h
          obtain ⟨ws, h1, h2, r⟩ := rg.ob a _ hg
          exact ⟨a, valV ws k, rfl, by rw [key_rep ry hk]; exact DGet.k h1, by rw [fin h2 r]; exact Option.some.inj h⟩
      | dT kvs =>
        simp only [hg] at h
        cases e with
        | tup es =>
          cases hk : keyTD es with
          | none => simp only [hk] at h; exact nomatch h
          | some k =>
            simp only [hk] at h
            obtain ⟨ws, h1, h2, r⟩ := rg.ob a _ hg
            cases ry with
            | tup hb n rb => exact ⟨a, valV ws k, rfl, DGet.t h1 (by rw [← keyT_rep rb hk]; exact hb), by rw [fin h2 r]; exact Option.some.inj h⟩
        | _ => exact nomatch h
      | _ => simp only [hg] at h; exact nomatch h
  | _ => exact nomatch h
def oIn2 : DR2 := fun d e G Q => (match inDk G e d with
  | some c => Q (.bl c) G
  | none => oIn d e G Q)
def oNotIn2 : DR2 := fun d e G Q => (match inDk G e d with
  | some c => Q (.bl (!c)) G
  | none => oNotIn d e G Q)
theorem odIn2 (hu : X.A.units + 64 < cLine) : OpD X (compareOp .In) oIn2 := by
  refine ⟨fun pins s σ H x y v u Q I rx ry ⟨F, d, e, G, R, qx, qy, rg, q, p⟩ => ?_⟩
  unfold oIn2 at q
  cases hi : inDk G e d with
  | none => simp only [hi] at q; exact (odIn hu).out pins s σ H x y v u Q I rx ry ⟨F, d, e, G, R, qx, qy, rg, q, p⟩
  | some c =>
    simp only [hi] at q
    obtain ⟨a, o, rfl, g, rfl⟩ := inDk_get rg qy qx hi
    obtain rfl : u = Value.ref a := ry
    exact d_in (by omega) I g rx fun s' I' => ⟨.bl o.isSome, H, I', rfl, p.here rg (.bl _) q⟩
theorem odNotIn2 (hu : X.A.units + 64 < cLine) : OpD X (compareOp .NotIn) oNotIn2 := by
  refine ⟨fun pins s σ H x y v u Q I rx ry ⟨F, d, e, G, R, qx, qy, rg, q, p⟩ => ?_⟩
  unfold oNotIn2 at q
  cases hi : inDk G e d with
  | none => simp only [hi] at q; exact (odNotIn hu).out pins s σ H x y v u Q I rx ry ⟨F, d, e, G, R, qx, qy, rg, q, p⟩
  | some c =>
    simp only [hi] at q
    obtain ⟨a, o, rfl, g, rfl⟩ := inDk_get rg qy qx hi
    obtain rfl : u = Value.ref a := ry
    exact d_notIn (by omega) I g rx fun s' I' => ⟨.bl (!o.isSome), H, I', rfl, p.here rg (.bl _) q⟩
end
end L2.Ew

set_option Elab.async false
set_option linter.all false
set_option maxRecDepth 100000
set_option maxHeartbeats 4000000
/-! Frames of loops, lists told by a function of their items, steps for them. -/
namespace L2.Ew
open PySem PySem.Spec PySem.SeqAt PyProof.Rows
/-- some slots put anew -/
def putS : DS → List Nat → List (Option D) → DS
  | s, m :: ms, v :: vs => putS (s.set m v) ms vs
  | s, _, _ => s
def getS (s : DS) (ms : List Nat) : List (Option D) := ms.map fun m => (s[m]?).getD none
section
variable {s : DS} {G : DH} {Q : DK} {D' : DEnds} {t u : DT} {te ta tb tc to ti : DE} {tt tt' : DTT} {tr : DA} {f : DF} {g : DG} {i j k : Int} {a l p : Addr} {b c : Bool} {d e v w : D} {ds es : List D} {P : Prop} {R : List D → DH → Prop} {S : DS → DH → Prop} {W : List D → (DH → Prop) → DH → Prop} {vs : List Nat} {X : XD}
/-- a loop by what holds of the slots that it changes -/
theorem loop_fr {gd : DH → Prop} {xs : List D} (ms : List Nat) (W : Nat → List (Option D) → DH → Prop) (h0 : W 0 (getS s ms) G) (hg : ∀ i vs G, i ≤ xs.length → W i vs G → gd G)
    (ht : ∀ i d vs G (E : DEnds), i < xs.length → xs[i]? = some d → W i vs G → (∀ vs' G', W (i + 1) vs' G' → E.nx (putS s ms vs') G') → (∀ vs' G', W (i + 1) vs' G' → E.ct (putS s ms vs') G') → E.rt = D'.rt → E.bk = D'.nx → g d (putS s ms vs) G fun s1 G1 => t E s1 G1)
    (hd : ∀ vs G, W xs.length vs G → D'.nx (putS s ms vs) G) (hp : putS s ms (getS s ms) = s := by with_unfolding_all exact rfl) : dLoop g t gd D' xs s G := by
  refine loop_inv (fun i s' G' => ∃ vs, s' = putS s ms vs ∧ W i vs G') ⟨_, hp.symm, h0⟩ ?_ ?_ ?_
  · rintro i s' G' hi ⟨vs, rfl, h⟩; exact hg i vs G' hi h
  · rintro i d s' G' E hi hd ⟨vs, rfl, h⟩ hn hc hr hb
    exact ht i d vs G' E hi hd h (fun vs' G'' z => hn _ _ ⟨vs', rfl, z⟩) (fun vs' G'' z => hc _ _ ⟨vs', rfl, z⟩) hr hb
  · rintro s' G' ⟨vs, rfl, h⟩; exact hd vs G' h
/-- the same of items told by a function -/
theorem loop_fm {α : Type} {en : α → D} {gd : DH → Prop} {xs : List α} (ms : List Nat) (W : Nat → List (Option D) → DH → Prop) (h0 : W 0 (getS s ms) G) (hg : ∀ i vs G, i ≤ xs.length → W i vs G → gd G)
    (ht : ∀ i x vs G (E : DEnds), i < xs.length → xs[i]? = some x → W i vs G → (∀ vs' G', W (i + 1) vs' G' → E.nx (putS s ms vs') G') → (∀ vs' G', W (i + 1) vs' G' → E.ct (putS s ms vs') G') → E.rt = D'.rt → E.bk = D'.nx → g (en x) (putS s ms vs) G fun s1 G1 => t E s1 G1)
    (hd : ∀ vs G, W xs.length vs G → D'.nx (putS s ms vs) G) (hp : putS s ms (getS s ms) = s := by with_unfolding_all exact rfl) : dLoop g t gd D' (xs.map en) s G := by
  refine loop_fr ms W h0 (fun i vs G hi => hg i vs G (by rwa [List.length_map] at hi)) (fun i d vs G E hi hd => ?_) (fun vs G => by rw [List.length_map]; exact hd vs G) hp
  rw [List.length_map] at hi
  have e : d = en xs[i] := by
    rw [List.getElem?_map, List.getElem?_eq_getElem hi] at hd
    exact (Option.some.inj hd).symm
  subst e
  exact ht i xs[i] vs G E hi (List.getElem?_eq_getElem hi)
/-- a comprehension that makes of each item one -/
theorem comp_map {α : Type} {en : α → D} {gd : DH → Prop} {xs : List α} (e : α → D) (hg : gd G)
    (ht : ∀ x, x ∈ xs → ∀ (acc : List D) (K : List D → DH → Prop), K (acc ++ [e x]) G → g (en x) (wipeD s vs) G fun s1 G1 => tt s1 G1 fun b G2 => if b = true then te s1 G2 fun y G3 => K (acc ++ [y]) G3 else K acc G2) (hd : R (xs.map e) G) : dCompL g tt te gd vs s (xs.map en) [] G R := by
  refine comp_inv (fun i acc => acc = (xs.take i).map e) rfl hg ?_ ?_
  · rintro i d acc K hi hx rfl hK
    rw [List.length_map] at hi
    rw [List.getElem?_map, List.getElem?_eq_getElem hi] at hx
    cases hx
    refine ht xs[i] (List.getElem_mem _) _ K ?_
    exact hK _ (by rw [List.take_succ, List.getElem?_eq_getElem hi, List.map_append]; rfl)
  · rintro acc rfl
    rw [List.length_map, List.take_length]
    exact hd
/-- a comprehension with a test -/
theorem comp_filter {α : Type} {en : α → D} {gd : DH → Prop} {xs : List α} (p : α → Bool) (e : α → D) (hg : gd G)
    (ht : ∀ x, x ∈ xs → ∀ (acc : List D) (K : List D → DH → Prop), K (if p x = true then acc ++ [e x] else acc) G → g (en x) (wipeD s vs) G fun s1 G1 => tt s1 G1 fun b G2 => if b = true then te s1 G2 fun y G3 => K (acc ++ [y]) G3 else K acc G2) (hd : R ((xs.filter p).map e) G) : dCompL g tt te gd vs s (xs.map en) [] G R := by
  refine comp_inv (fun i acc => acc = ((xs.take i).filter p).map e) rfl hg ?_ ?_
  · rintro i d acc K hi hx rfl hK
    rw [List.length_map] at hi
    rw [List.getElem?_map, List.getElem?_eq_getElem hi] at hx
    cases hx
    refine ht xs[i] (List.getElem_mem _) _ K ?_
    refine hK _ ?_
    rw [List.take_succ, List.getElem?_eq_getElem hi, List.filter_append, List.map_append]
    by_cases h : p xs[i] = true
    · simp [h]
    · simp [h]
  · rintro acc rfl
    rw [List.length_map, List.take_length]
    exact hd
/-- the length alone, and each item in a set -/
theorem comp_all {gd : DH → Prop} {xs : List D} {α : Type} (e : α → D) (I : α → Prop) (hg : gd G)
    (ht : ∀ (i : Nat) (d : D), xs[i]? = some d → ∀ (acc : List D) (K : List D → DH → Prop), (∀ y, I y → K (acc ++ [e y]) G) → g d (wipeD s vs) G fun s1 G1 => tt s1 G1 fun b G2 => if b = true then te s1 G2 fun y G3 => K (acc ++ [y]) G3 else K acc G2) (hd : ∀ ys : List α, ys.length = xs.length → (∀ y ∈ ys, I y) → R (ys.map e) G) : dCompL g tt te gd vs s xs [] G R := by
  refine comp_inv (fun i acc => ∃ ys : List α, acc = ys.map e ∧ ys.length = i ∧ ∀ y ∈ ys, I y) ⟨[], rfl, rfl, fun _ h => nomatch h⟩ hg ?_ ?_
  · rintro i d acc K hi hx ⟨ys, rfl, hl, hI⟩ hK
    refine ht i d hx _ K fun y hy => hK _ ⟨ys ++ [y], by simp, by simp [hl], fun z hz => ?_⟩
    rcases List.mem_append.mp hz with hz | hz
    · exact hI z hz
    · rw [List.mem_singleton.mp hz]; exact hy
  · rintro acc ⟨ys, rfl, hl, hI⟩
    exact hd ys hl hI
/-- one slot by what holds of it -/
theorem cut1 (i : Nat) (W : D → Prop) (h : ∀ E : DEnds, E.rt = D'.rt → (∀ v, W v → E.nx (s.set i (some v)) G) → t E s G) (q : ∀ v, W v → D'.nx (s.set i (some v)) G) : t D' s G := h D' rfl q
theorem cutS (ms : List Nat) (W : List (Option D) → DH → Prop) (h : ∀ E : DEnds, E.rt = D'.rt → (∀ vs G', W vs G' → E.nx (putS s ms vs) G') → t E s G) (q : ∀ vs G', W vs G' → D'.nx (putS s ms vs) G') : t D' s G := h D' rfl q
/-! items of lists told by a function -/
section
variable {α : Type} [Inhabited α] {en : α → D} {xs : List α}
def nth (xs : List α) (i : Int) : α := xs.getD i.toNat default
theorem nth_mem (h0 : 0 ≤ i) (h1 : i < xs.length) : nth xs i ∈ xs := by
  unfold nth
  have : i.toNat < xs.length := by omega
  rw [List.getD_eq_getElem?_getD, List.getElem?_eq_getElem this]
  exact List.getElem_mem _
theorem nth_nat {n : Nat} (h1 : n < xs.length) : nth xs (n : Int) = xs[n] := by
  unfold nth
  rw [Int.toNat_natCast, List.getD_eq_getElem?_getD, List.getElem?_eq_getElem h1]
  rfl
theorem atI_map (h0 : 0 ≤ i) (h1 : i < xs.length) : atI (xs.map en) i = some (en (nth xs i)) := by
  have hlt : i.toNat < xs.length := by omega
  have e0 : i = ((i.toNat : Nat) : Int) := by omega
  unfold nth
  generalize i.toNat = n at hlt e0
  subst e0
  rw [atI_nat (v := en (xs.getD n default))]
  rw [List.getElem?_map, List.getElem?_eq_getElem hlt]
  simp [hlt]
theorem atI_last (h1 : 0 < xs.length) : atI (xs.map en) (-1) = some (en (nth xs (xs.length - 1))) := by
  have e : ixN (xs.map en).length (-1) = some (xs.length - 1) := by
    unfold ixN
    rw [List.length_map]
    split
    · omega
    · split
      · congr 1; omega
      · omega
  unfold atI
  rw [e]
  unfold nth
  have : ((xs.length : Int) - 1).toNat = xs.length - 1 := by omega
  rw [this]
  show (xs.map en)[xs.length - 1]? = _
  rw [List.getElem?_map, List.getElem?_eq_getElem (by omega)]
  simp [List.getElem?_eq_getElem (show xs.length - 1 < xs.length by omega)]
theorem st_ixMT (h0 : 0 ≤ i) (h1 : i < xs.length) (q : Q (en (nth xs i)) G) : dIx (.tup (xs.map en)) (.int i) G Q := st_ixT (atI_map h0 h1) q
theorem st_ixML (h0 : 0 ≤ i) (h1 : i < xs.length) (q : Q (en (nth xs i)) G) : dIx (.lst (xs.map en)) (.int i) G Q := st_ixL rfl (atI_map h0 h1) q
theorem st_ixMP (hd : G a = some (.lst (xs.map en))) (h0 : 0 ≤ i) (h1 : i < xs.length) (q : Q (en (nth xs i)) G) : dIx (.ptr a) (.int i) G Q := st_ixL (res_ptr hd) (atI_map h0 h1) q
theorem st_ixlT (h1 : 0 < xs.length) (q : Q (en (nth xs (xs.length - 1))) G) : dIx (.tup (xs.map en)) (.int (-1)) G Q := st_ixT (atI_last h1) q
theorem st_ixlL (h1 : 0 < xs.length) (q : Q (en (nth xs (xs.length - 1))) G) : dIx (.lst (xs.map en)) (.int (-1)) G Q := st_ixL rfl (atI_last h1) q
theorem st_ixlP (hd : G a = some (.lst (xs.map en))) (h1 : 0 < xs.length) (q : Q (en (nth xs (xs.length - 1))) G) : dIx (.ptr a) (.int (-1)) G Q := st_ixL (res_ptr hd) (atI_last h1) q
end
section
variable {α : Type} {en : α → D} {xs : List α}
theorem sIx_map (lo : Option Int) (n : Nat) : HT.sIx (xs.map en).length n lo = HT.sIx xs.length n lo := by rw [List.length_map]
theorem cutL_map (lo hi : Option Int) : cutL (xs.map en) lo hi = (cutL xs lo hi).map en := by
  unfold cutL
  rw [List.length_map, List.map_take, List.map_drop]
theorem cutL_from (h0 : 0 ≤ i) : cutL xs (some i) none = xs.drop i.toNat := by
  unfold cutL HT.sIx
  simp only
  rw [if_neg (by omega)]
  rw [List.take_of_length_le (by rw [List.length_drop]; omega)]
  by_cases h : i.toNat ≤ xs.length
  · congr 1; omega
  · rw [List.drop_eq_nil_of_le (by omega), List.drop_eq_nil_of_le (by omega)]
theorem cutL_to (h0 : 0 ≤ i) : cutL xs none (some i) = xs.take i.toNat := by
  unfold cutL HT.sIx
  simp only
  rw [if_neg (by omega), List.drop_zero]
  by_cases h : i.toNat ≤ xs.length
  · congr 1; omega
  · rw [List.take_of_length_le (by omega), List.take_of_length_le (by omega)]
instance (priority := high) {lo hi : Option Int} : Stp (rSl (.tup (xs.map en)) lo hi G Q) (Q (.tup ((cutL xs lo hi).map en)) G) := ⟨fun h => by unfold rSl; show Q _ G; rw [cutL_map]; exact h⟩
instance (priority := high) {lo hi : Option Int} : Stp (rSl (.lst (xs.map en)) lo hi G Q) (Q (.lst ((cutL xs lo hi).map en)) G) := ⟨fun h => by unfold rSl; show Q _ G; rw [cutL_map]; exact h⟩
instance (priority := high) : Stp (rRev (.lst (xs.map en)) G Q) (Q (.lst (xs.reverse.map en)) G) := ⟨fun h => by unfold rRev; show Q _ G; rw [← List.map_reverse]; exact h⟩
instance (priority := high) : Stp (rRevT (.tup (xs.map en)) G Q) (Q (.tup (xs.reverse.map en)) G) := ⟨fun h => by unfold rRevT; show Q _ G; rw [← List.map_reverse]; exact h⟩
instance (priority := high) : Stp (cLen [.tup (xs.map en)] G Q) (Q (.int xs.length) G) := ⟨fun h => by show Q (.int (xs.map en).length) G; rw [List.length_map]; exact h⟩
instance (priority := high) : Stp (cLen [.lst (xs.map en)] G Q) (Q (.int xs.length) G) := ⟨fun h => by show Q (.int (xs.map en).length) G; rw [List.length_map]; exact h⟩
theorem st_lenMP (hd : G a = some (.lst (xs.map en))) (h : Q (.int xs.length) G) : cLen [.ptr a] G Q := st_lenL (res_ptr hd) (by rw [List.length_map]; exact h)
theorem enumD_map : enumD (xs.map en) = xs.zipIdx.map fun p => .tup [.int (p.2 : Nat), en p.1] := by
  unfold enumD
  rw [List.zipIdx_map, List.map_map]
  rfl
theorem zipD_map {β : Type} {fn : β → D} {ys : List β} : zipD (xs.map en) (ys.map fn) = (xs.zip ys).map fun p => .tup [en p.1, fn p.2] := by
  unfold zipD
  rw [List.zip_map, List.map_map]
  rfl
instance : Stp (iEnum te s G W) (te s G fun d G1 => enK W d G1) := ⟨id⟩
instance (priority := high) : Stp (enK W (.tup (xs.map en)) G) (W (xs.zipIdx.map fun p => .tup [.int (p.2 : Nat), en p.1]) (fun _ => True) G) := ⟨fun h => by show W (enumD _) _ G; rw [enumD_map]; exact h⟩
instance (priority := high) : Stp (enK W (.lst (xs.map en)) G) (W (xs.zipIdx.map fun p => .tup [.int (p.2 : Nat), en p.1]) (fun _ => True) G) := ⟨fun h => by show W (enumD _) _ G; rw [enumD_map]; exact h⟩
instance (priority := low) : Stp (enK W (.tup ds) G) (W (enumD ds) (fun _ => True) G) := ⟨id⟩
instance (priority := low) : Stp (enK W (.lst ds) G) (W (enumD ds) (fun _ => True) G) := ⟨id⟩
instance : Stp (iZip2 ta tb s G W) (ta s G fun d G1 => tb s G1 fun e G2 => zpK W d e G2) := ⟨id⟩
instance (priority := high) {β : Type} {fn : β → D} {ys : List β} : Stp (zpK W (.tup (xs.map en)) (.tup (ys.map fn)) G) (W ((xs.zip ys).map fun p => .tup [en p.1, fn p.2]) (fun _ => True) G) := ⟨fun h => by show W (zipD _ _) _ G; rw [zipD_map]; exact h⟩
instance (priority := high) {β : Type} {fn : β → D} {ys : List β} : Stp (zpK W (.lst (xs.map en)) (.lst (ys.map fn)) G) (W ((xs.zip ys).map fun p => .tup [en p.1, fn p.2]) (fun _ => True ∧ True) G) := ⟨fun h => by show W (zipD _ _) _ G; rw [zipD_map]; exact h⟩
instance : Stp (iRange3 tr s G W) (tr s G fun ds G1 => rgK3 W ds G1) := ⟨id⟩
theorem st_rgK3 (h0 : -(2 ^ 62) ≤ i) (h1 : i < 2 ^ 62) (h2 : -(2 ^ 62) ≤ j) (h3 : j < 2 ^ 62) (h : W (downD i j) (fun _ => True) G) : rgK3 W [.int i, .int j, .int (-1)] G := ⟨rfl, h0, h1, h2, h3, h⟩
instance : Stp (iRevRange te s G W) (te s G fun d G1 => rvK W d G1) := ⟨id⟩
theorem st_rvK (h0 : -(2 ^ 62) ≤ i) (h1 : i < 2 ^ 62) (h : W ((List.range i.toNat).map fun k => .int (i - 1 - (k : Nat))) (fun _ => True) G) : rvK W (.int i) G := ⟨h0, h1, h⟩
instance : Stp (fListRange te s G R) (te s G fun d G1 => lrK R d G1) := ⟨id⟩
instance : Stp (dTupRange te s G Q) (te s G fun d G1 => lrK (fun ds G2 => Q (.tup ds) G2) d G1) := ⟨id⟩
/-- the numbers from 0 on, below one -/
def upto (n : Int) : List Int := (List.range n.toNat).map fun (i : Nat) => (i : Int)
theorem rangeD_upto (n : Int) : rangeD 0 n = (upto n).map D.int := by
  unfold rangeD upto
  rw [List.map_map, Int.sub_zero]
  congr 1; funext i
  show D.int (0 + (i : Nat)) = D.int (i : Nat)
  congr 1; omega
theorem upto_len (n : Int) : (upto n).length = n.toNat := by unfold upto; rw [List.length_map, List.length_range]
theorem mem_upto {n i : Int} : i ∈ upto n ↔ 0 ≤ i ∧ i < n := by
  unfold upto
  rw [List.mem_map]
  constructor
  · rintro ⟨k, hk, rfl⟩; rw [List.mem_range] at hk; omega
  · rintro ⟨h0, h1⟩; exact ⟨i.toNat, List.mem_range.mpr (by omega), by omega⟩
theorem upto_get {n : Int} {k : Nat} (h : (k : Int) < n) : (upto n)[k]? = some (k : Int) := by
  unfold upto
  rw [List.getElem?_map, List.getElem?_range (by omega)]
  rfl
theorem st_lrK (h0 : 0 ≤ i) (h1 : i ≤ 16777216) (h : R ((upto i).map D.int) G) : lrK R (.int i) G := ⟨h0, h1, by rw [rangeD_upto]; exact h⟩
theorem st_rg1 (h0 : -(2 ^ 62) ≤ i) (h1 : i < 2 ^ 62) (h : W ((upto i).map D.int) (fun _ => True) G) : rgK1 W [.int i] G := ⟨h0, h1, by rw [rangeD_upto]; exact h⟩
theorem st_sumM {h : α → Int} (q : Q (.int (xs.map h).sum) G) : cSum [.lst (xs.map fun x => .int (h x))] G Q := st_sum rfl (by rw [show (xs.map fun x => D.int (h x)) = (xs.map h).map D.int from by rw [List.map_map]; rfl]; exact intsD_map _) q
theorem st_allM {h : α → Bool} (q : Q (.bl (xs.all h)) G) : cBools (fun bs => bs.all id) [.lst (xs.map fun x => .bl (h x))] G Q :=
  st_bools rfl (by rw [show (xs.map fun x => D.bl (h x)) = (xs.map h).map D.bl from by rw [List.map_map]; rfl]; exact boolsD_map _) (by rw [List.all_map]; exact q)
theorem st_anyM {h : α → Bool} (q : Q (.bl (xs.any h)) G) : cBools (fun bs => bs.any id) [.lst (xs.map fun x => .bl (h x))] G Q :=
  st_bools rfl (by rw [show (xs.map fun x => D.bl (h x)) = (xs.map h).map D.bl from by rw [List.map_map]; rfl]; exact boolsD_map _) (by rw [List.any_map]; exact q)
theorem st_maxM {h : α → Int} (h0 : 0 < xs.length) (q : ∀ m, (∃ x ∈ xs, h x = m) → (∀ x ∈ xs, h x ≤ m) → Q (.int m) G) : cMaxL [.lst (xs.map fun x => .int (h x))] G Q :=
  st_maxL rfl (by rw [show (xs.map fun x => D.int (h x)) = (xs.map h).map D.int from by rw [List.map_map]; rfl]; exact intsD_map _) (by simpa using h0) fun m h1 h2 => q m (by simpa using h1) fun x hx => h2 _ (List.mem_map.mpr ⟨x, hx, rfl⟩)
theorem st_minM {h : α → Int} (h0 : 0 < xs.length) (q : ∀ m, (∃ x ∈ xs, h x = m) → (∀ x ∈ xs, m ≤ h x) → Q (.int m) G) : cMinL [.lst (xs.map fun x => .int (h x))] G Q :=
  st_minL rfl (by rw [show (xs.map fun x => D.int (h x)) = (xs.map h).map D.int from by rw [List.map_map]; rfl]; exact intsD_map _) (by simpa using h0) fun m h1 h2 => q m (by simpa using h1) fun x hx => h2 _ (List.mem_map.mpr ⟨x, hx, rfl⟩)
end
/-- a list is empty or not -/
theorem st_eqNilM {α : Type} {en : α → D} {xs : List α} (hp : plainDs (xs.map en) = true) (h : Q (.bl xs.isEmpty) G) : oEq (.lst (xs.map en)) (.lst []) G Q := st_eqNil rfl hp (by rw [List.isEmpty_map]; exact h)
theorem plain_map {α : Type} {en : α → D} (hp : ∀ x, plainD (en x) = true) : ∀ xs : List α, plainDs (xs.map en) = true
  | [] => rfl
  | x :: xs => by show (plainD (en x) && plainDs (xs.map en)) = true; rw [hp x, plain_map hp xs]; rfl
theorem in2_T (h : oIn d (.tup ds) G Q) : oIn2 d (.tup ds) G Q := h
theorem in2_L (h : oIn d (.lst ds) G Q) : oIn2 d (.lst ds) G Q := h
theorem in2_P (hg : G a = some (.lst ds)) (h : oIn d (.ptr a) G Q) : oIn2 d (.ptr a) G Q := by unfold oIn2 inDk; simp only [hg]; exact h
theorem nin2_T (h : oNotIn d (.tup ds) G Q) : oNotIn2 d (.tup ds) G Q := h
theorem nin2_L (h : oNotIn d (.lst ds) G Q) : oNotIn2 d (.lst ds) G Q := h
theorem nin2_P (hg : G a = some (.lst ds)) (h : oNotIn d (.ptr a) G Q) : oNotIn2 d (.ptr a) G Q := by unfold oNotIn2 inDk; simp only [hg]; exact h
theorem in2_K {kvs : List (Key × D)} {k : Key} (hg : G a = some (.dk kvs)) (hk : keyD d = some k) (h : Q (.bl (valD kvs k).isSome) G) : oIn2 d (.ptr a) G Q := by unfold oIn2 inDk; simp only [hg, hk, Option.map_some]; exact h
theorem nin2_K {kvs : List (Key × D)} {k : Key} (hg : G a = some (.dk kvs)) (hk : keyD d = some k) (h : Q (.bl (!(valD kvs k).isSome)) G) : oNotIn2 d (.ptr a) G Q := by unfold oNotIn2 inDk; simp only [hg, hk, Option.map_some]; exact h
/-- a number among numbers -/
theorem any_int (ns : List Int) (k : Int) : ((ns.map D.int).any fun y => eqD y (.int k)) = decide (k ∈ ns) := by
  induction ns with
  | nil => rfl
  | cons n ns ih =>
    rw [List.map_cons, List.any_cons, ih]
    have : eqD (.int n) (.int k) = decide (k = n) := by show (n == k) = decide (k = n); rw [Bool.eq_iff_iff, beq_iff_eq, decide_eq_true_eq]; exact eq_comm
    rw [this, Bool.eq_iff_iff]
    simp
theorem st_inIT {ns : List Int} (h : Q (.bl (decide (k ∈ ns))) G) : oIn2 (.int k) (.tup (ns.map D.int)) G Q := in2_T (st_inT rfl rfl (plain_ints ns) (by show 0 ≤ 60; decide) (by rw [any_int]; exact h))
theorem st_inIL {ns : List Int} (h : Q (.bl (decide (k ∈ ns))) G) : oIn2 (.int k) (.lst (ns.map D.int)) G Q := in2_L (st_inL rfl rfl (plain_ints ns) (by show 0 ≤ 60; decide) (by rw [any_int]; exact h))
theorem st_inIP {ns : List Int} (hg : G a = some (.lst (ns.map D.int))) (h : Q (.bl (decide (k ∈ ns))) G) : oIn2 (.int k) (.ptr a) G Q := in2_P hg (st_inL (res_ptr hg) rfl (plain_ints ns) (by show 0 ≤ 60; decide) (by rw [any_int]; exact h))
theorem st_sortL {ns : List Int} (h : ∀ ns' : List Int, ns'.Perm ns → ns'.Pairwise (· ≤ ·) → Q (.lst (ns'.map D.int)) G) : cSorted [.lst (ns.map D.int)] G Q := by
  unfold cSorted
  simp only [lstOf, Option.bind_some, intsD_map]
  exact h
end
end L2.Ew
namespace L2.Ew
theorem isComp {g : DG} {tt : DTT} {te : DE} {gd : DH → Prop} {vs : List Nat} {s : DS} {xs acc : List D} {G : DH} {R : List D → DH → Prop} (h : dCompL g tt te gd vs s xs acc G R) : dCompL g tt te gd vs s xs acc G R := h
end L2.Ew

set_option Elab.async false
set_option linter.all false
set_option maxRecDepth 100000
set_option maxHeartbeats 4000000
/-! Ends, places, joinings as data. -/
namespace L2.Ew
open PySem PySem.Spec PySem.SeqAt PyProof.Rows
def absI (i : Int) : Int := if i < 0 then -i else i
def stepsI (a b c d : Int) : Int := absI (a - c) + absI (b - d)
def inB (x : Int) : Prop := -1000000 ≤ x ∧ x ≤ 1000000
structure End where
  x : Int
  y : Int
  s : Int
  l : Int
  deriving Inhabited, DecidableEq
def eD (e : End) : D := .tup [.int e.x, .int e.y, .int e.s, .int e.l]
def wantI (a b : End) : Int := a.s + b.s + stepsI a.x a.y b.x b.y
/-- an end within the bounds -/
def okE (e : End) : Prop := inB e.x ∧ inB e.y ∧ (0 ≤ e.s ∧ e.s ≤ 1000000) ∧ (0 ≤ e.l ∧ e.l ≤ 1000000)
/-- a row of a joining -/
def pD (p : Int × Int) : D := .tup [.int p.1, .int p.2]
section
variable {G : DH} {Q : DK} {e : End} {p : Int × Int} {i : Int} {v : D} {u : DGs} {s : DS} {R : DS → DH → Prop} {x y z w : Int}
theorem st_ixE (h : atI [D.int e.x, .int e.y, .int e.s, .int e.l] i = some v) (q : Q v G) : dIx (eD e) (.int i) G Q := st_ixT h q
theorem st_ixP (h : atI [D.int p.1, .int p.2] i = some v) (q : Q v G) : dIx (pD p) (.int i) G Q := st_ixT h q
instance : Stp (rSl (eD e) none (some 2) G Q) (Q (.tup [.int e.x, .int e.y]) G) := ⟨id⟩
instance : Stp (rSl (eD e) none (some 3) G Q) (Q (.tup [.int e.x, .int e.y, .int e.s]) G) := ⟨id⟩
instance : Stp (gU 4 u (eD e) s G R) (u [D.int e.x, .int e.y, .int e.s, .int e.l] s G R) := ⟨fun h => st_gU rfl h⟩
instance : Stp (gU 2 u (pD p) s G R) (u [D.int p.1, .int p.2] s G R) := ⟨fun h => st_gU rfl h⟩
instance : Stp (rRevT (pD p) G Q) (Q (pD (p.2, p.1)) G) := ⟨id⟩
instance {W : List D → (DH → Prop) → DH → Prop} : Stp (sqK W (pD p) G) (W [.int p.1, .int p.2] (fun _ => True) G) := ⟨id⟩
theorem plain_eD (e : End) : plainD (eD e) = true := rfl
theorem plain_pD (p : Int × Int) : plainD (pD p) = true := rfl
theorem mk_eD : (D.tup [.int x, .int y, .int z, .int w]) = eD ⟨x, y, z, w⟩ := rfl
theorem mk_pD : (D.tup [.int x, .int y]) = pD (x, y) := rfl
end
theorem snocM {α : Type} (f : α → D) (xs : List α) (x : α) : xs.map f ++ [f x] = (xs ++ [x]).map f := by rw [List.map_append]; rfl
theorem snocU {α : Type} {G : DH} {p : Addr} (f : α → D) (xs : List α) (x : α) : uG G p (.lst (xs.map f ++ [f x])) = uG G p (.lst ((xs ++ [x]).map f)) := by rw [snocM]
theorem snocE {G : DH} {p : Addr} {es : List End} {x y s l : Int} : uG G p (.lst (es.map eD ++ [.tup [.int x, .int y, .int s, .int l]])) = uG G p (.lst ((es ++ [End.mk x y s l]).map eD)) := snocU eD es ⟨x, y, s, l⟩
theorem snocP {G : DH} {p : Addr} {es : List (Int × Int)} {x y : Int} : uG G p (.lst (es.map pD ++ [.tup [.int x, .int y]])) = uG G p (.lst ((es ++ [(x, y)]).map pD)) := snocU pD es (x, y)
theorem len_snoc {α : Type} {xs : List α} {x : α} {n : Nat} (h : xs.length = n) : (xs ++ [x]).length = n + 1 := by simp [h]
theorem all_snoc {α : Type} {P : α → Prop} {xs : List α} {x : α} (h : ∀ y ∈ xs, P y) (hx : P x) : ∀ y ∈ xs ++ [x], P y := fun y hy => by
  rcases List.mem_append.mp hy with hy | hy
  · exact h y hy
  · rw [List.mem_singleton.mp hy]; exact hx
section
variable {G : DH} {Q : DK} {i A B C D0 E F : Int}
theorem st_pickI2 (h0 : 0 ≤ i) (h1 : i < 2) (h : ∀ v : Int, (v = A ∨ v = B) → Q (.int v) G) : dIx (.lst [.int A, .int B]) (.int i) G Q := st_pickI (ns := [A, B]) h0 h1 fun v hv => h v (by simpa using hv)
theorem st_pickI3 (h0 : 0 ≤ i) (h1 : i < 3) (h : ∀ v : Int, (v = A ∨ v = B ∨ v = C) → Q (.int v) G) : dIx (.lst [.int A, .int B, .int C]) (.int i) G Q := st_pickI (ns := [A, B, C]) h0 h1 fun v hv => h v (by simpa using hv)
theorem st_pickI4 (h0 : 0 ≤ i) (h1 : i < 4) (h : ∀ v : Int, (v = A ∨ v = B ∨ v = C ∨ v = D0) → Q (.int v) G) : dIx (.lst [.int A, .int B, .int C, .int D0]) (.int i) G Q := st_pickI (ns := [A, B, C, D0]) h0 h1 fun v hv => h v (by simpa using hv)
theorem st_pickI5 (h0 : 0 ≤ i) (h1 : i < 5) (h : ∀ v : Int, (v = A ∨ v = B ∨ v = C ∨ v = D0 ∨ v = E) → Q (.int v) G) : dIx (.lst [.int A, .int B, .int C, .int D0, .int E]) (.int i) G Q := st_pickI (ns := [A, B, C, D0, E]) h0 h1 fun v hv => h v (by simpa using hv)
theorem st_pickI6 (h0 : 0 ≤ i) (h1 : i < 6) (h : ∀ v : Int, (v = A ∨ v = B ∨ v = C ∨ v = D0 ∨ v = E ∨ v = F) → Q (.int v) G) : dIx (.lst [.int A, .int B, .int C, .int D0, .int E, .int F]) (.int i) G Q := st_pickI (ns := [A, B, C, D0, E, F]) h0 h1 fun v hv => h v (by simpa using hv)
theorem st_selVB {b : Bool} (h : Q (.int (if b = true then B else A)) G) : dIx (.lst [.int A, .int B]) (.int (if b = true then 1 else 0)) G Q := by
  cases b with
  | true => exact st_ixL rfl rfl h
  | false => exact st_ixL rfl rfl h
end
section
variable {α : Type} {en : α → D} {xs : List α} {s : DS} {G : DH} {Q : DK} {a : Addr} {zs ds : List D} {te to : DE} {d y : D}
theorem pos_iff (xs : List α) : (!xs.isEmpty) = decide (0 < xs.length) := by cases xs <;> simp
theorem nil_iff (xs : List α) : xs.isEmpty = decide (xs.length = 0) := by cases xs <;> simp
theorem st_neNilM (hp : plainDs (xs.map en) = true) (h : Q (.bl (decide (0 < xs.length))) G) : oNe (.lst (xs.map en)) (.lst []) G Q := st_neNil rfl hp (by rw [List.isEmpty_map, pos_iff]; exact h)
theorem st_neNilP (hg : G a = some (.lst (xs.map en))) (hp : plainDs (xs.map en) = true) (h : Q (.bl (decide (0 < xs.length))) G) : oNe (.ptr a) (.lst []) G Q := st_neNil (res_ptr hg) hp (by rw [List.isEmpty_map, pos_iff]; exact h)
theorem st_eqNilL (hp : plainDs (xs.map en) = true) (h : Q (.bl (decide (xs.length = 0))) G) : oEq (.lst (xs.map en)) (.lst []) G Q := st_eqNil rfl hp (by rw [List.isEmpty_map, nil_iff]; exact h)
theorem st_eqNilP (hg : G a = some (.lst (xs.map en))) (hp : plainDs (xs.map en) = true) (h : Q (.bl (decide (xs.length = 0))) G) : oEq (.ptr a) (.lst []) G Q := st_eqNil (res_ptr hg) hp (by rw [List.isEmpty_map, nil_iff]; exact h)
theorem st_ixR {i : Int} (hg : G a = some (.lst ds)) (h : dIx (.lst ds) (.int i) G Q) : dIx (.ptr a) (.int i) G Q := by
  have h' : match atI ds i with
    | some v => (∀ z, D.lst ds = .str z → z.length ≤ sizeLine) ∧ Q v G
    | none => False := h
  cases e : atI ds i with
  | none => simp only [e] at h'
  | some v => simp only [e] at h'; exact st_ixL (res_ptr hg) e h'.2
def ap2 (a : Addr) (Q : DK) (y : D) (G2 : DH) : Prop := ∃ xs, G2 a = some (.lst xs) ∧ xs.length ≤ 100000 ∧ Q .non (uG G2 a (.lst (xs ++ [y])))
def ap1 (te : DE) (s : DS) (Q : DK) (d : D) (G : DH) : Prop := ∃ a, d = .ptr a ∧ (∃ zs, G a = some (.lst zs)) ∧ te s G fun y G2 => ap2 a Q y G2
instance (priority := high) : Stp (dAppend to te s G Q) (to s G fun d G1 => ap1 te s Q d G1) := ⟨id⟩
theorem st_ap1 (hg : G a = some (.lst zs)) (h : te s G fun y G2 => ap2 a Q y G2) : ap1 te s Q (.ptr a) G := ⟨a, rfl, ⟨zs, hg⟩, h⟩
theorem st_ap2 (hg : G a = some (.lst (xs.map en))) (hl : xs.length ≤ 100000) (h : Q .non (uG G a (.lst (xs.map en ++ [y])))) : ap2 a Q y G := ⟨_, hg, by rw [List.length_map]; exact hl, h⟩
theorem st_ap2U (hl : xs.length ≤ 100000) (h : Q .non (uG G a (.lst (xs.map en ++ [y])))) : ap2 a Q y (uG G a (.lst (xs.map en))) := ⟨_, uG_same, by rw [List.length_map]; exact hl, by rw [uG_uG]; exact h⟩
theorem st_ap2Z (hl : zs.length ≤ 100000) (h : Q .non (uG G a (.lst (zs ++ [y])))) : ap2 a Q y (uG G a (.lst zs)) := ⟨_, uG_same, hl, by rw [uG_uG]; exact h⟩
end
section
variable {α : Type} {en : α → D} {xs : List α} {G : DH} {Q : DK} {a b c d e : D} {P : Prop}
instance (priority := high) : Stp (cLen [.tup [a]] G Q) (Q (.int 1) G) := ⟨id⟩
instance (priority := high) : Stp (cLen [.tup [a, b]] G Q) (Q (.int 2) G) := ⟨id⟩
instance (priority := high) : Stp (cLen [.tup [a, b, c]] G Q) (Q (.int 3) G) := ⟨id⟩
instance (priority := high) : Stp (cLen [.tup [a, b, c, d]] G Q) (Q (.int 4) G) := ⟨id⟩
instance (priority := high) : Stp (cLen [.lst [a, b]] G Q) (Q (.int 2) G) := ⟨id⟩
instance (priority := high) : Stp (cLen [.lst [a, b, c]] G Q) (Q (.int 3) G) := ⟨id⟩
theorem st_len5M (h : xs.length ≤ 100000) (q : P) : (xs.map en).length ≤ 100000 ∧ P := ⟨by rw [List.length_map]; exact h, q⟩
theorem st_len5U {en : Int → D} {n : Int} (h : n ≤ 100000) (q : P) : ((upto n).map en).length ≤ 100000 ∧ P := ⟨by rw [List.length_map, upto_len]; omega, q⟩
end
theorem st_deckG {ks : DkS} {ns : List Int} {G : DH} {R : DK} {X : XD} (hl : ns.length ≤ 63) (h : ∀ (a l : Addr) (G1 : DH), G1 a = some (.deck l ks) → R (.ptr a) G1) : spDeck ks [.scr ns] G R X :=
  ⟨ns, rfl, hl, fun p l _ => h p l _ uG_same⟩
theorem RetOk.law {R : DK} {d : D} {G G' : DH} (hG : ∀ a, G a = none) (h : R d G) : RetOk R d G' := .drop (fun b o z => by rw [hG b] at z; cases z) h
/-- x[::-1] of a list or a tuple -/
def rRevA : DR1 := fun d G Q => match d with
  | .tup ds => Q (.tup ds.reverse) G
  | d => rRev d G Q
theorem ped_revA {X : Cx} {e : Expr} {pos : Pos} {te : DE} {k : Nat} {p1 p2 p3 : Pos} (he : PED X e te) : PED X (.Subscript e (.Slice none none (some (.UnaryOp .USub (.Constant (.int 1) k p1) p2)) p3) pos) (dUn rRevA te) := by
  refine ⟨⟨fun pins s σ H Q I ⟨F, s0, G, R, rs, rg, q, p⟩ => ?_⟩⟩
  refine Subscript_ (thn (he.out.run pins s σ H (fun x H1 => (∃ a xs, x = .ref a ∧ SqL X.K H1 a xs ∧ ∀ p, H1 p = none → Q (.ref p) (upd H1 p (.lst xs.reverse))) ∨ ∃ a xs, x = .ref a ∧ SqT X.K H1 a xs ∧ ∀ p, H1 p = none → Q (.ref p) (upd H1 p (.tup xs.reverse))) I ⟨F, s0, G, _, rs, rg, q, fun d G1 x H1 st rx rg1 q1 => ?_⟩) fun v s1 ⟨x, H1, I1, r1, q1⟩ => ?_)
  · unfold rRevA at q1
    split at q1
    · obtain ⟨a, xs, rfl, h, r⟩ := tup_at rx
      exact .inr ⟨a, xs, rfl, h, new_tup (p.step st) rg1 r.rev q1⟩
    · unfold rRev at q1
      cases hd : res G1 d with
      | lst ds =>
        rw [hd] at q1
        obtain ⟨a, xs, rfl, h, r⟩ := lst_at rg1 rx hd
        exact .inl ⟨a, xs, rfl, SqL.of h, new_lst (p.step st) rg1 r.rev q1⟩
      | _ => rw [hd] at q1; exact q1.elim
  · have hst : PO X (some (.UnaryOp .USub (.Constant (.int 1) k p1) p2)) (tPart (tUn (rU fun i => .int (-i)) (tC (.int 1)))) := po_some (pe_un un_neg pe_int)
    rcases q1 with ⟨a, xs, ex, hx, q⟩ | ⟨a, xs, ex, hx, q⟩ <;> subst ex <;> cases r1
    all_goals
      refine wpAny_Slice (thn (po_none.run pins s1 σ H1 (fun o H2 => o = none ∧ H2 = H1) I1 ⟨rfl, rfl⟩) fun vl s2 ⟨l, H2, I2, pl, el, e2⟩ => ?_)
      subst el e2
      refine thn (po_none.run pins s2 σ H2 (fun o H3 => o = none ∧ H3 = H2) I2 ⟨rfl, rfl⟩) fun vu s3 ⟨u, H3, I3, pu, eu, e3⟩ => ?_
      subst eu e3
      refine thn (hst.run pins s3 σ H3 (fun o H4 => o = some (-1) ∧ H4 = H3) I3 ⟨1, rfl, -1, rfl, rfl, rfl⟩) fun vs s4 ⟨o, H4, I4, ps, eo, e4⟩ => ?_
      subst eo e4
      have I5 : Inv X pins σ H4 { s4 with heap := s4.heap.push { cls := .type "slice", data := .fields #[vl, vu, vs] } } := I4.kept (t' := s4.toks) fun b ob q => Heap.get?_push_of_some _ q
      show wpAny (model X.prog X.w) X.A (subscriptTail e (.Slice none none (some (.UnaryOp .USub (.Constant (.int 1) k p1) p2)) p3) (.ref a) (.ref s4.heap.objs.size)) (EP X pins σ Q) X.xe { s4 with heap := s4.heap.push { cls := .type "slice", data := .fields #[vl, vu, vs] } }
    · obtain ⟨its, r, ht, hz⟩ := I5.list hx
      have hlen := r.length
      refine tail_any (ops := [.ref a, .ref s4.heap.objs.size]) ht.isList.typeIs (PySem.slot_list_getitem.lookup) ?_ (by with_unfolding_all rfl)
      refine wpAny_getItem_list_slice ht.isList (Heap.IsSliceOf.new _ vl vu vs) pl pu ps (by decide) ?_ (by rw [List.size_toArray]; omega)
      rw [PySem.W.krv_pick]
      refine ⟨.ref _, _, I5.laid (t' := s4.toks) (o := .lst xs.reverse) (fun b ob q => Heap.get?_push_of_some _ q) (Nat.le_refl _) ?_, rfl, q _ (I5.hok.fresh (Nat.le_refl _))⟩
      exact ⟨by rw [List.length_reverse]; exact hz, _, 0, r.reverse, Heap.get?_push_size _ rfl⟩
    · obtain ⟨its, r, ht, hz⟩ := I5.tuple hx
      have hlen := r.length
      refine tail_any (ops := [.ref a, .ref s4.heap.objs.size]) ht.typeIs (PyProof.Rows.slot_tuple_getitem.lookup) ?_ (by with_unfolding_all rfl)
      refine getItem_tuple_rev ht (Heap.IsSliceOf.new _ vl vu vs) pl pu ps ?_ (by rw [List.size_toArray]; omega)
      refine ⟨.ref _, _, I5.laid (t' := s4.toks) (o := .tup xs.reverse) (fun b ob q => Heap.get?_push_of_some _ q) (Nat.le_refl _) ?_, rfl, q _ (I5.hok.fresh (Nat.le_refl _))⟩
      exact ⟨by rw [List.length_reverse]; exact hz, _, r.reverse, IsTup.new _ _⟩
section
variable {α : Type} {en : α → D} {xs : List α} {G : DH} {Q : DK} {ds : List D} {d e : D} {a : Addr}
abbrev tI (ns : List Int) : D := .tup (ns.map D.int)
abbrev lI (ns : List Int) : D := .lst (ns.map D.int)
instance (priority := high) : Stp (rRevA (.tup (xs.map en)) G Q) (Q (.tup (xs.reverse.map en)) G) := ⟨fun h => by unfold rRevA; show Q _ G; rw [← List.map_reverse]; exact h⟩
instance (priority := high) : Stp (rRevA (.lst (xs.map en)) G Q) (Q (.lst (xs.reverse.map en)) G) := ⟨fun h => by unfold rRevA rRev; show Q _ G; rw [← List.map_reverse]; exact h⟩
instance (priority := low) : Stp (rRevA (.tup ds) G Q) (Q (.tup ds.reverse) G) := ⟨id⟩
instance (priority := low) : Stp (rRevA (.lst ds) G Q) (Q (.lst ds.reverse) G) := ⟨id⟩
instance : Stp (rRevA (.tup [d, e]) G Q) (Q (.tup [e, d]) G) := ⟨id⟩
instance {p : Int × Int} : Stp (rRevA (pD p) G Q) (Q (pD (p.2, p.1)) G) := ⟨id⟩
theorem st_revP (hg : G a = some (.lst (xs.map en))) (h : Q (.lst (xs.reverse.map en)) G) : rRevA (.ptr a) G Q := by
  show rRev (.ptr a) G Q
  exact st_rev (res_ptr hg) (by rw [← List.map_reverse]; exact h)
end
theorem atI_snoc {ds : List D} {d : D} : atI (ds ++ [d]) (-1) = some d := by
  have e : ixN (ds ++ [d]).length (-1) = some ds.length := by
    unfold ixN
    rw [List.length_append]
    simp only [List.length_cons, List.length_nil]
    split
    · omega
    · split
      · congr 1; omega
      · omega
  unfold atI
  rw [e]
  show (ds ++ [d])[ds.length]? = _
  simp
instance (priority := high) {ds : List D} {d : D} {G : DH} {Q : DK} : Stp (dIx (.lst (ds ++ [d])) (.int (-1)) G Q) (Q d G) := ⟨fun h => st_ixL rfl atI_snoc h⟩
theorem nth_rev {α : Type} [Inhabited α] {xs : List α} {i : Int} (h0 : 0 ≤ i) (h1 : i < xs.length) : nth xs.reverse (xs.length - 1 - i) = nth xs i := by
  have e : ((xs.length : Int) - 1 - i).toNat = xs.length - 1 - i.toNat := by omega
  unfold nth
  rw [e, List.getD_eq_getElem?_getD, List.getD_eq_getElem?_getD, List.getElem?_reverse (by omega)]
  congr 2; omega
theorem isIfS {c : DTT} {t u k : DT} {D' : DEnds} {s : DS} {G : DH} (h : dSeq (dIfS c t u) k D' s G) : dSeq (dIfS c t u) k D' s G := h
instance (priority := high) {b : Bool} {G : DH} {Q : DK} : Stp (oNe (.bl b) (.bl b) G Q) (Q (.bl false) G) := ⟨fun h => st_neB (by rw [beq_self_eq_true]; exact h)⟩
instance (priority := high) {b : Bool} {G : DH} {Q : DK} : Stp (oEq (.bl b) (.bl b) G Q) (Q (.bl true) G) := ⟨fun h => st_eqB (by rw [beq_self_eq_true]; exact h)⟩
theorem snocB {G : DH} {p : Addr} {es : List Bx} {x y s l : Int} : uG G p (.lst (es.map bD ++ [.tup [.int x, .int y, .int s, .int l]])) = uG G p (.lst ((es ++ [Bx.mk x y s l]).map bD)) := snocU bD es ⟨x, y, s, l⟩
/-- a list of a def's own, handed back -/
theorem RetOk.frz {R : DK} {G : DH} {p : Addr} {ds : List D} (hp : G p = none) (h : R (.lst ds) G) : RetOk R (.ptr p) (uG G p (.lst ds)) := ⟨.lst ds, G, Sub.refl.new hp, .lst uG_same hp (FrzL.refl ds), h⟩
theorem RetOk.frz2 {R : DK} {G : DH} {p q : Addr} {o : MO} {ds : List D} (hq : G q = none) (hp : uG G q o p = none) (h : R (.lst ds) G) : RetOk R (.ptr p) (uG (uG G q o) p (.lst ds)) := by
  have hne : p ≠ q := fun z => by subst z; rw [uG_same] at hp; cases hp
  refine ⟨.lst ds, G, (Sub.refl.new hq).trans (Sub.refl.new hp), .lst uG_same (by rw [uG_ne hne] at hp; exact hp) (FrzL.refl ds), h⟩
theorem RetOk.drop2 {R : DK} {G : DH} {p q : Addr} {o u : MO} {d : D} (hq : G q = none) (hp : uG G q o p = none) (h : R d G) : RetOk R d (uG (uG G q o) p u) := .drop ((Sub.refl.new hq).trans (Sub.refl.new hp)) h
theorem RetOk.drop1 {R : DK} {G : DH} {p : Addr} {u : MO} {d : D} (hp : G p = none) (h : R d G) : RetOk R d (uG G p u) := .drop (Sub.refl.new hp) h
theorem st_addLM {α : Type} {en : α → D} {xs ys : List α} {G : DH} {Q : DK} (h : xs.length + ys.length ≤ 100000) (q : Q (.lst ((xs ++ ys).map en)) G) : oAdd (.lst (xs.map en)) (.lst (ys.map en)) G Q :=
  st_addL rfl rfl (Nat.le_trans (by rw [List.length_map, List.length_map]; exact h) (by decide)) (by rw [← List.map_append]; exact q)
theorem st_addTM {α : Type} {en : α → D} {xs ys : List α} {G : DH} {Q : DK} (h : xs.length + ys.length ≤ 100000) (q : Q (.tup ((xs ++ ys).map en)) G) : oAdd (.tup (xs.map en)) (.tup (ys.map en)) G Q :=
  st_addT (Nat.le_trans (by rw [List.length_map, List.length_map]; exact h) (by decide)) (by rw [← List.map_append]; exact q)
theorem cutL_len {α : Type} (xs : List α) (lo hi : Option Int) : (cutL xs lo hi).length ≤ xs.length := by
  unfold cutL
  rw [List.length_take, List.length_drop]
  omega
theorem bO_some (b : Bx) : bO (some b) = bD b := rfl
theorem bO_none : bO none = .non := rfl
/-! a list turned about, new -/
def fRevL (te : DE) : DF := fun s G R => te s G fun d G1 => match res G1 d with
  | .lst ds => R ds.reverse G1
  | _ => False
theorem pef_rev {X : Cx} {e : Expr} {pos : Pos} {te : DE} {k : Nat} {p1 p2 p3 : Pos} (he : PED X e te) : PEF X (.Subscript e (.Slice none none (some (.UnaryOp .USub (.Constant (.int 1) k p1) p2)) p3) pos) (fRevL te) := by
  refine ⟨(pe_revL he.out).weak fun σ H Q ⟨F, s, G, R, rs, rg, q, p⟩ => ?_⟩
  refine ⟨F, s, G, _, rs, rg, q, fun d G1 x H1 st rx rg1 q1 => ?_⟩
  cases hd : res G1 d with
  | lst ds =>
    simp only [hd] at q1
    obtain ⟨a, xs, rfl, h, r⟩ := lst_at rg1 rx hd
    exact ⟨a, xs, rfl, SqL.of h, new_fresh (PostF.step p st) rg1 r.rev q1⟩
  | _ => simp only [hd] at q1
section
variable {te : DE} {s : DS} {G : DH} {R : List D → DH → Prop} {a l : Addr} {n : Nat} {is cs : List Int} {ds : List D} {Q : DK} {i : Int} {v d : D} {S : DS → DH → Prop} {k : Nat}
def rlK (R : List D → DH → Prop) (d : D) (G1 : DH) : Prop := match res G1 d with
  | .lst ds => R ds.reverse G1
  | _ => False
instance : Stp (fRevL te s G R) (te s G fun d G1 => rlK R d G1) := ⟨id⟩
instance {α : Type} {en : α → D} {xs : List α} : Stp (rlK R (.lst (xs.map en)) G) (R (xs.reverse.map en) G) := ⟨fun h => by unfold rlK; show R _ G; rw [← List.map_reverse]; exact h⟩
theorem st_rlP {α : Type} {en : α → D} {xs : List α} (hg : G a = some (.lst (xs.map en))) (h : R (xs.reverse.map en) G) : rlK R (.ptr a) G := by unfold rlK; rw [res_ptr hg]; show R _ G; rw [← List.map_reverse]; exact h
/-- a deck that is a list: its numbers by place -/
theorem ogL_ix (h : atI (.ptr l :: is.map D.int) i = some v) (q : Q v (openG G a l (.l n) is cs)) : dIx (.ptr a) (.int i) (openG G a l (.l n) is cs) Q := st_ixL (res_ptr og_aL) h q
theorem ogL_set {j : Int} {is' : List Int} (hk : ixN (is.length + 1) i = some (k + 1)) (e : is' = is.set k j) (q : S s (openG G a l (.l n) is' cs)) : gsK (.int j) s S (.ptr a) (.int i) (openG G a l (.l n) is cs) := by
  refine st_gsK (setV_lst og_aL (by rw [List.length_cons, List.length_map]; exact hk)) ?_
  subst e
  rw [List.set_cons_succ, ← List.map_set, og_putL rfl]
  exact q
end
theorem dki4 {ks : DkS} {a b c d : Int} (hk : ks.len = 4) : DkI ks [a, b, c, d] ↔ 0 ≤ a ∧ 0 ≤ b ∧ 0 ≤ c ∧ 0 ≤ d := by
  cases ks with
  | b n => exact absurd (show 7 = 4 from hk) (by decide)
  | d l => simp [DkI, hk]
  | l n => simp [DkI, hk]
theorem sum_nn {α : Type} {f : α → Int} : ∀ {l : List α}, (∀ x ∈ l, 0 ≤ f x) → 0 ≤ (l.map f).sum
  | [], _ => by simp
  | x :: l, h => by
    rw [List.map_cons, List.sum_cons]
    have h1 := h x (List.mem_cons_self ..)
    have h2 := sum_nn (f := f) (l := l) fun y hy => h y (List.mem_cons_of_mem _ hy)
    omega
def popK (Q : DK) (d : D) (G1 : DH) : Prop := ∃ a xs v, d = .ptr a ∧ G1 a = some (.lst xs) ∧ xs[xs.length - 1]? = some v ∧ Q v (uG G1 a (.lst xs.dropLast))
instance (priority := high) {to : DE} {s : DS} {G : DH} {Q : DK} : Stp (dPop to s G Q) (to s G fun d G1 => popK Q d G1) := ⟨id⟩
theorem st_popM {α : Type} {en : α → D} {xs : List α} {G : DH} {Q : DK} {a : Addr} (hg : G a = some (.lst (xs.map en))) (h0 : 0 < xs.length) (h : ∀ x, xs[xs.length - 1]? = some x → Q (en x) (uG G a (.lst (xs.dropLast.map en)))) : popK Q (.ptr a) G := by
  refine ⟨a, _, en xs[xs.length - 1], rfl, hg, ?_, ?_⟩
  · rw [List.length_map, List.getElem?_map, List.getElem?_eq_getElem (by omega)]; rfl
  · rw [← List.map_dropLast]
    exact h _ (List.getElem?_eq_getElem (by omega))
theorem og_neNil {G : DH} {a l : Addr} {ks : DkS} {is cs : List Int} {Q : DK} (hne : a ≠ l) (h : Q (.bl (decide (0 < cs.length))) (openG G a l ks is cs)) : oNe (.ptr l) (.lst []) (openG G a l ks is cs) Q :=
  st_neNil (res_ptr (og_l hne)) (plain_ints _) (by rw [List.isEmpty_map, pos_iff]; exact h)
theorem og_popLast {G : DH} {a l : Addr} {ks : DkS} {is cs : List Int} {Q : DK} (hne : a ≠ l) (hc : 0 < cs.length) (h : ∀ (c : Int) (cs' : List Int), Q (.int c) (openG G a l ks is cs')) : popK Q (.ptr l) (openG G a l ks is cs) := by
  refine st_popM (og_l hne) hc fun x _ => ?_
  rw [og_pop (cs' := cs.dropLast) hne rfl]
  exact h x _
end L2.Ew

set_option Elab.async false
set_option linter.all false
set_option maxRecDepth 100000
set_option maxHeartbeats 4000000
/-! Pops by place; joinings. -/
namespace L2.Ew
open PySem PySem.Spec PySem.SeqAt PyProof.Rows
section
variable {α : Type} {en : α → D} {xs : List α} {s : DS} {G : DH} {Q : DK} {a : Addr} {te to : DE} {d : D} {i : Int} {zs : List D}
def pa2 (a : Addr) (Q : DK) (y : D) (G2 : DH) : Prop := ∃ xs i k v, G2 a = some (.lst xs) ∧ y = .int i ∧ -(2 ^ 63) ≤ i ∧ i < 2 ^ 63 ∧ seqIndex? i xs.length = some k ∧ xs[k]? = some v ∧ Q v (uG G2 a (.lst (xs.eraseIdx k)))
def pa1 (te : DE) (s : DS) (Q : DK) (d : D) (G : DH) : Prop := ∃ a, d = .ptr a ∧ (∃ zs, G a = some (.lst zs)) ∧ te s G fun y G2 => pa2 a Q y G2
instance (priority := high) : Stp (dPopAt to te s G Q) (to s G fun d G1 => pa1 te s Q d G1) := ⟨id⟩
theorem st_pa1 (hg : G a = some (.lst zs)) (h : te s G fun y G2 => pa2 a Q y G2) : pa1 te s Q (.ptr a) G := ⟨a, rfl, ⟨zs, hg⟩, h⟩
theorem map_eraseIdx {α β : Type} (f : α → β) : ∀ (xs : List α) (k : Nat), (xs.map f).eraseIdx k = (xs.eraseIdx k).map f
  | [], _ => by simp
  | x :: xs, 0 => by simp
  | x :: xs, k + 1 => by simp [map_eraseIdx f xs k]
/-- what stands at a place, and the others -/
structure Took (xs : List α) (x : α) (ys : List α) : Prop where
  perm : xs.Perm (x :: ys)
  len : ys.length + 1 = xs.length
theorem took_at {k : Nat} (h : k < xs.length) : Took xs xs[k] (xs.eraseIdx k) := by
  refine ⟨?_, by rw [List.length_eraseIdx]; split <;> omega⟩
  have : ∀ (xs : List α) (k : Nat) (h : k < xs.length), xs.Perm (xs[k] :: xs.eraseIdx k) := by
    intro xs
    induction xs with
    | nil => intro k h; exact absurd h (by simp)
    | cons x xs ih =>
      intro k h
      cases k with
      | zero => exact .refl _
      | succ k =>
        simp only [List.length_cons] at h
        have := ih k (by omega)
        simp only [List.getElem_cons_succ, List.eraseIdx_cons_succ]
        exact (this.cons x).trans (.swap _ _ _)
  exact this xs k h
theorem st_pa2 (hg : G a = some (.lst (xs.map en))) (h0 : 0 ≤ i) (h1 : i < xs.length) (hb : xs.length ≤ 100000) (h : ∀ x ys, Took xs x ys → Q (en x) (uG G a (.lst (ys.map en)))) : pa2 a Q (.int i) G := by
  have hl : i.toNat < xs.length := by omega
  refine ⟨_, i, i.toNat, en xs[i.toNat], hg, rfl, by omega, by omega, ?_, ?_, ?_⟩
  · unfold seqIndex?
    rw [List.length_map]
    simp only [show ¬ i < 0 from by omega, if_false, h0, h1, decide_true, Bool.and_true, if_true]
  · rw [List.getElem?_map, List.getElem?_eq_getElem hl]; rfl
  · rw [map_eraseIdx]; exact h _ _ (took_at hl)
theorem st_pa2l (hg : G a = some (.lst (xs.map en))) (h1 : 0 < xs.length) (h : ∀ x ys, Took xs x ys → Q (en x) (uG G a (.lst (ys.map en)))) : pa2 a Q (.int (-1)) G := by
  have hl : xs.length - 1 < xs.length := by omega
  refine ⟨_, -1, xs.length - 1, en xs[xs.length - 1], hg, rfl, by decide, by decide, ?_, ?_, ?_⟩
  · rw [List.length_map]; exact seqIndex?_neg_one h1
  · rw [List.getElem?_map, List.getElem?_eq_getElem hl]; rfl
  · rw [map_eraseIdx]; exact h _ _ (took_at hl)
theorem st_pa2U (h0 : 0 ≤ i) (h1 : i < xs.length) (hb : xs.length ≤ 100000) (h : ∀ x ys, Took xs x ys → Q (en x) (uG G a (.lst (ys.map en)))) : pa2 a Q (.int i) (uG G a (.lst (xs.map en))) :=
  st_pa2 uG_same h0 h1 hb fun x ys t => by rw [uG_uG]; exact h x ys t
/-- the first place, the last place or any -/
theorem st_pa2M (hg : G a = some (.lst (xs.map en))) (h0 : (0 ≤ i ∧ i < xs.length) ∨ (i = -1 ∧ 0 < xs.length)) (hb : xs.length ≤ 100000) (h : ∀ x ys, Took xs x ys → Q (en x) (uG G a (.lst (ys.map en)))) : pa2 a Q (.int i) G := by
  rcases h0 with ⟨h0, h1⟩ | ⟨rfl, h1⟩
  · exact st_pa2 hg h0 h1 hb h
  · exact st_pa2l hg h1 h
end
/-! ### joinings -/
abbrev Jn := List (Int × Int)
def pr (p : Int × Int) : List Int := [p.1, p.2]
def knotsOf (js : Jn) : List Int := js.flatMap pr
theorem upto_succ {n : Int} (h : 0 ≤ n) : upto (n + 1) = upto n ++ [n] := by
  unfold upto
  rw [show (n + 1).toNat = n.toNat + 1 from by omega, List.range_succ, List.map_append]
  simp; omega
theorem upto_nodup (n : Int) : (upto n).Nodup := by
  unfold upto
  rw [List.Nodup, List.pairwise_map]
  exact List.nodup_range.imp fun h e => h (Int.ofNat.inj e)
/-! ### what is beneath -/
/-- the ends beneath each knot -/
def belowF (acc : List (List Int)) (p : Int × Int) : List (List Int) := acc ++ [nth acc p.1 ++ nth acc p.2]
def below (n : Nat) (js : Jn) : List (List Int) := js.foldl belowF ((upto n).map fun i => [i])
theorem below_snoc (n : Nat) (js : Jn) (p : Int × Int) : below n (js ++ [p]) = below n js ++ [nth (below n js) p.1 ++ nth (below n js) p.2] := by
  unfold below; rw [List.foldl_append]; rfl
theorem below_len (n : Nat) : ∀ js : Jn, (below n js).length = n + js.length := by
  intro js
  have : ∀ (js : Jn) (acc : List (List Int)), (js.foldl belowF acc).length = acc.length + js.length := by
    intro js
    induction js with
    | nil => intro acc; rfl
    | cons p js ih => intro acc; rw [List.foldl_cons, ih]; unfold belowF; simp; omega
  unfold below
  rw [this, List.length_map, upto_len]; simp
theorem nth_append_left {α : Type} [Inhabited α] {xs ys : List α} {i : Int} (h0 : 0 ≤ i) (h1 : i < xs.length) : nth (xs ++ ys) i = nth xs i := by
  unfold nth
  rw [List.getD_eq_getElem?_getD, List.getD_eq_getElem?_getD, List.getElem?_append_left (by omega)]
theorem nth_append_at {α : Type} [Inhabited α] {xs : List α} {x : α} : nth (xs ++ [x]) (xs.length : Int) = x := by
  unfold nth
  rw [Int.toNat_natCast, List.getD_eq_getElem?_getD, List.getElem?_append_right (Nat.le_refl _)]
  simp
theorem nth_map {α β : Type} [Inhabited α] [Inhabited β] (f : α → β) {xs : List α} {i : Int} (h0 : 0 ≤ i) (h1 : i < xs.length) : nth (xs.map f) i = f (nth xs i) := by
  unfold nth
  have : i.toNat < xs.length := by omega
  rw [List.getD_eq_getElem?_getD, List.getD_eq_getElem?_getD, List.getElem?_map, List.getElem?_eq_getElem this]
  rfl
theorem nth_upto {n i : Int} (h0 : 0 ≤ i) (h1 : i < n) : nth (upto n) i = i := by
  unfold nth
  rw [List.getD_eq_getElem?_getD, upto_get (by omega)]
  show (i.toNat : Int) = i
  omega
/-- so far: what stands in rows and what is left are all knots up to here -/
structure JPart (n : Nat) (js : Jn) (left : List Int) : Prop where
  perm : (knotsOf js ++ left).Perm (upto ((n : Int) + js.length))
  len : left.length + js.length = n
  flat : (left.flatMap fun k => nth (below n js) k).Perm (upto n)
  rows : ∀ k p, js[k]? = some p → (0 ≤ p.1 ∧ p.1 < (n : Int) + (k : Nat)) ∧ (0 ≤ p.2 ∧ p.2 < (n : Int) + (k : Nat)) ∧ p.1 ≠ p.2
/-- the same, of all beginnings -/
structure JAll (n : Nat) (js : Jn) (left : List Int) : Prop where
  cur : JPart n js left
  old : ∀ i, i < js.length → ∃ l, JPart n (js.take i) l
/-- a joining of so many ends -/
structure JoinOk (n : Nat) (js : Jn) : Prop where
  len : js.length + 1 = n
  parts : ∀ i, i ≤ js.length → ∃ l, JPart n (js.take i) l
  perm : (knotsOf js ++ [(n : Int) + js.length - 1]).Perm (upto ((n : Int) + js.length))
  rows : ∀ k p, js[k]? = some p → (0 ≤ p.1 ∧ p.1 < (n : Int) + (k : Nat)) ∧ (0 ≤ p.2 ∧ p.2 < (n : Int) + (k : Nat)) ∧ p.1 ≠ p.2
theorem flatMap_eq {α β : Type} {f g : α → List β} : ∀ {l : List α}, (∀ k ∈ l, f k = g k) → l.flatMap f = l.flatMap g
  | [], _ => rfl
  | x :: l, h => by rw [List.flatMap_cons, List.flatMap_cons, h x (List.mem_cons_self ..), flatMap_eq fun k hk => h k (List.mem_cons_of_mem _ hk)]
theorem JPart.start (n : Nat) : JPart n [] (upto n) := ⟨by simp [knotsOf], by simp [upto_len], by
    have : (upto (n : Int)).flatMap (fun k => nth (below n []) k) = upto n := by
      have e : ∀ k ∈ upto (n : Int), nth (below n []) k = [k] := fun k hk => by
        obtain ⟨h0, h1⟩ := mem_upto.mp hk
        show nth ((upto n).map fun i => [i]) k = [k]
        rw [nth_map _ h0 (by rw [upto_len]; omega), nth_upto h0 h1]
      have : ∀ l : List Int, (∀ k ∈ l, nth (below n []) k = [k]) → l.flatMap (fun k => nth (below n []) k) = l := by
        intro l
        induction l with
        | nil => intro _; rfl
        | cons x l ih => intro h; rw [List.flatMap_cons, h x (List.mem_cons_self ..), ih fun k hk => h k (List.mem_cons_of_mem _ hk)]; rfl
      exact this _ e
    rw [this], fun k p h => by simp at h⟩
theorem JPart.mem {n : Nat} {js : Jn} {left : List Int} (J : JPart n js left) {a : Int} (h : a ∈ left) : 0 ≤ a ∧ a < (n : Int) + js.length := mem_upto.mp (J.perm.mem_iff.mp (List.mem_append.mpr (.inr h)))
theorem JPart.nodup {n : Nat} {js : Jn} {left : List Int} (J : JPart n js left) : left.Nodup := by
  have := (J.perm.nodup_iff).mpr (upto_nodup _)
  exact (List.nodup_append.mp this).2.1
theorem JPart.more {n : Nat} {js : Jn} {left l1 l2 : List Int} {a b : Int} (J : JPart n js left) (t1 : Took left a l1) (t2 : Took l1 b l2) {p : Int × Int} (hp : p = (a, b) ∨ p = (b, a)) {l3 : List Int} (h3 : l3.Perm (l2 ++ [(n : Int) + js.length])) : JPart n (js ++ [p]) l3 := by
  have hl : left.Perm (a :: b :: l2) := t1.perm.trans (t2.perm.cons a)
  have ha : a ∈ left := hl.mem_iff.mpr (by simp)
  have hb : b ∈ left := hl.mem_iff.mpr (by simp)
  have hne : a ≠ b := by
    have := (hl.nodup_iff).mp J.nodup
    exact fun e => (List.nodup_cons.mp this).1 (by simp [e])
  have ma := J.mem ha
  have mb := J.mem hb
  refine ⟨?_, ?_, ?_, ?_⟩
  · have e1 : knotsOf (js ++ [p]) = knotsOf js ++ pr p := by unfold knotsOf; rw [List.flatMap_append]; simp
    have e2 : (pr p).Perm [a, b] := by
      rcases hp with rfl | rfl
      · exact .refl _
      · exact .swap _ _ _
    have e3 : ((js ++ [p]).length : Int) = (js.length : Int) + 1 := by simp
    rw [e1, e3, ← Int.add_assoc, upto_succ (by omega)]
    have p1 : (knotsOf js ++ pr p ++ l3).Perm (knotsOf js ++ ([a, b] ++ (l2 ++ [(n : Int) + js.length]))) := by
      rw [List.append_assoc]
      exact (List.Perm.refl _).append (e2.append h3)
    have p2 : (knotsOf js ++ ([a, b] ++ (l2 ++ [(n : Int) + js.length]))).Perm ((knotsOf js ++ left) ++ [(n : Int) + js.length]) := by
      rw [show knotsOf js ++ ([a, b] ++ (l2 ++ [(n : Int) + js.length])) = knotsOf js ++ (a :: b :: l2) ++ [(n : Int) + js.length] from by simp]
      exact ((List.Perm.refl _).append hl.symm).append (.refl _)
    exact (p1.trans p2).trans (J.perm.append (.refl _))
  · have := h3.length_eq
    have h1 := t1.len; have h2 := t2.len; have h0 := J.len
    simp only [List.length_append, List.length_cons, List.length_nil] at *
    omega
  · rw [below_snoc]
    have hbl := below_len n js
    have inr : ∀ k ∈ left, nth (below n js ++ [nth (below n js) p.1 ++ nth (below n js) p.2]) k = nth (below n js) k := fun k hk => by
      have := J.mem hk
      exact nth_append_left this.1 (by rw [hbl]; omega)
    have l2in : ∀ k ∈ l2, k ∈ left := fun k hk => hl.mem_iff.mpr (by simp [hk])
    have e3 : nth (below n js ++ [nth (below n js) p.1 ++ nth (below n js) p.2]) ((n : Int) + js.length) = nth (below n js) p.1 ++ nth (below n js) p.2 := by
      have e : (n : Int) + js.length = ((below n js).length : Int) := by rw [hbl]; omega
      rw [e, nth_append_at]
    have p1 : (l3.flatMap fun k => nth (below n js ++ [nth (below n js) p.1 ++ nth (below n js) p.2]) k).Perm ((l2.flatMap fun k => nth (below n js) k) ++ (nth (below n js) p.1 ++ nth (below n js) p.2)) := by
      refine (h3.flatMap_right _).trans ?_
      rw [List.flatMap_append]
      refine .append (.of_eq ?_) (.of_eq ?_)
      · exact flatMap_eq fun k hk => inr k (l2in k hk)
      · rw [List.flatMap_cons, e3]; simp
    have p2 : (left.flatMap fun k => nth (below n js) k).Perm (nth (below n js) a ++ (nth (below n js) b ++ (l2.flatMap fun k => nth (below n js) k))) := by
      refine (hl.flatMap_right _).trans ?_
      rw [List.flatMap_cons, List.flatMap_cons]
    refine (p1.trans ?_).trans (p2.symm.trans J.flat)
    rcases hp with rfl | rfl
    · dsimp only
      refine List.perm_append_comm.trans ?_
      rw [List.append_assoc]
    · dsimp only
      refine List.perm_append_comm.trans ?_
      refine (List.perm_append_comm.append (.refl _)).trans ?_
      rw [List.append_assoc]
  · intro k q hq
    by_cases hk : k < js.length
    · rw [List.getElem?_append_left hk] at hq; exact J.rows k q hq
    · rw [List.getElem?_append_right (by omega)] at hq
      have hk0 : k - js.length = 0 := by
        have := (List.getElem?_eq_some_iff.mp hq).1
        simp only [List.length_cons, List.length_nil] at this; omega
      rw [hk0] at hq
      have hq : p = q := by simpa using hq
      have : k = js.length := by omega
      subst this hq
      rcases hp with rfl | rfl
      · exact ⟨ma, mb, hne⟩
      · exact ⟨mb, ma, Ne.symm hne⟩
theorem JPart.done {n : Nat} {js : Jn} {left : List Int} (J : JPart n js left) (h : js.length + 1 = n) (pp : ∀ i, i ≤ js.length → ∃ l, JPart n (js.take i) l) : JoinOk n js := by
  refine ⟨h, pp, ?_, J.rows⟩
  have hl := J.len
  match left, (show left.length = 1 by omega), J with
  | [r], _, J =>
    -- the last knot is the one that is left: no row has it
    have hr := J.mem (List.mem_singleton.mpr rfl)
    have last : (n : Int) + js.length - 1 ∈ knotsOf js ++ [r] := J.perm.mem_iff.mpr (mem_upto.mpr (by omega))
    rcases List.mem_append.mp last with z | z
    · exfalso
      obtain ⟨p, hp, hz⟩ := List.mem_flatMap.mp z
      obtain ⟨k, hk, rfl⟩ := List.getElem_of_mem hp
      have := J.rows k _ (List.getElem?_eq_getElem hk)
      have hz : (n : Int) + js.length - 1 = (js[k]).1 ∨ (n : Int) + js.length - 1 = (js[k]).2 := by simpa [pr] using hz
      omega
    · rw [List.mem_singleton.mp z]; exact J.perm
theorem JAll.start (n : Nat) : JAll n [] (upto n) := ⟨.start n, fun i h => by simp at h⟩
theorem JAll.more {n : Nat} {js : Jn} {left l1 l2 : List Int} {a b : Int} (J : JAll n js left) (t1 : Took left a l1) (t2 : Took l1 b l2) {p : Int × Int} (hp : p = (a, b) ∨ p = (b, a)) {l3 : List Int} (h3 : l3.Perm (l2 ++ [(n : Int) + js.length])) : JAll n (js ++ [p]) l3 := by
  refine ⟨J.cur.more t1 t2 hp h3, fun i hi => ?_⟩
  by_cases c : i < js.length
  · rw [List.take_append_of_le_length (by omega)]; exact J.old i c
  · have : i = js.length := by simp at hi; omega
    subst this
    rw [List.take_append_of_le_length (Nat.le_refl _), List.take_length]
    exact ⟨left, J.cur⟩
theorem JAll.done {n : Nat} {js : Jn} {left : List Int} (J : JAll n js left) (h : js.length + 1 = n) : JoinOk n js := JPart.done J.cur h fun i hi => by
  by_cases c : i < js.length
  · exact J.old i c
  · have : i = js.length := by omega
    subst this
    rw [List.take_length]; exact ⟨left, J.cur⟩
/-- no knot has more than all ends beneath it -/
theorem JPart.few {n : Nat} {js : Jn} {left : List Int} (J : JPart n js left) {a b : Int} (ha : a ∈ left) (hb : b ∈ left) (h : a ≠ b) : (nth (below n js) a).length + (nth (below n js) b).length ≤ n := by
  have h1 : left.Perm (a :: left.erase a) := List.perm_cons_erase ha
  have h2 : b ∈ left.erase a := by
    have := h1.mem_iff.mp hb
    rcases List.mem_cons.mp this with e | e
    · exact absurd e.symm h
    · exact e
  have h3 := (h1.trans ((List.perm_cons_erase h2).cons a))
  have h4 := (h3.flatMap_right fun k => nth (below n js) k).symm.trans J.flat
  have := h4.length_eq
  rw [List.flatMap_cons, List.flatMap_cons, List.length_append, List.length_append, upto_len] at this
  omega
/-- what stands in a row is left ahead of it -/
theorem JoinOk.sides {n : Nat} {js : Jn} (J : JoinOk n js) {i : Nat} {p : Int × Int} (h : js[i]? = some p) : ∃ l, JPart n (js.take i) l ∧ p.1 ∈ l ∧ p.2 ∈ l := by
  have hi := (List.getElem?_eq_some_iff.mp h).1
  obtain ⟨l, hl⟩ := J.parts i (by omega)
  have r := J.rows i p h
  have hlen : (js.take i).length = i := by rw [List.length_take]; omega
  have nd := (J.perm.nodup_iff).mpr (upto_nodup _)
  have ex : js = js.take i ++ p :: js.drop (i + 1) := by
    have e := List.getElem?_eq_some_iff.mp h
    obtain ⟨_, e⟩ := e
    rw [← e, ← List.drop_eq_getElem_cons hi, List.take_append_drop]
  have key : ∀ k, (k = p.1 ∨ k = p.2) → k ∉ knotsOf (js.take i) := fun k hk z => by
    have e2 : knotsOf js = knotsOf (js.take i) ++ (pr p ++ knotsOf (js.drop (i + 1))) := by
      conv => lhs; rw [ex]
      unfold knotsOf
      rw [List.flatMap_append, List.flatMap_cons]
    rw [e2] at nd
    have nd := (List.nodup_append.mp (List.nodup_append.mp nd).1).2.2
    exact nd k z k (by unfold pr; rcases hk with rfl | rfl <;> simp) rfl
  have inl : ∀ k, (k = p.1 ∨ k = p.2) → k ∈ l := fun k hk => by
    have : k ∈ knotsOf (js.take i) ++ l := hl.perm.mem_iff.mpr (mem_upto.mpr (by rw [hlen]; rcases hk with rfl | rfl <;> omega))
    rcases List.mem_append.mp this with z | z
    · exact absurd z (key k hk)
    · exact z
  exact ⟨l, hl, inl _ (.inl rfl), inl _ (.inr rfl)⟩
theorem uG_comm {G : DH} {a b : Addr} {o u : MO} (h : a ≠ b) : uG (uG G a o) b u = uG (uG G b u) a o := by
  funext c
  unfold uG
  by_cases h1 : c = b
  · by_cases h2 : c = a
    · exact absurd (h2.symm.trans h1) h
    · simp [h1, Ne.symm h]
  · by_cases h2 : c = a
    · simp [h2, h]
    · simp [h1, h2]
theorem norm3 {G : DH} {p q : Addr} {o o' u : MO} (h : p ≠ q) : uG (uG (uG G q o) p u) q o' = uG (uG G q o') p u := by
  rw [uG_comm (a := p) (b := q) h, uG_uG]
theorem norm3a {α : Type} {G : DH} {p q : Addr} {o u : MO} {f : α → D} {xs : List α} {x : α} (h : p ≠ q) : uG (uG (uG G q o) p u) q (.lst (xs.map f ++ [f x])) = uG (uG G q (.lst ((xs ++ [x]).map f))) p u := by
  rw [norm3 h, snocM]
/-- a row told -/
def rD (r : Int × Bx) : D := .tup [.int r.1, bD r.2]
theorem st_ixRow {G : DH} {Q : DK} {r : Int × Bx} {i : Int} {v : D} (h : atI [D.int r.1, bD r.2] i = some v) (q : Q v G) : dIx (rD r) (.int i) G Q := st_ixT h q
instance {u : DGs} {r : Int × Bx} {s : DS} {G : DH} {R : DS → DH → Prop} : Stp (gU 2 u (rD r) s G R) (u [D.int r.1, bD r.2] s G R) := ⟨fun h => st_gU rfl h⟩
theorem snocR {G : DH} {p : Addr} {es : List (Int × Bx)} {x : Int} {b : Bx} : uG G p (.lst (es.map rD ++ [.tup [.int x, bD b]])) = uG G p (.lst ((es ++ [(x, b)]).map rD)) := by
  rw [show (D.tup [.int x, bD b]) = rD (x, b) from rfl]
  exact snocU rD es (x, b)
theorem plain_rD (r : Int × Bx) : plainD (rD r) = true := rfl
/-- the ends beneath a knot: some, in range, no more than all -/
theorem JoinOk.pos {n : Nat} {js : Jn} (J : JoinOk n js) : ∀ i, i ≤ js.length → ∀ k (_ : k < (below n (js.take i)).length), 0 < ((below n (js.take i))[k]).length ∧ ((below n (js.take i))[k]).length ≤ n ∧ ∀ x ∈ (below n (js.take i))[k], 0 ≤ x ∧ x < (n : Int) := by
  intro i
  induction i with
  | zero =>
    intro _ k hk
    have e : below n (js.take 0) = (upto n).map fun i => [i] := rfl
    have hn : 1 ≤ n := by have := J.len; omega
    simp only [e, List.getElem_map, List.length_cons, List.length_nil]
    refine ⟨by omega, by omega, fun x hx => ?_⟩
    rw [List.mem_singleton.mp hx]
    exact mem_upto.mp (List.getElem_mem _)
  | succ i ih =>
    intro hi k hk
    have hx : js[i]? = some js[i] := List.getElem?_eq_getElem (by omega)
    have e : js.take (i + 1) = js.take i ++ [js[i]] := by rw [List.take_succ, hx]; rfl
    have hbl := below_len n (js.take i)
    have ht : (js.take i).length = i := by rw [List.length_take]; omega
    obtain ⟨⟨a0, a1⟩, ⟨b0, b1⟩, hne⟩ := J.rows i _ hx
    obtain ⟨l, hl, m1, m2⟩ := J.sides hx
    have few := hl.few m1 m2 hne
    simp only [e, below_snoc] at hk ⊢
    by_cases c : k < (below n (js.take i)).length
    · rw [List.getElem_append_left c]
      exact ih (by omega) k c
    · rw [List.getElem_append_right (by omega)]
      have ek : k - (below n (js.take i)).length = 0 := by simp at hk; omega
      simp only [ek, List.getElem_cons_zero]
      have g1 := ih (by omega) (js[i].1).toNat (by rw [hbl, ht]; omega)
      have g2 := ih (by omega) (js[i].2).toNat (by rw [hbl, ht]; omega)
      have e1 : (below n (js.take i))[(js[i].1).toNat]'(by rw [hbl, ht]; omega) = nth (below n (js.take i)) js[i].1 := by
        rw [← nth_nat (by rw [hbl, ht]; omega)]; congr 1; omega
      have e2 : (below n (js.take i))[(js[i].2).toNat]'(by rw [hbl, ht]; omega) = nth (below n (js.take i)) js[i].2 := by
        rw [← nth_nat (by rw [hbl, ht]; omega)]; congr 1; omega
      rw [e1] at g1
      rw [e2] at g2
      refine ⟨by rw [List.length_append]; omega, by rw [List.length_append]; exact few, fun x hx => ?_⟩
      rcases List.mem_append.mp hx with hx | hx
      · exact g1.2.2 x hx
      · exact g2.2.2 x hx
theorem JoinOk.posAll {n : Nat} {js : Jn} (J : JoinOk n js) (k : Nat) (h : k < (below n js).length) : 0 < ((below n js)[k]).length ∧ ((below n js)[k]).length ≤ n ∧ ∀ x ∈ (below n js)[k], 0 ≤ x ∧ x < (n : Int) := by
  have := J.pos js.length (Nat.le_refl _)
  simp only [List.take_length] at this
  exact this k h
theorem nth_last_drop {α : Type} [Inhabited α] {xs : List α} {n : Nat} (h : n < xs.length) : nth (xs.drop n) ((xs.drop n).length - 1) = nth xs (xs.length - 1) := by
  have e1 : (((xs.drop n).length : Int) - 1).toNat = xs.length - 1 - n := by rw [List.length_drop]; omega
  have e2 : ((xs.length : Int) - 1).toNat = xs.length - 1 := by omega
  unfold nth
  rw [e1, e2, List.getD_eq_getElem?_getD, List.getD_eq_getElem?_getD, List.getElem?_drop]
  congr 2; omega
end L2.Ew
namespace L2.Ew
open PySem PySem.Spec PySem.SeqAt PyProof.Rows
section
variable {X : Cx} {o e b : Expr} {pos apos : Pos} {to te tb : DE} {s : DS} {G : DH} {Q : DK} {d y : D} {a : Addr} {zs : List D} {i : Int}
def ins2 (a : Addr) (Q : DK) (x y : D) (G2 : DH) : Prop := ∃ xs i, G2 a = some (.lst xs) ∧ x = .int i ∧ 0 ≤ i ∧ i < 2 ^ 63 ∧ xs.length ≤ 100000 ∧ Q .non (uG G2 a (.lst (xs.take i.toNat ++ [y] ++ xs.drop i.toNat)))
def ins1 (te tb : DE) (s : DS) (Q : DK) (d : D) (G : DH) : Prop := ∃ a, d = .ptr a ∧ (∃ zs, G a = some (.lst zs)) ∧ te s G fun x G1 => tb s G1 fun y G2 => ins2 a Q x y G2
def dInsert (to te tb : DE) : DE := fun s G Q => to s G fun d G1 => ins1 te tb s Q d G1
theorem ped_insert (ho : PED X o to) (ha : PED X e te) (hb : PED X b tb) (hbase : attributeBase o "insert" X.env (eval o X.env) = eval o X.env := by rfl)
    (hfew : ((backTo pos (starEach [e, b] X.env)).all (fun x => !x.1) && (backToKw pos (keywordEach [] X.env)).all (fun x => x.1.isSome) && decide ([e, b].length + ([] : List Keyword).length + (if ([] : List Keyword).isEmpty then 0 else 1) < 30)) = true := by rfl)
    (hline : (apos.endLine == pos.line) = true := by rfl) (hs : starEach [e, b] X.env = (false, eval e X.env) :: starEach [b] X.env := by rfl) (hs2 : starEach [b] X.env = (false, eval b X.env) :: starEach [] X.env := by rfl)
    (hpl : (backTo pos (starEach [b] X.env)).any (·.1) = false := by rfl) :
    PED X (.Call (.Attribute o "insert" apos) [e, b] [] pos) (dInsert to te tb) := by
  refine ⟨(pe_bm PySem.F.plainAttrs_list PySem.F.slot_list_insert PySem.F.type_list_insert mt_insert ho.out (pa_cons ha.out (pa_cons hb.out pa_nil hs2) hs) hbase hfew hline hs hpl).weak fun σ H Q ⟨F, s, G, R, rs, rg, q, p⟩ => ?_⟩
  refine ⟨F, s, G, _, rs, rg, q, fun d G1 x H1 st rx rg1 ⟨a, ed, ⟨zs, hz⟩, q1⟩ => ?_⟩
  subst ed
  cases rx
  obtain ⟨ys, h, r⟩ := rg1.ob a _ hz
  refine ⟨.inl ⟨rfl, ys, SqL.of h⟩, F, s, G1, _, rs.step st, rg1, q1, fun y G2 u H2 st2 ry rg2 q2 => ?_⟩
  refine ⟨F, s, G2, _, (rs.step st).step st2, rg2, q2, fun y2 G3 u2 H3 st3 ry2 rg3 ⟨xs, i, hg, ei, i0, i1, hl, q3⟩ => ?_⟩
  subst ei
  have ry' := ry.step st3
  cases ry'
  obtain ⟨ys2, h2, r2⟩ := rg3.ob a _ hg
  exact ⟨a, ys2, i, u2, rfl, rfl, h2, by rw [r2.len]; exact size100000 hl, i0, i1, mlst_end (p.step ((st.trans st2).trans st3)) rg3 hg (((r2.take i.toNat).append (.one ry2)).append (r2.drop i.toNat)) .non q3⟩
instance : Stp (dInsert to te tb s G Q) (to s G fun d G1 => ins1 te tb s Q d G1) := ⟨id⟩
theorem st_ins1 (hg : G a = some (.lst zs)) (h : te s G fun x G1 => tb s G1 fun y G2 => ins2 a Q x y G2) : ins1 te tb s Q (.ptr a) G := ⟨a, rfl, ⟨zs, hg⟩, h⟩
theorem st_ins0 {α : Type} {en : α → D} {xs : List α} (hg : G a = some (.lst (xs.map en))) (hl : xs.length ≤ 100000) (h : Q .non (uG G a (.lst (y :: xs.map en)))) : ins2 a Q (.int 0) y G :=
  ⟨_, 0, hg, rfl, by decide, by decide, by rw [List.length_map]; exact hl, h⟩
end
end L2.Ew
namespace L2.Ew
open PySem PySem.Spec PySem.SeqAt PyProof.Rows
/-- beneath the last knot are all ends -/
theorem JoinOk.root {n : Nat} {js : Jn} (J : JoinOk n js) : (nth (below n js) ((n : Int) + js.length - 1)).Perm (upto n) := by
  obtain ⟨l, hl⟩ := J.parts js.length (Nat.le_refl _)
  rw [List.take_length] at hl
  have h1 := hl.len
  have h2 := J.len
  match l, (show l.length = 1 by omega), hl with
  | [r], _, hl =>
    have := (List.perm_append_left_iff (knotsOf js)).mp (hl.perm.trans J.perm.symm)
    have e : [r] = [(n : Int) + js.length - 1] := List.singleton_perm.mp this
    have e : r = (n : Int) + js.length - 1 := by simpa using e
    have f := hl.flat
    rw [List.flatMap_cons, List.flatMap_nil, List.append_nil] at f
    rw [e] at f; exact f
def swp (p : Int × Int) : Int × Int := (p.2, p.1)
/-- the same sets beneath, sides exchanged -/
theorem below_swp {n : Nat} : ∀ {js : Jn}, (∀ k p, js[k]? = some p → (0 ≤ p.1 ∧ p.1 < (n : Int) + (k : Nat)) ∧ (0 ≤ p.2 ∧ p.2 < (n : Int) + (k : Nat)) ∧ p.1 ≠ p.2) →
    ∀ i, i ≤ js.length → ∀ k (k1 : k < (below n ((js.map swp).take i)).length) (k2 : k < (below n (js.take i)).length), ((below n ((js.map swp).take i))[k]).Perm ((below n (js.take i))[k]) := by
  intro js hr i
  induction i with
  | zero => intro _ k _ _; exact .refl _
  | succ i ih =>
    intro hi k k1 k2
    have hx : js[i]? = some js[i] := List.getElem?_eq_getElem (by omega)
    have hy : (js.map swp)[i]? = some (swp js[i]) := by rw [List.getElem?_map, hx]; rfl
    have e1 : js.take (i + 1) = js.take i ++ [js[i]] := by rw [List.take_succ, hx]; rfl
    have e2 : (js.map swp).take (i + 1) = (js.map swp).take i ++ [swp js[i]] := by rw [List.take_succ, hy]; rfl
    have b1 := below_len n (js.take i)
    have b2 := below_len n ((js.map swp).take i)
    rw [List.length_take] at b1 b2
    rw [List.length_map] at b2
    obtain ⟨⟨a0, a1⟩, ⟨c0, c1⟩, _⟩ := hr i _ hx
    simp only [e1, e2, below_snoc] at k1 k2 ⊢
    by_cases c : k < (below n (js.take i)).length
    · rw [List.getElem_append_left c, List.getElem_append_left (by omega)]
      exact ih (by omega) k (by omega) c
    · rw [List.getElem_append_right (by omega), List.getElem_append_right (by omega)]
      have z1 : k - (below n (js.take i)).length = 0 := by simp at k2; omega
      have z2 : k - (below n ((js.map swp).take i)).length = 0 := by omega
      simp only [z1, z2, List.getElem_cons_zero]
      have at_ : ∀ x : Int, 0 ≤ x → x < (n : Int) + i → (nth (below n ((js.map swp).take i)) x).Perm (nth (below n (js.take i)) x) := fun x h0 h1 => by
        have := ih (by omega) x.toNat (by omega) (by omega)
        have e : x = ((x.toNat : Nat) : Int) := by omega
        rw [e, nth_nat (by omega), nth_nat (by omega)]
        simpa using this
      exact ((at_ _ c0 c1).append (at_ _ a0 a1)).trans List.perm_append_comm
theorem dep_tupM {α : Type} {en : α → D} {k : Nat} (h : ∀ x, depD (en x) ≤ k) (xs : List α) : depD (.tup (xs.map en)) ≤ k + 1 := by
  show PyData.depthAll (toPs (xs.map en)) + 1 ≤ k + 1
  refine Nat.succ_le_succ (depAll_le fun d hd => ?_)
  obtain ⟨x, _, rfl⟩ := List.mem_map.mp hd
  exact h x
section
variable {G : DH} {Q : DK} {i : Int} {A B : D} {r : Int × Bx}
theorem st_pickD2 (h0 : 0 ≤ i) (h1 : i < 2) (ha : Q A G) (hb : Q B G) : dIx (.lst [A, B]) (.int i) G Q := by
  obtain rfl | rfl : i = 0 ∨ i = 1 := by omega
  · exact st_ixL rfl rfl ha
  · exact st_ixL rfl rfl hb
instance (priority := high) : Stp (cLen [rD r] G Q) (Q (.int 2) G) := ⟨id⟩
instance {p : Int × Int} : Stp (cLen [pD p] G Q) (Q (.int 2) G) := ⟨id⟩
theorem dep_rD (r : Int × Bx) : depD (rD r) ≤ 2 := by show 2 ≤ 2; decide
theorem st_eqRows {rs : List (Int × Bx)} (h : Q (.bl true) G) : oEq (.tup (rs.map rD)) (.tup (rs.map rD)) G Q := st_eqSelf (plain_map (fun _ => rfl) _) (Nat.le_trans (dep_tupM dep_rD rs) (by decide)) rfl h
theorem st_neRow (h : Q (.bl false) G) : oNe (rD r) (rD r) G Q := st_neSelf rfl (Nat.le_trans (dep_rD r) (by decide)) rfl h
end
end L2.Ew

set_option Elab.async false
set_option linter.all false
set_option maxRecDepth 100000
set_option maxHeartbeats 4000000
/-! A list made longer by a tuple. -/
namespace L2.Ew
open PySem PySem.Spec PySem.SeqAt PyProof PyProof.Rows
theorem list_extend_tup (l : Addr) (items : Array Value) (n : Nat) (b : Addr) (items2 : Array Value) (n2 : Nat) (dd : Option Addr) (sl : Array (Option Value)) (hs0 : ¬(!items.isEmpty && Builtin.List.listTooLong (items.size + items2.size)) = true) (hs1 : items.size ≤ sizeLine) (hs2 : items.size + items2.size ≤ sizeLine + 1) :
    Meets (Builtin.«list.extend» ⟨[.ref l, .ref b], []⟩) (fun _ R s => s.heap.get? l = some { cls := .type "list", dict := none, data := .seq items n, slots := #[] } ∧ s.heap.get? b = some { cls := .type "tuple", dict := dd, data := .seq items2 n2, slots := sl } ∧ R (.ok (.ret Value.none)) { s with heap := s.heap.update l (Obj.mapSeq fun x => x ++ items2), toks := s.toks }) :=
  .of_wp fun prog w A R s h => by
    obtain ⟨hp, g, d, tk, os⟩ := s; obtain ⟨hl, hb, h⟩ := h; have f1 := AutoSeq1.idx_int; have f2 := AutoSeq1.sub_tuple_tuple; have f3 := AutoSeq1.sub_list_list; have f4 := AutoSeq1.sub_tuple_list; have f5 := AutoSeq1.sub_list_tuple;
    have hz' : (items ++ items2).size ≤ sizeLine + 1 := by rw [Array.size_append]; exact hs2
    wp_walk using (wpAny_updateSeq hl rfl (hz := hs1) (_hz' := hz')), wpAny_loadPart' hl, wpAny_loadPart' hb; exact ⟨_, rfl, h⟩
section
variable {X : Cx}
theorem mt_extendT : MtR X "list.extend" (fun x vs H Q => ∃ (l b : Addr) (xs zs : List V), x = .ref l ∧ vs = [.ref b] ∧ H l = some (.lst xs) ∧ SqT X.K H b zs ∧ xs.length + zs.length ≤ sizeLine ∧ Q .non (upd H l (.lst (xs ++ zs)))) := by
  intro pins s σ H x vs v us Q I rx rv h
  obtain ⟨l, b, xs, zs, rfl, rfl, hH, hB, hz, q⟩ := h
  cases rx
  obtain ⟨u, rfl, ru⟩ := rv.one
  cases ru
  obtain ⟨z, its, n, r, hl, e⟩ := I.lstM hH
  obtain ⟨its2, r2, ⟨o, e2, ec, n2, ed⟩, z2⟩ := I.tuple hB
  have hl2 := r2.length
  obtain ⟨oc, od, oa, os⟩ := o
  simp only at ec ed
  subst ec ed
  have hsz : its.toArray.size + its2.toArray.size ≤ sizeLine := by rw [List.size_toArray, List.size_toArray]; omega
  have hlong : ¬ (!its.toArray.isEmpty && Builtin.List.listTooLong (its.toArray.size + its2.toArray.size)) = true := by
    rw [notLongL hsz, Bool.and_false]
    exact Bool.false_ne_true
  refine call_meets F.slot_list_extend ⟨_, e, rfl⟩ F.entry_list_extend (F.args_list_extend_2 _ _)
    (list_extend_tup l its.toArray n b its2.toArray n2 _ _ hlong (by rw [List.size_toArray]; omega) (by omega)) ⟨e, e2, ?_⟩
  refine ⟨.non, _, I.lset (its' := its ++ its2) hH e (by simp) (r.append r2) ?_, rfl, q⟩
  rw [List.length_append]
  omega
end
section
variable {X : Cx} {o e : Expr} {pos apos : Pos} {to te : DE} {s : DS} {G : DH} {Q : DK} {d y : D} {a : Addr} {zs : List D}
def ex2 (a : Addr) (Q : DK) (y : D) (G2 : DH) : Prop := ∃ xs ws, G2 a = some (.lst xs) ∧ y = .tup ws ∧ xs.length + ws.length ≤ 100000 ∧ Q .non (uG G2 a (.lst (xs ++ ws)))
def ex1 (te : DE) (s : DS) (Q : DK) (d : D) (G : DH) : Prop := ∃ a, d = .ptr a ∧ (∃ zs, G a = some (.lst zs)) ∧ te s G fun y G2 => ex2 a Q y G2
def dExtend (to te : DE) : DE := fun s G Q => to s G fun d G1 => ex1 te s Q d G1
theorem ped_extend (ho : PED X o to) (ha : PED X e te) (hbase : attributeBase o "extend" X.env (eval o X.env) = eval o X.env := by rfl)
    (hfew : ((backTo pos (starEach [e] X.env)).all (fun x => !x.1) && (backToKw pos (keywordEach [] X.env)).all (fun x => x.1.isSome) && decide ([e].length + ([] : List Keyword).length + (if ([] : List Keyword).isEmpty then 0 else 1) < 30)) = true := by rfl)
    (hline : (apos.endLine == pos.line) = true := by rfl) (hs : starEach [e] X.env = (false, eval e X.env) :: starEach [] X.env := by rfl) :
    PED X (.Call (.Attribute o "extend" apos) [e] [] pos) (dExtend to te) := by
  refine ⟨(pe_bm PySem.F.plainAttrs_list PySem.F.slot_list_extend PySem.F.type_list_extend mt_extendT ho.out (pa_cons ha.out pa_nil hs) hbase hfew hline hs rfl).weak fun σ H Q ⟨F, s, G, R, rs, rg, q, p⟩ => ?_⟩
  refine ⟨F, s, G, _, rs, rg, q, fun d G1 x H1 st rx rg1 ⟨a, ed, ⟨zs, hz⟩, q1⟩ => ?_⟩
  subst ed
  cases rx
  obtain ⟨ys, h, r⟩ := rg1.ob a _ hz
  refine ⟨.inl ⟨rfl, ys, SqL.of h⟩, F, s, G1, _, rs.step st, rg1, q1, fun y G2 u H2 st2 ry rg2 ⟨xs, ws, hg, ey, hl, q2⟩ => ?_⟩
  subst ey
  obtain ⟨ys2, h2, r2⟩ := rg2.ob a _ hg
  cases ry with
  | tup h3 n3 r3 => exact ⟨a, _, ys2, _, rfl, rfl, h2, SqT.of h3, by rw [r2.len, r3.len]; exact Nat.le_of_lt (size100000 hl), mlst_end (p.step (st.trans st2)) rg2 hg (r2.append r3) .non q2⟩
instance : Stp (dExtend to te s G Q) (to s G fun d G1 => ex1 te s Q d G1) := ⟨id⟩
theorem st_ex1 (hg : G a = some (.lst zs)) (h : te s G fun y G2 => ex2 a Q y G2) : ex1 te s Q (.ptr a) G := ⟨a, rfl, ⟨zs, hg⟩, h⟩
theorem st_ex2 {α : Type} {en : α → D} {xs : List α} {ws : List D} (hg : G a = some (.lst (xs.map en))) (hl : xs.length + ws.length ≤ 100000) (h : Q .non (uG G a (.lst (xs.map en ++ ws)))) : ex2 a Q (.tup ws) G :=
  ⟨_, _, hg, rfl, by rw [List.length_map]; exact hl, h⟩
theorem st_sortP {ns : List Int} (hg : G a = some (.lst (ns.map D.int))) (h : ∀ ns' : List Int, ns'.Perm ns → ns'.Pairwise (· ≤ ·) → Q (.lst (ns'.map D.int)) G) : cSorted [.ptr a] G Q := by
  unfold cSorted
  simp only [lstOf, hg, Option.bind_some, intsD_map]
  exact h
theorem st_ex2P {xs : List Int} {q : Int × Int} (hl : xs.length ≤ 1000) (h : Q .non (uG G a (.lst ((xs ++ [q.1, q.2]).map D.int)))) : ex2 a Q (pD q) (uG G a (.lst (xs.map D.int))) :=
  ⟨_, _, uG_same, rfl, by rw [List.length_map]; show xs.length + 2 ≤ _; omega, by rw [uG_uG]; rw [List.map_append] at h; exact h⟩
end
end L2.Ew
namespace L2.Ew
open PySem PySem.Spec PySem.SeqAt PyProof.Rows
/-- beneath a joint: what is beneath its sides -/
theorem below_at {n : Nat} {js : Jn} (J : JoinOk n js) {i : Nat} {q : Int × Int} (hx : js[i]? = some q) : nth (below n js) ((n : Int) + i) = nth (below n js) q.1 ++ nth (below n js) q.2 := by
  have hi : i < js.length := (List.getElem?_eq_some_iff.mp hx).1
  obtain ⟨⟨a0, a1⟩, ⟨b0, b1⟩, hne⟩ := J.rows i q hx
  have kn : ∀ m, i ≤ m → m ≤ js.length → ∀ (x : Int), 0 ≤ x → x < (n : Int) + i → nth (below n (js.take m)) x = nth (below n (js.take i)) x := by
    intro m hm
    induction m with
    | zero => intro _ x _ _; rw [show i = 0 from by omega]
    | succ m ih =>
      intro hm2 x x0 x1
      by_cases c : i = m + 1
      · rw [c]
      · have e : js.take (m + 1) = js.take m ++ [js[m]] := by rw [List.take_succ, List.getElem?_eq_getElem (by omega)]; rfl
        rw [e, below_snoc, nth_append_left x0 (by rw [below_len, List.length_take]; omega)]
        exact ih (by omega) (by omega) x x0 x1
  have kn2 : ∀ m, i + 1 ≤ m → m ≤ js.length → nth (below n (js.take m)) ((n : Int) + i) = nth (below n (js.take (i + 1))) ((n : Int) + i) := by
    intro m hm
    induction m with
    | zero => omega
    | succ m ih =>
      intro hm2
      by_cases c : i = m
      · rw [c]
      · have e : js.take (m + 1) = js.take m ++ [js[m]] := by rw [List.take_succ, List.getElem?_eq_getElem (by omega)]; rfl
        rw [e, below_snoc, nth_append_left (by omega) (by rw [below_len, List.length_take]; omega)]
        exact ih (by omega) (by omega)
  have t := kn2 js.length hi (Nat.le_refl _)
  have u1 := kn js.length (by omega) (Nat.le_refl _) q.1 a0 a1
  have u2 := kn js.length (by omega) (Nat.le_refl _) q.2 b0 b1
  rw [List.take_length] at t u1 u2
  rw [t, u1, u2]
  have e : js.take (i + 1) = js.take i ++ [q] := by rw [List.take_succ, hx]; rfl
  have hl : (below n (js.take i)).length = n + i := by rw [below_len, List.length_take]; omega
  rw [e, below_snoc, show ((n : Int) + i) = ((below n (js.take i)).length : Int) from by rw [hl]; omega, nth_append_at]
/-- beneath an end: itself -/
theorem below_end {n : Nat} (js : Jn) {x : Int} (h0 : 0 ≤ x) (h1 : x < n) : nth (below n js) x = [x] := by
  have : ∀ m, m ≤ js.length → nth (below n (js.take m)) x = [x] := by
    intro m
    induction m with
    | zero =>
      intro _
      show nth ((upto n).map fun i => [i]) x = [x]
      rw [nth_map (fun i => [i]) h0 (by rw [upto_len]; omega), nth_upto h0 h1]
    | succ m ih =>
      intro hm
      have e : js.take (m + 1) = js.take m ++ [js[m]] := by rw [List.take_succ, List.getElem?_eq_getElem (by omega)]; rfl
      rw [e, below_snoc, nth_append_left h0 (by rw [below_len, List.length_take]; omega)]
      exact ih (by omega)
  have t := this js.length (Nat.le_refl _)
  rwa [List.take_length] at t
theorem below_nth {n : Nat} {js : Jn} (J : JoinOk n js) {x : Int} (h0 : 0 ≤ x) (h1 : x < (n : Int) + js.length) : 0 < (nth (below n js) x).length ∧ (nth (below n js) x).length ≤ n ∧ ∀ y ∈ nth (below n js) x, 0 ≤ y ∧ y < (n : Int) := by
  have hb := below_len n js
  have e : nth (below n js) x = (below n js)[x.toNat]'(by omega) := by
    have z := nth_nat (show x.toNat < (below n js).length by omega)
    rwa [show ((x.toNat : Nat) : Int) = x from by omega] at z
  rw [e]
  exact J.posAll x.toNat (by omega)
theorem below_few {n : Nat} {js : Jn} (J : JoinOk n js) : ∀ {wd : List Int}, (∀ z ∈ wd, 0 ≤ z ∧ z < (n : Int) + js.length) → wd.length ≤ (wd.flatMap (nth (below n js))).length
  | [], _ => Nat.le_refl _
  | z :: wd, hr => by
    have h1 := (below_nth J (hr z (List.mem_cons_self ..)).1 (hr z (List.mem_cons_self ..)).2).1
    have h2 := below_few J (wd := wd) fun z hz => hr z (List.mem_cons_of_mem _ hz)
    rw [List.flatMap_cons, List.length_append, List.length_cons]
    omega
theorem last_concat {α : Type} {wt : List α} {y : α} (hy : wt[wt.length - 1]? = some y) : ∃ wd, wt = wd ++ [y] := by
  have h1 : wt ≠ [] := fun e => by subst e; cases hy
  have h0 : 0 < wt.length := List.length_pos_iff.mpr h1
  have h2 := List.dropLast_concat_getLast h1
  rw [List.getLast_eq_getElem] at h2
  rw [List.getElem?_eq_getElem (by omega)] at hy
  exact ⟨wt.dropLast, by rw [← Option.some.inj hy]; exact h2.symm⟩
/-- how many knots are beneath those that wait -/
def load (n : Nat) (js : Jn) (wt : List Int) : Nat := (wt.map fun x => 2 * (nth (below n js) x).length - 1).sum
/-- the first pair that wants most -/
def IsFirst (es : List End) (l : List Int) (p : Int × Int) : Prop := p.1 ∈ l ∧ p.2 ∈ l ∧ p.1 ≤ p.2 ∧
  ∀ x ∈ l, ∀ y ∈ l, x ≤ y → wantI (nth es x) (nth es y) ≤ wantI (nth es p.1) (nth es p.2) ∧ ((x < p.1 ∨ (x = p.1 ∧ y < p.2)) → wantI (nth es x) (nth es y) < wantI (nth es p.1) (nth es p.2))
theorem IsFirst.uniq {es : List End} {l : List Int} {p q : Int × Int} (a : IsFirst es l p) (b : IsFirst es l q) : p = q := by
  obtain ⟨a1, a2, a3, a4⟩ := a
  obtain ⟨b1, b2, b3, b4⟩ := b
  obtain ⟨u1, u2⟩ := a4 _ b1 _ b2 b3
  obtain ⟨v1, v2⟩ := b4 _ a1 _ a2 a3
  obtain ⟨p1, p2⟩ := p
  obtain ⟨q1, q2⟩ := q
  simp only at *
  have : p1 = q1 ∧ p2 = q2 := by
    by_cases c : q1 < p1 ∨ (q1 = p1 ∧ q2 < p2)
    · have := u2 c; omega
    · by_cases d : p1 < q1 ∨ (p1 = q1 ∧ p2 < q2)
      · have := v2 d; omega
      · omega
  rw [this.1, this.2]
theorem IsFirst.of_mem {es : List End} {l m : List Int} {p : Int × Int} (a : IsFirst es l p) (e : ∀ x, x ∈ m ↔ x ∈ l) : IsFirst es m p :=
  ⟨(e _).mpr a.1, (e _).mpr a.2.1, a.2.2.1, fun x hx y hy c => a.2.2.2 x ((e x).mp hx) y ((e y).mp hy) c⟩
/-- the pairs of all joints -/
def PairsOf (es : List End) (js : Jn) (ps : List (Int × Int)) : Prop := ps.length = js.length ∧ ∀ k (_ : k < ps.length), IsFirst es (nth (below es.length js) ((es.length : Int) + k)) ps[k]
theorem PairsOf.uniq {es : List End} {js : Jn} {p q : List (Int × Int)} (a : PairsOf es js p) (b : PairsOf es js q) : p = q := by
  have h1 := a.1
  have h2 := b.1
  apply List.ext_getElem (by omega)
  intro k k1 k2
  exact (a.2 k k1).uniq (b.2 k k2)
theorem sorted_lt {l : List Int} (hs : l.Pairwise (· ≤ ·)) {a b : Nat} (ha : a < l.length) (hb : b < l.length) (h : l[a] < l[b]) : a < b := by
  by_cases c : a < b
  · exact c
  · by_cases d : a = b
    · subst d; omega
    · have := List.pairwise_iff_getElem.mp hs b a hb ha (by omega); omega
/-- a first pair there is -/
theorem lexFirst {w : Int → Int → Int} : ∀ (ps : List (Int × Int)), 0 < ps.length → ∃ p ∈ ps, ∀ q ∈ ps, w q.1 q.2 ≤ w p.1 p.2 ∧ ((q.1 < p.1 ∨ (q.1 = p.1 ∧ q.2 < p.2)) → w q.1 q.2 < w p.1 p.2)
  | [], h => by cases h
  | [p], _ => ⟨p, List.mem_singleton.mpr rfl, fun q hq => by rw [List.mem_singleton.mp hq]; exact ⟨Int.le_refl _, fun c => by omega⟩⟩
  | p :: r :: ps, _ => by
    obtain ⟨b, hb, hq⟩ := lexFirst (w := w) (r :: ps) (by simp)
    by_cases c : w b.1 b.2 < w p.1 p.2 ∨ (w b.1 b.2 = w p.1 p.2 ∧ (p.1 < b.1 ∨ (p.1 = b.1 ∧ p.2 < b.2)))
    · refine ⟨p, List.mem_cons_self .., fun q hq' => ?_⟩
      rcases List.mem_cons.mp hq' with rfl | hq'
      · exact ⟨Int.le_refl _, fun c => by omega⟩
      · obtain ⟨h1, h2⟩ := hq q hq'
        refine ⟨by omega, fun d => ?_⟩
        rcases c with c | ⟨c1, c2⟩
        · omega
        · have := h2 (by omega); omega
    · refine ⟨b, List.mem_cons_of_mem _ hb, fun q hq' => ?_⟩
      rcases List.mem_cons.mp hq' with rfl | hq'
      · refine ⟨by omega, fun d => by omega⟩
      · exact hq q hq'
theorem isFirst_ex (es : List End) {l : List Int} (h : 0 < l.length) : ∃ p, IsFirst es l p := by
  let ps := (l.flatMap fun x => l.map fun y => (x, y)).filter fun p => decide (p.1 ≤ p.2)
  have hm : ∀ x y, (x, y) ∈ ps ↔ x ∈ l ∧ y ∈ l ∧ x ≤ y := fun x y => by
    show (x, y) ∈ (l.flatMap fun x => l.map fun y => (x, y)).filter (fun p => decide (p.1 ≤ p.2)) ↔ _
    rw [List.mem_filter, List.mem_flatMap]
    constructor
    · rintro ⟨⟨a, ha, hb⟩, hc⟩
      obtain ⟨b, hb2, e⟩ := List.mem_map.mp hb
      have e1 : a = x := congrArg Prod.fst e
      have e2 : b = y := congrArg Prod.snd e
      rw [e1] at ha
      rw [e2] at hb2
      exact ⟨ha, hb2, of_decide_eq_true hc⟩
    · rintro ⟨ha, hb, hc⟩
      exact ⟨⟨x, ha, List.mem_map.mpr ⟨y, hb, rfl⟩⟩, decide_eq_true hc⟩
  have hp : 0 < ps.length := by
    have : (l[0], l[0]) ∈ ps := (hm _ _).mpr ⟨List.getElem_mem _, List.getElem_mem _, Int.le_refl _⟩
    exact List.length_pos_of_mem this
  obtain ⟨p, h1, h2⟩ := lexFirst (w := fun x y => wantI (nth es x) (nth es y)) ps hp
  obtain ⟨a, b, c⟩ := (hm p.1 p.2).mp h1
  exact ⟨p, a, b, c, fun x hx y hy d => h2 (x, y) ((hm x y).mpr ⟨hx, hy, d⟩)⟩
end L2.Ew
namespace L2.Ew
open PySem PySem.Spec PySem.SeqAt PyProof.Rows
section
variable {X : Cx} {a b : Expr} {pos : Pos} {ta tb : DE}
/-! ### a list display times an int, as a list that is changed -/
def mlK (R : List D → DH → Prop) (d e : D) (G : DH) : Prop := match d, e with
  | .lst x, .int k => k < 2 ^ 63 ∧ -(2 ^ 63) ≤ k ∧ x.length * k.toNat ≤ sizeLine ∧ R (List.replicate k.toNat x).flatten G
  | _, _ => False
def fMulL (ta tb : DE) : DF := fun s G R => ta s G fun d G1 => tb s G1 fun e G2 => mlK R d e G2
theorem pef_mulL (ha : PED X a ta) (hb : PED X b tb) : PEF X (.BinOp a .Mult b pos) (fMulL ta tb) := by
  refine ⟨(pe_op op_rep ha.out hb.out).weak fun σ H Q ⟨F, s, G, R, rs, rg, q, p⟩ => ?_⟩
  refine ⟨F, s, G, _, rs, rg, q, fun d G1 x H1 st rx rg1 q1 => ?_⟩
  refine ⟨F, s, G1, _, rs.step st, rg1, q1, fun e G2 y H2 st2 ry rg2 q2 => ?_⟩
  have rx2 := rx.step st2
  cases ry with
  | int k =>
    cases rx2 with
    | lst h n r => exact ⟨_, k, _, rfl, rfl, h, q2.2.1, q2.1, by rw [r.len]; exact q2.2.2.1, new_fresh (PostF.step p (st.trans st2)) rg2 (r.rep _) q2.2.2.2⟩
    | _ => exact q2.elim
  | _ => cases rx2 <;> exact q2.elim
instance {s : DS} {G : DH} {R : List D → DH → Prop} : Stp (fMulL ta tb s G R) (ta s G fun d G1 => tb s G1 fun e G2 => mlK R d e G2) := ⟨id⟩
theorem st_ml1 {R : List D → DH → Prop} {d : D} {k : Int} {G : DH} (h0 : k ≤ 10000) (h1 : -10000 ≤ k) (h : R (List.replicate k.toNat d) G) : mlK R (.lst [d]) (.int k) G := by
  refine ⟨by omega, by omega, ?_, ?_⟩
  · have : 10000 < sizeLine := size100000 (by omega)
    rw [List.length_singleton]; omega
  · have e : (List.replicate k.toNat [d]).flatten = List.replicate k.toNat d := by
      induction k.toNat with
      | zero => rfl
      | succ n ih => rw [List.replicate_succ, List.flatten_cons, ih]; rfl
    rw [e]; exact h
/-- a set item of a list of encodings -/
theorem st_gsM {α : Type} {en : α → D} {xs : List α} {S : DS → DH → Prop} {s : DS} {G : DH} {a : Addr} {i : Int} {v : α} (hg : G a = some (.lst (xs.map en))) (h0 : 0 ≤ i) (h1 : i < xs.length) (q : S s (uG G a (.lst ((xs.set i.toNat v).map en)))) : gsK (en v) s S (.ptr a) (.int i) G := by
  refine st_gsK (setV_lst hg (j := i.toNat) ?_) ?_
  · unfold ixN
    rw [List.length_map]
    simp only [h0, h1, if_true]
  · rw [List.map_set] at q; exact q
/-- a last pop takes the last -/
theorem st_popTook {α : Type} {en : α → D} {xs : List α} {G : DH} {Q : DK} {a : Addr} (hg : G a = some (.lst (xs.map en))) (h0 : 0 < xs.length) (h : ∀ x ys, Took xs x ys → Q (en x) (uG G a (.lst (ys.map en)))) : popK Q (.ptr a) G := by
  refine st_popM hg h0 fun x hx => ?_
  have e : xs.dropLast = xs.eraseIdx (xs.length - 1) := by
    rw [List.dropLast_eq_take, List.eraseIdx_eq_take_drop_succ, show xs.length - 1 + 1 = xs.length from by omega, List.drop_length, List.append_nil]
  have l1 : xs.length - 1 < xs.length := by omega
  rw [List.getElem?_eq_getElem l1] at hx
  rw [e, ← Option.some.inj hx]
  exact h _ _ (took_at l1)
/-- a whole number or none -/
def oD : Option Int → D
  | none => .non
  | some x => .int x
theorem sorted_uniq : ∀ {a b : List Int}, a.Perm b → a.Pairwise (· ≤ ·) → b.Pairwise (· ≤ ·) → a = b
  | [], b, p, _, _ => (List.perm_nil.mp p.symm).symm
  | x :: a, [], p, _, _ => absurd p.length_eq (by simp)
  | x :: a, y :: b, p, h1, h2 => by
    have hx : x = y := by
      have m1 := p.mem_iff.mp (List.mem_cons_self (a := x) (l := a))
      have m2 := p.mem_iff.mpr (List.mem_cons_self (a := y) (l := b))
      have c1 : y ≤ x := by
        rcases List.mem_cons.mp m1 with e | e
        · omega
        · exact (List.pairwise_cons.mp h2).1 x e
      have c2 : x ≤ y := by
        rcases List.mem_cons.mp m2 with e | e
        · omega
        · exact (List.pairwise_cons.mp h1).1 y e
      omega
    subst hx
    rw [sorted_uniq ((List.perm_cons x).mp p) (List.pairwise_cons.mp h1).2 (List.pairwise_cons.mp h2).2]
end
end L2.Ew
namespace L2.Ew
open PySem PySem.Spec PySem.SeqAt PyProof.Rows
theorem nth_set {α : Type} [Inhabited α] {xs : List α} {j x : Int} {v : α} (h0 : 0 ≤ x) (h1 : x < xs.length) (j0 : 0 ≤ j) (j1 : j < xs.length) : nth (xs.set j.toNat v) x = if x = j then v else nth xs x := by
  have a := nth_nat (show x.toNat < (xs.set j.toNat v).length by rw [List.length_set]; omega)
  have b := nth_nat (show x.toNat < xs.length by omega)
  rw [show ((x.toNat : Nat) : Int) = x from by omega] at a b
  rw [a, b, List.getElem_set]
  by_cases c : x = j
  · subst c; simp
  · rw [if_neg (by omega), if_neg c]
theorem nth_rep {α : Type} [Inhabited α] {m : Nat} {v : α} {x : Int} (h0 : 0 ≤ x) (h1 : x < m) : nth (List.replicate m v) x = v := by
  have a := nth_nat (show x.toNat < (List.replicate m v).length by rw [List.length_replicate]; omega)
  rw [show ((x.toNat : Nat) : Int) = x from by omega] at a
  rw [a, List.getElem_replicate]
/-- a knot stands in one row alone -/
theorem side_once {n : Nat} {js : Jn} (J : JoinOk n js) {j k : Nat} {q r : Int × Int} {x : Int} (hj : js[j]? = some q) (hk : js[k]? = some r) (hq : x = q.1 ∨ x = q.2) (hr : x = r.1 ∨ x = r.2) (h : j < k) : False := by
  obtain ⟨l, hl, m1, m2⟩ := J.sides hk
  have nd := hl.perm.nodup_iff.mpr (upto_nodup _)
  have xl : x ∈ l := by rcases hr with rfl | rfl <;> assumption
  have xk : x ∈ knotsOf (js.take k) := by
    have jl := (List.getElem?_eq_some_iff.mp hj)
    obtain ⟨jl, ej⟩ := jl
    refine List.mem_flatMap.mpr ⟨q, ?_, ?_⟩
    · rw [← ej]; exact List.mem_take_iff_getElem.mpr ⟨j, by omega, rfl⟩
    · unfold pr; rcases hq with rfl | rfl <;> simp
  exact (List.nodup_append.mp nd).2.2 x xk x xl rfl
theorem below_take {n : Nat} {js : Jn} {i : Nat} (hi : i ≤ js.length) {x : Int} (x0 : 0 ≤ x) (x1 : x < (n : Int) + i) : nth (below n (js.take i)) x = nth (below n js) x := by
  have kn : ∀ m, i ≤ m → m ≤ js.length → nth (below n (js.take m)) x = nth (below n (js.take i)) x := by
    intro m hm
    induction m with
    | zero => intro _; rw [show i = 0 from by omega]
    | succ m ih =>
      intro hm2
      by_cases c : i = m + 1
      · rw [c]
      · have e : js.take (m + 1) = js.take m ++ [js[m]] := by rw [List.take_succ, List.getElem?_eq_getElem (by omega)]; rfl
        rw [e, below_snoc, nth_append_left x0 (by rw [below_len, List.length_take]; omega)]
        exact ih (by omega) (by omega)
  have := kn js.length hi (Nat.le_refl _)
  rw [List.take_length] at this
  exact this.symm
theorem flat_once {α : Type} [DecidableEq α] {f : Int → List α} {l : List Int} (hn : (l.flatMap f).Nodup) {x s : Int} (hx : x ∈ l) (hs : s ∈ l) {e : α} (ex : e ∈ f x) (es : e ∈ f s) : x = s := by
  by_cases c : x = s
  · exact c
  · have h1 : l.Perm (x :: l.erase x) := List.perm_cons_erase hx
    have h2 : s ∈ l.erase x := by
      rcases List.mem_cons.mp (h1.mem_iff.mp hs) with e | e
      · exact absurd e.symm c
      · exact e
    have h3 := (h1.flatMap_right f).nodup_iff.mp hn
    rw [List.flatMap_cons] at h3
    exact absurd rfl ((List.nodup_append.mp h3).2.2 e ex e (List.mem_flatMap.mpr ⟨s, h2, es⟩))
theorem filter_upto {p : Int → Bool} {b : Int} (b0 : 0 ≤ b) : ∀ m : Nat, (∀ z, b ≤ z → z < b + m → p z = false) → (upto (b + m)).filter p = (upto b).filter p
  | 0, _ => by rw [show b + ((0 : Nat) : Int) = b from by omega]
  | m + 1, h => by
    rw [show b + ((m + 1 : Nat) : Int) = (b + m) + 1 from by omega, upto_succ (by omega), List.filter_append, filter_upto b0 m fun z h1 h2 => h z h1 (by omega)]
    simp [h (b + m) (by omega) (by omega)]
/-- the knots that an end is beneath -/
def upOf (n : Nat) (js : Jn) (e : Int) (b : Int) : List Int := (upto b).filter fun x => decide (e ∈ nth (below n js) x)
theorem up_next {n : Nat} {js : Jn} (J : JoinOk n js) {x e : Int} (x0 : 0 ≤ x) (x1 : x < (n : Int) + js.length) (he : e ∈ nth (below n js) x) {k : Nat} {q : Int × Int} (hk : js[k]? = some q) (hq : x = q.1 ∨ x = q.2) :
    e ∈ nth (below n js) ((n : Int) + k) ∧ x < (n : Int) + k ∧ upOf n js e ((n : Int) + k) = upOf n js e (x + 1) := by
  obtain ⟨⟨a0, a1⟩, ⟨c0, c1⟩, _⟩ := J.rows k q hk
  have xk : x < (n : Int) + k := by rcases hq with rfl | rfl <;> assumption
  refine ⟨?_, xk, ?_⟩
  · rw [below_at J hk]; rcases hq with rfl | rfl
    · exact List.mem_append_left _ he
    · exact List.mem_append_right _ he
  · have e1 : (n : Int) + k = (x + 1) + (((n : Int) + k - (x + 1)).toNat : Nat) := by omega
    unfold upOf
    rw [e1]
    refine filter_upto (by omega) _ fun z z0 z1 => ?_
    refine decide_eq_false fun hz => ?_
    have z2 : z < (n : Int) + k := by omega
    by_cases zn : z < n
    · rw [below_end js (by omega) zn, List.mem_singleton] at hz
      rw [below_end js x0 (by omega), List.mem_singleton] at he
      omega
    · obtain ⟨j, hj⟩ : ∃ j : Nat, z = (n : Int) + j := ⟨(z - n).toNat, by omega⟩
      have kl := (List.getElem?_eq_some_iff.mp hk).1
      have jl : j < js.length := by omega
      have hr : js[j]? = some js[j] := List.getElem?_eq_getElem jl
      rw [hj, below_at J hr] at hz
      obtain ⟨⟨b0, b1⟩, ⟨d0, d1⟩, _⟩ := J.rows j _ hr
      obtain ⟨l, hl, m1, m2⟩ := J.sides hr
      have hlen : (js.take j).length = j := by rw [List.length_take]; omega
      have xl : x ∈ l := by
        have hm : x ∈ knotsOf (js.take j) ++ l := hl.perm.mem_iff.mpr (mem_upto.mpr ⟨x0, by rw [hlen]; omega⟩)
        rcases List.mem_append.mp hm with hm | hm
        · obtain ⟨r, hr1, hr2⟩ := List.mem_flatMap.mp hm
          obtain ⟨i, hi, ei⟩ := List.mem_take_iff_getElem.mp hr1
          have hi2 : js[i]? = some r := by rw [List.getElem?_eq_getElem (by omega), ei]
          exact (side_once J hi2 hk (by unfold pr at hr2; simpa using hr2) hq (by omega)).elim
        · exact hm
      have nd := hl.flat.nodup_iff.mpr (upto_nodup _)
      have fx : e ∈ nth (below n (js.take j)) x := by rw [below_take (by omega) x0 (by omega)]; exact he
      rcases List.mem_append.mp hz with hz | hz
      · have := flat_once nd xl m1 fx (by rw [below_take (by omega) b0 b1]; exact hz)
        exact side_once J hr hk (.inl this) hq (by omega)
      · have := flat_once nd xl m2 fx (by rw [below_take (by omega) d0 d1]; exact hz)
        exact side_once J hr hk (.inr this) hq (by omega)
theorem up_top {n : Nat} {js : Jn} (J : JoinOk n js) {x : Int} (x0 : 0 ≤ x) (x1 : x < (n : Int) + js.length) (h : ∀ (k : Nat) (p : Int × Int), js[k]? = some p → x ≠ p.1 ∧ x ≠ p.2) : x = (n : Int) + js.length - 1 := by
  rcases List.mem_append.mp (J.perm.mem_iff.mpr (mem_upto.mpr ⟨x0, x1⟩)) with hm | hm
  · obtain ⟨r, hr1, hr2⟩ := List.mem_flatMap.mp hm
    obtain ⟨i, hi, ei⟩ := List.getElem_of_mem hr1
    have := h i r (by rw [List.getElem?_eq_getElem hi, ei])
    unfold pr at hr2
    simp only [List.mem_cons, List.not_mem_nil, or_false] at hr2
    omega
  · exact List.mem_singleton.mp hm
theorem up_add {n : Nat} {js : Jn} {e x : Int} (x0 : 0 ≤ x) (he : e ∈ nth (below n js) x) : upOf n js e (x + 1) = upOf n js e x ++ [x] := by
  unfold upOf
  rw [upto_succ x0, List.filter_append]
  simp [he]
theorem up_start {n : Nat} (js : Jn) {e : Int} (e0 : 0 ≤ e) (e1 : e < n) : upOf n js e e = [] := by
  unfold upOf
  refine List.filter_eq_nil_iff.mpr fun z hz => ?_
  obtain ⟨z0, z1⟩ := mem_upto.mp hz
  rw [below_end js z0 (by omega)]
  simp only [List.mem_singleton, decide_eq_true_eq]
  omega
theorem dep_lstM {α : Type} {en : α → D} {k : Nat} (h : ∀ x, depD (en x) ≤ k) (xs : List α) : depD (.lst (xs.map en)) ≤ k + 1 := by
  show PyData.depthAll (toPs (xs.map en)) + 1 ≤ k + 1
  refine Nat.succ_le_succ (depAll_le fun d hd => ?_)
  obtain ⟨x, _, rfl⟩ := List.mem_map.mp hd
  exact h x
theorem dep_ints (l : List Int) : depD (.lst (l.map D.int)) ≤ 1 := dep_lstM (k := 0) (fun _ => Nat.le_refl _) l
theorem dep_intT (l : List Int) : depD (.tup (l.map D.int)) ≤ 1 := dep_tupM (k := 0) (fun _ => Nat.le_refl _) l
theorem upto_sorted (n : Int) : (upto n).Pairwise (· ≤ ·) := by
  unfold upto
  rw [List.pairwise_map]
  exact List.Pairwise.imp (fun h => by omega) List.pairwise_lt_range
theorem upOf_sorted (n : Nat) (js : Jn) (e b : Int) : (upOf n js e b).Pairwise (· ≤ ·) := (upto_sorted b).filter _
end L2.Ew

set_option Elab.async false
set_option linter.all false
set_option maxRecDepth 100000
set_option maxHeartbeats 4000000
/-! Dicts by whole numbers. -/
namespace L2.Ew
open PySem PySem.Spec PySem.SeqAt PyProof.Rows
section
variable {G : DH} {Q : DK} {a p : Addr} {d e v : D} {k k' : Key} {kvs : List (Key × D)} {s : DS} {S : DS → DH → Prop}
abbrev kD (kvs : List (Key × D)) : D := .dk (kvs.map Prod.fst) (kvs.map Prod.snd)
theorem zip_kD : ∀ kvs : List (Key × D), (kvs.map Prod.fst).zip (kvs.map Prod.snd) = kvs
  | [] => rfl
  | (k, v) :: l => by rw [List.map_cons, List.map_cons, List.zip_cons_cons, zip_kD l]
theorem st_inKV (hk : keyD d = some k) (h : Q (.bl (valD kvs k).isSome) G) : oIn2 d (kD kvs) G Q := by
  unfold oIn2 inDk
  simp only [hk, Option.map_some, zip_kD]
  exact h
theorem st_ixKV (hk : keyD e = some k) (hv : valD kvs k = some v) (q : Q v G) : dIx (kD kvs) e G Q := by
  refine st_ix ?_ (fun z hz => nomatch hz) q
  simp only [ixV, res, hk, Option.bind_some, zip_kD, hv]
theorem st_gsKD (hg : G a = some (.dk kvs)) (hl : kvs.length ≤ 100000) (hk : keyD e = some k) (q : S s (uG G a (.dk (putD kvs k v)))) : gsK v s S (.ptr a) e G := by
  refine st_gsK (G2 := uG G a (.dk (putD kvs k v))) ?_ q
  simp only [setV, hg, if_pos hl, hk, Option.map_some]
theorem RetOk.frzK {R : DK} (hp : G p = none) (h : R (kD kvs) G) : RetOk R (.ptr p) (uG G p (.dk kvs)) := ⟨_, G, Sub.refl.new hp, .dk uG_same hp (FrzL.refl _), h⟩
instance : Stp (dDisp0 s G Q) (∀ p, G p = none → Q (.ptr p) (uG G p (.dk []))) := ⟨id⟩
theorem put_len (v : D) : (putD kvs k v).length ≤ kvs.length + 1 := by
  unfold putD
  split
  · rw [List.length_map]; omega
  · rw [List.length_append]; exact Nat.le_refl _
theorem valD_put (v : D) : ∀ {kvs : List (Key × D)}, valD (putD kvs k v) k' = if k' = k then some v else valD kvs k' := by
  intro kvs
  have e1 : ∀ l : List (Key × D), valD (l.map fun kv => if kv.1 = k then (kv.1, v) else kv) k' = if k' = k ∧ (l.any fun kv => decide (kv.1 = k)) = true then some v else valD l k' := by
    intro l
    induction l with
    | nil => simp [valD]
    | cons x l ih =>
      unfold valD at ih ⊢
      rw [List.map_cons, List.find?_cons, List.find?_cons, List.any_cons]
      by_cases c : x.1 = k
      · rw [if_pos c]
        by_cases c2 : k' = k
        · subst c2; simp [c]
        · have : ¬ x.1 = k' := fun z => c2 (by rw [← z]; exact c)
          have d1 : decide (x.1 = k') = false := decide_eq_false this
          show Option.map Prod.snd (match decide (x.1 = k') with | true => some (x.1, v) | false => List.find? _ _) = if k' = k ∧ _ then some v else Option.map Prod.snd (match decide (x.1 = k') with | true => some x | false => List.find? _ _)
          rw [d1]
          show Option.map Prod.snd (List.find? _ _) = if _ then some v else Option.map Prod.snd (List.find? _ _)
          rw [ih]; simp [c2]
      · rw [if_neg c]
        by_cases c2 : x.1 = k'
        · have : ¬ k' = k := fun z => c (by rw [c2]; exact z)
          simp [c2, this]
        · have d1 : decide (x.1 = k') = false := decide_eq_false c2
          show Option.map Prod.snd (match decide (x.1 = k') with | true => some x | false => List.find? _ _) = if _ then some v else Option.map Prod.snd (match decide (x.1 = k') with | true => some x | false => List.find? _ _)
          rw [d1]
          show Option.map Prod.snd (List.find? _ _) = if _ then some v else Option.map Prod.snd (List.find? _ _)
          have d2 : decide (x.1 = k) = false := decide_eq_false c
          rw [ih]
          simp only [d2, Bool.false_or]
          done
  unfold putD
  split
  · rename_i h
    rw [e1]
    by_cases c : k' = k
    · simp [c, h]
    · simp [c]
  · rename_i h
    unfold valD
    rw [List.find?_append]
    have hn : ∀ x ∈ kvs, ¬ x.1 = k := fun x hx z => h (List.any_eq_true.mpr ⟨x, hx, decide_eq_true z⟩)
    by_cases c : k' = k
    · subst c
      have : kvs.find? (fun p => decide (p.1 = k')) = none := List.find?_eq_none.mpr fun x hx => by simpa using hn x hx
      simp [this]
    · have : ¬ k = k' := fun z => c z.symm
      simp only [if_neg c]
      cases kvs.find? (fun p => decide (p.1 = k')) with
      | none => simp [this]
      | some x => simp
/-- the joint above each knot, as a dict -/
def AboveK (n : Nat) (js : Jn) (i : Nat) (kvs : List (Key × D)) : Prop := kvs.length ≤ 2 * i ∧ ∀ x : Int, 0 ≤ x → x < (n : Int) + js.length →
  (valD kvs (.inl x) = none ∧ ∀ (k : Nat) (p : Int × Int), k < i → js[k]? = some p → x ≠ p.1 ∧ x ≠ p.2) ∨ ∃ (k : Nat) (p : Int × Int), js[k]? = some p ∧ (x = p.1 ∨ x = p.2) ∧ valD kvs (.inl x) = some (.int ((n : Int) + (k : Nat)))
theorem AboveK.start (n : Nat) (js : Jn) : AboveK n js 0 [] := ⟨Nat.le_refl _, fun x _ _ => .inl ⟨rfl, fun k p z => absurd z (Nat.not_lt_zero _)⟩⟩
theorem AboveK.more {n : Nat} {js : Jn} {i : Nat} {q : Int × Int} (h : AboveK n js i kvs) (hq : js[i]? = some q) : AboveK n js (i + 1) (putD (putD kvs (.inl q.1) (.int ((n : Int) + i))) (.inl q.2) (.int ((n : Int) + i))) := by
  obtain ⟨hl, ha⟩ := h
  refine ⟨?_, fun x x0 x1 => ?_⟩
  · have a := put_len (kvs := kvs) (k := .inl q.1) (.int ((n : Int) + i))
    have b := put_len (kvs := putD kvs (.inl q.1) (.int ((n : Int) + i))) (k := .inl q.2) (.int ((n : Int) + i))
    omega
  · rw [valD_put, valD_put]
    by_cases c2 : x = q.2
    · rw [if_pos (by rw [c2])]; exact .inr ⟨i, q, hq, .inr c2, rfl⟩
    · rw [if_neg (fun z => c2 (Sum.inl.inj z))]
      by_cases c1 : x = q.1
      · rw [if_pos (by rw [c1])]; exact .inr ⟨i, q, hq, .inl c1, rfl⟩
      · rw [if_neg (fun z => c1 (Sum.inl.inj z))]
        rcases ha x x0 x1 with ⟨z1, z2⟩ | z
        · refine .inl ⟨z1, fun k r hk hr => ?_⟩
          by_cases c3 : k = i
          · subst c3
            rw [hq] at hr
            rw [← Option.some.inj hr]
            exact ⟨c1, c2⟩
          · exact z2 k r (by omega) hr
        · exact .inr z
/-- the knots from x on that e is beneath, ahead of b -/
def upFrom (n : Nat) (js : Jn) (e x b : Int) : List Int := (upOf n js e b).filter fun z => decide (x ≤ z)
theorem upFrom_start (n : Nat) (js : Jn) (e x : Int) : upFrom n js e x x = [] := by
  unfold upFrom upOf
  refine List.filter_eq_nil_iff.mpr fun z hz => ?_
  have := (mem_upto.mp (List.mem_filter.mp hz).1).2
  simp only [decide_eq_true_eq]
  omega
theorem upFrom_add {n : Nat} {js : Jn} {e x b : Int} (h0 : 0 ≤ b) (hx : x ≤ b) (he : e ∈ nth (below n js) b) : upFrom n js e x (b + 1) = upFrom n js e x b ++ [b] := by
  unfold upFrom
  rw [up_add h0 he, List.filter_append]
  simp [hx]
theorem upFrom_next {n : Nat} {js : Jn} (J : JoinOk n js) {x b e : Int} (x0 : 0 ≤ b) (x1 : b < (n : Int) + js.length) (hx : x ≤ b) (he : e ∈ nth (below n js) b) {k : Nat} {q : Int × Int} (hk : js[k]? = some q) (hq : b = q.1 ∨ b = q.2) :
    e ∈ nth (below n js) ((n : Int) + k) ∧ b < (n : Int) + k ∧ upFrom n js e x ((n : Int) + k) = upFrom n js e x b ++ [b] := by
  obtain ⟨u1, u2, u3⟩ := up_next J x0 x1 he hk hq
  refine ⟨u1, u2, ?_⟩
  rw [← upFrom_add x0 hx he]
  unfold upFrom
  rw [u3]
end
end L2.Ew
namespace L2.Ew
/-- what an end reaches: its chain's lengths but the root's, and its start -/
def reachI (es : List End) (js : Jn) (g : Int) (ls : List Int) (e : Int) : Int :=
  (((upFrom es.length js e e ((es.length : Int) + js.length)).filter fun k => decide (k < (ls.length : Int))).map (nth ls)).sum + (nth es e).s * g
end L2.Ew
namespace L2.Ew
/-- the joint over each knot but the root, as a list -/
def OverOk (n : Nat) (js : Jn) (i : Nat) (ov : List Int) : Prop := ov.length + 1 = n + js.length ∧ ∀ (k : Nat) (p : Int × Int), k < i → js[k]? = some p → ∀ x : Int, x = p.1 ∨ x = p.2 → nth ov x = (n : Int) + (k : Nat)
theorem OverOk.more {n : Nat} {js : Jn} {i : Nat} {ov : List Int} {q : Int × Int} (J : JoinOk n js) (h : OverOk n js i ov) (hq : js[i]? = some q) : OverOk n js (i + 1) ((ov.set q.1.toNat ((n : Int) + i)).set q.2.toNat ((n : Int) + i)) := by
  obtain ⟨hl, ha⟩ := h
  have il := (List.getElem?_eq_some_iff.mp hq).1
  obtain ⟨⟨a0, a1⟩, ⟨b0, b1⟩, hne⟩ := J.rows i q hq
  refine ⟨by rw [List.length_set, List.length_set]; exact hl, fun k p hk hp x hx => ?_⟩
  have kl := (List.getElem?_eq_some_iff.mp hp).1
  obtain ⟨⟨c0, c1⟩, ⟨d0, d1⟩, _⟩ := J.rows k p hp
  have x0 : 0 ≤ x := by rcases hx with rfl | rfl <;> assumption
  have x1 : x < (n : Int) + k := by rcases hx with rfl | rfl <;> assumption
  rw [nth_set x0 (by rw [List.length_set]; omega) b0 (by rw [List.length_set]; omega), nth_set x0 (by omega) a0 (by omega)]
  by_cases c : k = i
  · subst c
    rw [hq] at hp
    cases Option.some.inj hp
    rcases hx with rfl | rfl
    · split <;> simp
    · simp
  · have n1 : ¬ x = q.2 := fun z => side_once J hp hq hx (.inr z) (by omega)
    have n2 : ¬ x = q.1 := fun z => side_once J hp hq hx (.inl z) (by omega)
    rw [if_neg n1, if_neg n2]
    exact ha k p (by omega) hp x hx
end L2.Ew
namespace L2.Ew
theorem mem_upFrom {n : Nat} {js : Jn} {e x b z : Int} : z ∈ upFrom n js e x b ↔ (0 ≤ z ∧ z < b) ∧ e ∈ nth (below n js) z ∧ x ≤ z := by
  unfold upFrom upOf
  rw [List.mem_filter, List.mem_filter, mem_upto, decide_eq_true_eq, decide_eq_true_eq, and_assoc]
/-- the root is above all -/
theorem root_up {n : Nat} {js : Jn} (J : JoinOk n js) {e x : Int} (e0 : 0 ≤ e) (e1 : e < n) (hx : x < (n : Int) + js.length) : (n : Int) + js.length - 1 ∈ upFrom n js e x ((n : Int) + js.length) := by
  have := J.len
  exact mem_upFrom.mpr ⟨by omega, J.root.mem_iff.mpr (mem_upto.mpr ⟨e0, e1⟩), by omega⟩
end L2.Ew

set_option Elab.async false
set_option linter.all false
set_option maxRecDepth 100000
set_option maxHeartbeats 4000000
/-! Sum, max and min of a tuple of whole numbers. -/
namespace L2.Ew
open PySem PySem.Spec PySem.SeqAt PyProof.Rows
section
variable {prog : Program} {w : World} {A : Around} {E : Value → Shared → Prop} {s : Shared} {l : Addr} {xs : Array (Int × Tok)}
theorem iter_intTup {Q : Value → Shared → Prop} (hl : s.heap.IsTuple l (intItems xs))
    (h : ∀ s₂ : Shared, s₂ = { s with heap := s.heap.push { cls := .type "tuple_iterator", data := .fields #[.ref l, .int 0 0] } } →
      (s₂.heap.IsTupleIter s.heap.objs.size l 0 ∧ s₂.heap.IsTuple l (intItems xs)) → (∀ b ∈ [s.heap.objs.size, l], b < s₂.heap.objs.size) → l ≠ s.heap.objs.size → Q (.ref s.heap.objs.size) s₂) :
    wpAny (model prog w) A (pyIter (.ref l)) Q E s := by
  have hlt : l < s.heap.objs.size := by obtain ⟨_, e, _⟩ := hl; exact Heap.lt_size e
  refine wpAny_pyIter_tuple hl (h _ rfl ⟨⟨_, Heap.get?_push_size _ rfl, rfl, rfl⟩, hl.push _⟩ (fun b hb => ?_) (Nat.ne_of_lt hlt))
  show b < (s.heap.push _).objs.size
  rw [Heap.size_push]
  rcases List.mem_cons.mp hb with rfl | hb
  · exact Nat.lt_succ_self _
  · rcases List.mem_cons.mp hb with rfl | hb
    · exact Nat.lt_succ_of_lt hlt
    · cases hb
theorem old_keptT {h' : Heap} (hk : ∀ b o, b ∉ [s.heap.objs.size] → (s.heap.push { cls := .type "tuple_iterator", data := .fields #[.ref l, .int 0 0] }).get? b = some o → h'.get? b = some o) :
    ∀ b o, s.heap.get? b = some o → h'.get? b = some o := fun b o e => by
  refine hk b o (fun hm => ?_) (Heap.get?_push_of_some _ e)
  rcases List.mem_cons.mp hm with e1 | hm
  · exact absurd (e1 ▸ Heap.lt_size e) (Nat.lt_irrefl _)
  · cases hm
theorem max_intTup {Q : Value → Shared → Prop} (hh : A.handled = none) (hl : s.heap.IsTuple l (intItems xs)) (hne : 0 < xs.size)
    (h : ∀ v h' tk, (intItems xs)[argBest (fun i j => decide (numAt xs i > numAt xs j)) (xs.size - 1)]? = some v → (∀ b o, s.heap.get? b = some o → h'.get? b = some o) → Q v { s with heap := h', toks := tk }) :
    wpAny (model prog w) A (call (.builtin "max") [.ref l]) Q E s := by
  refine call_max_walk (iter_intTup hl fun s₂ e st hfp hlI => ?_)
  subst e
  refine ⟨_, _, _, _, _, _, _, rfl, Walks.tuple (A := A.in1) hh _ l hlI (intItems xs), st, hfp, by simpa [intItems] using hne, CmpOf.ints_gt (numAt xs) (fun _ _ => intItems_at), fun v h' tk hP hk => ?_⟩
  exact h v h' tk (by simpa [intItems] using hP) (old_keptT hk)
theorem min_intTup {Q : Value → Shared → Prop} (hh : A.handled = none) (hl : s.heap.IsTuple l (intItems xs)) (hne : 0 < xs.size)
    (h : ∀ v h' tk, (intItems xs)[argBest (fun i j => decide (numAt xs i < numAt xs j)) (xs.size - 1)]? = some v → (∀ b o, s.heap.get? b = some o → h'.get? b = some o) → Q v { s with heap := h', toks := tk }) :
    wpAny (model prog w) A (call (.builtin "min") [.ref l]) Q E s := by
  refine call_min_walk (iter_intTup hl fun s₂ e st hfp hlI => ?_)
  subst e
  refine ⟨_, _, _, _, _, _, _, rfl, Walks.tuple (A := A.in1) hh _ l hlI (intItems xs), st, hfp, by simpa [intItems] using hne, CmpOf.ints_lt (numAt xs) (fun _ _ => intItems_at), fun v h' tk hP hk => ?_⟩
  exact h v h' tk (by simpa [intItems] using hP) (old_keptT hk)
theorem sum_intTupG {Q : Value → Shared → Prop} (hh : A.handled = none) (hl : s.heap.IsTuple l (intItems xs))
    (h : ∀ h' tk t', (∀ b o, s.heap.get? b = some o → h'.get? b = some o) → Q (.int (preSum (numAt xs) xs.size) t') { s with heap := h', toks := tk }) :
    wpAny (model prog w) A (call (.builtin "sum") [.ref l]) Q E s := by
  refine call_sum_walkG (iter_intTup hl fun s₂ e st hfp hlI => ?_)
  subst e
  refine ⟨_, _, _, _, _, _, numAt xs, rfl, Walks.tuple (A := A.in1) hh _ l hlI (intItems xs), st, hfp, (fun _ _ => intItems_at), fun h' tk t' hk => ?_⟩
  have := h h' tk t' (old_keptT hk)
  simpa [intItems] using this
end
end L2.Ew
namespace L2.Ew
open PySem PySem.Spec PySem.SeqAt PyProof.Rows
section
variable {prog : Program} {w : World} {A : Around} {E : Value → Shared → Prop} {s : Shared} {l : Addr} {its : List Value} {ns : List Int} {Q : Value → Shared → Prop}
theorem sum_rawT (hh : A.handled = none) (hl : s.heap.IsTuple l its.toArray) (hi : IntsAre its ns)
    (h : ∀ h' tk t', (∀ b o, s.heap.get? b = some o → h'.get? b = some o) → Q (.int ns.sum t') { s with heap := h', toks := tk }) : wpAny (model prog w) A (call (.builtin "sum") [.ref l]) Q E s := by
  obtain ⟨xs, e⟩ := hi.allInts.items
  have hn : numsOf (intItems xs).toList = ns := by rw [← e]; exact hi.numsOf
  rw [nums_intItems] at hn
  rw [e] at hl
  refine sum_intTupG hh hl fun h' tk t' hk => ?_
  have := h h' tk t' hk
  rw [preSum_eq, List.take_of_length_le (by simp), hn]; exact this
theorem max_rawT (hh : A.handled = none) (hl : s.heap.IsTuple l its.toArray) (hi : IntsAre its ns) (hne : 0 < ns.length)
    (h : ∀ h' tk M t', (∀ b o, s.heap.get? b = some o → h'.get? b = some o) → M ∈ ns → (∀ a, a ∈ ns → a ≤ M) → Q (.int M t') { s with heap := h', toks := tk }) : wpAny (model prog w) A (call (.builtin "max") [.ref l]) Q E s := by
  obtain ⟨xs, e⟩ := hi.allInts.items
  have hn : numsOf (intItems xs).toList = ns := by rw [← e]; exact hi.numsOf
  rw [nums_intItems] at hn
  subst hn
  rw [e] at hl
  have hsz : 0 < xs.size := by simpa using hne
  refine max_intTup hh hl hsz fun v h' tk hv hk => ?_
  obtain ⟨t, rfl⟩ := intItems_at hv
  obtain ⟨h1, h2⟩ := argBest_gt (numAt xs) (xs.size - 1)
  refine h h' tk _ t hk ?_ fun a ha => ?_
  · rw [numAt_eq]; exact PySem.getD_mem (by rw [List.length_map, Array.length_toList]; omega)
  · obtain ⟨j, hj, rfl⟩ := mem_getD ha
    rw [List.length_map, Array.length_toList] at hj
    rw [← numAt_eq]; exact h2 j (by omega)
theorem min_rawT (hh : A.handled = none) (hl : s.heap.IsTuple l its.toArray) (hi : IntsAre its ns) (hne : 0 < ns.length)
    (h : ∀ h' tk M t', (∀ b o, s.heap.get? b = some o → h'.get? b = some o) → M ∈ ns → (∀ a, a ∈ ns → M ≤ a) → Q (.int M t') { s with heap := h', toks := tk }) : wpAny (model prog w) A (call (.builtin "min") [.ref l]) Q E s := by
  obtain ⟨xs, e⟩ := hi.allInts.items
  have hn : numsOf (intItems xs).toList = ns := by rw [← e]; exact hi.numsOf
  rw [nums_intItems] at hn
  subst hn
  rw [e] at hl
  have hsz : 0 < xs.size := by simpa using hne
  refine min_intTup hh hl hsz fun v h' tk hv hk => ?_
  obtain ⟨t, rfl⟩ := intItems_at hv
  obtain ⟨h1, h2⟩ := argBest_lt (numAt xs) (xs.size - 1)
  refine h h' tk _ t hk ?_ fun a ha => ?_
  · rw [numAt_eq]; exact PySem.getD_mem (by rw [List.length_map, Array.length_toList]; omega)
  · obtain ⟨j, hj, rfl⟩ := mem_getD ha
    rw [List.length_map, Array.length_toList] at hj
    rw [← numAt_eq]; exact h2 j (by omega)
end
section
variable {X : Cx} {G : DH} {Q : DK} {es : List D}
def cTupI (C : List Int → Prop) (f : List Int → DK → DH → Prop) (c : DRs) : DRs := fun ds G Q => match ds with
  | [.tup es] => match intsD es with
    | some ns => C ns ∧ f ns Q G
    | none => False
  | _ => c ds G Q
def cSum2 : DRs := cTupI (fun _ => True) (fun ns Q G => Q (.int ns.sum) G) cSum
def cMaxL2 : DRs := cTupI (fun ns => 0 < ns.length) (fun ns Q G => ∀ m, m ∈ ns → (∀ y, y ∈ ns → y ≤ m) → Q (.int m) G) cMaxL
def cMinL2 : DRs := cTupI (fun ns => 0 < ns.length) (fun ns Q G => ∀ m, m ∈ ns → (∀ y, y ∈ ns → m ≤ y) → Q (.int m) G) cMinL
theorem cdSum2 (hc : X.calm = true) : CallD X (.builtin "sum") cSum2 := by
  refine ⟨fun pins s σ H xs us Q I r ⟨F, ds, G, R, rx, rg, q, p⟩ => ?_⟩
  unfold cSum2 cTupI at q
  split at q
  · split at q <;> try exact q.elim
    rename_i es _ ns hn
    cases rx with
    | cons r1 r2 =>
      cases r2
      cases r1 with
      | tup h n r' =>
        rw [intsD_eq hn] at r'
        rw [r'.ints_of] at h
        obtain ⟨its, rv, hl, _⟩ := I.tuple (SqT.of h)
        rw [Vals.ref1 r]
        exact sum_rawT (I.ok.hd hc) hl rv.ints fun h' tk t' hk => ⟨.int _, H, I.kept hk, ⟨_, rfl⟩, p.here rg (.int _) q.2⟩
  · exact (cdSum hc).out pins s σ H xs us Q I r ⟨F, ds, G, R, rx, rg, q, p⟩
theorem cdMaxL2 (hc : X.calm = true) : CallD X (.builtin "max") cMaxL2 := by
  refine ⟨fun pins s σ H xs us Q I r ⟨F, ds, G, R, rx, rg, q, p⟩ => ?_⟩
  unfold cMaxL2 cTupI at q
  split at q
  · split at q <;> try exact q.elim
    rename_i es _ ns hn
    cases rx with
    | cons r1 r2 =>
      cases r2
      cases r1 with
      | tup h n r' =>
        rw [intsD_eq hn] at r'
        rw [r'.ints_of] at h
        obtain ⟨its, rv, hl, _⟩ := I.tuple (SqT.of h)
        rw [Vals.ref1 r]
        exact max_rawT (I.ok.hd hc) hl rv.ints q.1 fun h' tk m t' hk h1 h2 => ⟨.int _, H, I.kept hk, ⟨_, rfl⟩, p.here rg (.int _) (q.2 m h1 h2)⟩
  · exact (cdMaxL hc).out pins s σ H xs us Q I r ⟨F, ds, G, R, rx, rg, q, p⟩
theorem cdMinL2 (hc : X.calm = true) : CallD X (.builtin "min") cMinL2 := by
  refine ⟨fun pins s σ H xs us Q I r ⟨F, ds, G, R, rx, rg, q, p⟩ => ?_⟩
  unfold cMinL2 cTupI at q
  split at q
  · split at q <;> try exact q.elim
    rename_i es _ ns hn
    cases rx with
    | cons r1 r2 =>
      cases r2
      cases r1 with
      | tup h n r' =>
        rw [intsD_eq hn] at r'
        rw [r'.ints_of] at h
        obtain ⟨its, rv, hl, _⟩ := I.tuple (SqT.of h)
        rw [Vals.ref1 r]
        exact min_rawT (I.ok.hd hc) hl rv.ints q.1 fun h' tk m t' hk h1 h2 => ⟨.int _, H, I.kept hk, ⟨_, rfl⟩, p.here rg (.int _) (q.2 m h1 h2)⟩
  · exact (cdMinL hc).out pins s σ H xs us Q I r ⟨F, ds, G, R, rx, rg, q, p⟩
end
end L2.Ew
namespace L2.Ew
open PySem PySem.Spec PySem.SeqAt PyProof.Rows
section
variable {α : Type} {G : DH} {Q : DK} {ds : List D} {a : Addr} {ns : List Int} {xs : List α}
instance : Stp (cSum2 [.lst ds] G Q) (cSum [.lst ds] G Q) := ⟨id⟩
instance : Stp (cSum2 [.ptr a] G Q) (cSum [.ptr a] G Q) := ⟨id⟩
instance : Stp (cMaxL2 [.lst ds] G Q) (cMaxL [.lst ds] G Q) := ⟨id⟩
instance : Stp (cMaxL2 [.ptr a] G Q) (cMaxL [.ptr a] G Q) := ⟨id⟩
instance : Stp (cMinL2 [.lst ds] G Q) (cMinL [.lst ds] G Q) := ⟨id⟩
instance : Stp (cMinL2 [.ptr a] G Q) (cMinL [.ptr a] G Q) := ⟨id⟩
theorem st_sumT (h : Q (.int ns.sum) G) : cSum2 [.tup (ns.map D.int)] G Q := by
  unfold cSum2 cTupI
  simp only [intsD_map]
  exact ⟨trivial, h⟩
theorem st_maxT {h : α → Int} (h0 : 0 < xs.length) (q : ∀ m, (∃ x ∈ xs, h x = m) → (∀ x ∈ xs, h x ≤ m) → Q (.int m) G) : cMaxL2 [.tup (xs.map fun x => .int (h x))] G Q := by
  rw [show (xs.map fun x => D.int (h x)) = (xs.map h).map D.int from by rw [List.map_map]; rfl]
  unfold cMaxL2 cTupI
  simp only [intsD_map]
  exact ⟨by simpa using h0, fun m h1 h2 => q m (by simpa using h1) fun x hx => h2 _ (List.mem_map.mpr ⟨x, hx, rfl⟩)⟩
theorem st_minT {h : α → Int} (h0 : 0 < xs.length) (q : ∀ m, (∃ x ∈ xs, h x = m) → (∀ x ∈ xs, m ≤ h x) → Q (.int m) G) : cMinL2 [.tup (xs.map fun x => .int (h x))] G Q := by
  rw [show (xs.map fun x => D.int (h x)) = (xs.map h).map D.int from by rw [List.map_map]; rfl]
  unfold cMinL2 cTupI
  simp only [intsD_map]
  exact ⟨by simpa using h0, fun m h1 h2 => q m (by simpa using h1) fun x hx => h2 _ (List.mem_map.mpr ⟨x, hx, rfl⟩)⟩
end
end L2.Ew
namespace L2.Ew
/-- a knot that is not the root stands in a row -/
theorem has_row {n : Nat} {js : Jn} (J : JoinOk n js) {x : Int} (x0 : 0 ≤ x) (x1 : x < (n : Int) + js.length - 1) : ∃ (k : Nat) (q : Int × Int), js[k]? = some q ∧ (x = q.1 ∨ x = q.2) := by
  by_cases c : ∃ (k : Nat) (q : Int × Int), js[k]? = some q ∧ (x = q.1 ∨ x = q.2)
  · exact c
  · have := up_top J x0 (by omega) fun k p hk => ⟨fun z => c ⟨k, p, hk, .inl z⟩, fun z => c ⟨k, p, hk, .inr z⟩⟩
    omega
theorem reach_end {es : List End} {js : Jn} {g : Int} {ls : List Int} (J : JoinOk es.length js) (hls : ls.length + 1 = es.length + js.length) {x : Int} (x0 : 0 ≤ x) (x1 : x < es.length) :
    reachI es js g ls x = (nth es x).s * g + ((upFrom es.length js x x ((es.length : Int) + js.length - 1)).map (nth ls)).sum := by
  have hl := J.len
  have e1 : upFrom es.length js x x ((es.length : Int) + js.length) = upFrom es.length js x x ((es.length : Int) + js.length - 1) ++ [(es.length : Int) + js.length - 1] := by
    have := upFrom_add (n := es.length) (js := js) (e := x) (x := x) (b := (es.length : Int) + js.length - 1) (by omega) (by omega) (J.root.mem_iff.mpr (mem_upto.mpr ⟨x0, x1⟩))
    rwa [show (es.length : Int) + js.length - 1 + 1 = (es.length : Int) + js.length from by omega] at this
  have e2 : (upFrom es.length js x x ((es.length : Int) + js.length)).filter (fun k => decide (k < (ls.length : Int))) = upFrom es.length js x x ((es.length : Int) + js.length - 1) := by
    rw [e1, List.filter_append]
    have a : (upFrom es.length js x x ((es.length : Int) + js.length - 1)).filter (fun k => decide (k < (ls.length : Int))) = upFrom es.length js x x ((es.length : Int) + js.length - 1) := List.filter_eq_self.mpr fun z hz => by
      have := (mem_upFrom.mp hz).1.2
      exact decide_eq_true (by omega)
    rw [a]
    have b : decide ((es.length : Int) + js.length - 1 < (ls.length : Int)) = false := decide_eq_false (by omega)
    simp [List.filter_cons, b]
  unfold reachI
  rw [e2, Int.add_comm]
end L2.Ew

set_option Elab.async false
set_option linter.all false
set_option maxRecDepth 100000
set_option maxHeartbeats 4000000
/-! A one-tuple times an int; whole numbers in a tuple or in a list that is changed. -/
namespace L2.Ew
open PySem PySem.Spec PySem.SeqAt PyProof.Rows
section
variable {G : DH} {Q : DK} {a p : Addr} {d : D} {k : Int} {ls : List Int}
theorem st_mulT1 (h0 : -1000 ≤ k) (h1 : k ≤ 1000) (h : Q (.tup (List.replicate k.toNat d)) G) : oMul (.tup [d]) (.int k) G Q := by
  refine ⟨(fun z => nomatch z), h0, h1, by show 1 ≤ 1000; decide, ?_⟩
  have e : (List.replicate k.toNat [d]).flatten = List.replicate k.toNat d := by
    induction k.toNat with
    | zero => rfl
    | succ n ih => rw [List.replicate_succ, List.flatten_cons, ih]; rfl
  rw [e]; exact h
/-- whole numbers in a tuple, or in a list that is changed -/
def IntsAt (G : DH) (d : D) (ls : List Int) : Prop := d = .tup (ls.map D.int) ∨ ∃ a, d = .ptr a ∧ G a = some (.lst (ls.map D.int))
theorem IntsAt.tup : IntsAt G (.tup (ls.map D.int)) ls := .inl rfl
theorem IntsAt.ptr (h : G a = some (.lst (ls.map D.int))) : IntsAt G (.ptr a) ls := .inr ⟨a, rfl, h⟩
theorem IntsAt.keep {o : MO} (hp : G p = none) (h : IntsAt G d ls) : IntsAt (uG G p o) d ls := by
  rcases h with h | ⟨a, e, h⟩
  · exact .inl h
  · exact .inr ⟨a, e, uG_keep hp h⟩
theorem st_ixIA (h : IntsAt G d ls) (h0 : 0 ≤ k) (h1 : k < ls.length) (q : Q (.int (nth ls k)) G) : dIx d (.int k) G Q := by
  rcases h with rfl | ⟨a, rfl, h⟩
  · exact st_ixMT h0 h1 q
  · exact st_ixMP h h0 h1 q
/-- enumerate of a list that is changed -/
theorem st_enP {α : Type} {en : α → D} {xs : List α} {W : List D → (DH → Prop) → DH → Prop} (hg : G a = some (.lst (xs.map en))) (h : W (xs.zipIdx.map fun p => .tup [.int (p.2 : Nat), en p.1]) (gdOf (.ptr a) (xs.map en)) G) : enK W (.ptr a) G := by
  unfold enK
  simp only [res_ptr hg]
  rw [enumD_map]
  exact h
end
end L2.Ew
namespace L2.Ew
theorem over_rng {n : Nat} {js : Jn} {ov : List Int} (J : JoinOk n js) (h : OverOk n js js.length ov) {x : Int} (x0 : 0 ≤ x) (x1 : x < ov.length) : (n : Int) ≤ nth ov x ∧ nth ov x < (n : Int) + js.length := by
  obtain ⟨k, q, hk, hq⟩ := has_row J x0 (by have := h.1; omega)
  have kl := (List.getElem?_eq_some_iff.mp hk).1
  rw [h.2 k q kl hk x hq]
  omega
end L2.Ew
namespace L2.Ew
/-- how far two spots are apart -/
def offI (p q : Int × Int) : Int := max (absI (p.1 - q.1)) (absI (p.2 - q.2))
theorem nth_zipMap {α β : Type} [Inhabited α] [Inhabited β] {l : List α} (h : α × Nat → β) {x : Int} (x0 : 0 ≤ x) (x1 : x < l.length) : nth (l.zipIdx.map h) x = h (nth l x, x.toNat) := by
  have a := nth_nat (show x.toNat < (l.zipIdx.map h).length by rw [List.length_map, List.length_zipIdx]; omega)
  have b := nth_nat (show x.toNat < l.length by omega)
  rw [show ((x.toNat : Nat) : Int) = x from by omega] at a b
  rw [a, b]; simp
/-- by how much each wire is longer than its ends are apart -/
def DetOk (n : Nat) (js : Jn) (sp : List (Int × Int)) (ls ds : List Int) : Prop := ds.length = ls.length ∧ ∀ (k : Nat) (q : Int × Int), js[k]? = some q → ∀ x : Int, x = q.1 ∨ x = q.2 → nth ds x = nth ls x - offI (nth sp x) (nth sp ((n : Int) + k))
theorem DetOk.uniq {n : Nat} {js : Jn} {sp : List (Int × Int)} {ls d1 d2 : List Int} (J : JoinOk n js) (hl : ls.length + 1 = n + js.length) (a : DetOk n js sp ls d1) (b : DetOk n js sp ls d2) : d1 = d2 := by
  have h1 := a.1
  have h2 := b.1
  apply List.ext_getElem (by omega)
  intro i i1 i2
  obtain ⟨k, q, hk, hq⟩ := has_row J (x := (i : Int)) (by omega) (by omega)
  have e1 := a.2 k q hk i hq
  have e2 := b.2 k q hk i hq
  rw [nth_nat i1] at e1
  rw [nth_nat i2] at e2
  rw [e1, e2]
end L2.Ew

set_option Elab.async false
set_option linter.all false
set_option maxRecDepth 100000
set_option maxHeartbeats 4000000
/-! sorted(set(a tuple of whole numbers)). -/
namespace L2.Ew
open PySem PySem.Spec PySem.SeqAt PyProof PyProof.Rows
/-- what the items come to, each once -/
def fewOf (ns : List Int) : Prop := ∀ l : List Int, l.Nodup → (∀ k, k ∈ l ↔ k ∈ ns) → l.length < 64
def tSortSet (K : PySem.W.Frag) (ta : TE) : TE := fun σ H Q => ta σ H fun x H1 => ∃ (l : Addr) (ns : List Int), x = .ref l ∧ SqT K H1 l (ns.map V.int) ∧ ns.length ≤ 1000 ∧ fewOf ns ∧
  ∀ (out : List Int) (p : Addr), out.Pairwise (· < ·) → (∀ k, k ∈ out ↔ k ∈ ns) → H1 p = none → Q (.ref p) (upd H1 p (.lst (out.map V.int)))
section
variable {X : Cx} {a : Expr} {p p2 q pos : Pos}
theorem pe_sortSet {ta : TE} (hc : X.calm = true) (g1 : Gl X "sorted") (n1 : X.mg "sorted" = none) (g2 : Gl X "set") (n2 : X.mg "set" = none) (ha : PE X a ta)
    (na : starEach [a] X.env = (false, eval a X.env) :: starEach [] X.env := by rfl) : PE X (.Call (.Name "sorted" p) [.Call (.Name "set" p2) [a] [] q] [] pos) (tSortSet X.K ta) := by
  refine ⟨fun pins s σ H Q I h => Call_ (ld_blt I g1 n1 (show bootBuiltins "sorted" = some (.builtin "sorted") by decide +kernel) (callWith_builtin1 (args_cons (Call_ (ld_blt I g2 n2 boot_set ?_)) rfl) rfl rfl))⟩
  refine callWith_type1 (args_cons (thn (ha.run pins s σ H _ I h) fun v s1 ⟨x, H1, I1, r1, z⟩ => args_nil ?_) na) na rfl
  obtain ⟨l, ns, rfl, ht, hl, hf, z⟩ := z
  cases r1
  obtain ⟨its, rv, pt, _⟩ := I1.tuple ht
  have hi : IntsAre its.toArray.toList ns := ints_of_vals rv
  refine call_set_tupI ns (I1.ok.hd hc) pt hi (by unfold scanBound; omega) fun h' tk c R1 _ kk => args_nil ?_
  have I2 : Inv X pins σ H1 { s1 with heap := h', toks := tk } := I1.kept kk
  have small : c < 64 := by
    obtain ⟨_, es, _, _, _, _, _, _, nd, mm, _, _, hn, _⟩ := R1
    have := hf _ nd fun k => by rw [← mm k, decide_eq_true_eq]
    rw [List.length_map, Array.length_toList] at this
    omega
  have R2 : SetR X.w ({ s1 with heap := h', toks := tk } : Shared).heap s1.heap.objs.size (fun j => decide (j ∈ ns)) c := R1
  generalize ({ s1 with heap := h', toks := tk } : Shared) = s2 at I2 R2 ⊢
  refine sorted_set R2 (I2.ok.hd hc) small fun s' b out c' rs k1 gn osn hb hgt hint hs hmem hlen => ?_
  have hz : (rs.map V.int).length ≤ sizeLine := by rw [List.length_map, sizeLine_eq]; omega
  have free : H1 b = none := I2.hok.fresh hb
  have J : Inv X pins σ (upd H1 b (.lst (rs.map V.int))) { s2 with heap := s'.heap, gens := s'.gens, drawn := s'.drawn, toks := s'.toks } :=
    I2.call (ch := []) (Un.laid k1 hb free) (I2.hok.laid k1 hb ⟨hz, out.toList, c', vals_of_ints hint, hgt⟩) (by rw [gn]; exact I2.bare) (fun _ w => nomatch w)
  have es : s' = { s2 with heap := s'.heap, gens := s'.gens, drawn := s'.drawn, toks := s'.toks } := by
    cases s'; cases s2; cases osn; rfl
  rw [es]
  exact ⟨.ref b, _, J, rfl, z rs b hs (fun k => by rw [hmem k, decide_eq_true_eq]) free⟩
def dSortSet (te : DE) : DE := fun s G Q => te s G fun d G1 => ∃ ns : List Int, d = .tup (ns.map D.int) ∧ ns.length ≤ 1000 ∧ fewOf ns ∧ ∀ out : List Int, out.Pairwise (· < ·) → (∀ k, k ∈ out ↔ k ∈ ns) → Q (.lst (out.map D.int)) G1
theorem ped_sortSet {te : DE} (g1 : Gl X "sorted") (n1 : X.mg "sorted" = none) (g2 : Gl X "set") (n2 : X.mg "set" = none) (ha : PED X a te) (hc : X.calm = true := by rfl)
    (na : starEach [a] X.env = (false, eval a X.env) :: starEach [] X.env := by rfl) : PED X (.Call (.Name "sorted" p) [.Call (.Name "set" p2) [a] [] q] [] pos) (dSortSet te) := by
  refine ⟨(pe_sortSet hc g1 n1 g2 n2 ha.out na).weak fun σ H Q ⟨F, s, G, R, rs, rg, q, p⟩ => ?_⟩
  refine ⟨F, s, G, _, rs, rg, q, fun d G1 x H1 st rx rg1 ⟨ns, ed, hl, hf, z⟩ => ?_⟩
  subst ed
  cases rx with
  | tup h n r =>
    rw [r.ints_of] at h
    exact ⟨_, ns, rfl, SqT.of h, hl, hf, fun out b h1 h2 hb => new_lst (p.step st) rg1 (RepL.ints out) (z out h1 h2) b hb⟩
variable {te : DE} {s : DS} {G : DH} {Q : DK}
instance : Stp (dSortSet te s G Q) (te s G fun d G1 => ∃ ns : List Int, d = .tup (ns.map D.int) ∧ ns.length ≤ 1000 ∧ fewOf ns ∧ ∀ out : List Int, out.Pairwise (· < ·) → (∀ k, k ∈ out ↔ k ∈ ns) → Q (.lst (out.map D.int)) G1) := ⟨id⟩
end
end L2.Ew
namespace L2.Ew
open PySem PySem.Spec PySem.SeqAt PyProof.Rows
/-! ### + of written tuples -/
class AppN (ds es : List D) (fs : outParam (List D)) : Prop where
  eq : ds ++ es = fs
instance {es : List D} : AppN [] es es := ⟨rfl⟩
instance {d : D} {ds es fs : List D} [a : AppN ds es fs] : AppN (d :: ds) es (d :: fs) := ⟨congrArg (d :: ·) a.eq⟩
theorem st_addTS {ds es fs : List D} {G : DH} {Q : DK} [a : AppN ds es fs] (h0 : ds.length + es.length ≤ 100000) (h : Q (.tup fs) G) : oAdd (.tup ds) (.tup es) G Q :=
  ⟨Nat.le_of_lt (size100000 h0), by rw [a.eq]; exact h⟩
/-- three lists that are changed -/
structure Three (G G' : DH) (p0 p1 p2 : Addr) (A B C : List Int) : Prop where
  sub : ∀ b o, G b = some o → G' b = some o
  f0 : G p0 = none
  f1 : G p1 = none
  f2 : G p2 = none
  n01 : p0 ≠ p1
  n02 : p0 ≠ p2
  n12 : p1 ≠ p2
  g0 : G' p0 = some (.lst (A.map D.int))
  g1 : G' p1 = some (.lst (B.map D.int))
  g2 : G' p2 = some (.lst (C.map D.int))
section
variable {G G' : DH} {p0 p1 p2 : Addr} {A B C A' : List Int}
theorem Three.put0 (t : Three G G' p0 p1 p2 A B C) : Three G (uG G' p0 (.lst (A'.map D.int))) p0 p1 p2 A' B C :=
  ⟨fun b o h => by rw [uG_ne (fun z => by subst z; rw [t.f0] at h; cases h)]; exact t.sub b o h, t.f0, t.f1, t.f2, t.n01, t.n02, t.n12, uG_same, by rw [uG_ne (Ne.symm t.n01)]; exact t.g1, by rw [uG_ne (Ne.symm t.n02)]; exact t.g2⟩
theorem Three.put1 (t : Three G G' p0 p1 p2 A B C) : Three G (uG G' p1 (.lst (A'.map D.int))) p0 p1 p2 A A' C :=
  ⟨fun b o h => by rw [uG_ne (fun z => by subst z; rw [t.f1] at h; cases h)]; exact t.sub b o h, t.f0, t.f1, t.f2, t.n01, t.n02, t.n12, by rw [uG_ne t.n01]; exact t.g0, uG_same, by rw [uG_ne (Ne.symm t.n12)]; exact t.g2⟩
theorem Three.put2 (t : Three G G' p0 p1 p2 A B C) : Three G (uG G' p2 (.lst (A'.map D.int))) p0 p1 p2 A B A' :=
  ⟨fun b o h => by rw [uG_ne (fun z => by subst z; rw [t.f2] at h; cases h)]; exact t.sub b o h, t.f0, t.f1, t.f2, t.n01, t.n02, t.n12, by rw [uG_ne t.n02]; exact t.g0, by rw [uG_ne t.n12]; exact t.g1, uG_same⟩
theorem Three.new (h0 : G p0 = none) (h1 : uG G p0 (.lst (A.map D.int)) p1 = none) (h2 : uG (uG G p0 (.lst (A.map D.int))) p1 (.lst (B.map D.int)) p2 = none) :
    Three G (uG (uG (uG G p0 (.lst (A.map D.int))) p1 (.lst (B.map D.int))) p2 (.lst (C.map D.int))) p0 p1 p2 A B C := by
  have n01 : p1 ≠ p0 := fun z => by subst z; rw [uG_same] at h1; cases h1
  have n12 : p2 ≠ p1 := fun z => by subst z; rw [uG_same] at h2; cases h2
  have f1 : G p1 = none := by rwa [uG_ne n01] at h1
  have h2' := h2
  rw [uG_ne n12] at h2'
  have n02 : p2 ≠ p0 := fun z => by subst z; rw [uG_same] at h2'; cases h2'
  have f2 : G p2 = none := by rwa [uG_ne n02] at h2'
  exact ⟨fun b o h => uG_keep h2 (uG_keep h1 (uG_keep h0 h)), h0, f1, f2, Ne.symm n01, Ne.symm n02, Ne.symm n12, uG_keep h2 (uG_keep h1 uG_same), uG_keep h2 uG_same, uG_same⟩
theorem nodup_few {m : List Int} : ∀ {l : List Int}, l.Nodup → (∀ x ∈ l, x ∈ m) → l.length ≤ m.length := by
  intro l
  induction l generalizing m with
  | nil => intro _ _; exact Nat.zero_le _
  | cons x l ih =>
    intro hn hs
    obtain ⟨h1, h2⟩ := List.nodup_cons.mp hn
    have hx := hs x (List.mem_cons_self ..)
    have := ih (m := m.erase x) h2 fun y hy => (List.mem_erase_of_ne (show y ≠ x from fun e => by subst e; exact h1 hy)).mpr (hs y (List.mem_cons_of_mem _ hy))
    rw [List.length_erase_of_mem hx] at this
    have := List.length_pos_of_mem hx
    rw [List.length_cons]; omega
end
end L2.Ew
namespace L2.Ew
open PySem PySem.Spec PySem.SeqAt PyProof.Rows
section
variable {G : DH} {Q : DK} {a : Addr} {k : Int} {ns : List Int}
theorem st_ninIT (h : Q (.bl (!decide (k ∈ ns))) G) : oNotIn2 (.int k) (.tup (ns.map D.int)) G Q := nin2_T (by
  unfold oNotIn; exact ⟨rfl, plain_ints ns, by show 0 ≤ 60; decide, by rw [any_int]; exact h⟩)
theorem st_ninIL (h : Q (.bl (!decide (k ∈ ns))) G) : oNotIn2 (.int k) (.lst (ns.map D.int)) G Q := nin2_L (by
  unfold oNotIn; exact ⟨rfl, plain_ints ns, by show 0 ≤ 60; decide, by rw [any_int]; exact h⟩)
theorem st_ninIP (hg : G a = some (.lst (ns.map D.int))) (h : Q (.bl (!decide (k ∈ ns))) G) : oNotIn2 (.int k) (.ptr a) G Q := nin2_P hg (by
  unfold oNotIn; rw [res_ptr hg]; exact ⟨rfl, plain_ints ns, by show 0 ≤ 60; decide, by rw [any_int]; exact h⟩)
end
end L2.Ew

set_option Elab.async false
set_option linter.all false
set_option maxRecDepth 100000
set_option maxHeartbeats 4000000
/-! The law's own call, with nothing under way around it; repr there. -/
namespace L2.Ew
open PySem PySem.Spec PySem.SeqAt PyProof PyProof.Rows
section
variable {P : Program} {w : World} {K : PySem.W.Frag} {mg : Str → Option Value} {base : Heap} {x : Str} {st : Stmt} {f : Addr} {fd : FuncData} {N ps : List Str} {k : Nat} {t : DT}
/-- a body that is run from a place where nothing is being shown -/
abbrev LoneBody (P : Program) (w : World) (K : PySem.W.Frag) (mg : Str → Option Value) (base : Heap) (N : List Str) (x : Str) (st : Stmt) (k : Nat) (t : DT) : Prop :=
  ∀ (f : Addr) (cdv : Value) (A : Around) (outer : List Env) (s : Shared) (H : Hp) (E : XK), A.guards = some [] → Room k (A.deeper (envOfC x (defScope st) s.heap.objs.size f cdv)) →
    PSsD (cxOf CX0 P w K mg base N x (defScope st) f cdv A outer s H E).nox (defBody st) t
theorem lone_run (F : Fun K x x st f fd) (S : FnScope N ps (defScope st)) (body : LoneBody P w K mg base N x st k t)
    (sem : ∀ ds G R X, spLawD ds G R X → ds.length = ps.length ∧ t { nx := fun _ G' => RetOk R .non G', rt := RetOk R } (dstart N ds) G)
    {s : Shared} {H : Hp} {args : Args} {us : List Value} {vs : List V} {Q : VK} {E : XK} (hr : Room (k + 1) callerA) (e0 : Env0 P w K mg base callerA [] s H) (hb : BindsTo s fd args (ps.zip us)) (hv : Vals vs us) (hs : spLawV K vs H Q E) :
    codeAny (model P w) callerA (.call (.ref f) args) (CR CX0 [] P w H s Q E) s := by
  obtain ⟨_, _, _, _, _, _, cdv, _, _, rfl, lk, hcd⟩ := F.ex
  obtain ⟨Fh, ds, G, R, Y, r, g, q, p, _⟩ := law_imp _ _ _ _ hs
  obtain ⟨n1, go⟩ := sem ds G R Y q
  have old : ∀ b o, base.get? b = some o → s.heap.get? b = some o := fun b o e => (e0.bs b o e).1
  have kin : K.In s.heap := e0.mod.kin.keeps old
  refine codeAny_call_function hr.depth (kin _ _ lk) rfl S.co S.gen rfl (PySem.W.codeRec_of kin hcd) (hb _ _ _ _ (wpAny_newFunctionEnv_cells S.kind ?_ fun env he s1 z => ?_))
  · rintro ⟨n, v⟩ hm
    exact (S.par n (List.of_mem_zip hm).1).imp id fun q => ⟨q, PySem.W.cellsFrom_some _ _ _ (.inl q)⟩
  · subst he
    have J := inv_start (CX := CX0) (qual := x) (f := f) (cd := cdv) (E := E) S hr.hd e0 (r.len.trans n1) hv z
    refine ⟨(e0.mod.nolimit.keeps old).keeps z.toInCall.keep, codeAny_func (wpAny_mono ((body f cdv callerA [] s H E rfl (hr.deeper _)).out.nox.run [] s1 (start N vs) H { nx := fun _ H' => Q .non H', rt := Q } J
      ⟨Fh, dstart N ds, G, _, reps_start r, g, go, ⟨fun _ _ _ _ st _ rg q => p.ret _ _ _ _ st .non rg q, p.ret, fun _ _ _ _ _ _ _ z => z.elim, fun _ _ _ _ _ _ _ z => z.elim⟩⟩) ?_ fun _ _ h => h)⟩
    intro fl s' h
    cases fl with
    | ret u => obtain ⟨v, σ2, H2, I2, rv, q2⟩ := h; exact ⟨v, H2, I2.os, I2.bare, I2.base, I2.hok, rv, q2⟩
    | next => obtain ⟨σ2, H2, I2, q2⟩ := h; exact ⟨.non, H2, I2.os, I2.bare, I2.base, I2.hok, rfl, q2⟩
    | brk => obtain ⟨_, _, _, z⟩ := h; exact False.elim z
    | cont => obtain ⟨_, _, _, z⟩ := h; exact False.elim z
/-- what the script is, at the call -/
def scrH (K : PySem.W.Frag) (a : Addr) (vs : List Value) (ns : List Int) : Hp := fun b => if b = a ∧ K.lookup a = none then some (.frz { cls := .type "list", data := .seq vs.toArray } (.lst (ns.map V.int))) else none
section
variable {a : Addr} {vs : List Value} {ns : List Int}
theorem scrH_on {b : Addr} {u : HO} (h : scrH K a vs ns b = some u) : b = a ∧ K.lookup a = none ∧ u = .frz { cls := .type "list", data := .seq vs.toArray } (.lst (ns.map V.int)) := by
  unfold scrH at h
  split at h
  · rename_i c; exact ⟨c.1, c.2, (Option.some.inj h).symm⟩
  · cases h
theorem scrH_off {b : Addr} (h : b = a → K.lookup a ≠ none) : scrH K a vs ns b = none := by
  cases e : scrH K a vs ns b with
  | none => rfl
  | some u => obtain ⟨h1, h2, _⟩ := scrH_on e; exact absurd h2 (h h1)
theorem lone_env {mb : Str → Option Value} {s : Shared} (KX : K.In s.heap) (gns : s.heap.Ns mainGlobals mg) (bns : s.heap.Ns builtinsNs mb) (bb : ∀ x : Str, x ≠ "__name__" → mb x = bootBuiltins x) (lim : s.heap.NoLimit) (ge : s.gens = #[])
    (ha : s.heap.get? a = some { cls := .type "list", data := .seq vs.toArray }) (hi : IntsAre vs ns) (hl : ns.length ≤ 63) :
    ∃ base : Heap, K.In base ∧ base.Ns mainGlobals mg ∧ SqL K (scrH K a vs ns) a (ns.map V.int) ∧ Env0 P w K mg base callerA [] s (scrH K a vs ns) := by
  have stays : ∀ {b : Addr} {o : Obj}, s.heap.get? b = some o → (b = a → K.lookup a ≠ none) → (hidT s.heap (scrH K a vs ns)).get? b = some o := fun e c => hidT_get e (scrH_off c)
  have kin : K.In (hidT s.heap (scrH K a vs ns)) := fun b o e => stays (KX b o e) fun z => by subst z; rw [e]; exact fun q => nomatch q
  have space : ∀ {b : Addr} {m : Str → Option Value}, s.heap.Ns b m → (hidT s.heap (scrH K a vs ns)).Ns b m := by
    rintro b m ⟨o, es, ep, e, d, rest⟩
    refine ⟨o, es, ep, stays e fun z => ?_, d, rest⟩
    subst z
    rw [ha] at e
    rw [← Option.some.inj e] at d
    exact nomatch d
  have small : ns.length ≤ sizeLine := by rw [sizeLine_eq]; omega
  have isok : HOk P w (scrH K a vs ns) s.heap := fun b u e => by
    obtain ⟨rfl, _, rfl⟩ := scrH_on e
    exact ⟨ha, by rw [List.length_map]; exact small, vs, _, vals_ints hi, ha⟩
  refine ⟨hidT s.heap (scrH K a vs ns), kin, space gns, ?_, ⟨rfl, ⟨kin, space gns, ⟨mb, space bns, bb⟩, ?_⟩, fun b o e => of_hidT e, Nat.le_of_eq (hidT_size _ _), trivial, fun b h => absurd h List.not_mem_nil, isok, .of_eq ge⟩⟩
  · cases c : K.lookup a with
    | none => exact .inl (.inr ⟨_, if_pos ⟨rfl, c⟩⟩)
    | some o =>
      have e := KX a o c
      rw [ha] at e
      cases e
      refine .inr ⟨_, vs.toArray, _, c, rfl, rfl, rfl, ?_, by simpa using vals_ints hi⟩
      rw [List.size_toArray, hi.length]; exact small
  · obtain ⟨mc, c1, c2⟩ := lim
    exact ⟨mc, space c1, c2⟩
theorem lone_call {mb : Str → Option Value} {s : Shared} {y : Str} (KX : K.In s.heap) (gns : s.heap.Ns mainGlobals mg) (bns : s.heap.Ns builtinsNs mb) (bb : ∀ x : Str, x ≠ "__name__" → mb x = bootBuiltins x) (lim : s.heap.NoLimit) (ge : s.gens = #[])
    (ha : s.heap.get? a = some { cls := .type "list", data := .seq vs.toArray }) (hi : IntsAre vs ns) (hl : ns.length ≤ 63) (F : Fun K x x st f fd) (S : FnScope N [y] (defScope st)) (body : ∀ base, K.In base → base.Ns mainGlobals mg → LoneBody P w K mg base N x st k t)
    (sem : ∀ ds G R X, spLawD ds G R X → ds.length = [y].length ∧ t { nx := fun _ G' => RetOk R .non G', rt := RetOk R } (dstart N ds) G) (hr : Room (k + 1) callerA) (hb : BindsTo s fd ⟨[.ref a], []⟩ [(y, .ref a)]) :
    codeAny (model P w) callerA (.call (.ref f) ⟨[.ref a], []⟩) (fun r s' => r = .ok (.ret (.bool true)) ∧ OldK s.heap s'.heap ∧ s'.os = s.os ∧ AllBare s'.gens) s := by
  obtain ⟨base, k1, k2, sq, e0⟩ := lone_env (P := P) (w := w) KX gns bns bb lim ge ha hi hl
  refine codeAny_mono (lone_run (Q := fun v _ => v = .bl true) (E := fun _ _ _ => False) (vs := [.ref a]) (us := [.ref a]) F S (body base k1 k2) sem hr e0 hb (.cons rfl .nil) ⟨a, ns, rfl, sq, hl, fun _ => rfl⟩) fun r s' h => ?_
  match r, h with
  | .error _, h => exact h.elim
  | .ok (.ret u), ⟨v, H', os, bare, un, ok', rv, q⟩ =>
    subst q
    cases (show u = Value.bool true from rv)
    refine ⟨rfl, OldK.of_keep fun b o e => ?_, os, bare⟩
    cases c : scrH K a vs ns b with
    | none => exact un.keep b o e c List.not_mem_nil List.not_mem_nil
    | some u =>
      obtain ⟨rfl, _, rfl⟩ := scrH_on c
      obtain ⟨z1, _⟩ := e0.hok _ _ c
      obtain ⟨z2, _⟩ := ok' _ _ (un.frzs _ _ _ c)
      rw [z1] at e
      rw [← e]; exact z2
end
end
end L2.Ew
namespace L2.Ew
open PySem PySem.Spec PySem.SeqAt PyProof PyProof.Rows
theorem lone_walk {l : PySem.W.OpenLaw} {q : Program} {loose : List Str} {XP : (Str → Option Value) → Heap → Prop} {YP : World → Heap → Prop} {d : DefRec} {K : Params → PySem.W.Frag} {x y : Str} {st : Stmt} {N : List Str} {k : Nat} {t : DT}
    (hn : l.most = some 63) (hdf : d.params.defaults = []) (hr : Room (k + 1) callerA) (hY : ∀ (w : World) (h : Heap), YP w h → (K w.params).In h) (S : FnScope N [y] (defScope st))
    (sem : ∀ ds G R X, spLawD ds G R X → ds.length = [y].length ∧ t { nx := fun _ G' => RetOk R .non G', rt := RetOk R } (dstart N ds) G)
    (F : ∀ (w : World) (mg : Str → Option Value) (fa : Addr) (h : Heap), (K w.params).In h → h.Ns mainGlobals mg → mg d.name = some (.ref fa) →
      ∃ fd : FuncData, (∀ (s : Shared) (u : Value), BindsTo s fd ⟨[u], []⟩ [(y, u)]) ∧ Fun (K w.params) x x st fa fd ∧ ∀ base : Heap, (K w.params).In base → base.Ns mainGlobals mg → LoneBody l.prog w (K w.params) mg base N x st k t) :
    PySem.W.WalkO q loose XP YP l.row.toRowW d [] (fun f vs => PySem.call f vs) := by
  refine Att.attach_call hn hdf fun w _ s m _ fa _ _ _ _ a vs ns gr yp _ _ _ em ea ei el eg => ?_
  have kin := hY w _ yp
  obtain ⟨fd, bnd, fn, body⟩ := F w m fa _ kin gr.T.g em
  exact lone_call kin gr.T.g gr.T.b gr.T.builtins gr.T.nolimit eg ea ei el fn S body sem hr (bnd s (.ref a))
/-! ### repr -/
mutual
theorem noDict_toP : ∀ d : D, (toP d).hasDict = false
  | .tup ds => by simp only [toP, PyData.hasDict]; exact noDict_toPs ds
  | .lst ds => by simp only [toP, PyData.hasDict]; exact noDict_toPs ds
  | .non => rfl | .bl _ => rfl | .int _ => rfl | .str _ => rfl | .ty _ => rfl | .dk _ _ => rfl | .ptr _ => rfl | .scr _ => rfl
theorem noDict_toPs : ∀ ds : List D, PyData.hasDictAll (toPs ds) = false
  | [] => rfl
  | d :: ds => by simp only [toPs, PyData.hasDictAll, noDict_toP d, noDict_toPs ds, Bool.or_self]
end
/-- data whose text can be made -/
structure ShwD (d : D) : Prop where
  seq : (∃ ds, d = .tup ds) ∨ ∃ ds, d = .lst ds
  pl : plainD d = true
  sh : (toP d).showable = true
  dp : depD d ≤ 60
  sz : (toP d).shown.length ≤ sizeLine
def cRepr : DRs := fun ds G Q => match ds with
  | [d] => ShwD (res G d) ∧ Q (.str (toP (res G d)).shown) G
  | _ => False
section
variable {X : Cx} {G : DH} {Q : DK} {d : D}
theorem ref_of {K : PySem.W.Frag} {H : Hp} {F : Hid} {v : V} (g : RepG K H F G) (r : Rep K H (Own F G) v d) (sq : (∃ ds, res G d = .tup ds) ∨ ∃ ds, res G d = .lst ds) : ∃ a, v = .ref a := by
  rcases sq with ⟨es, e⟩ | ⟨es, e⟩
  · rw [res_not e (fun _ z => nomatch z)] at r
    obtain ⟨a, _, h, _⟩ := tup_at r
    exact ⟨a, h⟩
  · obtain ⟨a, _, h, _⟩ := lst_at g r e
    exact ⟨a, h⟩
theorem cdRepr (hg : X.A.guards = some []) (hu : X.A.units + 64 < cLine) : CallD X (.builtin "repr") cRepr := by
  refine ⟨fun pins s σ H xs us Q I r ⟨F, ds, G, R, rx, rg, q, p⟩ => ?_⟩
  unfold cRepr at q
  split at q <;> try exact q.elim
  rename_i d
  obtain ⟨sd, q⟩ := q
  cases rx with
  | cons r1 r2 =>
    cases r2
    obtain ⟨a, rfl⟩ := ref_of rg r1 sd.seq
    obtain ⟨u, rfl, ru⟩ := r.one
    obtain ⟨as, rd⟩ := Dp.reads I _ _ u (dp_res rg r1 sd.pl) ru
    cases ru
    exact repr_of_reads' rd sd.sh (PyData.noDict_hsm (noDict_toP _)) hg (Nat.lt_of_le_of_lt (Nat.add_le_add_left (show PyData.depth (toP (res G d)) + 1 ≤ 64 from Nat.succ_le_succ (Nat.le_trans sd.dp (by decide))) _) hu) (fun _ _ e => e)
      (fun h' u2 tk hk => ⟨.str _, H, I.kept hk, ⟨_, rfl⟩, p.here rg (.str _) q⟩) sd.sz
theorem st_repr (hr : res G d = d) (sd : ShwD d) (h : Q (.str (toP d).shown) G) : cRepr [d] G Q := by
  unfold cRepr
  simp only [hr]
  exact ⟨sd, h⟩
end
theorem tupText_le {B : Nat} : ∀ {ts : List Str}, (∀ t ∈ ts, t.length ≤ B) → piled ts ≤ ts.length * (B + 2)
  | [], _ => Nat.zero_le _
  | t :: ts, h => by
    have h1 := h t (List.mem_cons_self ..)
    have h2 := tupText_le (ts := ts) fun u hu => h u (List.mem_cons_of_mem _ hu)
    rw [piled_cons, List.length_cons, Nat.add_mul]
    omega
theorem tupText_few {B : Nat} {ts : List Str} (h : ∀ t ∈ ts, t.length ≤ B) : (tupleText ts).length ≤ ts.length * (B + 2) + 3 := by
  have hp := tupText_le h
  unfold tupleText
  rw [strLen_append, strLen_append]
  have e1 : ((("(" : String) : Str)).length = 1 := rfl
  have e3 : (((if ts.length == 1 then ",)" else ")" : String) : Str)).length ≤ 2 := by split <;> decide
  rw [e1]
  by_cases c : ts = []
  · subst c
    have : (Str.join ", " ([] : List Str)).length = 0 := rfl
    rw [this]; omega
  · have := join_length_add ts c
    omega
theorem shownAll_map : ∀ ds : List D, PyData.shownAll (toPs ds) = ds.map fun d => (toP d).shown
  | [] => rfl
  | d :: ds => by simp only [toPs, PyData.shownAll, List.map_cons, shownAll_map ds]
theorem showableAll_of : ∀ {ds : List D}, (∀ d ∈ ds, (toP d).showable = true) → PyData.showableAll (toPs ds) = true
  | [], _ => rfl
  | d :: ds, h => by
    simp only [toPs, PyData.showableAll, Bool.and_eq_true]
    exact ⟨h d (List.mem_cons_self ..), showableAll_of fun e he => h e (List.mem_cons_of_mem _ he)⟩
/-- of a tuple of short things -/
theorem shown_tup {B : Nat} {ds : List D} (h : ∀ d ∈ ds, (toP d).showable = true ∧ (toP d).shown.length ≤ B) : (toP (.tup ds)).showable = true ∧ (toP (.tup ds)).shown.length ≤ ds.length * (B + 2) + 3 := by
  refine ⟨by simp only [toP, PyData.showable]; exact showableAll_of fun d hd => (h d hd).1, ?_⟩
  simp only [toP, PyData.shown]
  rw [shownAll_map]
  have := tupText_few (B := B) (ts := ds.map fun d => (toP d).shown) fun t ht => by
    obtain ⟨d, hd, rfl⟩ := List.mem_map.mp ht
    exact (h d hd).2
  rwa [List.length_map] at this
theorem shown_int {i : Int} (h : -(2 ^ 64) < i ∧ i < 2 ^ 64) : (toP (.int i)).showable = true ∧ (toP (.int i)).shown.length ≤ 1921 := by
  have hl : i.natAbs.log2 < 1920 := by
    by_cases c : i.natAbs = 0
    · rw [c]; decide
    · have h2 : i.natAbs < 2 ^ 64 := by omega
      exact Nat.lt_of_lt_of_le ((Nat.log2_lt c).mpr h2) (by decide)
  exact ⟨by simp only [toP, PyData.showable, decide_eq_true_eq]; exact hl, int_text_len_1921 hl⟩
theorem shw_ints {l : List Int} (hl : l.length ≤ 1000) (h : ∀ i ∈ l, -(2 ^ 64) < i ∧ i < 2 ^ 64) : ShwD (.tup (l.map D.int)) := by
  have := shown_tup (B := 1921) (ds := l.map D.int) fun d hd => by
    obtain ⟨i, hi, rfl⟩ := List.mem_map.mp hd
    exact shown_int (h i hi)
  rw [List.length_map] at this
  exact ⟨.inl ⟨_, rfl⟩, plain_ints l, this.1, Nat.le_trans (dep_intT l) (by decide), by rw [sizeLine_eq]; omega⟩
theorem shw_pairs {l : List (Int × Int)} (hl : l.length ≤ 1000) (h : ∀ i ∈ l, (-(2 ^ 64) < i.1 ∧ i.1 < 2 ^ 64) ∧ (-(2 ^ 64) < i.2 ∧ i.2 < 2 ^ 64)) : ShwD (.tup (l.map pD)) := by
  have := shown_tup (B := 3849) (ds := l.map pD) fun d hd => by
    obtain ⟨i, hi, rfl⟩ := List.mem_map.mp hd
    obtain ⟨h1, h2⟩ := h i hi
    exact shown_tup (B := 1921) (ds := [.int i.1, .int i.2]) fun d hd => by
      rcases List.mem_cons.mp hd with rfl | hd
      · exact shown_int h1
      · rw [List.mem_singleton.mp hd]; exact shown_int h2
  rw [List.length_map] at this
  exact ⟨.inl ⟨_, rfl⟩, plain_map (fun _ => rfl) l, this.1, Nat.le_trans (dep_tupM (k := 1) (fun _ => Nat.le_refl _) l) (by decide), by rw [sizeLine_eq]; omega⟩
end L2.Ew

set_option Elab.async false
set_option linter.all false
set_option maxRecDepth 100000
set_option maxHeartbeats 4000000
/-! Dicts asked while they are being changed; sums of sums. -/
namespace L2.Ew
open PySem PySem.Spec PySem.SeqAt PyProof.Rows
section
variable {G : DH} {Q : DK} {a p : Addr} {d e v : D} {k : Key} {kvs : List (Key × D)}
theorem st_inKP (hg : G a = some (.dk kvs)) (hk : keyD d = some k) (h : Q (.bl (valD kvs k).isSome) G) : oIn2 d (.ptr a) G Q := by
  unfold oIn2 inDk
  simp only [hg, hk, Option.map_some]
  exact h
theorem st_ixKP (hg : G a = some (.dk kvs)) (hk : keyD e = some k) (hv : valD kvs k = some v) (q : Q v G) : dIx (.ptr a) e G Q := by
  refine st_ix ?_ (fun z hz => nomatch hz) q
  simp only [ixV, res, hg, hk, Option.bind_some, hv]
end
theorem st_neNilT {α : Type} {en : α → D} {xs : List α} {G : DH} {Q : DK} (hp : plainDs (xs.map en) = true) (h : Q (.bl (decide (0 < xs.length))) G) : oNe (.tup (xs.map en)) (.tup []) G Q := by
  refine st_ne (w := .tup []) rfl rfl (okEq_nilT hp) ?_
  show Q (.bl (!eqD (.tup (xs.map en)) (.tup []))) G
  rw [eqD_nilT, List.isEmpty_map, pos_iff]
  exact h
theorem atI_zero (d : D) (ds : List D) : atI (d :: ds) 0 = some d := by
  unfold atI
  rw [List.length_cons]
  show ((ixN (ds.length + 1) 0).bind fun j => (d :: ds)[j]?) = some d
  have : ixN (ds.length + 1) 0 = some 0 := by unfold ixN; simp
  rw [this]; rfl
theorem sum_bd {B : Int} (hB : 0 ≤ B) : ∀ {l : List Int}, (∀ i ∈ l, 0 ≤ i ∧ i ≤ B) → 0 ≤ l.sum ∧ l.sum ≤ l.length * B
  | [], _ => ⟨Int.le_refl _, by simp⟩
  | i :: l, h => by
    have h1 := h i (List.mem_cons_self ..)
    have h2 := sum_bd hB (l := l) fun i hi => h i (List.mem_cons_of_mem _ hi)
    rw [List.sum_cons, List.length_cons]
    have : ((l.length + 1 : Nat) : Int) * B = l.length * B + B := by rw [Int.natCast_add, Int.add_mul]; simp
    omega
theorem sumP {f : Int → Int} {a b : List Int} (p : a.Perm b) : (a.map f).sum = (b.map f).sum := by
  induction p with
  | nil => rfl
  | cons x _ ih => rw [List.map_cons, List.map_cons, List.sum_cons, List.sum_cons, ih]
  | swap x y l => simp only [List.map_cons, List.sum_cons]; omega
  | trans _ _ h1 h2 => exact h1.trans h2
theorem sum_pick1 (p : Int → Bool) (f : Int) (F : Int → Int) (g : Int → Int) (F2 : Int → Int) (h : ∀ e, F2 e = if p e = true then f + F e else F e) : ∀ B : List Int, f * ((B.filter p).map g).sum + (B.map fun e => F e * g e).sum = (B.map fun e => F2 e * g e).sum
  | [] => by simp
  | b :: B => by
    have ih := sum_pick1 p f F g F2 h B
    rw [List.map_cons, List.map_cons, List.sum_cons, List.sum_cons, ← ih, h b]
    by_cases c : p b = true
    · rw [List.filter_cons_of_pos c, List.map_cons, List.sum_cons, Int.mul_add, if_pos c, Int.add_mul]
      omega
    · rw [List.filter_cons_of_neg c, if_neg c]
      omega
theorem sum_pick (p : Int → Int → Bool) (f g : Int → Int) (B : List Int) : ∀ A : List Int, (A.map fun i => f i * ((B.filter (p i)).map g).sum).sum = (B.map fun e => ((A.filter fun i => p i e).map f).sum * g e).sum
  | [] => by
    rw [List.map_nil, List.sum_nil]
    induction B with
    | nil => rfl
    | cons b B ih => rw [List.map_cons, List.sum_cons, ← ih]; simp
  | a :: A => by
    rw [List.map_cons, List.sum_cons, sum_pick p f g B A]
    refine sum_pick1 (p a) (f a) _ g _ (fun e => ?_) B
    by_cases c : p a e = true
    · rw [List.filter_cons_of_pos (p := fun i => p i e) c, if_pos c, List.map_cons, List.sum_cons]
    · rw [List.filter_cons_of_neg (p := fun i => p i e) c, if_neg c]
/-- the products of two rows of numbers, all together -/
def dotI (ls ld : List Int) : Int := ((ls.zip ld).map fun p => p.1 * p.2).sum
theorem dotI_nth : ∀ {ls ld : List Int}, ls.length ≤ ld.length → dotI ls ld = ((upto ls.length).map fun i => nth ls i * nth ld i).sum := by
  intro ls ld h
  unfold dotI
  congr 1
  apply List.ext_getElem
  · rw [List.length_map, List.length_map, List.length_zip, upto_len]; omega
  intro i i1 i2
  rw [List.length_map, List.length_zip] at i1
  have l1 : i < ls.length := by omega
  have l2 : i < ld.length := by omega
  rw [List.getElem_map, List.getElem_map, List.getElem_zip]
  have e : (upto ls.length)[i]'(by rw [upto_len]; omega) = (i : Int) := by
    have := upto_get (n := (ls.length : Int)) (k := i) (by omega)
    rw [List.getElem?_eq_getElem (by rw [upto_len]; omega)] at this
    exact Option.some.inj this
  rw [e, nth_nat l1, nth_nat l2]
theorem dotI_set {ls ld : List Int} {i : Int} {v : Int} (h : ls.length ≤ ld.length) (i0 : 0 ≤ i) (i1 : i < ls.length) : dotI (ls.set i.toNat v) ld = dotI ls ld + (v - nth ls i) * nth ld i := by
  obtain ⟨k, rfl⟩ := Int.eq_ofNat_of_zero_le i0
  simp only [Int.ofNat_eq_natCast, Int.toNat_natCast] at *
  have k1 : k < ls.length := by omega
  have k2 : k < ld.length := by omega
  rw [nth_nat k1, nth_nat k2]
  clear i0 i1
  induction ls generalizing ld k with
  | nil => exact absurd k1 (Nat.not_lt_zero _)
  | cons a ls ih =>
    cases ld with
    | nil => exact absurd k2 (Nat.not_lt_zero _)
    | cons b ld =>
      cases k with
      | zero =>
        simp only [List.set_cons_zero, dotI, List.zip_cons_cons, List.map_cons, List.sum_cons, List.getElem_cons_zero, Int.sub_mul]
        omega
      | succ k =>
        have := ih (ld := ld) (k := k) (by simpa using h) (by simpa using k1) (by simpa using k2)
        simp only [List.set_cons_succ, dotI, List.zip_cons_cons, List.map_cons, List.sum_cons, List.getElem_cons_succ] at this ⊢
        rw [this]
        omega
theorem map_nth_upto {α β : Type} [Inhabited α] (g : α → β) (l : List α) : (upto l.length).map (fun i => g (nth l i)) = l.map g := by
  apply List.ext_getElem
  · rw [List.length_map, List.length_map, upto_len]; omega
  intro i i1 i2
  rw [List.length_map] at i2
  rw [List.getElem_map, List.getElem_map]
  have e : (upto l.length)[i]'(by rw [upto_len]; omega) = (i : Int) := by
    have := upto_get (n := (l.length : Int)) (k := i) (by omega)
    rw [List.getElem?_eq_getElem (by rw [upto_len]; omega)] at this
    exact Option.some.inj this
  rw [e, nth_nat i2]
end L2.Ew

set_option Elab.async false
set_option linter.all false
set_option maxRecDepth 100000
set_option maxHeartbeats 4000000
/-! set(a list of whole numbers), sorted. -/
namespace L2.Ew
open PySem PySem.Spec PySem.SeqAt PyProof PyProof.Rows
section
variable {P : Program} {w : World} {A : Around} {E : Value → Shared → Prop} {s : Shared}
/-- a set that is still empty -/
abbrev bareSet (w : World) : Obj := { cls := .type "set", dict := none, data := .set #[] 0 (.fresh 0 0 (!w.params.followText "set-order")) }
theorem set_of_list {l : Addr} {vs : Array Value} (ns : List Int) {Q : Value → Shared → Prop} (hh : A.handled = none) (hl : s.heap.IsList l vs) (hi : IntsAre vs.toList ns) (hb : ns.length + 1 < scanBound)
    (h : ∀ (h' : Heap) (tk c : Nat), SetR w h' s.heap.objs.size (fun j => decide (j ∈ ns)) c → c ≤ ns.length → (∀ b o, s.heap.get? b = some o → h'.get? b = some o) → Q (.ref s.heap.objs.size) { s with heap := h', toks := tk }) :
    wpAny (model P w) A (call (.type "set") [.ref l]) Q E s := by
  have sz : vs.size = ns.length := by have q := IntsAre.length hi; rwa [Array.length_toList] at q
  obtain ⟨c, tl, hmro⟩ := F.called_set.mro
  have k1 := F.called_set.made
  have k2 := F.called_set.sub
  have k3 := F.called_set.notType
  have k4 := F.called_set.canCreate
  have k5 := F.typeCall_set_1 (.ref l)
  refine wpAny_call (codeAny_of_tree ?_)
  show wpAny _ _ (callAny (.type "set") _) _ _ _
  refine wpAny_pure ⟨Code.quiet_builtin _ (by decide +kernel), codeAny_builtin F.entry_type_call ?_⟩
  rw [Around.under_plain (weight_type_call_type "set" [.ref l] []) rfl]
  repeat (any_goals (first | assumption | wp_step))
  refine codeAny_mono (code_set_led1 (.ref l) (E := E) (Q₁ := fun obj s₁ => obj = .ref s.heap.objs.size ∧ s₁ = { s with heap := s.heap.push (bareSet w) }) ⟨rfl, rfl⟩) fun r s₁ hr => ?_
  match r, hr with
  | .error e, hr => exact hr
  | .ok (.ret obj), hr =>
    obtain ⟨rfl, rfl⟩ := hr
    have g0 : (s.heap.push (bareSet w)).get? s.heap.objs.size = some (bareSet w) := Heap.get?_push_size _ rfl
    have ty : Shared.TypeIs { s with heap := s.heap.push (bareSet w) } (.ref s.heap.objs.size) "set" := ⟨_, g0, rfl⟩
    have k6 := F.called_set.init.lookup
    have k7 := F.called_set.init.bind (.ref s.heap.objs.size)
    repeat (any_goals (first | assumption | wp_step))
    refine codeAny_mono (codeAny_call_builtin (R := wants (fun r s₂ => r = .none ∧ ∃ h' tk c, s₂ = { s with heap := h', toks := tk } ∧ SetR w h' s.heap.objs.size (fun j => decide (j ∈ ns)) c ∧ c ≤ ns.length ∧
        (∀ b o, s.heap.get? b = some o → h'.get? b = some o)) E) F.called_set.init.plain F.entry_set_init (check_set_init_1 ty ?_)) fun r₂ s₂ hr₂ => ?_
    · obtain ⟨⟨cl, dd, dt, sl⟩, hol, hcl, nl, hdl⟩ := hl
      simp only at hcl hdl
      subst hcl; subst hdl
      have g1 : (s.heap.push (bareSet w)).get? l = some { cls := .type "list", dict := dd, data := .seq vs nl, slots := sl } := Heap.get?_push_of_some _ hol
      have k8 := F.sub_list_set
      have k9 := F.sub_list_frozenset
      have ka : (Value.type "list" == Value.type "dict") = false := by decide
      have il : (s.heap.push (bareSet w)).IsList l vs := ⟨_, g1, rfl, nl, rfl⟩
      have ls : l < s.heap.objs.size := Heap.lt_size hol
      unfold Builtin.«set.__init__» noKeywords Builtin.Frozenset.updateFrom
      generalize hPI : pyIter = PI
      wp_walk
      subst hPI
      refine wpAny_pyIter_list il ?_
      refine wpAny_bind (wpAny_runValue ?_)
      have h3 : A.in1.in1.in1.handled = none := by simp [hh]
      have hz : (s.heap.push (bareSet w)).objs.size = s.heap.objs.size + 1 := Heap.size_push ..
      have n1 : l ≠ (s.heap.push (bareSet w)).objs.size := by rw [hz]; exact Nat.ne_of_lt (Nat.lt_succ_of_lt ls)
      have n2 : s.heap.objs.size ∉ [(s.heap.push (bareSet w)).objs.size, l] := by
        rw [hz]; simp only [List.mem_cons, List.not_mem_nil, or_false, not_or]
        exact ⟨Nat.ne_of_lt (Nat.lt_succ_self _), Nat.ne_of_gt ls⟩
      have hv : ∀ (i : Nat) (v : Value), vs[i]? = some v → ∃ k t, ns[i]? = some k ∧ v = .int k t := fun i v e => by
        have hi2 : i < ns.length := by rw [← sz]; exact (Array.getElem?_eq_some_iff.mp e).1
        obtain ⟨t, et⟩ := IntsAre.int_at hi i v (by rw [Array.getElem?_toList]; exact e)
        exact ⟨ns[i], t, List.getElem?_eq_getElem hi2, by rw [et, List.getD_eq_getElem?_getD, List.getElem?_eq_getElem hi2] <;> rfl⟩
      refine set_update_ints ((Walks.list h3 _ l n1 vs).toS) s.heap.objs.size n2 ns sz hb hv (vs.size - 0) 0 _ (by omega) (Nat.zero_le _) ⟨⟨_, Heap.get?_push_size _ rfl, rfl, rfl⟩, il.push _⟩ ?hS ?hR
      case hS => exact ⟨0, Nat.le_refl 0, setR_new_at (Heap.get?_push_of_some _ g0)⟩
      case hR =>
        rintro ⟨h', gn, dr, tk, os⟩ c' hm hc' hS'
        have e1 : gn = s.gens := hm.gens
        have e2 : dr = s.drawn := hm.drawn
        have e3 : os = s.os := hm.os
        subst e1; subst e2; subst e3
        show wpAny _ _ _ _ _ _
        refine wpAny_pure ?_
        show wpAny _ _ (ret Value.none) _ _ _
        refine wpAny_pure ⟨rfl, h', tk, c', rfl, hS', by rw [sz] at hc'; exact hc', fun b o e => ?_⟩
        have b0 : b < s.heap.objs.size := Heap.lt_size e
        exact hm.heap b o (by simp only [List.mem_cons, List.not_mem_nil, or_false, not_or]; rw [hz]; exact ⟨Nat.ne_of_lt b0, Nat.ne_of_lt (Nat.lt_succ_of_lt b0)⟩) (Heap.get?_push_of_some _ (Heap.get?_push_of_some _ e))
    · match r₂, hr₂ with
      | .error e, hr₂ => exact hr₂
      | .ok (.ret r), hr₂ =>
        obtain ⟨rfl, h', tk, c', rfl, hS', hc', hk'⟩ := hr₂
        repeat (any_goals (first | assumption | wp_step))
        exact h _ _ _ hS' hc' hk'
end
def tSortSetL (K : PySem.W.Frag) (ta : TE) : TE := fun σ H Q => ta σ H fun x H1 => ∃ (l : Addr) (ns : List Int), x = .ref l ∧ SqL K H1 l (ns.map V.int) ∧ ns.length ≤ 1000 ∧ fewOf ns ∧
  ∀ (out : List Int) (p : Addr), out.Pairwise (· < ·) → (∀ k, k ∈ out ↔ k ∈ ns) → H1 p = none → Q (.ref p) (upd H1 p (.lst (out.map V.int)))
section
variable {X : Cx} {a : Expr} {p p2 q pos : Pos}
theorem pe_sortSetL {ta : TE} (hc : X.calm = true) (g1 : Gl X "sorted") (n1 : X.mg "sorted" = none) (g2 : Gl X "set") (n2 : X.mg "set" = none) (ha : PE X a ta)
    (na : starEach [a] X.env = (false, eval a X.env) :: starEach [] X.env := by rfl) : PE X (.Call (.Name "sorted" p) [.Call (.Name "set" p2) [a] [] q] [] pos) (tSortSetL X.K ta) := by
  refine ⟨fun pins s σ H Q I h => Call_ (ld_blt I g1 n1 (show bootBuiltins "sorted" = some (.builtin "sorted") by decide +kernel) (callWith_builtin1 (args_cons (Call_ (ld_blt I g2 n2 boot_set ?_)) rfl) rfl rfl))⟩
  refine callWith_type1 (args_cons (thn (ha.run pins s σ H _ I h) fun v s1 ⟨x, H1, I1, r1, z⟩ => args_nil ?_) na) na rfl
  obtain ⟨l, ns, rfl, ht, hl, hf, z⟩ := z
  cases r1
  obtain ⟨its, rv, pt, _⟩ := I1.list ht
  have hi : IntsAre its.toArray.toList ns := ints_of_vals rv
  refine set_of_list ns (I1.ok.hd hc) pt.isList hi (by unfold scanBound; omega) fun h' tk c R1 _ kk => args_nil ?_
  have I2 : Inv X pins σ H1 { s1 with heap := h', toks := tk } := I1.kept kk
  have small : c < 64 := by
    obtain ⟨_, es, _, _, _, _, _, _, nd, mm, _, _, hn, _⟩ := R1
    have := hf _ nd fun k => by rw [← mm k, decide_eq_true_eq]
    rw [List.length_map, Array.length_toList] at this
    omega
  have R2 : SetR X.w ({ s1 with heap := h', toks := tk } : Shared).heap s1.heap.objs.size (fun j => decide (j ∈ ns)) c := R1
  generalize ({ s1 with heap := h', toks := tk } : Shared) = s2 at I2 R2 ⊢
  refine sorted_set R2 (I2.ok.hd hc) small fun s' b out c' rs k1 gn osn hb hgt hint hs hmem hlen => ?_
  have hz : (rs.map V.int).length ≤ sizeLine := by rw [List.length_map, sizeLine_eq]; omega
  have free : H1 b = none := I2.hok.fresh hb
  have J : Inv X pins σ (upd H1 b (.lst (rs.map V.int))) { s2 with heap := s'.heap, gens := s'.gens, drawn := s'.drawn, toks := s'.toks } :=
    I2.call (ch := []) (Un.laid k1 hb free) (I2.hok.laid k1 hb ⟨hz, out.toList, c', vals_of_ints hint, hgt⟩) (by rw [gn]; exact I2.bare) (fun _ w => nomatch w)
  have es : s' = { s2 with heap := s'.heap, gens := s'.gens, drawn := s'.drawn, toks := s'.toks } := by
    cases s'; cases s2; cases osn; rfl
  rw [es]
  exact ⟨.ref b, _, J, rfl, z rs b hs (fun k => by rw [hmem k, decide_eq_true_eq]) free⟩
def dSortSetL (te : DE) : DE := fun s G Q => te s G fun d G1 => ∃ ns : List Int, d = .lst (ns.map D.int) ∧ ns.length ≤ 1000 ∧ fewOf ns ∧ ∀ out : List Int, out.Pairwise (· < ·) → (∀ k, k ∈ out ↔ k ∈ ns) → Q (.lst (out.map D.int)) G1
theorem ped_sortSetL {te : DE} (g1 : Gl X "sorted") (n1 : X.mg "sorted" = none) (g2 : Gl X "set") (n2 : X.mg "set" = none) (ha : PED X a te) (hc : X.calm = true := by rfl)
    (na : starEach [a] X.env = (false, eval a X.env) :: starEach [] X.env := by rfl) : PED X (.Call (.Name "sorted" p) [.Call (.Name "set" p2) [a] [] q] [] pos) (dSortSetL te) := by
  refine ⟨(pe_sortSetL hc g1 n1 g2 n2 ha.out na).weak fun σ H Q ⟨F, s, G, R, rs, rg, q, p⟩ => ?_⟩
  refine ⟨F, s, G, _, rs, rg, q, fun d G1 x H1 st rx rg1 ⟨ns, ed, hl, hf, z⟩ => ?_⟩
  subst ed
  cases rx with
  | lst h n r =>
    rw [r.ints_of] at h
    exact ⟨_, ns, rfl, SqL.of h, hl, hf, fun out b h1 h2 hb => new_lst (p.step st) rg1 (RepL.ints out) (z out h1 h2) b hb⟩
variable {te : DE} {s : DS} {G : DH} {Q : DK}
instance : Stp (dSortSetL te s G Q) (te s G fun d G1 => ∃ ns : List Int, d = .lst (ns.map D.int) ∧ ns.length ≤ 1000 ∧ fewOf ns ∧ ∀ out : List Int, out.Pairwise (· < ·) → (∀ k, k ∈ out ↔ k ∈ ns) → Q (.lst (out.map D.int)) G1) := ⟨id⟩
end
end L2.Ew

set_option Elab.async false
set_option linter.all false
set_option maxRecDepth 100000
set_option maxHeartbeats 4000000
/-! Defs that are only called where nothing is being shown: repr in them. -/
namespace L2.Ew
open PySem PySem.Spec PySem.SeqAt PyProof PyProof.Rows
section
variable {P : Program} {w : World} {K : PySem.W.Frag} {mg : Str → Option Value} {base : Heap} {x : Str} {st : Stmt} {f : Addr} {fd : FuncData} {N ps : List Str} {k : Nat} {t : DT} {sp : DSp}
theorem guard_run (F : Fun K x x st f fd) (S : FnScope N ps (defScope st)) (body : LoneBody P w K mg base N x st k t)
    (sem : ∀ ds G R X, sp ds G R X → ds.length = ps.length ∧ t { nx := fun _ G' => RetOk R .non G', rt := RetOk R } (dstart N ds) G)
    {A : Around} {outer : List Env} {s : Shared} {H : Hp} {args : Args} {us : List Value} {vs : List V} {Q : VK} {E : XK} (hg : A.guards = some []) (hr : Room (k + 1) A) (e0 : Env0 P w K mg base A outer s H) (hb : BindsTo s fd args (ps.zip us)) (hv : Vals vs us) (hs : lower K sp vs H Q E) :
    codeAny (model P w) A (.call (.ref f) args) (CR CX0 outer P w H s Q E) s := by
  obtain ⟨_, _, _, _, _, _, cdv, _, _, rfl, lk, hcd⟩ := F.ex
  obtain ⟨Fh, ds, G, R, Y, r, g, q, p, _⟩ := hs
  obtain ⟨n1, go⟩ := sem ds G R Y q
  have old : ∀ b o, base.get? b = some o → s.heap.get? b = some o := fun b o e => (e0.bs b o e).1
  have kin : K.In s.heap := e0.mod.kin.keeps old
  refine codeAny_call_function hr.depth (kin _ _ lk) rfl S.co S.gen rfl (PySem.W.codeRec_of kin hcd) (hb _ _ _ _ (wpAny_newFunctionEnv_cells S.kind ?_ fun env he s1 z => ?_))
  · rintro ⟨n, v⟩ hm
    exact (S.par n (List.of_mem_zip hm).1).imp id fun q => ⟨q, PySem.W.cellsFrom_some _ _ _ (.inl q)⟩
  · subst he
    have J := inv_start (CX := CX0) (qual := x) (f := f) (cd := cdv) (E := E) S hr.hd e0 (r.len.trans n1) hv z
    refine ⟨(e0.mod.nolimit.keeps old).keeps z.toInCall.keep, codeAny_func (wpAny_mono ((body f cdv A outer s H E hg (hr.deeper _)).out.nox.run [] s1 (start N vs) H { nx := fun _ H' => Q .non H', rt := Q } J
      ⟨Fh, dstart N ds, G, _, reps_start r, g, go, ⟨fun _ _ _ _ st _ rg q => p.ret _ _ _ _ st .non rg q, p.ret, fun _ _ _ _ _ _ _ z => z.elim, fun _ _ _ _ _ _ _ z => z.elim⟩⟩) ?_ fun _ _ h => h)⟩
    intro fl s' h
    cases fl with
    | ret u => obtain ⟨v, σ2, H2, I2, rv, q2⟩ := h; exact ⟨v, H2, I2.os, I2.bare, I2.base, I2.hok, rv, q2⟩
    | next => obtain ⟨σ2, H2, I2, q2⟩ := h; exact ⟨.non, H2, I2.os, I2.bare, I2.base, I2.hok, rfl, q2⟩
    | brk => obtain ⟨_, _, _, z⟩ := h; exact False.elim z
    | cont => obtain ⟨_, _, _, z⟩ := h; exact False.elim z
/-- a def as it is called where nothing is being shown -/
structure FnDG (P : Program) (w : World) (K : PySem.W.Frag) (mg : Str → Option Value) (base : Heap) (k : Nat) (x : Str) (sp : DSp) : Prop where
  ex : ∃ f fd ps, mg x = some (.ref f) ∧ PySem.W.keepIn K (.ref f) = true ∧ Binds K fd ps [] ∧ (∀ vs H Q E, lower K sp vs H Q E → vs.length = ps.length) ∧
    ∀ (A : Around) (outer : List Env) (s : Shared) (H : Hp) (args : Args) (us : List Value) (vs : List V) (Q : VK) (E : XK), A.guards = some [] → Room k A → Env0 P w K mg base A outer s H → BindsTo s fd args (ps.zip us) → Vals vs us → lower K sp vs H Q E →
      codeAny (model P w) A (.call (.ref f) args) (CR CX0 outer P w H s Q E) s
theorem fndG_mk (A : DefAt K mg x st) (S : FnScope N ps (defScope st))
    (bd : ∀ (kV doc pm : Value) (an : Option Addr) (cdv ct : Value) (us : List Value), us.length = ps.length → bindArgs (PySem.W.fnOf x x (defArgs st) (defBody st) (defScope st) .none kV doc pm an cdv ct) ⟨us, []⟩ = pure (ps.zip us))
    (body : LoneBody P w K mg base N x st k t)
    (sem : ∀ ds G R X, sp ds G R X → ds.length = ps.length ∧ t { nx := fun _ G' => RetOk R .non G', rt := RetOk R } (dstart N ds) G) : FnDG P w K mg base (k + 1) x sp := by
  obtain ⟨f, fd, hm, F⟩ := A.ex
  refine ⟨f, fd, ps, hm, F.kp, F.binds bd, fun vs H Q E ⟨_, ds, G, R, X, r, _, q, _⟩ => by rw [r.len]; exact (sem ds G R X q).1, fun A outer s H args us vs Q E hg hr e0 hb hv hs => guard_run F S body sem hg hr e0 hb hv hs⟩
variable {X : Cx} {tr : DA} {e : Expr} {es : List Expr} {p pos : Pos}
theorem ped_callG {k : Nat} {x : Str} {sp : DSp} (F : FnDG X.prog X.w X.K X.mg X.base k x sp) (hgd : X.A.guards = some []) (hr : Room k X.A) (hg : Gl X x) (ha : PAD X (e :: es) tr) (hdb : (x == ("__debug__" : Str)) = false := by decide)
    (he : starEach (e :: es) X.env = (false, eval e X.env) :: starEach es X.env := by rfl) (hpl : (backTo pos (starEach es X.env)).any (·.1) = false := by rfl) : PED X (.Call (.Name x p) (e :: es) [] pos) (dFn sp tr) := by
  obtain ⟨f, fd, ps, hm, hk, hb, hlen, run⟩ := F.ex
  have go : PE X (.Call (.Name x p) (e :: es) [] pos) (tCall (lower X.K sp) [] E0 (lowA X.K tr)) := by
    refine ⟨fun pins s σ H Q I h => ?_⟩
    refine wpAny_Call_Name_kw (ld_glob I hg hm ?_ hdb)
    refine PySem.W.callWith_K (h₀ := X.base) I.ok.mod.kin hk (thn (ha.out.run pos pins s σ H _ I h) fun us s1 ⟨vs, H1, I1, r, q⟩ => ⟨I1.kIn, ?_⟩) he hpl
    have hl : (us ++ []).length = ps.length := by
      have := hlen _ _ _ _ q
      rw [List.append_nil] at this ⊢
      rw [← r.length]; exact this
    have r2 : Vals (vs ++ []) (us ++ []) := r.append .nil
    refine wpAny_call (codeAny_mono (run X.A X.stack s1 H1 ⟨us, []⟩ (us ++ []) (vs ++ []) Q E0 hgd hr I1.env0 (hb s1 us I1.kIn hl) r2 q) fun r s' hq => ?_)
    cases r with
    | error e => exact pass0 pins σ H1 s1 e s' I1 hq
    | ok fl =>
      cases fl with
      | ret u => exact I1.after hq
      | next => exact False.elim hq
      | brk => exact False.elim hq
      | cont => exact False.elim hq
  exact ⟨go.weak fun _ _ _ h => low_fn h⟩
end
end L2.Ew

set_option Elab.async false
set_option linter.all false
set_option maxRecDepth 100000
set_option maxHeartbeats 4000000
/-! sorted(a tuple of whole numbers). -/
namespace L2.Ew
open PySem PySem.Spec PySem.SeqAt PyProof PyProof.Rows
section
variable {prog : Program} {w : World} {A : Around} {E : Value → Shared → Prop} {s : Shared}
/-- a tuple's items are gathered: a new list more, nothing else -/
theorem gather_tup {Q : List Value → Shared → Prop} {it : Addr} {o : Obj} {vs : List Value} {n : Nat} (ho : s.heap.get? it = some o) (hc : o.cls = .type "tuple") (hd : o.data = .seq vs.toArray n) (hsz : vs.toArray.size ≤ sizeLine)
    (hQ : Q vs { s with heap := (s.heap.push (seqObj "list" #[] 0)).update s.heap.objs.size (Obj.mapSeq (· ++ vs.toArray)) }) : wpAny (model prog w) A (collect (.ref it)) Q E s := by
  unfold collect
  refine wpAny_bind (wpAny_runValue (codeAny_builtin PySem.F.entry_proto_collect ?_))
  rw [Around.under_plainId PySem.F.plain_proto_collect _]
  show wpAny _ A.in1 (newList [] >>= fun l => again (.builtin "list.__iadd__" ⟨[l, .ref it], []⟩)) _ _ s
  refine wpAny_bind (wpAny_newObj_type ?_)
  refine wpAny_pure ⟨plainId_quiet PySem.F.plain_list_iadd _, codeAny_builtin PySem.F.entry_list_iadd ?_⟩
  rw [Around.under_plainId PySem.F.plain_list_iadd _]
  show wpAny _ A.in1 (Builtin.List.listExtendWith (.ref s.heap.objs.size) (.ref it) (.ref s.heap.objs.size)) _ _ _
  have g0 : (s.heap.push (seqObj "list" #[] 0)).get? s.heap.objs.size = some (seqObj "list" #[] 0) := Heap.get?_push_size _ rfl
  have g1 := Heap.get?_update_self (Obj.mapSeq (· ++ vs.toArray)) g0 rfl
  have fin : wpAny (model prog w) A (do
      let o ← PySem.load s.heap.objs.size
      match o.data with
      | .seq xs _ => pure xs.toList
      | _ => unsupported "internal:collect") Q E { s with heap := (s.heap.push (seqObj "list" #[] 0)).update s.heap.objs.size (Obj.mapSeq (· ++ vs.toArray)) } := by
    refine wpAny_bind (wpAny_load g1 ?_)
    refine wpAny_pure ?_
    show Q ((#[] : Array Value) ++ vs.toArray).toList _
    rw [show ((#[] : Array Value) ++ vs.toArray).toList = vs by simp]
    exact hQ
  refine wpAny_mono (wpAny_extend_seq (hsz := hsz) (A := A) (R := fun r s' => r = .ok (.ret (.ref s.heap.objs.size)) ∧ s' = { s with heap := (s.heap.push (seqObj "list" #[] 0)).update s.heap.objs.size (Obj.mapSeq (· ++ vs.toArray)) })
    (s := { s with heap := s.heap.push (seqObj "list" #[] 0) }) _ it _ 0 (.inr rfl) g0 (Heap.get?_push_of_some _ ho) hc hd ⟨rfl, rfl⟩) (fun fn s' h => ?_) (fun e s' h => ?_)
  · cases fn with
    | done f =>
      obtain ⟨e, rfl⟩ := h
      cases e
      exact fin
    | again c' => exact ⟨h.1, codeAny_mono h.2 fun r s'' hr => by obtain ⟨rfl, rfl⟩ := hr; exact fin⟩
  · exact absurd h.1 (by simp)
end
section
variable {X : Cx}
def rSortedT (K : PySem.W.Frag) : List V → Hp → VK → Prop := fun vs H Q => ∃ (a : Addr) (ns : List Int), vs = [V.ref a] ∧ SqT K H a (ns.map V.int) ∧
  ∀ (ns' : List Int) (p : Addr), ns'.Perm ns → ns'.Pairwise (· ≤ ·) → H p = none → Q (.ref p) (upd H p (.lst (ns'.map V.int)))
theorem cr_sortedT : CallR X (.builtin "sorted") (rSortedT X.K) := by
  intro pins s σ H vs us Q I r h
  obtain ⟨a, ns, rfl, hs, q⟩ := h
  obtain ⟨its, rv, hl, hz⟩ := I.tuple hs
  rw [Vals.ref1 r]
  have hi := rv.ints
  have hz2 : its.length ≤ sizeLine := by rw [← rv.length]; exact hz
  obtain ⟨o, ho, hc, n, hd⟩ := hl
  refine Calls.call_function_entry kind_sorted plain_sorted entry_sorted (args_sorted1 _) ?_
  unfold Builtin.«sorted»
  refine wpAny_bind (m := checkCount "sorted" 1 1 _) (wpAny_pure ?_)
  refine wpAny_bind (gather_tup ho hc hd (by rw [List.size_toArray]; exact hz2) ?_)
  refine wpAny_bind (wpAny_newList ?_ hz2)
  have hsz : ((s.heap.push (seqObj "list" #[] 0)).update s.heap.objs.size (Obj.mapSeq (· ++ its.toArray))).objs.size = s.heap.objs.size + 1 := by
    rw [Heap.size_update, size_push']
  have hk : ∀ b o, s.heap.get? b = some o → ((s.heap.push (seqObj "list" #[] 0)).update s.heap.objs.size (Obj.mapSeq (· ++ its.toArray))).get? b = some o := fun b o e => by
    rw [Heap.get?_update_ne _ _ _ _ (Nat.ne_of_lt (Heap.lt_size e))]
    exact Heap.get?_push_of_some _ e
  generalize ((s.heap.push (seqObj "list" #[] 0)).update s.heap.objs.size (Obj.mapSeq (· ++ its.toArray))) = h1 at hsz hk
  have hoL : (h1.push (seqObj "list" its.toArray 0)).get? h1.objs.size = some (seqObj "list" its.toArray 0) := Heap.get?_push_size _ rfl
  refine wpAny_bind (wpAny_holding (wpAny_call_entry slot_list_sort ⟨_, hoL, rfl⟩ entry_list_sort (SrtO.list_sort_ord SrtO.swo_int hoL hz2 (fun h2 => SrtO.ints_sortable hi h2) fun out hs hb => ⟨_, rfl, ?_⟩) (args_list_sort _)))
  obtain ⟨k1, k2, k3⟩ := SrtO.ints_out hi hs hb
  obtain ⟨ep, he'⟩ := sortedHeap_at (out := out.toArray) hoL
  have hlen : ((out.map SrtO.iv).map V.int).length ≤ sizeLine := by
    rw [List.length_map, k2.length_eq]
    rw [List.length_map] at hz
    exact hz
  have old : ∀ b o, s.heap.get? b = some o → (sortedHeap (h1.push (seqObj "list" its.toArray 0)) h1.objs.size its out.toArray).get? b = some o := fun b o e => by
    have e1 := hk b o e
    have l1 := Heap.lt_size e1
    rw [sortedHeap_old (Nat.ne_of_lt l1) (by rw [size_push']; exact Nat.lt_succ_of_lt l1)]
    exact Heap.get?_push_of_some _ e1
  have le1 : s.heap.objs.size ≤ h1.objs.size := by rw [hsz]; exact Nat.le_succ _
  refine wpAny_pure ⟨_, rfl, .ref _, upd H h1.objs.size (.lst ((out.map SrtO.iv).map V.int)), I.laid (t' := s.toks) old le1 ?_, rfl, q _ _ k2 k3 (I.hok.fresh le1)⟩
  exact ⟨hlen, out, ep, vals_of_ints k1, he'⟩
end
section
variable {X : Cx} {G : DH} {Q : DK}
def cSortedT : DRs := fun ds G Q => match ds with
  | [.tup es] => match intsD es with
    | some ns => ∀ ns' : List Int, ns'.Perm ns → ns'.Pairwise (· ≤ ·) → Q (.lst (ns'.map D.int)) G
    | none => False
  | _ => False
theorem cdSortedT : CallD X (.builtin "sorted") cSortedT := by
  refine ⟨fun pins s σ H xs us Q I r ⟨F, ds, G, R, rx, rg, q, p⟩ => ?_⟩
  unfold cSortedT at q
  split at q <;> try exact q.elim
  split at q <;> try exact q.elim
  rename_i es _ ns hn
  cases rx with
  | cons r1 r2 =>
    cases r2
    cases r1 with
    | tup h n r' =>
      rw [intsD_eq hn] at r'
      rw [r'.ints_of] at h
      exact cr_sortedT pins s σ H _ us Q I r ⟨_, ns, rfl, SqT.of h, fun ns' q' h3 h4 hq => new_lst p rg (RepL.ints ns') (q ns' h3 h4) q' hq⟩
theorem st_sortT {ns : List Int} (h : ∀ ns' : List Int, ns'.Perm ns → ns'.Pairwise (· ≤ ·) → Q (.lst (ns'.map D.int)) G) : cSortedT [.tup (ns.map D.int)] G Q := by
  unfold cSortedT
  simp only [intsD_map]
  exact h
end
end L2.Ew

set_option Elab.async false
set_option linter.all false
set_option maxRecDepth 100000
set_option maxHeartbeats 4000000
/-! d.get(k, x); comprehensions that change the heap. -/
namespace L2.Ew
open PySem PySem.Spec PySem.SeqAt PyProof.Rows
def get2b (a : Addr) (Q : DK) (y z : D) (G : DH) : Prop := ∃ kvs k, G a = some (.dk kvs) ∧ keyD y = some k ∧ Q ((valD kvs k).getD z) G
def get2a (te tx : DE) (s : DS) (Q : DK) (d : D) (G : DH) : Prop := ∃ a, d = .ptr a ∧ (∃ kvs, G a = some (.dk kvs)) ∧ te s G fun y G2 => tx s G2 fun z G3 => get2b a Q y z G3
def dGet2 (to te tx : DE) : DE := fun s G Q => to s G fun d G1 => get2a te tx s Q d G1
section
variable {X : Cx} {o e f : Expr} {to te tx : DE} {apos pos : Pos}
theorem ped_get2 (hu : X.A.units + 64 < cLine) (ho : PED X o to) (he : PED X e te) (hf : PED X f tx) (m : M2 X o "get" apos e f pos) : PED X (.Call (.Attribute o "get" apos) [e, f] [] pos) (dGet2 to te tx) := by
  refine ⟨(pe_dget2 (by omega) ho.out he.out hf.out m).weak fun σ H Q ⟨F, s, G, R, rs, rg, q, p⟩ => ?_⟩
  refine ⟨F, s, G, _, rs, rg, q, fun d G1 x H1 st rx rg1 ⟨a, ed, ⟨zs, hz⟩, q1⟩ => ?_⟩
  subst ed
  cases rx
  obtain ⟨ws0, h0, _, _⟩ := rg1.ob a _ hz
  refine ⟨a, rfl, .inl ⟨ws0, .inl h0⟩, F, s, G1, _, rs.step st, rg1, q1, fun y G2 u H2 st2 ry rg2 q2 => ?_⟩
  refine ⟨F, s, G2, _, (rs.step st).step st2, rg2, q2, fun z G3 u2 H3 st3 rz rg3 ⟨kvs, k, hg, hk, q3⟩ => ?_⟩
  obtain ⟨ws, h1, h2, r⟩ := rg3.ob a _ hg
  have ry' := ry.step st3
  have ek := key_rep ry' hk
  subst ek
  refine ⟨valV ws k, DGet.k h1, ?_⟩
  have stt := (st.trans st2).trans st3
  cases hv : valD kvs k with
  | none =>
    rw [hv] at q3
    rw [val_none h2 hv]
    exact p _ _ _ _ stt rz rg3 q3
  | some w =>
    rw [hv] at q3
    obtain ⟨v, h3, h4⟩ := val_rep h2 r hv
    rw [h3]
    exact p _ _ _ _ stt h4 rg3 q3
end
section
variable {to te tx : DE} {s : DS} {G : DH} {Q : DK} {a : Addr} {kvs : List (Key × D)} {k : Key} {y z : D}
instance : Stp (dGet2 to te tx s G Q) (to s G fun d G1 => get2a te tx s Q d G1) := ⟨id⟩
theorem st_get2a (hg : G a = some (.dk kvs)) (h : te s G fun y G2 => tx s G2 fun z G3 => get2b a Q y z G3) : get2a te tx s Q (.ptr a) G := ⟨a, rfl, ⟨kvs, hg⟩, h⟩
theorem st_get2b (hg : G a = some (.dk kvs)) (hk : keyD y = some k) (h : Q ((valD kvs k).getD z) G) : get2b a Q y z G := ⟨kvs, k, hg, hk, h⟩
end
theorem comp_invG {g : DG} {tt : DTT} {te : DE} {gd : DH → Prop} {vs : List Nat} {s : DS} {xs : List D} {R : List D → DH → Prop} {G : DH} (W : Nat → List D → DH → Prop) (h0 : W 0 [] G) (hg : ∀ i acc G, W i acc G → gd G)
    (ht : ∀ i d acc G (K : List D → DH → Prop), i < xs.length → xs[i]? = some d → W i acc G → (∀ acc' G', W (i + 1) acc' G' → K acc' G') → g d (wipeD s vs) G fun s1 G1 => tt s1 G1 fun b G2 => if b = true then te s1 G2 fun y G3 => K (acc ++ [y]) G3 else K acc G2) (hd : ∀ acc G, W xs.length acc G → R acc G) : dCompL g tt te gd vs s xs [] G R := by
  have key : ∀ (n i : Nat) (acc : List D) (G : DH), n + i = xs.length → W i acc G → dCompL g tt te gd vs s (xs.drop i) acc G R := by
    intro n
    induction n with
    | zero =>
      intro i acc G e w
      have e' : i = xs.length := by omega
      subst e'
      rw [List.drop_length]
      exact ⟨hg _ _ _ w, hd acc G w⟩
    | succ n ih =>
      intro i acc G e w
      have hi : i < xs.length := by omega
      rw [List.drop_eq_getElem_cons hi]
      exact ⟨hg _ _ _ w, ht i _ acc G (fun acc' G' => dCompL g tt te gd vs s (xs.drop (i + 1)) acc' G' R) hi (List.getElem?_eq_getElem hi) w fun acc' G' w' => ih (i + 1) acc' G' (by omega) w'⟩
  exact key xs.length 0 [] G (by omega) h0
/-! ### a, b = x, y -/
def dPar (i j : Nat) (ta : DA) : DT := fun E s G => ta s G fun ds G1 => ∃ d e, ds = [d, e] ∧ E.nx ((s.set i (some d)).set j (some e)) G1
section
variable {X : Cx} {i j : Nat} {x y : Str} {a b : Expr} {ta : DA} {px py pt pos : Pos} {kt : Nat} {k2 : Nat} {pt2 : Pos}
theorem psd_par (hc : X.calm = true) (hN : X.N.Nodup) (hi : X.N[i]? = some x) (hj : X.N[j]? = some y) (hij : i ≠ j)
    (hx : X.env.scope.names.lookup x = some .local) (hy : X.env.scope.names.lookup y = some .local) (ha : PAD X [a, b] ta)
    (hw : swappedStores [.Tuple [.Name x px, .Name y py] kt pt] (.Tuple [a, b] k2 pt2) X.env = pure (some [x, y]) := by rfl)
    (hs : swapsWithSole [.Tuple [.Name x px, .Name y py] kt pt] (.Tuple [a, b] k2 pt2) pos.line X.env = pure false := by rfl) :
    PSD X (.Assign [.Tuple [.Name x px, .Name y py] kt pt] (.Tuple [a, b] k2 pt2) pos) (dPar i j ta) := by
  refine ⟨(ps_par hc hN hi hj hij hx hy ha.out hw hs).weak fun D σ H ⟨F, s, G, R, rs, rg, q, p⟩ => ?_⟩
  refine ⟨F, s, G, _, rs, rg, q, fun ds G1 xs H1 st rx rg1 ⟨d, e, ed, q1⟩ => ?_⟩
  subst ed
  cases rx with
  | cons r1 r2 =>
    cases r2 with
    | cons r2 r3 =>
      cases r3
      exact ⟨_, _, rfl, p.nx _ _ _ _ st (((rs.step st).set r1 i).set r2 j) rg1 q1⟩
end
section
variable {i j : Nat} {ta : DA} {s : DS} {G : DH} {D' : DEnds} {d e : D}
def parK (i j : Nat) (E : DEnds) (s : DS) : List D → DH → Prop := fun ds G1 => ∃ d e, ds = [d, e] ∧ E.nx ((s.set i (some d)).set j (some e)) G1
instance : Stp (dPar i j ta D' s G) (ta s G (parK i j D' s)) := ⟨id⟩
instance : Stp (parK i j D' s [d, e] G) (D'.nx ((s.set i (some d)).set j (some e)) G) := ⟨fun h => ⟨d, e, rfl, h⟩⟩
end
end L2.Ew

set_option Elab.async false
set_option linter.all false
set_option maxRecDepth 100000
set_option maxHeartbeats 4000000
/-! min(a tuple of whole numbers, default=x). -/
namespace L2.Ew
open PySem PySem.Spec PySem.SeqAt PyProof PyProof.Rows
section
variable {prog : Program} {w : World} {A : Around} {R : Result → Shared → Prop} {I : Addr} {fp wr : List Addr} {n : Nat} {P : Nat → Value → Prop} {St : Nat → Heap → Prop} {d : Value}
abbrev dflt (d : Value) : List (Str × Value) := [(Str.ofString "default", d)]
/-- the list in which the least one so far is kept -/
abbrev keptL (c : Nat) (xs : Array Value) : Obj := { cls := .type "list", dict := none, data := .seq xs c, slots := #[] }
/-- the turns, from the j-th on; what is kept is nothing, or the best one so far, twice -/
theorem least_turns (W : Walks prog w A.in1 I fp wr n P St) (bt : Nat → Nat → Bool) (hcmp : CmpOf prog w A.in1 .Lt P bt) (S : Addr) (hSf : S ∉ fp) :
    ∀ (k j : Nat) (s : Shared) (kept : Array Value) (c : Nat), n - j = k → j ≤ n → St j s.heap → ((kept = #[] ∧ j = 0) ∨ ∃ v, kept = #[v, v] ∧ 0 < j ∧ P (argBest bt (j - 1)) v) → s.heap.get? S = some (keptL c kept) →
    (∀ v h' tk, (n = 0 ∧ v = d ∨ 0 < n ∧ P (argBest bt (n - 1)) v) → (∀ b o, b ∉ wr → b ≠ S → s.heap.get? b = some o → h'.get? b = some o) → R (.ok (.ret v)) { s with heap := h', toks := tk }) →
    codeAny (model prog w) A (.builtin "min.loop" ⟨[.ref I, .none, .ref S], dflt d⟩) R s := by
  have hSw : S ∉ wr := fun h => hSf (W.sub _ h)
  have hname : (toString "min" ++ toString ".loop" : String) = "min.loop" := by decide
  intro k
  induction k with
  | zero =>
    intro j s kept c hk hj hst hkept hS hR
    have hin : j = n := by omega
    subst hin
    refine codeAny_builtin PySem.F.entry_min_loop ?_
    rw [Around.under_plainId PySem.F.plain_min_loop _]
    rcases hkept with ⟨rfl, h0⟩ | ⟨v, rfl, h0, hP⟩
    · show wpAny _ A.in1 (seqItems? (.ref S) >>= _) _ _ s
      refine wpAny_bind (wpAny_seqItems hS rfl ?_)
      show wpAny _ A.in1 (tryCatch (pyNext (.ref I)) _ >>= _) _ _ s
      refine wpAny_bind (wpAny_tryCatch (W.done s _ _ hst fun h' tk hk' => ?_))
      show wpAny _ A.in1 (rule _ >>= fun _ => ret d) _ _ _
      refine wpAny_bind (wpAny_rule (wpAny_pure ?_))
      exact hR d h' tk (.inl ⟨h0, rfl⟩) fun b o hbw _ e => hk' b o hbw e
    · show wpAny _ A.in1 (seqItems? (.ref S) >>= _) _ _ s
      refine wpAny_bind (wpAny_seqItems hS rfl ?_)
      show wpAny _ A.in1 (tryCatch (pyNext (.ref I)) _ >>= _) _ _ s
      refine wpAny_bind (wpAny_tryCatch (W.done s _ _ hst fun h' tk hk' => ?_))
      have hS' := hk' S _ hSw hS
      show wpAny _ A.in1 (updateSeq S (fun _ => #[]) >>= _) _ _ _
      refine wpAny_bind ?_
      refine wpAny_updateSeq hS' rfl (wpAny_bind (wpAny_letGo (wpAny_pure ?_)))
      exact hR v _ tk (.inr ⟨h0, hP⟩) fun b o hbw hbS e => (Heap.get?_update_other _ _ (Ne.symm hbS)).trans (hk' b o hbw e)
  | succ k ih =>
    intro j s kept c hk hj hst hkept hS hR
    have hlt : j < n := by omega
    refine codeAny_builtin PySem.F.entry_min_loop ?_
    rw [Around.under_plainId PySem.F.plain_min_loop _]
    rcases hkept with ⟨rfl, h0⟩ | ⟨vb, rfl, h0, hPb⟩
    · subst h0
      show wpAny _ A.in1 (seqItems? (.ref S) >>= _) _ _ s
      refine wpAny_bind (wpAny_seqItems hS rfl ?_)
      show wpAny _ A.in1 (tryCatch (pyNext (.ref I)) _ >>= _) _ _ s
      refine wpAny_bind (wpAny_tryCatch (W.item 0 s _ _ hlt hst fun v h' tk hP hst' hk' => ?_))
      have hS' := hk' S _ hSw hS
      show wpAny _ A.in1 (updateSeq S (fun _ => #[v, v]) >>= _) _ _ _
      refine wpAny_bind ?_
      refine wpAny_updateSeq hS' rfl ?_
      rw [hname]
      refine wpAny_pure ⟨plainId_quiet PySem.F.plain_min_loop _, ih 1 _ _ _ (by omega) hlt (W.frame _ _ _ hst' fun b hbf o e => ?_) (.inr ⟨v, rfl, Nat.one_pos, hP⟩) (Heap.get?_update_self _ hS' rfl) fun v' h'' tk'' hP' hk'' => ?_⟩
      · exact (Heap.get?_update_other _ _ (fun h : S = b => hSf (by rw [h]; exact hbf))).trans e
      · exact hR v' h'' tk'' hP' fun b o hbw hbS e => hk'' b o hbw hbS ((Heap.get?_update_other _ _ (Ne.symm hbS)).trans (hk' b o hbw e))
    · obtain ⟨i, rfl⟩ : ∃ i, j = i + 1 := ⟨j - 1, by omega⟩
      rw [Nat.add_sub_cancel] at hPb
      show wpAny _ A.in1 (seqItems? (.ref S) >>= _) _ _ s
      refine wpAny_bind (wpAny_seqItems hS rfl ?_)
      show wpAny _ A.in1 (tryCatch (pyNext (.ref I)) _ >>= _) _ _ s
      refine wpAny_bind (wpAny_tryCatch (W.item (i + 1) s _ _ hlt hst fun v h' tk hP hst' hk' => ?_))
      have hS' := hk' S _ hSw hS
      show wpAny _ A.in1 (tryCatch (holding [v, v] (richCompare .Lt v vb >>= _)) _ >>= _) _ _ _
      refine wpAny_bind (wpAny_tryCatch (wpAny_holding (wpAny_bind (hcmp (i + 1) (argBest bt i) v vb _ _ _ hP hPb ?_))))
      refine wpAny_bind (wpAny_holding (wpAny_truthy_bool ?_))
      refine wpAny_bind (wpAny_letGo (wpAny_pure ?_))
      cases hb : bt (i + 1) (argBest bt i) with
      | true =>
        simp only [if_true]
        refine wpAny_bind ?_
        refine wpAny_updateSeq hS' rfl (wpAny_bind (wpAny_letGo ?_))
        rw [hname]
        refine wpAny_pure ⟨plainId_quiet PySem.F.plain_min_loop _, ih (i + 2) _ _ _ (by omega) hlt (W.frame _ _ _ hst' fun b hbf o e => ?_) (.inr ⟨v, rfl, Nat.succ_pos _, by show P (argBest bt (i + 1)) v; simp only [argBest, hb, if_true]; exact hP⟩) (Heap.get?_update_self _ hS' rfl)
          fun v' h'' tk'' hP' hk'' => ?_⟩
        · exact (Heap.get?_update_other _ _ (fun h : S = b => hSf (by rw [h]; exact hbf))).trans e
        · exact hR v' h'' tk'' hP' fun b o hbw hbS e => hk'' b o hbw hbS ((Heap.get?_update_other _ _ (Ne.symm hbS)).trans (hk' b o hbw e))
      | false =>
        simp only [Bool.false_eq_true, if_false]
        refine wpAny_bind (wpAny_letGo ?_)
        rw [hname]
        refine wpAny_pure ⟨plainId_quiet PySem.F.plain_min_loop _, ih (i + 2) _ _ c (by omega) hlt hst' (.inr ⟨vb, rfl, Nat.succ_pos _, by show P (argBest bt (i + 1)) vb; simp only [argBest, hb, Bool.false_eq_true, if_false]; exact hPb⟩) hS' fun v' h'' tk'' hP' hk'' => ?_⟩
        exact hR v' h'' tk'' hP' fun b o hbw hbS e => hk'' b o hbw hbS (hk' b o hbw e)
end
section
variable {prog : Program} {w : World} {A : Around} {E : Value → Shared → Prop} {s : Shared} {d : Value}
theorem kw_tree {id : String} {b : Builtin} {args : List Value} {kw : List (Str × Value)} {Q : Value → Shared → Prop} (hk : builtinKind id = none) (hp : plainId id = true) (hb : entryFor table id = some b) (ha : argsOk id ⟨args, kw⟩)
    (hc : wpAny (model prog w) A.in1 (b ⟨args, kw⟩) (fun fin s' => match fin with
      | .done f => (match (Except.ok f : Result) with | .ok (.ret v) => Q v s' | .ok _ => False | .error e => E e s')
      | .again c' => c'.quiet = true ∧ codeAny (model prog w) A c' (fun r s' => match r with | .ok (.ret v) => Q v s' | .ok _ => False | .error e => E e s') s') E s) : wpAny (model prog w) A (call (.builtin id) args kw) Q E s := by
  refine wpAny_call (codeAny_call_builtin hp hb ?_)
  simp only [checkBuiltinCall, hk]
  cases h : Manifest.signature? id with
  | none => exact wpAny_pure hc
  | some sig =>
    have h2 : Bind.checkArgs id sig ⟨args, kw⟩ = pure () := by simpa only [argsOk, h] using ha
    simp only [h2]
    exact wpAny_pure hc
theorem args_minD (a d : Value) : argsOk "min" ⟨[a], dflt d⟩ := by unfold argsOk; kernel_rfl
theorem least_walk {x : Value} {Q : Value → Shared → Prop}
    (h : wpAny (model prog w) A.in1 (pyIter x) (fun it s₂ => ∃ I fp wr n P St bt, it = .ref I ∧ Walks prog w A.in1 I fp wr n P St ∧ St 0 s₂.heap ∧ (∀ b ∈ fp, b < s₂.heap.objs.size) ∧ CmpOf prog w A.in1 .Lt P bt ∧
      ∀ v h' tk, (n = 0 ∧ v = d ∨ 0 < n ∧ P (argBest bt (n - 1)) v) → (∀ b o, b ∉ wr → s₂.heap.get? b = some o → h'.get? b = some o) → Q v { s₂ with heap := h', toks := tk }) E s) :
    wpAny (model prog w) A (call (.builtin "min") [x] (dflt d)) Q E s := by
  have hname : (toString "min" ++ toString ".loop" : String) = "min.loop" := by decide
  refine kw_tree PySem.F.kind_min PySem.F.plain_min PySem.F.entry_min (args_minD _ _) ?_
  show wpAny _ A.in1 (Builtin.Builtins.bindParams "min" ["key", "default"] 0 ⟨[], dflt d⟩ >>= _) _ _ s
  refine wpAny_bind (wpAny_of_eq (show Builtin.Builtins.bindParams "min" ["key", "default"] 0 ⟨[], dflt d⟩ = pure [none, some d] from rfl) ?_)
  refine wpAny_bind (wpAny_pure ?_)
  refine wpAny_bind (wpAny_mono h (fun it s₂ h₂ => ?_) fun _ _ e => e)
  obtain ⟨I, fp, wr, n, P, St, bt, rfl, W, hst, hfp, hcmp, hQ⟩ := h₂
  refine wpAny_bind (wpAny_newObj_type ?_)
  have hSf : s₂.heap.objs.size ∉ fp := fun hm => Nat.lt_irrefl _ (hfp _ hm)
  rw [hname]
  refine wpAny_pure ⟨plainId_quiet PySem.F.plain_min_loop _, least_turns W bt hcmp s₂.heap.objs.size hSf n 0 _ #[] 0 rfl (Nat.zero_le _) (W.frame _ _ _ hst fun b _ o e => Heap.get?_push_of_some _ e) (.inl ⟨rfl, rfl⟩) (Heap.get?_push_size _ rfl) fun v h' tk hP hk => ?_⟩
  exact hQ v h' tk hP fun b o hbw e => hk b o hbw (Nat.ne_of_lt (Heap.lt_size e)) (Heap.get?_push_of_some _ e)
end
section
variable {prog : Program} {w : World} {A : Around} {E : Value → Shared → Prop} {s : Shared} {l : Addr} {its : List Value} {ns : List Int} {d : Value} {Q : Value → Shared → Prop}
theorem least_tup (hh : A.handled = none) (hl : s.heap.IsTuple l its.toArray) (hi : IntsAre its ns)
    (h0 : ns = [] → ∀ h' tk, (∀ b o, s.heap.get? b = some o → h'.get? b = some o) → Q d { s with heap := h', toks := tk })
    (h : ∀ h' tk M t', (∀ b o, s.heap.get? b = some o → h'.get? b = some o) → M ∈ ns → (∀ a, a ∈ ns → M ≤ a) → Q (.int M t') { s with heap := h', toks := tk }) : wpAny (model prog w) A (call (.builtin "min") [.ref l] (dflt d)) Q E s := by
  obtain ⟨xs, e⟩ := hi.allInts.items
  have hn : numsOf (intItems xs).toList = ns := by rw [← e]; exact hi.numsOf
  rw [nums_intItems] at hn
  subst hn
  rw [e] at hl
  refine least_walk (iter_intTup hl fun s₂ e2 st hfp hlI => ?_)
  subst e2
  refine ⟨_, _, _, _, _, _, _, rfl, Walks.tuple (A := A.in1) hh _ l hlI (intItems xs), st, hfp, CmpOf.ints_lt (numAt xs) (fun _ _ => intItems_at), fun v h' tk hP hk => ?_⟩
  have old := old_keptT hk
  rcases hP with ⟨hz, rfl⟩ | ⟨hp, hv⟩
  · refine h0 ?_ h' tk old
    have : xs.size = 0 := by simpa [intItems] using hz
    exact List.eq_nil_of_length_eq_zero (by rw [List.length_map, Array.length_toList]; exact this)
  · have hsz : 0 < xs.size := by simpa [intItems] using hp
    have hv' : (intItems xs)[argBest (fun i j => decide (numAt xs i < numAt xs j)) (xs.size - 1)]? = some v := by simpa [intItems] using hv
    obtain ⟨t, rfl⟩ := intItems_at hv'
    obtain ⟨h1, h2⟩ := argBest_lt (numAt xs) (xs.size - 1)
    refine h h' tk _ t old ?_ fun a ha => ?_
    · rw [numAt_eq]; exact PySem.getD_mem (by rw [List.length_map, Array.length_toList]; omega)
    · obtain ⟨j, hj, rfl⟩ := mem_getD ha
      rw [List.length_map, Array.length_toList] at hj
      rw [← numAt_eq]; exact h2 j (by omega)
end
section
variable {X : Cx}
def rMinD (K : PySem.W.Frag) : List V → List V → Hp → VK → Prop := fun vs zs H Q => ∃ (a : Addr) (ns : List Int) (z : V), vs = [V.ref a] ∧ zs = [z] ∧ SqT K H a (ns.map V.int) ∧ (ns = [] → Q z H) ∧ ∀ m, m ∈ ns → (∀ y, y ∈ ns → m ≤ y) → Q (.int m) H
theorem cr_minD (hc : X.calm = true) : CallRK X (.builtin "min") [Str.ofString "default"] (rMinD X.K) := by
  intro pins s σ H vs zs us ws Q I r rz h
  obtain ⟨a, ns, z, rfl, rfl, hs, q0, q⟩ := h
  obtain rfl := Vals.ref1 r
  obtain ⟨w1, rfl, e1⟩ := vals1 rz
  obtain ⟨its, rv, hl, _⟩ := I.tuple hs
  exact least_tup (I.ok.hd hc) hl rv.ints (fun e h' tk hk => ⟨z, H, I.kept hk, e1, q0 e⟩) fun h' tk m t' hk h1 h2 => ⟨.int m, H, I.kept hk, ⟨_, rfl⟩, q m h1 h2⟩
def minK (Q : DK) (d x : D) (G : DH) : Prop := ∃ ns : List Int, d = .tup (ns.map D.int) ∧ (ns = [] → Q x G) ∧ ∀ m, m ∈ ns → (∀ y, y ∈ ns → m ≤ y) → Q (.int m) G
def dMinD (te tx : DE) : DE := fun s G Q => te s G fun d G1 => tx s G1 fun x G2 => minK Q d x G2
variable {e f : Expr} {te tx : DE} {p pos kpos : Pos}
theorem ped_minD (hc : X.calm = true) (hg : Gl X "min") (hm : X.mg "min" = none) (he : PED X e te) (hf : PED X f tx) (hs : starEach [e] X.env = (false, eval e X.env) :: starEach [] X.env := by rfl)
    (he2 : backTo pos (starEach [e] X.env) = (false, eval e X.env) :: backTo pos (starEach [] X.env) := by rfl) (hpl : (backTo pos (starEach [e] X.env)).any (·.1) = false := by rfl)
    (hall : (backToKw pos (keywordEach [⟨some "default", f, kpos⟩] X.env)).all (·.1.isSome) = true := by rfl) (hnone : (backToKw pos (keywordEach [⟨some "default", f, kpos⟩] X.env)).any (·.1.isNone) = false := by rfl) (hks : (backToKw pos (keywordEach [⟨some "default", f, kpos⟩] X.env)).filterMap (·.1) = [Str.ofString "default"] := by rfl) :
    PED X (.Call (.Name "min" p) [e] [⟨some "default", f, kpos⟩] pos) (dMinD te tx) := by
  refine ⟨(pe_callBK (cr_minD hc) hg hm (by decide +kernel) (pa_cons he.out pa_nil hs) (pk_cons hf.out pk_nil) (by decide) (by decide) he2 hpl hall hnone hks).weak fun σ H Q ⟨F, s, G, R, rs, rg, q, p⟩ => ?_⟩
  refine ⟨F, s, G, _, rs, rg, q, fun d G1 x H1 st rx rg1 q1 => ?_⟩
  refine ⟨F, s, G1, _, rs.step st, rg1, q1, fun y G2 u H2 st2 ry rg2 ⟨ns, ed, q2, q3⟩ => ?_⟩
  subst ed
  have rx' := rx.step st2
  cases rx' with
  | tup h n r =>
    rw [r.ints_of] at h
    exact ⟨_, ns, u, rfl, rfl, SqT.of h, fun e0 => p _ _ _ _ (st.trans st2) ry rg2 (q2 e0), fun m h1 h2 => p _ _ _ _ (st.trans st2) (.int m) rg2 (q3 m h1 h2)⟩
variable {s : DS} {G : DH} {Q : DK} {ns : List Int} {x : D}
instance : Stp (dMinD te tx s G Q) (te s G fun d G1 => tx s G1 fun x G2 => minK Q d x G2) := ⟨id⟩
theorem st_minD (h0 : ns = [] → Q x G) (h : ∀ m, m ∈ ns → (∀ y, y ∈ ns → m ≤ y) → Q (.int m) G) : minK Q (.tup (ns.map D.int)) x G := ⟨ns, rfl, h0, h⟩
end
end L2.Ew

set_option Elab.async false
set_option linter.all false
set_option maxRecDepth 100000
set_option maxHeartbeats 4000000
/-! // by great numbers; the greatest and the least of a row of numbers. -/
namespace L2.Ew
open PySem PySem.Spec PySem.SeqAt PyProof.Rows
abbrev oFdivW : DR2 := oIntC CDivW fun i j => .int (i / j)
section
variable {X : Cx} {G : DH} {Q : DK} {i j : Int}
theorem odFdivW : OpD X (binaryOp .FloorDiv) oFdivW := .intC op_fdivW
theorem st_fdivW (h0 : 0 < j) (h1 : j < 2 ^ 64) (h : Q (.int (i / j)) G) : oFdivW (.int i) (.int j) G Q := ⟨wide_div (b := 64) h0 (by omega) (by decide) (by decide), h⟩
theorem st_p30 (h : Q (.int 1000000000000000000000000000000) G) : oPow (.int 10) (.int 30) G Q := st_pow (by decide) (by decide) (by decide) h
end
def mxL : List Int → Int
  | [] => 0
  | [a] => a
  | a :: b :: l => max a (mxL (b :: l))
def mnL : List Int → Int
  | [] => 0
  | [a] => a
  | a :: b :: l => min a (mnL (b :: l))
theorem mxL_is : ∀ {l : List Int}, l ≠ [] → mxL l ∈ l ∧ ∀ x ∈ l, x ≤ mxL l
  | [a], _ => ⟨List.mem_singleton.mpr rfl, fun x hx => by rw [List.mem_singleton.mp hx]; exact Int.le_refl _⟩
  | a :: b :: l, _ => by
    obtain ⟨h1, h2⟩ := mxL_is (l := b :: l) (fun z => nomatch z)
    show max a (mxL (b :: l)) ∈ _ ∧ ∀ x ∈ _, x ≤ max a (mxL (b :: l))
    refine ⟨?_, fun x hx => ?_⟩
    · by_cases c : a ≤ mxL (b :: l)
      · rw [Int.max_eq_right c]; exact List.mem_cons_of_mem _ h1
      · rw [Int.max_eq_left (by omega)]; exact List.mem_cons_self ..
    · rcases List.mem_cons.mp hx with rfl | hx
      · omega
      · have := h2 x hx; omega
theorem mnL_is : ∀ {l : List Int}, l ≠ [] → mnL l ∈ l ∧ ∀ x ∈ l, mnL l ≤ x
  | [a], _ => ⟨List.mem_singleton.mpr rfl, fun x hx => by rw [List.mem_singleton.mp hx]; exact Int.le_refl _⟩
  | a :: b :: l, _ => by
    obtain ⟨h1, h2⟩ := mnL_is (l := b :: l) (fun z => nomatch z)
    show min a (mnL (b :: l)) ∈ _ ∧ ∀ x ∈ _, min a (mnL (b :: l)) ≤ x
    refine ⟨?_, fun x hx => ?_⟩
    · by_cases c : a ≤ mnL (b :: l)
      · rw [Int.min_eq_left c]; exact List.mem_cons_self ..
      · rw [Int.min_eq_right (by omega)]; exact List.mem_cons_of_mem _ h1
    · rcases List.mem_cons.mp hx with rfl | hx
      · omega
      · have := h2 x hx; omega
theorem mx_eq {α : Type} {f : α → Int} {l : List α} {a : Int} (h : ∃ e ∈ l, f e = a) (h2 : ∀ e ∈ l, f e ≤ a) : a = mxL (l.map f) := by
  obtain ⟨e, he, ea⟩ := h
  obtain ⟨m1, m2⟩ := mxL_is (l := l.map f) (fun z => by have := List.mem_map_of_mem (f := f) he; rw [z] at this; cases this)
  obtain ⟨x, hx, ex⟩ := List.mem_map.mp m1
  have q1 := m2 _ (List.mem_map_of_mem (f := f) he)
  have q2 := h2 x hx
  omega
theorem mn_eq {α : Type} {f : α → Int} {l : List α} {a : Int} (h : ∃ e ∈ l, f e = a) (h2 : ∀ e ∈ l, a ≤ f e) : a = mnL (l.map f) := by
  obtain ⟨e, he, ea⟩ := h
  obtain ⟨m1, m2⟩ := mnL_is (l := l.map f) (fun z => by have := List.mem_map_of_mem (f := f) he; rw [z] at this; cases this)
  obtain ⟨x, hx, ex⟩ := List.mem_map.mp m1
  have q1 := m2 _ (List.mem_map_of_mem (f := f) he)
  have q2 := h2 x hx
  omega
/-- by how much the ends reach unlike -/
def gapI (es : List End) (js : Jn) (g : Int) (ls : List Int) : Int := mxL ((upto es.length).map (reachI es js g ls)) - mnL ((upto es.length).map (reachI es js g ls))
/-- within a gap, or within any -/
def holdG (es : List End) (js : Jn) (gp : Option Int) (g : Int) (ls : List Int) : Bool := match gp with
  | none => true
  | some v => decide (gapI es js g ls ≤ v * g)
/-- a tree of some ends: spots for all knots, lengths for all but the root -/
structure TreeOk (es : List End) (js : Jn) (g : Int) (sp : List (Int × Int)) (ls : List Int) : Prop where
  sl : sp.length = es.length + js.length
  ll : ls.length + 1 = es.length + js.length
  ends : ∀ k, 0 ≤ k → k < (es.length : Int) → nth sp k = (g * ((nth es k).x + (nth es k).y), g * ((nth es k).x - (nth es k).y))
  way : ∀ (k : Nat) (q : Int × Int), js[k]? = some q → ∀ x, (x = q.1 ∨ x = q.2) → offI (nth sp x) (nth sp ((es.length : Int) + k)) ≤ nth ls x
theorem offI_nn (p q : Int × Int) : 0 ≤ offI p q := by
  have : 0 ≤ absI (p.1 - q.1) := by unfold absI; split <;> omega
  unfold offI
  omega
theorem TreeOk.nn {es : List End} {js : Jn} {g : Int} {sp : List (Int × Int)} {ls : List Int} (J : JoinOk es.length js) (h : TreeOk es js g sp ls) : ∀ i ∈ ls, 0 ≤ i := fun v hv => by
  obtain ⟨i, hi, rfl⟩ := List.getElem_of_mem hv
  have l := h.ll
  obtain ⟨k, q, hk, hq⟩ := has_row J (x := (i : Int)) (by omega) (by omega)
  have w := h.way k q hk _ hq
  rw [nth_nat hi] at w
  have := offI_nn (nth sp (i : Int)) (nth sp ((es.length : Int) + k))
  omega
theorem TreeOk.det {es : List End} {js : Jn} {g : Int} {sp : List (Int × Int)} {ls ds : List Int} (J : JoinOk es.length js) (h : TreeOk es js g sp ls) (d : DetOk es.length js sp ls ds) : ∀ i ∈ ds, 0 ≤ i := fun v hv => by
  obtain ⟨i, hi, rfl⟩ := List.getElem_of_mem hv
  have l := h.ll
  have dl := d.1
  obtain ⟨k, q, hk, hq⟩ := has_row J (x := (i : Int)) (by omega) (by omega)
  have w := h.way k q hk _ hq
  have e := d.2 k q hk _ hq
  rw [nth_nat hi] at e
  omega
end L2.Ew

set_option Elab.async false
set_option linter.all false
set_option maxRecDepth 100000
set_option maxHeartbeats 4000000
/-! Defs whose last parameter has the default None; a statement that is never reached. -/
namespace L2.Ew
open PySem PySem.Spec PySem.SeqAt PyProof PyProof.Rows
/-- what is never reached -/
def dNever : DT := fun _ _ _ => False
theorem psd_never {X : Cx} {st : Stmt} : PSD X st dNever := ⟨⟨fun _ _ _ _ _ _ ⟨_, _, _, _, _, _, q, _⟩ => q.elim⟩⟩
structure DefAtN (K : PySem.W.Frag) (mg : Str → Option Value) (x : Str) (st : Stmt) : Prop where
  ex : ∃ f fd, mg x = some (.ref f) ∧ FunD K x x (defArgs st) (defBody st) (defScope st) [V.non] [] f fd
section
variable {P : Program} {w : World} {K : PySem.W.Frag} {mg : Str → Option Value} {base : Heap} {x : Str} {st : Stmt} {N ps : List Str} {k : Nat} {sp : DSp} {t : DT}
theorem defn_mk {f T : Addr} {oc : Value} {od an : Option Addr} {osl : Array (Option Value)} {kV doc pm cdv ct : Value} {o : Obj} {n : Nat} (hm : mg x = some (.ref f))
    (l : K.lookup f = some ⟨oc, od, .func (PySem.W.fnOf x x (defArgs st) (defBody st) (defScope st) (.ref T) kV doc pm an cdv ct), osl⟩) (c : PySem.W.codeIn K cdv x = true) (k : PySem.W.keepIn K (.ref f) = true) (lT : K.lookup T = some o) (oT : o.data = .seq #[Value.none] n) : DefAtN K mg x st :=
  ⟨f, _, hm, ⟨⟨oc, od, .ref T, kV, doc, pm, an, cdv, ct, osl, rfl, l, c, .inr ⟨(fun z => nomatch z), T, o, [Value.none], n, rfl, lT, oT, .cons rfl .nil⟩, .inl rfl⟩, k⟩⟩
theorem fnn_ok {f : Addr} {fd : FuncData} (F : FunD K x x (defArgs st) (defBody st) (defScope st) [V.non] [] f fd) (S : FnScope N ps (defScope st))
    (body : ∀ (f : Addr) (cdv : Value) (A : Around) (outer : List Env) (s : Shared) (H : Hp) (E : XK), Room k (A.deeper (envOfC x (defScope st) s.heap.objs.size f cdv)) → PSsD (cxOf CX0 P w K mg base N x (defScope st) f cdv A outer s H E).nox (defBody st) t)
    (sem : ∀ ds G R X, sp ds G R X → ds.length = ps.length ∧ t { nx := fun _ G' => RetOk R .non G', rt := RetOk R } (dstart N ds) G) : FnOk P w K mg base CX0 (k + 1) f fd ps (lower K sp) := by
  refine F.ok S (fun vs H Q E ⟨F, ds, G, R, X, r, g, q, _⟩ => ?_) fun cdv A outer s H vs Q E hr ⟨F, ds, G, R, X, r, g, q, p, _⟩ => ⟨_, (body f cdv A outer s H E hr).out.nox, ?_⟩
  · rw [r.len]; exact (sem ds G R X q).1
  · exact ⟨F, dstart N ds, G, _, reps_start r, g, (sem ds G R X q).2, ⟨fun s' G' σ' H' st rs rg q => p.ret _ _ _ _ st .non rg q, p.ret, fun _ _ _ _ _ _ _ z => z.elim, fun _ _ _ _ _ _ _ z => z.elim⟩⟩
/-- a def that is called without its last argument -/
structure FnDN (P : Program) (w : World) (K : PySem.W.Frag) (mg : Str → Option Value) (base : Heap) (k : Nat) (x : Str) (sp : DSp) : Prop where
  ex : ∃ f fd ps ds, mg x = some (.ref f) ∧ PySem.W.keepIn K (.ref f) = true ∧ Vals [V.non] ds ∧ Binds K fd ps ds ∧ FnOk P w K mg base CX0 k f fd ps (lower K sp)
theorem fndn_mk {m : Nat} (A : DefAtN K mg x st) (S : FnScope N ps (defScope st)) (hn : m + 1 = ps.length)
    (bd : ∀ (T : Addr) (kV doc pm : Value) (an : Option Addr) (cdv ct : Value) (us its : List Value), us.length = m → its.length = 1 →
      ∃ k, bindArgs (PySem.W.fnOf x x (defArgs st) (defBody st) (defScope st) (.ref T) kV doc pm an cdv ct) ⟨us, []⟩ = seqItems? (.ref T) >>= k ∧ k (some its.toArray) = pure (ps.zip (us ++ its.drop 0)))
    (body : ∀ (f : Addr) (cdv : Value) (A : Around) (outer : List Env) (s : Shared) (H : Hp) (E : XK), Room k (A.deeper (envOfC x (defScope st) s.heap.objs.size f cdv)) → PSsD (cxOf CX0 P w K mg base N x (defScope st) f cdv A outer s H E).nox (defBody st) t)
    (sem : ∀ ds G R X, sp ds G R X → ds.length = ps.length ∧ t { nx := fun _ G' => RetOk R .non G', rt := RetOk R } (dstart N ds) G) : FnDN P w K mg base (k + 1) x sp := by
  obtain ⟨f, fd, hm, F⟩ := A.ex
  obtain ⟨ds, r, b⟩ := F.binds1 (ps := ps) m 0 (fun z => nomatch z) (by simpa using hn) fun T kV doc pm an cdv ct us its h1 h2 => bd T kV doc pm an cdv ct us its h1 h2
  exact ⟨f, fd, ps, ds, hm, F.kp, r, b, fnn_ok F S body sem⟩
theorem fndf_mk {m : Nat} (A : DefAtN K mg x st) (S : FnScope N ps (defScope st)) (hn : m = ps.length)
    (bd : ∀ (T : Addr) (kV doc pm : Value) (an : Option Addr) (cdv ct : Value) (us its : List Value), us.length = m → its.length = 1 →
      ∃ k, bindArgs (PySem.W.fnOf x x (defArgs st) (defBody st) (defScope st) (.ref T) kV doc pm an cdv ct) ⟨us, []⟩ = seqItems? (.ref T) >>= k ∧ k (some its.toArray) = pure (ps.zip (us ++ its.drop 1)))
    (body : ∀ (f : Addr) (cdv : Value) (A : Around) (outer : List Env) (s : Shared) (H : Hp) (E : XK), Room k (A.deeper (envOfC x (defScope st) s.heap.objs.size f cdv)) → PSsD (cxOf CX0 P w K mg base N x (defScope st) f cdv A outer s H E).nox (defBody st) t)
    (sem : ∀ ds G R X, sp ds G R X → ds.length = ps.length ∧ t { nx := fun _ G' => RetOk R .non G', rt := RetOk R } (dstart N ds) G) : FnD P w K mg base CX0 (k + 1) x sp := by
  obtain ⟨f, fd, hm, F⟩ := A.ex
  obtain ⟨ds, r, b⟩ := F.binds1 (ps := ps) m 1 (fun z => nomatch z) (by simpa using hn) fun T kV doc pm an cdv ct us its h1 h2 => bd T kV doc pm an cdv ct us its h1 h2
  cases r
  exact ⟨f, fd, ps, hm, F.kp, b, fnn_ok F S body sem⟩
def dFnN (sp : DSp) (ta : DA) : DE := fun s G Q => ta s G fun ds G1 => sp (ds ++ [.non]) G1 Q X0
variable {X : Cx} {tr : DA} {e : Expr} {es : List Expr} {p pos : Pos}
theorem ped_callN {k : Nat} {x : Str} {sp : DSp} (F : FnDN X.prog X.w X.K X.mg X.base k x sp) (hr : Room k X.A) (hg : Gl X x) (ha : PAD X (e :: es) tr) (hdb : (x == ("__debug__" : Str)) = false := by decide)
    (he : starEach (e :: es) X.env = (false, eval e X.env) :: starEach es X.env := by rfl) (hpl : (backTo pos (starEach es X.env)).any (·.1) = false := by rfl) : PED X (.Call (.Name x p) (e :: es) [] pos) (dFnN sp tr) := by
  obtain ⟨f, fd, ps, ds, hm, hk, hv, hb, ok⟩ := F.ex
  refine ⟨(pe_call ok hr hg hm hk hb hv pass0 ha.out hdb he hpl).weak fun σ H Q ⟨F, s, G, R, rs, rg, q, p⟩ => ?_⟩
  refine ⟨F, s, G, _, rs, rg, q, fun ds G1 xs H1 st rx rg1 q1 => ?_⟩
  exact ⟨F, ds ++ [.non], G1, R, X0, rx.append (.one .non), rg1, q1, p.step st, fun _ _ _ _ _ _ _ _ z => z.elim⟩
variable {s : DS} {G : DH} {Q : DK}
instance : Stp (dFnN sp tr s G Q) (tr s G fun ds G1 => sp (ds ++ [.non]) G1 Q X0) := ⟨id⟩
end
/-- a spot that may still lack -/
def oP : Option (Int × Int) → D
  | none => .non
  | some p => pD p
theorem st_gsLast {α : Type} {en : α → D} {xs : List α} {S : DS → DH → Prop} {s : DS} {G : DH} {a : Addr} {v : α} (hg : G a = some (.lst (xs.map en))) (h1 : 0 < xs.length) (q : S s (uG G a (.lst ((xs.set (xs.length - 1) v).map en)))) : gsK (en v) s S (.ptr a) (.int (-1)) G := by
  refine st_gsK (setV_lst hg (j := xs.length - 1) ?_) ?_
  · unfold ixN
    rw [List.length_map, if_neg (by decide), if_pos (by omega)]
    congr 1
    omega
  · rw [List.map_set] at q; exact q
end L2.Ew

set_option Elab.async false
set_option linter.all false
set_option maxRecDepth 100000
set_option maxHeartbeats 4000000
/-! zip of a tuple and a list, either way about. -/
namespace L2.Ew
open PySem PySem.Spec PySem.SeqAt PyProof.Rows
/-- what is walked, by its iterator's name: a list or a tuple at l -/
structure Src (l : Addr) where
  nm : String
  Its : Heap → Array Value → Prop
  push : ∀ {h : Heap} {xs : Array Value} (o : Obj), Its h xs → Its (h.push o) xs
  its_ : ∀ {h h' : Heap} {xs : Array Value}, Its h xs → (∀ o, h.get? l = some o → h'.get? l = some o) → Its h' xs
  yes : ∀ {prog : Program} {w : World} {A : Around} {E : Value → Shared → Prop} {s : Shared} {it : Addr} {k : Nat} {xs : Array Value} {x : Value} {Q : Value → Shared → Prop},
    (∃ o, s.heap.get? it = some o ∧ o.cls = .type nm ∧ o.data = .fields #[.ref l, .int k 0]) → Its s.heap xs → xs[k]? = some x →
    (∀ h', (∃ o, h'.get? it = some o ∧ o.cls = .type nm ∧ o.data = .fields #[.ref l, .int (k + 1 : Nat) 0]) → Heap.SameBut it s.heap h' → Q x { s with heap := h' }) →
    wpAny (model prog w) A (Builtin.SmallTypes.nextOf (.ref it)) Q E s
  no : ∀ {prog : Program} {w : World} {A : Around} {E : Value → Shared → Prop} {s : Shared} {it : Addr} {k : Nat} {xs : Array Value} {Q : Value → Shared → Prop}, A.handled = none →
    (∃ o, s.heap.get? it = some o ∧ o.cls = .type nm ∧ o.data = .fields #[.ref l, .int k 0]) → Its s.heap xs → xs[k]? = none →
    (∀ h' e, Heap.ExtBut it s.heap h' → (∃ o, h'.get? e = some o ∧ o.cls = .type "StopIteration") → E (.ref e) { s with heap := h' }) →
    wpAny (model prog w) A (Builtin.SmallTypes.nextOf (.ref it)) Q E s
  start : ∀ {prog : Program} {w : World} {A : Around} {E : Value → Shared → Prop} {s : Shared} {xs : Array Value} {Q : Value → Shared → Prop}, Its s.heap xs →
    Q (.ref s.heap.objs.size) { s with heap := s.heap.push { cls := .type nm, data := .fields #[.ref l, .int 0 0] } } → wpAny (model prog w) A (pyIter (.ref l)) Q E s
  lt : ∀ {h : Heap} {xs : Array Value}, Its h xs → l < h.objs.size
def srcL (l : Addr) : Src l where
  nm := "list_iterator"
  Its := fun h xs => h.IsList l xs
  push := fun o x => x.push o
  its_ := fun x e => let ⟨o, ho, r⟩ := x; ⟨o, e _ ho, r⟩
  yes := fun a b c d => wpAny_nextOf_list_item a b c d
  no := fun z a b c d => wpAny_nextOf_list_end z a b c d
  start := fun a b => wpAny_pyIter_list a b
  lt := fun x => let ⟨o, ho, _⟩ := x; Heap.lt_size ho
def srcT (l : Addr) : Src l where
  nm := "tuple_iterator"
  Its := fun h xs => h.IsTuple l xs
  push := fun o x => x.push o
  its_ := fun x e => let ⟨o, ho, r⟩ := x; ⟨o, e _ ho, r⟩
  yes := fun a b c d => RZ.nextOf_tuple_item a b c d
  no := fun z a b c d => RZ.nextOf_tuple_end z a b c d
  start := fun a b => wpAny_pyIter_tuple a b
  lt := fun x => let ⟨o, ho, _⟩ := x; Heap.lt_size ho
/-- an iterator stands at a place -/
def AtIt {l : Addr} (S : Src l) (it : Addr) (h : Heap) (k : Nat) : Prop := ∃ o, h.get? it = some o ∧ o.cls = .type S.nm ∧ o.data = .fields #[.ref l, .int k 0]
section
variable {prog : Program} {w : World} {A : Around} {E : Value → Shared → Prop} {s : Shared} {l l' it : Addr} {S : Src l} {S' : Src l'}
theorem AtIt.mv {h h' : Heap} {k : Nat} (x : AtIt S it h k) (e : ∀ o, h.get? it = some o → h'.get? it = some o) : AtIt S it h' k := let ⟨o, ho, r⟩ := x; ⟨o, e _ ho, r⟩
theorem AtIt.ext {h h' : Heap} {k : Nat} {b : Addr} (x : AtIt S it h k) (e : Heap.ExtBut b h h') (n : it ≠ b) : AtIt S it h' k := x.mv fun o q => e _ o n q
theorem Src.ext {h h' : Heap} {xs : Array Value} {b : Addr} (x : S.Its h xs) (e : Heap.ExtBut b h h') (n : l ≠ b) : S.Its h' xs := S.its_ x fun o q => e _ o n q
theorem zipM_yes {z TI TO i1 i2 : Addr} {k1 k2 : Nat} {xs ys : Array Value} {x y a b : Value} {Q : Value → Shared → Prop} (D : ZipApart z TI TO i1 i2 l l')
    (gz : IsZip s.heap z TI TO .none) (gI : IsPair s.heap TI (.ref i1) (.ref i2)) (gO : IsPair s.heap TO a b)
    (g1 : AtIt S i1 s.heap k1) (g2 : AtIt S' i2 s.heap k2) (gx : S.Its s.heap xs) (gy : S'.Its s.heap ys) (ex : xs[k1]? = some x) (ey : ys[k2]? = some y)
    (hQ : ∀ h', IsZip h' z TI TO (rawInt s.heap.objs.size) → IsPair h' TO x y → AtIt S i1 h' (k1 + 1) → AtIt S' i2 h' (k2 + 1) → IsPair h' s.heap.objs.size x y →
      (∀ c o, c ≠ z → c ≠ TO → c ≠ i1 → c ≠ i2 → s.heap.get? c = some o → h'.get? c = some o) → Q (.ref s.heap.objs.size) { s with heap := h' }) :
    wpAny (model prog w) A (Builtin.«zip.__next__» ⟨[.ref z], []⟩) (fun fin s' => ∃ v, fin = .done (.ret v) ∧ Q v s') E s := by
  show wpAny _ _ (field (Value.ref z) 2 >>= _) _ _ _
  refine wpAny_bind (wpAny_field gz rfl (x := .bool false) rfl ?_)
  show wpAny _ _ (field (Value.ref z) 3 >>= _) _ _ _
  refine wpAny_bind (wpAny_field gz rfl (x := .ref TI) rfl ?_)
  refine wpAny_bind (wpAny_seqItems gI rfl ?_)
  show wpAny _ _ (Builtin.SmallTypes.ownedTupleIsFree (Value.ref z) >>= _) _ _ _
  refine wpAny_bind ?_
  unfold Builtin.SmallTypes.ownedTupleIsFree; refine wpAny_bind (wpAny_field gz rfl (x := .none) rfl (wpAny_pure ?_))
  simp only [if_true]
  refine wpAny_bind (wpAny_rule ?_)
  refine wpAny_bind (wpAny_field gz rfl (x := .ref TO) rfl ?_)
  refine wpAny_bind (wpAny_setField_rec gz (by simp) fun a1 gz1 s1 => ?_)
  replace gz1 : IsZip a1 z TI TO .ellipsis := gz1
  refine wpAny_bind ?_
  simp only [List.zipIdx_nil, List.zipIdx_cons, List.forIn_nil, List.forIn_cons]
  refine wpAny_bind (wpAny_bind (wpAny_onRaise ?_))
  show wpAny _ _ (Builtin.SmallTypes.nextOf (Value.ref i1) >>= _) _ _ _
  refine wpAny_bind (S.yes (AtIt.ext g1 s1.extBut D.i1z) (Src.ext gx s1.extBut D.l1z) ex fun a2 g1a s2 => wpAny_pure ?_)
  have gO2 : IsPair a2 TO a b := s2.extBut _ _ D.TOi1 (s1.extBut _ _ D.TOz gO)
  refine wpAny_bind (wpAny_seqItems gO2 rfl ?_)
  refine wpAny_bind (wpAny_updateSeq_pair gO2 fun a3 gO3 s3 => ?_)
  replace gO3 : IsPair a3 TO x b := gO3
  refine wpAny_bind (wpAny_letGo (wpAny_pure ?_))
  refine wpAny_bind (wpAny_bind (wpAny_onRaise ?_))
  show wpAny _ _ (Builtin.SmallTypes.nextOf (Value.ref i2) >>= _) _ _ _
  refine wpAny_bind (S'.yes (((AtIt.ext g2 s1.extBut D.i2z).ext s2.extBut D.i12.symm).ext s3.extBut D.TOi2.symm)
    (Src.ext (Src.ext (Src.ext gy s1.extBut D.l2z) s2.extBut D.l2i1) s3.extBut D.l2TO) ey fun a4 g2a s4 => wpAny_pure ?_)
  have gO4 : IsPair a4 TO x b := s4.extBut _ _ D.TOi2 gO3
  refine wpAny_bind (wpAny_seqItems gO4 rfl ?_)
  refine wpAny_bind (wpAny_updateSeq_pair gO4 fun a5 gO5 s5 => ?_)
  replace gO5 : IsPair a5 TO x y := gO5
  refine wpAny_bind (wpAny_letGo (wpAny_pure (wpAny_pure ?_)))
  refine wpAny_bind (wpAny_seqItems gO5 rfl ?_)
  refine wpAny_bind (wpAny_newTuple ?_)
  have sz : a5.objs.size = s.heap.objs.size := by rw [s5.1, s4.1, s3.1, s2.1, s1.1]
  have gz5 : IsZip a5 z TI TO .ellipsis := s5.extBut _ _ D.TOz.symm (s4.extBut _ _ D.i2z.symm (s3.extBut _ _ D.TOz.symm (s2.extBut _ _ D.i1z.symm gz1)))
  have kp : ∀ c o, c ≠ z → c ≠ TO → c ≠ i1 → c ≠ i2 → s.heap.get? c = some o → a5.get? c = some o := fun c o c1 c2 c3 c4 e =>
    s5.extBut _ _ c2 (s4.extBut _ _ c4 (s3.extBut _ _ c2 (s2.extBut _ _ c3 (s1.extBut _ _ c1 e))))
  have g15 : AtIt S i1 a5 (k1 + 1) := ((AtIt.ext (S := S) g1a s3.extBut D.TOi1.symm).ext s4.extBut D.i12).ext s5.extBut D.TOi1.symm
  have g25 : AtIt S' i2 a5 (k2 + 1) := AtIt.ext (S := S') g2a s5.extBut D.TOi2.symm
  have lz : z < a5.objs.size := Heap.lt_size gz5
  show wpAny _ _ (Builtin.SmallTypes.ownedTupleHandOut (Value.ref z) (.ref a5.objs.size) >>= _) _ _ _
  refine wpAny_bind ?_
  unfold Builtin.SmallTypes.ownedTupleHandOut; have gz6 : IsZip (a5.push { cls := .type "tuple", data := .seq #[x, y] }) z TI TO .ellipsis := Heap.get?_push_of_some _ gz5
  refine wpAny_bind (wpAny_setField_rec gz6 (by simp) fun a7 gz7 s7 => ?_)
  replace gz7 : IsZip a7 z TI TO (rawInt a5.objs.size) := gz7
  refine wpAny_setField_rec gz7 (by simp) fun a8 gz8 s8 => ?_
  replace gz8 : IsZip a8 z TI TO (rawInt a5.objs.size) := gz8
  have up : ∀ c o, c ≠ z → a5.get? c = some o → a8.get? c = some o := fun c o n e => s8.extBut _ _ n (s7.extBut _ _ n (Heap.get?_push_of_some _ e))
  have gT8 : IsPair a8 a5.objs.size x y := s8.extBut _ _ (Nat.ne_of_gt lz) (s7.extBut _ _ (Nat.ne_of_gt lz) (Heap.get?_push_size _ rfl))
  rw [sz] at gz8 gT8
  refine wpAny_pure ⟨_, rfl, ?_⟩
  show Q (.ref a5.objs.size) _
  rw [sz]
  exact hQ a8 gz8 (up _ _ D.TOz gO5) (g15.mv fun o e => up _ o D.i1z e) (g25.mv fun o e => up _ o D.i2z e) gT8 fun c o n1 n2 n3 n4 e => up c o n1 (kp c o n1 n2 n3 n4 e)
theorem zipM_no {z TI TO i1 i2 : Addr} {k1 k2 : Nat} {xs ys : Array Value} {a b : Value} {Q : Fin → Shared → Prop} (hh : A.handled = none) (D : ZipApart z TI TO i1 i2 l l')
    (gz : IsZip s.heap z TI TO .none) (gI : IsPair s.heap TI (.ref i1) (.ref i2)) (gO : IsPair s.heap TO a b)
    (g1 : AtIt S i1 s.heap k1) (g2 : AtIt S' i2 s.heap k2) (gx : S.Its s.heap xs) (gy : S'.Its s.heap ys) (hend : xs[k1]? = none ∨ ys[k2]? = none)
    (hE : ∀ h' e, (∀ c o, c ≠ z → c ≠ TO → c ≠ i1 → c ≠ i2 → s.heap.get? c = some o → h'.get? c = some o) → (∃ o, h'.get? e = some o ∧ o.cls = .type "StopIteration") → E (.ref e) { s with heap := h' }) :
    wpAny (model prog w) A (Builtin.«zip.__next__» ⟨[.ref z], []⟩) Q E s := by
  show wpAny _ _ (field (Value.ref z) 2 >>= _) _ _ _
  refine wpAny_bind (wpAny_field gz rfl (x := .bool false) rfl ?_)
  show wpAny _ _ (field (Value.ref z) 3 >>= _) _ _ _
  refine wpAny_bind (wpAny_field gz rfl (x := .ref TI) rfl ?_)
  refine wpAny_bind (wpAny_seqItems gI rfl ?_)
  show wpAny _ _ (Builtin.SmallTypes.ownedTupleIsFree (Value.ref z) >>= _) _ _ _
  refine wpAny_bind ?_
  unfold Builtin.SmallTypes.ownedTupleIsFree; refine wpAny_bind (wpAny_field gz rfl (x := .none) rfl (wpAny_pure ?_))
  simp only [if_true]
  refine wpAny_bind (wpAny_rule ?_)
  refine wpAny_bind (wpAny_field gz rfl (x := .ref TO) rfl ?_)
  refine wpAny_bind (wpAny_setField_rec gz (by simp) fun a1 gz1 s1 => ?_)
  replace gz1 : IsZip a1 z TI TO .ellipsis := gz1
  refine wpAny_bind ?_
  simp only [List.zipIdx_nil, List.zipIdx_cons, List.forIn_nil, List.forIn_cons]
  refine wpAny_bind (wpAny_bind (wpAny_onRaise ?_))
  show wpAny _ _ (Builtin.SmallTypes.nextOf (Value.ref i1) >>= _) _ _ _
  cases ex : xs[k1]? with
  | none =>
    refine wpAny_bind (S.no hh (AtIt.ext g1 s1.extBut D.i1z) (Src.ext gx s1.extBut D.l1z) ex fun a2 e s2 he => ?_)
    obtain ⟨q, hq, hc⟩ := he
    have gz2 : IsZip a2 z TI TO .ellipsis := s2 _ _ D.i1z.symm gz1
    have ne : e ≠ z := fun u => by subst u; rw [gz2] at hq; cases hq; simp at hc
    refine wpAny_setField_rec gz2 (by simp) fun a3 _ s3 => hE a3 e (fun c o n1 _ n3 _ u => s3.extBut _ _ n1 (s2 _ _ n3 (s1.extBut _ _ n1 u))) ⟨q, s3.extBut _ _ ne hq, hc⟩
  | some x =>
    have ey : ys[k2]? = none := by rcases hend with u | u; rw [ex] at u; cases u; exact u
    refine wpAny_bind (S.yes (AtIt.ext g1 s1.extBut D.i1z) (Src.ext gx s1.extBut D.l1z) ex fun a2 g1a s2 => wpAny_pure ?_)
    have gO2 : IsPair a2 TO a b := s2.extBut _ _ D.TOi1 (s1.extBut _ _ D.TOz gO)
    refine wpAny_bind (wpAny_seqItems gO2 rfl ?_)
    refine wpAny_bind (wpAny_updateSeq_pair gO2 fun a3 gO3 s3 => ?_)
    refine wpAny_bind (wpAny_letGo (wpAny_pure ?_))
    refine wpAny_bind (wpAny_bind (wpAny_onRaise ?_))
    show wpAny _ _ (Builtin.SmallTypes.nextOf (Value.ref i2) >>= _) _ _ _
    refine wpAny_bind (S'.no hh (((AtIt.ext g2 s1.extBut D.i2z).ext s2.extBut D.i12.symm).ext s3.extBut D.TOi2.symm)
      (Src.ext (Src.ext (Src.ext gy s1.extBut D.l2z) s2.extBut D.l2i1) s3.extBut D.l2TO) ey fun a4 e s4 he => ?_)
    obtain ⟨q, hq, hc⟩ := he
    have gz4 : IsZip a4 z TI TO .ellipsis := s4 _ _ D.i2z.symm (s3.extBut _ _ D.TOz.symm (s2.extBut _ _ D.i1z.symm gz1))
    have ne : e ≠ z := fun u => by subst u; rw [gz4] at hq; cases hq; simp at hc
    refine wpAny_setField_rec gz4 (by simp) fun a5 _ s5 => hE a5 e (fun c o n1 n2 n3 n4 u => s5.extBut _ _ n1 (s4 _ _ n4 (s3.extBut _ _ n2 (s2.extBut _ _ n3 (s1.extBut _ _ n1 u))))) ⟨q, s5.extBut _ _ ne hq, hc⟩
theorem nextM_yes {z TI TO i1 i2 : Addr} {k1 k2 : Nat} {xs ys : Array Value} {x y a b : Value} {Q : Option Value → Shared → Prop} (D : ZipApart z TI TO i1 i2 l l')
    (gz : IsZip s.heap z TI TO .none) (gI : IsPair s.heap TI (.ref i1) (.ref i2)) (gO : IsPair s.heap TO a b)
    (g1 : AtIt S i1 s.heap k1) (g2 : AtIt S' i2 s.heap k2) (gx : S.Its s.heap xs) (gy : S'.Its s.heap ys) (ex : xs[k1]? = some x) (ey : ys[k2]? = some y)
    (hQ : ∀ h', IsZip h' z TI TO (rawInt s.heap.objs.size) → IsPair h' TO x y → AtIt S i1 h' (k1 + 1) → AtIt S' i2 h' (k2 + 1) → IsPair h' s.heap.objs.size x y →
      (∀ c o, c ≠ z → c ≠ TO → c ≠ i1 → c ≠ i2 → s.heap.get? c = some o → h'.get? c = some o) → Q (some (.ref s.heap.objs.size)) { s with heap := h' }) :
    wpAny (model prog w) A (pyNext (.ref z)) Q E s := by
  have ht : s.TypeIs (.ref z) "zip" := ⟨_, gz, rfl⟩
  unfold pyNext; refine wpAny_bind (wpAny_attempt (wpAny_callSpecial?_slot (name := Str.ofString "__next__") ht F.slot_zip_next (wpAny_call_entry F.slot_zip_next ht F.entry_zip_next ?_ (F.args_zip_next_1 _))))
  exact zipM_yes D gz gI gO g1 g2 gx gy ex ey fun h' a1 a2 a3 a4 a5 a6 => wpAny_pure (hQ h' a1 a2 a3 a4 a5 a6)
theorem nextM_no {z TI TO i1 i2 : Addr} {k1 k2 : Nat} {xs ys : Array Value} {a b : Value} {Q : Option Value → Shared → Prop} (hh : A.handled = none) (D : ZipApart z TI TO i1 i2 l l')
    (gz : IsZip s.heap z TI TO .none) (gI : IsPair s.heap TI (.ref i1) (.ref i2)) (gO : IsPair s.heap TO a b)
    (g1 : AtIt S i1 s.heap k1) (g2 : AtIt S' i2 s.heap k2) (gx : S.Its s.heap xs) (gy : S'.Its s.heap ys) (hend : xs[k1]? = none ∨ ys[k2]? = none)
    (hQ : ∀ h', (∀ c o, c ≠ z → c ≠ TO → c ≠ i1 → c ≠ i2 → s.heap.get? c = some o → h'.get? c = some o) → Q none { s with heap := h' }) : wpAny (model prog w) A (pyNext (.ref z)) Q E s := by
  have ht : s.TypeIs (.ref z) "zip" := ⟨_, gz, rfl⟩
  unfold pyNext; refine wpAny_bind (wpAny_attempt (wpAny_callSpecial?_slot (name := Str.ofString "__next__") ht F.slot_zip_next (wpAny_call_entry F.slot_zip_next ht F.entry_zip_next ?_ (F.args_zip_next_1 _))))
  refine zipM_no hh D gz gI gO g1 g2 gx gy hend fun h' e hk he => ?_
  obtain ⟨o, ho, hc⟩ := he
  refine wpAny_bind (wpAny_isInstance (T := "StopIteration") (b := true) ⟨o, ho, hc⟩ isSubtype_stop ?_)
  exact wpAny_pure (hQ _ hk)
end
abbrev zM1 {l : Addr} (S : Src l) (h : Heap) : Heap := h.push { cls := .type S.nm, data := .fields #[.ref l, .int 0 0] }
abbrev zM2 {l l' : Addr} (S : Src l) (S' : Src l') (h : Heap) : Heap := zM1 S' (zM1 S h)
abbrev zM3 {l l' : Addr} (S : Src l) (S' : Src l') (h : Heap) : Heap := (zM2 S S' h).push { cls := .type "tuple", data := .seq #[.ref h.objs.size, .ref (zM1 S h).objs.size] }
abbrev zM4 {l l' : Addr} (S : Src l) (S' : Src l') (h : Heap) : Heap := (zM3 S S' h).push { cls := .type "tuple", data := .seq #[.none, .none] }
abbrev zM5 {l l' : Addr} (S : Src l) (S' : Src l') (h : Heap) : Heap := (zM4 S S' h).push { cls := .type "zip", data := .fields #[.none, .bool false, .bool false, .ref (zM2 S S' h).objs.size, .ref (zM3 S S' h).objs.size] }
theorem meets_zipM {l l' : Addr} (S : Src l) (S' : Src l') (xs ys : Array Value) :
    Meets (Builtin.«zip.__new__» ⟨[.type "zip", .ref l, .ref l'], []⟩) (fun _ R s => S.Its s.heap xs ∧ S'.Its s.heap ys ∧
      R (.ok (.ret (.ref (zM4 S S' s.heap).objs.size))) { s with heap := zM5 S S' s.heap }) :=
  .of_wp fun prog w A R s h => by
    obtain ⟨hp, g, d, tk, os⟩ := s; obtain ⟨i1, i2, h⟩ := h
    have sub := sub_zip
    have j1 : S.Its (Shared.heap ⟨hp, g, d, tk, os⟩) xs := i1
    have j2 : S'.Its (Shared.heap ⟨hp.push { cls := .type S.nm, data := .fields #[.ref l, .int 0 0] }, g, d, tk, os⟩) ys := S'.push _ i2
    wp_walk using S.start j1, S'.start j2
    exact ⟨_, rfl, h⟩
section
variable {prog : Program} {w : World} {A : Around} {E : Value → Shared → Prop} {s : Shared} {l l' : Addr} {S : Src l} {S' : Src l'}
theorem call_zipM {xs ys : Array Value} {Q : Value → Shared → Prop} (gx : S.Its s.heap xs) (gy : S'.Its s.heap ys)
    (h : ∀ h', IsZip h' (s.heap.objs.size + 4) (s.heap.objs.size + 2) (s.heap.objs.size + 3) .none → IsPair h' (s.heap.objs.size + 2) (.ref s.heap.objs.size) (.ref (s.heap.objs.size + 1)) →
      IsPair h' (s.heap.objs.size + 3) .none .none → AtIt S s.heap.objs.size h' 0 → AtIt S' (s.heap.objs.size + 1) h' 0 →
      (∀ c o, s.heap.get? c = some o → h'.get? c = some o) → Q (.ref (s.heap.objs.size + 4)) { s with heap := h' }) :
    wpAny (model prog w) A (call (.type "zip") [.ref l, .ref l']) Q E s := by
  refine callType_new F.called_zip (by decide) (F.typeCall_zip_2 _ _) (F.newCall_zip_2 _ _) (fun obj => F.args_object_init_3 obj _ _) F.entry_zip_new (meets_zipM S S' xs ys) ⟨gx, gy, ?_⟩
  have e1 : (zM1 S s.heap).objs.size = s.heap.objs.size + 1 := Heap.size_push ..
  have e2 : (zM2 S S' s.heap).objs.size = s.heap.objs.size + 2 := by rw [Heap.size_push, e1]
  have e3 : (zM3 S S' s.heap).objs.size = s.heap.objs.size + 3 := by rw [Heap.size_push, e2]
  have e4 : (zM4 S S' s.heap).objs.size = s.heap.objs.size + 4 := by rw [Heap.size_push, e3]
  have up : ∀ {h : Heap} {c : Addr} {o : Obj} (q : Obj), h.get? c = some o → (h.push q).get? c = some o := fun q x => Heap.get?_push_of_some q x
  have q5 : (zM5 S S' s.heap).get? (zM4 S S' s.heap).objs.size = some _ := Heap.get?_push_size _ rfl
  have q4 : (zM5 S S' s.heap).get? (zM3 S S' s.heap).objs.size = some _ := up _ (Heap.get?_push_size _ rfl)
  have q3 : (zM5 S S' s.heap).get? (zM2 S S' s.heap).objs.size = some _ := up _ (up _ (Heap.get?_push_size _ rfl))
  have q2 : (zM5 S S' s.heap).get? (zM1 S s.heap).objs.size = some _ := up _ (up _ (up _ (Heap.get?_push_size _ rfl)))
  have q1 : (zM5 S S' s.heap).get? s.heap.objs.size = some _ := up _ (up _ (up _ (up _ (Heap.get?_push_size _ rfl))))
  show _ ∧ _
  rw [e2, e3, e4] at q5
  rw [e1, e2] at q3
  rw [e3] at q4
  rw [e1] at q2
  rw [e4]
  exact ⟨⟨_, q5, rfl⟩, h _ q5 q3 q4 ⟨_, q1, rfl, rfl⟩ ⟨_, q2, rfl, rfl⟩ fun c o x => up _ (up _ (up _ (up _ (up _ x))))⟩
end
/-- how what is tracked stands in the machine -/
structure SrcQ (K : PySem.W.Frag) (l : Addr) (S : Src l) (q : Hp → List V → Prop) : Prop where
  get : ∀ {X : Cx} {pins : List (Addr × Obj)} {σ : L2.St} {H : Hp} {s : Shared} {xs : List V}, X.K = K → Inv X pins σ H s → q H xs → ∃ its : List Value, Vals xs its ∧ S.Its s.heap its.toArray
  inj : ∀ {X : Cx} {pins : List (Addr × Obj)} {σ : L2.St} {H : Hp} {s : Shared} {xs ys : List V}, X.K = K → Inv X pins σ H s → q H xs → q H ys → xs = ys
theorem srcqL {K : PySem.W.Frag} {l : Addr} : SrcQ K l (srcL l) (fun H xs => SqL K H l xs) where
  get := by
    rintro X pins σ H s xs rfl I h
    obtain ⟨its, rv, p, _⟩ := I.list h
    exact ⟨its, rv, p.isList⟩
  inj := by
    rintro X pins σ H s xs ys rfl I h k
    exact I.list_inj h k
theorem srcqT {K : PySem.W.Frag} {l : Addr} : SrcQ K l (srcT l) (fun H xs => SqT K H l xs) where
  get := by
    rintro X pins σ H s xs rfl I h
    obtain ⟨its, rv, p, _⟩ := I.tuple h
    exact ⟨its, rv, p⟩
  inj := by
    rintro X pins σ H s xs ys rfl I h k
    exact I.tuple_inj h k
/-- both walked at once, the items in new pairs -/
def ItzM (qa qb : Hp → List V → Prop) : It :=
  ⟨fun i H => ∃ (xs ys : List V) (x y : V), qa H xs ∧ qb H ys ∧ xs[i]? = some x ∧ ys[i]? = some y,
    fun i H v H' => ∃ T x y, v = .ref T ∧ H T = none ∧ H' = upd H T (.tup [x, y]) ∧ (∀ xs, qa H xs → xs[i]? = some x) ∧ ∀ ys, qb H ys → ys[i]? = some y,
    fun i H => ∃ xs ys : List V, qa H xs ∧ qb H ys ∧ (xs.length ≤ i ∨ ys.length ≤ i)⟩
theorem turn_zipM {P : Program} {w : World} {K : PySem.W.Frag} {elts : List Expr} {kk : Nat} {tpos : Pos} {a b z TI TO i1 i2 : Addr} {S : Src a} {S' : Src b} {qa qb : Hp → List V → Prop}
    (sa : SrcQ K a S qa) (sb : SrcQ K b S' qb) (D : ZipApart z TI TO i1 i2 a b) :
    Turn P w K (.Tuple elts kk tpos) (ItzM qa qb) [z, TI, TO, i1, i2] z (fun i h => IsZip h z TI TO .none ∧ IsPair h TI (.ref i1) (.ref i2) ∧ (∃ x y, IsPair h TO x y) ∧ AtIt S i1 h i ∧ AtIt S' i2 h i) where
  mem := by simp
  obj := fun i h st c hc => by
    obtain ⟨gz, gI, ⟨x, y, gO⟩, ⟨o1, e1, _, d1⟩, ⟨o2, e2, _, d2⟩⟩ := st
    simp only [List.mem_cons, List.not_mem_nil, or_false] at hc
    rcases hc with rfl | rfl | rfl | rfl | rfl
    · exact ⟨_, gz, fun v q => nomatch q⟩
    · exact ⟨_, gI, fun v q => nomatch q⟩
    · exact ⟨_, gO, fun v q => nomatch q⟩
    · exact ⟨o1, e1, fun v q => by rw [d1] at q; cases q⟩
    · exact ⟨o2, e2, fun v q => by rw [d2] at q; cases q⟩
  keep := fun i h h' st k => by
    obtain ⟨gz, gI, ⟨x, y, gO⟩, g1, g2⟩ := st
    exact ⟨k z (by simp) _ gz, k TI (by simp) _ gI, ⟨x, y, k TO (by simp) _ gO⟩, g1.mv fun o q => k i1 (by simp) o q, g2.mv fun o q => k i2 (by simp) o q⟩
  item := by
    intro X hP hw hK hc i pins s σ H E I hf st hg
    subst hP hw hK
    obtain ⟨gz, gI, ⟨x0, y0, gO⟩, g1, g2⟩ := st
    obtain ⟨xs, ys, x, y, hqx, hqy, hx, hy⟩ := hg
    obtain ⟨its, rv, p⟩ := sa.get rfl I hqx
    obtain ⟨its2, rv2, p2⟩ := sb.get rfl I hqy
    obtain ⟨u, hu, ru⟩ := rv.get hx
    obtain ⟨u2, hu2, ru2⟩ := rv2.get hy
    have lz : z < s.heap.objs.size := Heap.lt_size gz
    refine nextM_yes D gz gI gO g1 g2 p p2 (x := u) (y := u2) (by simpa using hu) (by simpa using hu2) fun h' z' TO' g1' g2' hT hk => ?_
    refine ⟨_, rfl, wpAny_letOwnedTupleGo_zip (s := { s with heap := h' }) z' fun h2 z2 sb2 => ?_⟩
    have hT2 : h2.get? s.heap.objs.size = some { cls := .type "tuple", data := .seq #[u, u2] } := (sb2.2 _ (Nat.ne_of_gt lz)).trans hT
    have ok : ObjOk X.prog X.w (upd H s.heap.objs.size (.tup [x, y])) h2 s.heap.objs.size (.tup [x, y]) :=
      ⟨(by show 2 ≤ sizeLine; decide), [u, u2], .cons ru (.cons ru2 .nil), ⟨_, hT2, rfl, _, rfl⟩⟩
    have J : Inv X pins σ (upd H s.heap.objs.size (.tup [x, y])) { s with heap := h2 } :=
      I.turnedNew (t' := s.toks) (ch := [z, TI, TO, i1, i2]) (fun c o hb q => (sb2.2 c (fun q' => hb (by simp [q']))).trans (hk c o (fun q' => hb (by simp [q'])) (fun q' => hb (by simp [q'])) (fun q' => hb (by simp [q'])) (fun q' => hb (by simp [q'])) q)) hf (Nat.le_refl _) ok
    refine ⟨.ref s.heap.objs.size, _, J, rfl, ⟨_, x, y, rfl, I.hok.fresh (Nat.le_refl _), rfl, fun l hl => by rw [sa.inj rfl I hl hqx]; exact hx, fun l hl => by rw [sb.inj rfl I hl hqy]; exact hy⟩, ⟨z2, ?_, ⟨u, u2, ?_⟩, ?_, ?_⟩, fun c hcm => ?_⟩
    · exact (sb2.2 _ D.TIz).trans (hk _ _ D.TIz D.TITO D.TIi1 D.TIi2 gI)
    · exact (sb2.2 _ D.TOz).trans TO'
    · exact g1'.mv fun o q => (sb2.2 _ D.i1z).trans q
    · exact g2'.mv fun o q => (sb2.2 _ D.i2z).trans q
    · have lt : c < s.heap.objs.size := by
        simp only [List.mem_cons, List.not_mem_nil, or_false] at hcm
        rcases hcm with rfl | rfl | rfl | rfl | rfl
        · exact lz
        · exact Heap.lt_size gI
        · exact Heap.lt_size gO
        · obtain ⟨_, e1, _⟩ := g1; exact Heap.lt_size e1
        · obtain ⟨_, e2, _⟩ := g2; exact Heap.lt_size e2
      rw [upd_ne (Nat.ne_of_lt lt)]
      exact (hf c hcm).1
  done := by
    intro X hP hw hK hc i pins s σ H E I hf st hg
    subst hP hw hK
    obtain ⟨gz, gI, ⟨x0, y0, gO⟩, g1, g2⟩ := st
    obtain ⟨xs, ys, hqx, hqy, hend⟩ := hg
    obtain ⟨its, rv, p⟩ := sa.get rfl I hqx
    obtain ⟨its2, rv2, p2⟩ := sb.get rfl I hqy
    have n1 := rv.length
    have n2 := rv2.length
    have he : its.toArray[i]? = none ∨ its2.toArray[i]? = none := by
      rcases hend with q | q
      · left; simp; omega
      · right; simp; omega
    exact nextM_no (I.ok.hd hc) D gz gI gO g1 g2 p p2 he fun h' hk => ⟨rfl, I.turnedL (t' := s.toks) (ch := [z, TI, TO, i1, i2]) (fun c o hb q =>
      hk c o (fun q' => hb (by simp [q'])) (fun q' => hb (by simp [q'])) (fun q' => hb (by simp [q'])) (fun q' => hb (by simp [q'])) q) hf⟩
  self := fun A i s Q E st h => wpAny_pyIter_zip st.1 h
/-- a walk over two at once, each a list or a tuple -/
def iZipM (K : PySem.W.Frag) (ta : TA) : TI := fun σ H R => ta σ H fun vs H1 => ∃ (a b : Addr) (S : Src a) (S' : Src b) (qa qb : Hp → List V → Prop) (xs ys : List V), vs = [.ref a, .ref b] ∧ SrcQ K a S qa ∧ SrcQ K b S' qb ∧ qa H1 xs ∧ qb H1 ys ∧ R (ItzM qa qb) H1
theorem pi_zipM {X : Cx} {e e2 : Expr} {ta : TA} {p pos tpos : Pos} {elts : List Expr} {kk : Nat} (hg : Gl X "zip") (hm : X.mg "zip" = none) (ha : PA X [e, e2] ta)
    (hs : starEach [e, e2] X.env = (false, eval e X.env) :: starEach [e2] X.env := by rfl) (hpl : (backTo pos (starEach [e2] X.env)).any (·.1) = false := by rfl) :
    PI X (.Tuple elts kk tpos) (.Call (.Name "zip" p) [e, e2] [] pos) (iZipM X.K ta) := by
  refine ⟨fun pins s σ H R I h => ?_⟩
  refine Call_ (ld_blt I hg hm PyProof.Rows.boot_zip (PyProof.Rows.callWith_type1 (thn (ha.run pos pins s σ H _ I h) fun us s1 ⟨vs, H1, I1, r1, q1⟩ => ?_) hs hpl))
  obtain ⟨a, b, S, S', qa, qb, xs, ys, rfl, sa, sb, hqx, hqy, q⟩ := q1
  cases r1 with
  | cons r rr =>
    cases rr with
    | cons r' rr =>
      cases rr; cases r; cases r'
      have fr : ∀ c, c ∈ [s1.heap.objs.size + 4, s1.heap.objs.size + 2, s1.heap.objs.size + 3, s1.heap.objs.size, s1.heap.objs.size + 1] → FpOk X pins H1 c := fun c hc => by
        have le : s1.heap.objs.size ≤ c := by
          simp only [List.mem_cons, List.not_mem_nil, or_false] at hc
          rcases hc with rfl | rfl | rfl | rfl | rfl <;> omega
        exact I1.fpOk le (I1.hok.fresh le)
      obtain ⟨its, rv, p1⟩ := sa.get rfl I1 hqx
      obtain ⟨its2, rv2, p2⟩ := sb.get rfl I1 hqy
      refine call_zipM p1 p2 fun h' gz gI gO g1 g2 hk => wpAny_pyIter_zip gz ?_
      have I2 : Inv X pins σ H1 { s1 with heap := h' } := I1.kept (t' := s1.toks) hk
      exact ⟨s1.heap.objs.size + 4, [s1.heap.objs.size + 4, s1.heap.objs.size + 2, s1.heap.objs.size + 3, s1.heap.objs.size, s1.heap.objs.size + 1], _, _, H1, rfl, I2, turn_zipM sa sb (PySem.W.ktu_apart s1.heap.objs.size a b (S.lt p1) (S'.lt p2)), ⟨gz, gI, ⟨_, _, gO⟩, g1, g2⟩, fr, q⟩
section
variable {K : PySem.W.Frag} {F : Hid} {G : DH} {H : Hp} {a b : Addr} {xs ys : List V} {ds es : List D}
/-- what is read of a list or a tuple by place, whatever goes on -/
structure MWalk (K : PySem.W.Frag) (F : Hid) (G0 : DH) (H0 : Hp) (q : Hp → List V → Prop) (ds : List D) (gd : DH → Prop) : Prop where
  out : ∀ G H F', gd G → RepG K H F' G → (∀ c o, H0 c = some o → ¬ Own F G0 c → H c = some o ∧ ¬ Own F' G c) → ∃ xs, q H xs ∧ RepL K H (Own F' G) xs ds
theorem LWalk.m {gd : DH → Prop} (w : LWalk K F G H a ds gd) : MWalk K F G H (fun H xs => SqL K H a xs) ds gd := ⟨w.out⟩
theorem mwalk_t (h : H a = some (.tup xs)) (n : ¬ Own F G a) (r : RepL K H (Own F G) xs ds) : MWalk K F G H (fun H xs => SqT K H a xs) ds (fun _ => True) :=
  ⟨fun G1 H1 F1 _ _ st => ⟨xs, SqT.of (st _ _ h n).1, r.imp st⟩⟩
theorem dwalk_zipM {qa qb : Hp → List V → Prop} {gd1 gd2 : DH → Prop} (w1 : MWalk K F G H qa ds gd1) (w2 : MWalk K F G H qb es gd2) : DWalk K F (ItzM qa qb) (zipD ds es) (fun G => gd1 G ∧ gd2 G) G H := by
  refine ⟨fun i G1 H1 F1 hi gd rg st => ?_, fun G1 H1 F1 gd rg st => ?_, fun i G1 H1 F1 v H' hi gd rg st y => ?_⟩
  · obtain ⟨xs, h1, r1⟩ := w1.out _ _ _ gd.1 rg st
    obtain ⟨ys, h2, r2⟩ := w2.out _ _ _ gd.2 rg st
    rw [zipD_len, ← r1.len, ← r2.len] at hi
    exact ⟨xs, ys, xs[i]'(by omega), ys[i]'(by omega), h1, h2, List.getElem?_eq_getElem (by omega), List.getElem?_eq_getElem (by omega)⟩
  · obtain ⟨xs, h1, r1⟩ := w1.out _ _ _ gd.1 rg st
    obtain ⟨ys, h2, r2⟩ := w2.out _ _ _ gd.2 rg st
    exact ⟨xs, ys, h1, h2, by rw [zipD_len, r1.len, r2.len]; omega⟩
  · obtain ⟨xs, h1, r1⟩ := w1.out _ _ _ gd.1 rg st
    obtain ⟨ys, h2, r2⟩ := w2.out _ _ _ gd.2 rg st
    obtain ⟨T, x, y', rfl, hT, rfl, k1, k2⟩ := y
    obtain ⟨d, e1, q1⟩ := r1.getV (k1 xs h1)
    obtain ⟨e, e2, q2⟩ := r2.getV (k2 ys h2)
    obtain ⟨z1, z2, z3⟩ := yld_pair hT rg q1 q2
    exact ⟨_, zipD_get e1 e2, z1, z2, z3⟩
/-- what a list or a tuple is, read -/
def seqOf (G : DH) : D → Option (List D)
  | .tup ds => some ds
  | d => lstOf G d
theorem mwalk_of {x : V} {d : D} (g : RepG K H F G) (r : Rep K H (Own F G) x d) (h : seqOf G d = some ds) : ∃ (a : Addr) (S : Src a) (q : Hp → List V → Prop) (xs : List V), x = .ref a ∧ SrcQ K a S q ∧ q H xs ∧ MWalk K F G H q ds (gdL d ds) := by
  cases r with
  | tup h1 n r => cases h; exact ⟨_, _, _, _, rfl, srcqT, SqT.of h1, mwalk_t h1 n r⟩
  | lst h1 n r => obtain ⟨a, xs, e, s, w⟩ := lwalk_of g (.lst h1 n r) h; exact ⟨a, _, _, xs, e, srcqL, s, w.m⟩
  | scr h1 n => obtain ⟨a, xs, e, s, w⟩ := lwalk_of g (.scr h1 n) h; exact ⟨a, _, _, xs, e, srcqL, s, w.m⟩
  | scrK h1 => obtain ⟨a, xs, e, s, w⟩ := lwalk_of g (.scrK h1) h; exact ⟨a, _, _, xs, e, srcqL, s, w.m⟩
  | ptr a => obtain ⟨a, xs, e, s, w⟩ := lwalk_of g (.ptr a) h; exact ⟨a, _, _, xs, e, srcqL, s, w.m⟩
  | _ => exact nomatch h
def zpM (W : List D → (DH → Prop) → DH → Prop) (d e : D) (G : DH) : Prop := match seqOf G d, seqOf G e with
  | some ds, some es => W (zipD ds es) (fun G => gdL d ds G ∧ gdL e es G) G
  | _, _ => False
def iZip2M (ta tb : DE) : DI := fun s G R => ta s G fun d G1 => tb s G1 fun e G2 => zpM R d e G2
end
section
variable {X : Cx} {e a b c l o : Expr} {es : List Expr} {pos p tpos : Pos} {te ta tb to : DE} {tr : DA} {elts : List Expr} {kk : Nat}
theorem pid_zipM (hg : Gl X "zip") (hm : X.mg "zip" = none) (ha : PED X a ta) (hb : PED X b tb)
    (hs : starEach [a, b] X.env = (false, eval a X.env) :: starEach [b] X.env := by rfl) (hs2 : starEach [b] X.env = (false, eval b X.env) :: starEach [] X.env := by rfl) (hpl : (backTo pos (starEach [b] X.env)).any (·.1) = false := by rfl) :
    PID X (.Tuple elts kk tpos) (.Call (.Name "zip" p) [a, b] [] pos) (iZip2M ta tb) := by
  refine ⟨(pi_zipM hg hm (pa_cons ha.out (pa_cons hb.out pa_nil hs2) hs) hs hpl).weak fun σ H R ⟨F, s, G, Q, rs, rg, q, p⟩ => ?_⟩
  refine ⟨F, s, G, _, rs, rg, q, fun d G1 x H1 st rx rg1 q1 => ?_⟩
  refine ⟨F, s, G1, _, rs.step st, rg1, q1, fun d' G2 y H2 st2 ry rg2 q2 => ?_⟩
  unfold zpM at q2
  split at q2 <;> try exact q2.elim
  rename_i h1 h2
  obtain ⟨a1, S1, qa, xs, rfl, sa, s1, w1⟩ := mwalk_of rg2 (rx.step st2) h1
  obtain ⟨a2, S2, qb, ys, rfl, sb, s2, w2⟩ := mwalk_of rg2 ry h2
  exact ⟨_, _, _, _, _, _, _, _, rfl, sa, sb, s1, s2, p _ _ _ _ _ (st.trans st2) rg2 (dwalk_zipM w1 w2) q2⟩
end
end L2.Ew
namespace L2.Ew
open PySem PySem.Spec PySem.SeqAt PyProof.Rows
section
variable {α β : Type} {en : α → D} {fn : β → D} {xs : List α} {ys : List β} {ta tb : DE} {s : DS} {G : DH} {W : List D → (DH → Prop) → DH → Prop}
instance : Stp (iZip2M ta tb s G W) (ta s G fun d G1 => tb s G1 fun e G2 => zpM W d e G2) := ⟨id⟩
instance (priority := high) : Stp (zpM W (.tup (xs.map en)) (.lst (ys.map fn)) G) (W ((xs.zip ys).map fun p => .tup [en p.1, fn p.2]) (fun _ => True ∧ True) G) := ⟨fun h => by show W (zipD _ _) _ G; rw [zipD_map]; exact h⟩
instance (priority := high) : Stp (zpM W (.lst (xs.map en)) (.tup (ys.map fn)) G) (W ((xs.zip ys).map fun p => .tup [en p.1, fn p.2]) (fun _ => True ∧ True) G) := ⟨fun h => by show W (zipD _ _) _ G; rw [zipD_map]; exact h⟩
instance (priority := high) : Stp (zpM W (.lst (xs.map en)) (.lst (ys.map fn)) G) (W ((xs.zip ys).map fun p => .tup [en p.1, fn p.2]) (fun _ => True ∧ True) G) := ⟨fun h => by show W (zipD _ _) _ G; rw [zipD_map]; exact h⟩
instance (priority := high) : Stp (zpM W (.tup (xs.map en)) (.tup (ys.map fn)) G) (W ((xs.zip ys).map fun p => .tup [en p.1, fn p.2]) (fun _ => True ∧ True) G) := ⟨fun h => by show W (zipD _ _) _ G; rw [zipD_map]; exact h⟩
end
end L2.Ew

set_option Elab.async false
set_option linter.all false
set_option maxRecDepth 100000
set_option maxHeartbeats 4000000
/-! Wells: lists of three numbers from 0 on, the last one a count that is bounded. -/
namespace L2.Ew
open PySem PySem.Spec PySem.SeqAt PyProof.Rows
section
variable {K : PySem.W.Frag} {F : Hid} {G : DH} {H : Hp} {a b : Addr} {n : Nat} {is is' : List Int}
/-- the numbers of a well -/
def WlI (n : Nat) (is : List Int) : Prop := is.length = 3 ∧ (∀ i ∈ is, 0 ≤ i) ∧ is.getD 2 0 ≤ (n : Int)
/-- a well, told by its numbers -/
def wlG (G : DH) (a : Addr) (is : List Int) : DH := uG G a (.lst (is.map D.int))
theorem wl_same : wlG G a is a = some (.lst (is.map D.int)) := uG_same
theorem wl_wl : wlG (wlG G a is) a is' = wlG G a is' := uG_uG
theorem fp_wl (hg : G a = some (.well n)) (b : Addr) : Fp (wlG G a is) b ↔ Fp G b := by
  unfold wlG
  constructor
  · rintro (⟨o, h⟩ | ⟨c, ks, h⟩)
    · by_cases ea : b = a
      · subst ea; exact .inl ⟨_, hg⟩
      · rw [uG_ne ea] at h; exact .inl ⟨o, h⟩
    · by_cases ea : c = a
      · subst ea; rw [uG_same] at h; cases h
      · rw [uG_ne ea] at h; exact .inr ⟨c, ks, h⟩
  · rintro (⟨o, h⟩ | ⟨c, ks, h⟩)
    · by_cases ea : b = a
      · subst ea; exact .inl ⟨_, uG_same⟩
      · exact .inl ⟨o, by rw [uG_ne ea]; exact h⟩
    · by_cases ea : c = a
      · subst ea; rw [hg] at h; cases h
      · exact .inr ⟨c, ks, by rw [uG_ne ea]; exact h⟩
theorem own_wl (hg : G a = some (.well n)) (b : Addr) : Own F (wlG G a is) b ↔ Own F G b := by unfold Own; rw [fp_wl hg]
theorem rep_wl (hg : G a = some (.well n)) {v : V} {d : D} (r : Rep K H (Own F (wlG G a is)) v d) : Rep K H (Own F G) v d := r.imp fun b _ e q => ⟨e, fun z => q ((own_wl hg b).mpr z)⟩
theorem open_wl (g : RepG K H F G) (hg : G a = some (.well n)) : ∃ is : List Int, WlI n is ∧ RepG K H F (wlG G a is) := by
  obtain ⟨is, h1, h2⟩ := g.ob a _ hg
  have im : ∀ b o, H b = some o → ¬ Own F G b → H b = some o ∧ ¬ Own F (wlG G a is) b := fun b o e q => ⟨e, fun z => q ((own_wl hg b).mp z)⟩
  have nd : ∀ b l ks, wlG G a is b = some (.deck l ks) → b ≠ a ∧ G b = some (.deck l ks) := fun b l ks h => by
    unfold wlG at h
    by_cases ea : b = a
    · subst ea; rw [uG_same] at h; cases h
    · rw [uG_ne ea] at h; exact ⟨ea, h⟩
  refine ⟨is, h2, ⟨fun b o hb => ?_, fun b l ks hb => ?_, fun b c l k1 k2 e1 e2 => g.dd b c l k1 k2 (nd _ _ _ e1).2 (nd _ _ _ e2).2, fun b z => ⟨(g.hid b z).1, fun y => (g.hid b z).2 ((fp_wl hg b).mp y)⟩⟩⟩
  · unfold wlG at hb
    by_cases ea : b = a
    · subst ea; rw [uG_same] at hb; cases hb
      exact ⟨_, h1, RepL.ints _⟩
    · rw [uG_ne ea] at hb
      exact (g.ob b o hb).imp im rfl fun _ _ _ => rfl
  · have q := g.dk b l ks (nd _ _ _ hb).2
    have ne : l ≠ a := fun z => by subst z; rw [hg] at q; cases q
    unfold wlG; rw [uG_ne ne]; exact q
theorem close_wl (hg : G a = some (.well n)) (hl : WlI n is) (g : RepG K H F (wlG G a is)) : RepG K H F G := by
  have im : ∀ b o, H b = some o → ¬ Own F (wlG G a is) b → H b = some o ∧ ¬ Own F G b := fun b o e q => ⟨e, fun z => q ((own_wl hg b).mpr z)⟩
  have at_ : ∀ b o, b ≠ a → G b = some o → wlG G a is b = some o := fun b o h1 h => by unfold wlG; rw [uG_ne h1]; exact h
  have ne : ∀ b l ks, G b = some (.deck l ks) → b ≠ a := fun b l ks h z => by subst z; rw [hg] at h; cases h
  refine ⟨fun b o hb => ?_, fun b l ks hb => ?_, fun b c l k1 k2 e1 e2 => g.dd b c l k1 k2 (at_ _ _ (ne _ _ _ e1) e1) (at_ _ _ (ne _ _ _ e2) e2), fun b z => ⟨(g.hid b z).1, fun y => (g.hid b z).2 ((fp_wl hg b).mpr y)⟩⟩
  · by_cases ea : b = a
    · subst ea; rw [hg] at hb; cases hb
      obtain ⟨xs, h1, h2⟩ := g.ob b _ (wl_same (G := G) (a := b) (is := is))
      rw [h2.ints_of] at h1
      exact ⟨is, h1, hl⟩
    · exact (g.ob b o (at_ b o ea hb)).imp im rfl fun _ _ _ => rfl
  · have q := g.dk b l ks (at_ _ _ (ne _ _ _ hb) hb)
    unfold wlG at q
    have e1 : l ≠ a := fun z => by subst z; rw [uG_same] at q; cases q
    rw [uG_ne e1] at q; exact q
/-- the bound of the count raised -/
theorem fp_wu {m : Nat} (hg : G a = some (.well n)) (b : Addr) : Fp (uG G a (.well m)) b ↔ Fp G b := by
  constructor
  · rintro (⟨o, h⟩ | ⟨c, ks, h⟩)
    · by_cases ea : b = a
      · subst ea; exact .inl ⟨_, hg⟩
      · rw [uG_ne ea] at h; exact .inl ⟨o, h⟩
    · by_cases ea : c = a
      · subst ea; rw [uG_same] at h; cases h
      · rw [uG_ne ea] at h; exact .inr ⟨c, ks, h⟩
  · rintro (⟨o, h⟩ | ⟨c, ks, h⟩)
    · by_cases ea : b = a
      · subst ea; exact .inl ⟨_, uG_same⟩
      · exact .inl ⟨o, by rw [uG_ne ea]; exact h⟩
    · by_cases ea : c = a
      · subst ea; rw [hg] at h; cases h
      · exact .inr ⟨c, ks, by rw [uG_ne ea]; exact h⟩
/-- a draw, the well told by its numbers -/
def spWellX : DSp := fun ds G R _ => ∃ (a : Addr) (m : Int) (n : Nat) (is : List Int), ds = [.ptr a, .int m] ∧ G a = some (.lst (is.map D.int)) ∧ WlI n is ∧ 0 < m ∧ m < 1073741824 ∧ n < 1000000000 ∧
  ∀ (r : Int) (is' : List Int), 0 ≤ r → r < m → WlI (n + 1) is' → R (.int r) (wlG G a is')
/-- a draw: any number below m -/
def spWell : DSp := fun ds G R _ => ∃ (a : Addr) (m : Int) (n : Nat), ds = [.ptr a, .int m] ∧ G a = some (.well n) ∧ 0 < m ∧ m < 1073741824 ∧ n < 1000000000 ∧ ∀ r : Int, 0 ≤ r → r < m → R (.int r) (uG G a (.well (n + 1)))
theorem well_shift {K : PySem.W.Frag} : ∀ vs H Q E, lower K spWell vs H Q E → lower K spWellX vs H Q E := by
  rintro vs H Q E ⟨F, ds, G, R, X, r, g, ⟨a, m, n, rfl, hg, h0, h1, hn, q⟩, p, px⟩
  obtain ⟨is, hl, gx⟩ := open_wl g hg
  refine ⟨F, _, wlG G a is, fun d G' => ∃ (r : Int) (is' : List Int), d = .int r ∧ 0 ≤ r ∧ r < m ∧ WlI (n + 1) is' ∧ G' = wlG G a is', fun _ _ _ => False, r.imp fun b _ e n => ⟨e, fun z => n ((own_wl hg b).mp z)⟩, gx, ?_, ?_, fun _ _ _ _ _ _ _ _ z => z.elim⟩
  · exact ⟨a, m, n, is, rfl, wl_same, hl, h0, h1, hn, fun r is' h2 h3 h4 => ⟨r, is', rfl, h2, h3, h4, wl_wl⟩⟩
  · rintro d G' v H' st rd rg ⟨r, is', rfl, h2, h3, h4, rfl⟩
    have hg2 : uG G a (.well (n + 1)) a = some (.well (n + 1)) := uG_same
    have eo : wlG (uG G a (.well (n + 1))) a is' = wlG G a is' := uG_uG
    rw [← eo] at rd rg
    refine p (.int r) (uG G a (.well (n + 1))) v H' ⟨fun b o e nf => ?_, st.dom⟩ (rep_wl hg2 rd) (close_wl hg2 h4 rg) (q r h2 h3)
    have z := st.at_ b o e fun y => nf ((fp_wl hg b).mp y)
    exact ⟨z.1, fun y => z.2 ((fp_wl hg b).mpr ((fp_wu hg b).mp y))⟩
/-- a new well -/
def spNewX : DSp := fun ds G R _ => ∃ c : Int, ds = [.int c] ∧ ∀ (p : Addr) (is : List Int), G p = none → WlI 0 is → R (.ptr p) (wlG G p is)
def spNew : DSp := fun ds G R _ => ∃ c : Int, ds = [.int c] ∧ ∀ p : Addr, G p = none → R (.ptr p) (uG G p (.well 0))
theorem new_shift {K : PySem.W.Frag} : ∀ vs H Q E, lower K spNew vs H Q E → lower K spNewX vs H Q E := by
  rintro vs H Q E ⟨F, ds, G, R, X, r, g, ⟨c, rfl, q⟩, p, px⟩
  refine ⟨F, _, G, fun d G' => ∃ (b : Addr) (is : List Int), d = .ptr b ∧ G b = none ∧ WlI 0 is ∧ G' = wlG G b is, fun _ _ _ => False, r, g, ⟨c, rfl, fun b is h1 h2 => ⟨b, is, rfl, h1, h2, rfl⟩⟩, ?_, fun _ _ _ _ _ _ _ _ z => z.elim⟩
  rintro d G' v H' st rd rg ⟨b, is, rfl, h1, h2, rfl⟩
  have hg : uG G b (.well 0) b = some (.well 0) := uG_same
  have eo : wlG (uG G b (.well 0)) b is = wlG G b is := uG_uG
  rw [← eo] at st rd rg
  refine p (.ptr b) (uG G b (.well 0)) v H' ⟨fun c o e n => ?_, st.dom⟩ (rep_wl hg rd) (close_wl hg h2 rg) (q b h1)
  have z := st.at_ c o e n
  exact ⟨z.1, fun y => z.2 ((fp_wl hg c).mpr y)⟩
theorem wl3 {i j k : Int} : WlI n [i, j, k] ↔ 0 ≤ i ∧ 0 ≤ j ∧ 0 ≤ k ∧ k ≤ n := by
  unfold WlI; simp [and_assoc]
theorem wl3_of (h : WlI n is) : ∃ i j k : Int, is = [i, j, k] ∧ 0 ≤ i ∧ 0 ≤ j ∧ 0 ≤ k ∧ k ≤ n := by
  obtain ⟨l, p, b⟩ := h
  match is, l with
  | [i, j, k], _ => exact ⟨i, j, k, rfl, p i (by simp), p j (by simp), p k (by simp), by simpa using b⟩
end
theorem st_well {n : Nat} {G : DH} {R : DK} {X : XD} {a : Addr} {m : Int} (hg : G a = some (.well n)) (h0 : 0 < m) (h1 : m < 1073741824) (hn : n < 1000000000) (q : ∀ r : Int, 0 ≤ r → r < m → R (.int r) (uG G a (.well (n + 1)))) : spWell [.ptr a, .int m] G R X := ⟨a, m, n, rfl, hg, h0, h1, hn, q⟩
/-- so many draws later -/
theorem st_wellU {n : Nat} {G : DH} {R : DK} {X : XD} {a : Addr} {m : Int} (h0 : 0 < m) (h1 : m < 1073741824) (hn : n < 1000000000) (q : ∀ r : Int, 0 ≤ r → r < m → R (.int r) (uG G a (.well (n + 1)))) : spWell [.ptr a, .int m] (uG G a (.well n)) R X := ⟨a, m, n, rfl, uG_same, h0, h1, hn, fun r r0 r1 => by rw [uG_uG]; exact q r r0 r1⟩
theorem st_newWell {G : DH} {R : DK} {X : XD} {c : Int} (q : ∀ p : Addr, G p = none → R (.ptr p) (uG G p (.well 0))) : spNew [.int c] G R X := ⟨c, rfl, q⟩
end L2.Ew

set_option Elab.async false
set_option linter.all false
set_option maxRecDepth 100000
set_option maxHeartbeats 4000000
/-! Truths of sentences; things of any kind. -/
namespace L2.Ew
open PySem PySem.Spec PySem.SeqAt PyProof.Rows
/-- the truth of a sentence -/
noncomputable def cB (p : Prop) : Bool := @decide p (Classical.propDecidable p)
theorem cB_iff {p : Prop} : cB p = true ↔ p := by unfold cB; exact @decide_eq_true_iff p (Classical.propDecidable p)
theorem cB_of {p : Prop} {b : Bool} (h : b = true ↔ p) : cB p = b := by rw [Bool.eq_iff_iff, cB_iff, h]
theorem cB_t {p : Prop} (h : p) : cB p = true := cB_iff.mpr h
theorem cB_f {p : Prop} (h : ¬ p) : cB p = false := by
  cases e : cB p with
  | false => rfl
  | true => exact absurd (cB_iff.mp e) h
theorem cB_congr {p q : Prop} (h : p ↔ q) : cB p = cB q := by rw [cB_of (cB_iff.trans h.symm)]
/-- what is told of a thing where there is something to tell -/
noncomputable def cO {α : Type} (p : α → Prop) : Option α := @dite _ (∃ x, p x) (Classical.propDecidable _) (fun h => some (Classical.choose h)) (fun _ => none)
theorem cO_some {α : Type} {p : α → Prop} {x : α} (u : ∀ y, p y → y = x) (h : p x) : cO p = some x := by
  unfold cO
  rw [dif_pos ⟨x, h⟩, u _ (Classical.choose_spec (p := p) ⟨x, h⟩)]
theorem cO_none {α : Type} {p : α → Prop} (h : ∀ x, ¬ p x) : cO p = none := by
  unfold cO
  rw [dif_neg]
  rintro ⟨x, z⟩; exact h x z
/-! a thing: a value no part of which changes, nothing in it too long -/
mutual
def okT : D → Bool
  | .ptr _ => false | .scr _ => false | .ty _ => false
  | .tup ds => decide (ds.length ≤ 900) && okTs ds
  | .lst ds => decide (ds.length ≤ 900) && okTs ds
  | .dk _ ds => decide (ds.length ≤ 900) && okTs ds
  | _ => true
def okTs : List D → Bool
  | [] => true
  | d :: ds => okT d && okTs ds
end
theorem okTs_mem : ∀ {ds : List D}, okTs ds = true → ∀ d ∈ ds, okT d = true
  | [], _, _, h => nomatch h
  | d :: ds, h, e, he => by
    simp only [okTs, Bool.and_eq_true] at h
    rcases List.mem_cons.mp he with rfl | he
    · exact h.1
    · exact okTs_mem h.2 e he
theorem okTs_of : ∀ {ds : List D}, (∀ d ∈ ds, okT d = true) → okTs ds = true
  | [], _ => rfl
  | d :: ds, h => by
    simp only [okTs, Bool.and_eq_true]
    exact ⟨h d (List.mem_cons_self ..), okTs_of fun e he => h e (List.mem_cons_of_mem _ he)⟩
theorem okT_tup {ds : List D} (h : okT (.tup ds) = true) : ds.length ≤ 900 ∧ ∀ d ∈ ds, okT d = true := by
  simp only [okT, Bool.and_eq_true, decide_eq_true_eq] at h
  exact ⟨h.1, okTs_mem h.2⟩
theorem tup_okT {ds : List D} (h : ds.length ≤ 900) (k : ∀ d ∈ ds, okT d = true) : okT (.tup ds) = true := by
  simp only [okT, Bool.and_eq_true, decide_eq_true_eq]
  exact ⟨h, okTs_of k⟩
theorem okT_lst {ds : List D} (h : okT (.lst ds) = true) : ds.length ≤ 900 ∧ ∀ d ∈ ds, okT d = true := okT_tup h
theorem lst_okT {ds : List D} (h : ds.length ≤ 900) (k : ∀ d ∈ ds, okT d = true) : okT (.lst ds) = true := tup_okT h k
theorem okT_ints {l : List Int} (h : l.length ≤ 900) : okT (.tup (l.map D.int)) = true := tup_okT (by rwa [List.length_map]) fun d hd => by
  obtain ⟨i, _, rfl⟩ := List.mem_map.mp hd; rfl
theorem okT_res {G : DH} {d : D} (h : okT d = true) : res G d = d := by cases d <;> first | rfl | exact nomatch h
/-- a whole number from 0 on -/
def wholeB : D → Bool
  | .int i => decide (0 ≤ i)
  | _ => false
/-- all of them are whole numbers -/
theorem ints_of {P : Int → Prop} {f : D → Bool} (hf : ∀ d, f d = true → ∃ i, d = .int i ∧ P i) : ∀ {ds : List D}, ds.all f = true → ∃ l : List Int, ds = l.map D.int ∧ ∀ i ∈ l, P i
  | [], _ => ⟨[], rfl, fun _ h => nomatch h⟩
  | d :: ds, h => by
    rw [List.all_cons, Bool.and_eq_true] at h
    obtain ⟨i, rfl, p⟩ := hf d h.1
    obtain ⟨l, rfl, q⟩ := ints_of hf h.2
    exact ⟨i :: l, rfl, fun j hj => by
      rcases List.mem_cons.mp hj with rfl | hj
      · exact p
      · exact q j hj⟩
theorem ints_inj {l m : List Int} (h : l.map D.int = m.map D.int) : l = m := by
  induction l generalizing m with
  | nil => cases m with
    | nil => rfl
    | cons j m => exact nomatch h
  | cons i l ih => cases m with
    | nil => exact nomatch h
    | cons j m =>
      simp only [List.map_cons, List.cons.injEq, D.int.injEq] at h
      rw [h.1, ih h.2]
end L2.Ew

set_option Elab.async false
set_option linter.all false
set_option maxRecDepth 100000
set_option maxHeartbeats 4000000
/-! sorted and min of a list of triples; list.remove; a dict by pairs begun; a def that calls itself. -/
namespace L2.Ew
open PySem PySem.Spec PySem.SeqAt PyProof PyProof.Rows
abbrev T3 := Int × Int × Int
def t3 (t : T3) : D := .tup [.int t.1, .int t.2.1, .int t.2.2]
def lt3 (a b : T3) : Prop := a.1 < b.1 ∨ (a.1 = b.1 ∧ (a.2.1 < b.2.1 ∨ (a.2.1 = b.2.1 ∧ a.2.2 < b.2.2)))
instance (a b : T3) : Decidable (lt3 a b) := by unfold lt3; infer_instance
def p3 (t : T3) : PyData := .tuple [.int t.1, .int t.2.1, .int t.2.2]
theorem toP_t3 (t : T3) : toP (t3 t) = p3 t := rfl
theorem plain_t3 (t : T3) : plainD (t3 t) = true := rfl
theorem lt_p3 (a b : T3) : PySem.W.dataLt (p3 a) (p3 b) = decide (lt3 a b) := by
  refine (PySem.W.dataLt_tuple _ _).trans ((PySem.W.lexAll_map (α := Int) [a.1, a.2.1, a.2.2] [b.1, b.2.1, b.2.2]).trans ?_)
  simp only [PySem.W.listLt]
  unfold lt3
  by_cases h1 : a.1 = b.1
  · by_cases h2 : a.2.1 = b.2.1
    · by_cases h3 : a.2.2 = b.2.2
      · simp [h1, h2, h3]
      · simp only [h1, h2, h3, if_true, if_false]
        show decide (_ < _) = _
        simp
    · simp only [h1, h2, if_true, if_false]
      show decide (_ < _) = _
      simp
  · simp only [h1, if_false]
    show decide (_ < _) = _
    simp
theorem p3_inj {a b : T3} (h : p3 a = p3 b) : a = b := by
  obtain ⟨x, y, z⟩ := a
  obtain ⟨x', y', z'⟩ := b
  simp only [p3, PyData.tuple.injEq, List.cons.injEq, PyData.int.injEq, and_true] at h
  obtain ⟨rfl, rfl, rfl⟩ := h
  rfl
section
variable {K : PySem.W.Frag} {H : Hp} {O : Addr → Prop}
theorem each_t3 : ∀ {xs : List V} {its : List Value} {ts : List T3}, Vals xs its → RepL K H O xs (ts.map t3) → PySem.W.EachIs (fun v (b : V × T3) => RelV b.1 v ∧ Rep K H O b.1 (t3 b.2)) its (xs.zip ts)
  | [], _, [], r, _ => by cases r; exact .nil
  | x :: xs, _, t :: ts, r, q => by
    cases q with
    | cons q1 q2 =>
      cases r with
      | cons r1 r2 => exact .cons ⟨r1, q1⟩ (each_t3 r2 q2)
  | [], _, t :: ts, _, q => by cases q
  | x :: xs, _, [], _, q => by cases q
theorem each_back : ∀ {bs : List (V × T3)} {out : List Value}, PySem.W.EachIs (fun v (b : V × T3) => RelV b.1 v ∧ Rep K H O b.1 (t3 b.2)) out bs → Vals (bs.map Prod.fst) out ∧ RepL K H O (bs.map Prod.fst) ((bs.map Prod.snd).map t3)
  | _, _, .nil => ⟨.nil, .nil⟩
  | _, _, .cons h t => ⟨.cons h.1 (each_back t).1, .cons h.2 (each_back t).2⟩
end
section
variable {X : Cx} {G : DH} {Q : DK} {d : D} {ts : List T3}
/-- sorted(a list of triples) -/
def cSorted3 : DRs := fun ds G Q => ∃ (d : D) (ts : List T3), ds = [d] ∧ res G d = .lst (ts.map t3) ∧ ∀ ts' : List T3, ts'.Perm ts → ts'.Pairwise (fun a b => ¬ lt3 b a) → Q (.lst (ts'.map t3)) G
theorem cdSorted3 (hu : X.A.units + 64 < cLine) : CallD X (.builtin "sorted") cSorted3 := by
  refine ⟨fun pins s σ H xs us Q I r ⟨F, ds, G, R, rx, rg, ⟨d, ts, ed, he, q⟩, p⟩ => ?_⟩
  subst ed
  cases rx with
  | cons r1 r2 =>
    cases r2
    obtain ⟨a, ys, rfl, h1, r3⟩ := lst_at rg r1 he
    obtain ⟨its, rv, hl, hz⟩ := I.list (SqL.of h1)
    rw [Vals.ref1 r]
    have ly : ys.length = ts.length := by rw [r3.len, List.length_map]
    have lz : (ys.zip ts).length = ts.length := by rw [List.length_zip]; omega
    have hzz : its.length ≤ sizeLine := by rw [← rv.length]; exact hz
    refine PySem.W.sorted_data (enc := fun b : V × T3 => p3 b.2) hl.isList (each_t3 rv r3) ((each_t3 rv r3).mono fun v b e => Dp.reads I _ _ _ (e.2.dp (plain_t3 _)) e.1) (PySem.W.AllAlike.of fun _ _ => by simp [PySem.W.alike, PySem.W.alikeAll, p3]) (PySem.W.Sortable.tuples fun _ => ⟨_, _, rfl⟩)
      (by rw [lz, ← ly, rv.length]; exact hzz) (fun b _ => ?_) fun out lo eo => ?_
    · have hd : (p3 b.2).depth = 1 := by simp [p3, PyData.depth, PyData.depthAll]
      show _ + 2 + (p3 b.2).depth < _
      omega
    · obtain ⟨ep, he'⟩ := PyProof.Rows.sortedAll_at s.heap its out.toArray
      obtain ⟨ev, er⟩ := each_back eo
      have hlen : (((ys.zip ts).mergeSort (PySem.W.dataLe false fun b : V × T3 => p3 b.2)).map Prod.fst).length ≤ sizeLine := by
        rw [List.length_map, (List.mergeSort_perm _ _).length_eq, lz, ← ly, rv.length]; exact hzz
      refine ⟨.ref _, upd H (s.heap.objs.size + 1) (.lst _), I.laid (t' := s.toks) (fun _ _ => PyProof.Rows.sortedAll_old) (Nat.le_succ _) ⟨hlen, out, ep, ev, he'⟩, rfl, new_lst p rg er (q _ ?_ ?_) _ (I.hok.fresh (Nat.le_succ _))⟩
      · have := (List.mergeSort_perm (ys.zip ts) (PySem.W.dataLe false fun b : V × T3 => p3 b.2)).map Prod.snd
        rwa [List.map_snd_zip (by omega)] at this
      · refine List.pairwise_map.mpr ((List.pairwise_mergeSort (le := PySem.W.dataLe false fun b : V × T3 => p3 b.2) (fun a b c h1 h2 => ?_) (fun a b => ?_) (ys.zip ts)).imp fun {a b} h => ?_)
        · rw [PySem.W.dataLe_eq] at h1 h2 ⊢
          simp only [lt_p3, cond_false, Bool.not_eq_true', decide_eq_false_iff_not] at h1 h2 ⊢
          unfold lt3 at *
          omega
        · rw [PySem.W.dataLe_eq]
          simp only [lt_p3, cond_false, Bool.or_eq_true, Bool.not_eq_true', decide_eq_false_iff_not]
          unfold lt3
          omega
        · rw [PySem.W.dataLe_eq] at h
          simpa only [lt_p3, cond_false, Bool.not_eq_true', decide_eq_false_iff_not] using h
theorem st_sort3 (he : res G d = .lst (ts.map t3)) (h : ∀ ts' : List T3, ts'.Perm ts → ts'.Pairwise (fun a b => ¬ lt3 b a) → Q (.lst (ts'.map t3)) G) : cSorted3 [d] G Q := ⟨d, ts, rfl, he, h⟩
/-! min(a list of triples) -/
def min3 (x : T3) (xs : List T3) : T3 := xs.foldl (fun a y => if decide (lt3 y a) = true then y else a) x
theorem minD_p3 (x : T3) (xs : List T3) : PySem.W.minD (p3 x) (xs.map p3) = p3 (min3 x xs) := by
  unfold PySem.W.minD min3
  induction xs generalizing x with
  | nil => rfl
  | cons y ys ih =>
    rw [List.map_cons, List.foldl_cons, List.foldl_cons, ← ih]
    rw [lt_p3]
    cases decide (lt3 y x) <;> rfl
theorem min3_le : ∀ (xs : List T3) (x : T3), ∀ u ∈ x :: xs, ¬ lt3 u (min3 x xs)
  | [], x, u, hu => by
    rw [List.mem_singleton] at hu
    subst hu
    show ¬ lt3 u u
    unfold lt3; omega
  | y :: ys, x, u, hu => by
    show ¬ lt3 u (min3 (if decide (lt3 y x) = true then y else x) ys)
    have hm := min3_le ys (if decide (lt3 y x) = true then y else x)
    have h0 := hm _ (List.mem_cons_self ..)
    rcases List.mem_cons.mp hu with rfl | hu
    · intro z
      by_cases c : lt3 y u
      · rw [if_pos (decide_eq_true c)] at h0 z
        unfold lt3 at *; omega
      · rw [if_neg (by rw [decide_eq_true_eq]; exact c)] at h0 z
        exact h0 z
    · rcases List.mem_cons.mp hu with rfl | hu
      · intro z
        by_cases c : lt3 u x
        · rw [if_pos (decide_eq_true c)] at h0 z
          exact h0 z
        · rw [if_neg (by rw [decide_eq_true_eq]; exact c)] at h0 z
          unfold lt3 at *; omega
      · exact hm u (List.mem_cons_of_mem _ hu)
def cMin3 : DRs := fun ds G Q => ∃ (d : D) (ts : List T3), ds = [d] ∧ res G d = .lst (ts.map t3) ∧ ts ≠ [] ∧ ∀ t ∈ ts, (∀ u ∈ ts, ¬ lt3 u t) → Q (t3 t) G
theorem toPs_t3 (ts : List T3) : toPs (ts.map t3) = ts.map p3 := by
  induction ts with
  | nil => rfl
  | cons t ts ih => show p3 t :: _ = _; rw [ih]; rfl
theorem plains_t3 (ts : List T3) : plainDs (ts.map t3) = true := by
  induction ts with
  | nil => rfl
  | cons t ts ih => show (plainD (t3 t) && _) = true; rw [ih]; rfl
theorem depths_p3 : ∀ ts : List T3, PyData.depthAll (ts.map p3) ≤ 1
  | [] => by simp [PyData.depthAll]
  | t :: ts => by
    have h := depths_p3 ts
    rw [List.map_cons]
    simp only [PyData.depthAll, p3, PyData.depth]
    omega
theorem cdMin3 (hu : X.A.units + 64 < cLine) (hc : X.calm = true) : CallD X (.builtin "min") cMin3 := by
  refine ⟨fun pins s σ H xs us Q I r ⟨F, ds, G, R, rx, rg, ⟨d, ts, ed, he, hne, q⟩, p⟩ => ?_⟩
  subst ed
  cases rx with
  | cons r1 r2 =>
    cases r2
    obtain ⟨a, ys, rfl, h1, r3⟩ := lst_at rg r1 he
    obtain ⟨its, rv, hl, hz⟩ := I.list (SqL.of h1)
    rw [Vals.ref1 r]
    obtain ⟨t, ts', rfl⟩ : ∃ t ts', ts = t :: ts' := by
      cases ts with
      | nil => exact absurd rfl hne
      | cons t ts' => exact ⟨t, ts', rfl⟩
    obtain ⟨as, hra⟩ := Dp.readsAll I _ ys its (r3.dp (plains_t3 _)) rv
    rw [toPs_t3] at hra
    refine PySem.W.min_list_data (vs := its.toArray) (x := p3 t) (xs := ts'.map p3) (as := as) (I.ok.hd hc) hl.isList hra ?_ ?_ fun i v h' tk bs hv hrd hk => ?_
    · refine ⟨?_, ?_⟩
      · intro x hx y hy
        obtain ⟨a, rfl⟩ : ∃ a, x = p3 a := by
          rcases List.mem_cons.mp hx with rfl | hx
          · exact ⟨_, rfl⟩
          · obtain ⟨a, _, rfl⟩ := List.mem_map.mp hx; exact ⟨_, rfl⟩
        obtain ⟨b, rfl⟩ : ∃ b, y = p3 b := by
          rcases List.mem_cons.mp hy with rfl | hy
          · exact ⟨_, rfl⟩
          · obtain ⟨a, _, rfl⟩ := List.mem_map.mp hy; exact ⟨_, rfl⟩
        simp [PySem.W.alike, PySem.W.alikeAll, p3]
      · intro x hx
        rcases List.mem_cons.mp hx with rfl | hx
        · simp [p3]
        · obtain ⟨a, _, rfl⟩ := List.mem_map.mp hx; simp [p3]
    · have := depths_p3 (t :: ts')
      rw [List.map_cons] at this
      omega
    · have hv' : its[i]? = some v := by simpa using hv
      have hil : i < its.length := (List.getElem?_eq_some_iff.mp hv').1
      have hl2 : its.length = (t :: ts').length := by rw [← rv.length, r3.len, List.length_map]
      obtain ⟨w, hw⟩ : ∃ w, (t :: ts')[i]? = some w := ⟨_, List.getElem?_eq_getElem (by omega)⟩
      obtain ⟨y, hy, ry⟩ := r3.get (d := t3 w) (by rw [List.getElem?_map, hw]; rfl)
      have rel : RelV y v := by
        obtain ⟨u, hu1, hu2⟩ := Vals.get rv hy
        rw [hv'] at hu1; cases hu1; exact hu2
      obtain ⟨cs, rd⟩ := Dp.reads I _ _ _ (ry.dp (plain_t3 _)) rel
      have rd' : Reads h' v (p3 w) cs := PyProof.Rows.Reads.keeps hk rd
      rw [minD_p3] at hrd
      have e1 : p3 w = p3 (min3 t ts') := (Reads.unique rd' _ _ hrd).1
      have e2 := p3_inj e1
      exact ⟨y, H, I.kept hk, rel, p.here rg ry (q w (List.mem_of_getElem? hw) (by rw [e2]; exact min3_le ts' t))⟩
theorem st_min3 (he : res G d = .lst (ts.map t3)) (hne : ts ≠ []) (h : ∀ t ∈ ts, (∀ u ∈ ts, ¬ lt3 u t) → Q (t3 t) G) : cMin3 [d] G Q := ⟨d, ts, rfl, he, hne, h⟩
end
/-! xs.remove(k) -/
section
variable {X : Cx} {o e : Expr} {pos apos : Pos} {to te : DE} {s : DS} {G : DH} {Q : DK} {d y : D} {a : Addr} {zs : List D}
def rm2 (a : Addr) (Q : DK) (y : D) (G2 : DH) : Prop := ∃ (ns : List Int) (k : Int), y = .int k ∧ G2 a = some (.lst (ns.map D.int)) ∧ k ∈ ns ∧ Q .non (uG G2 a (.lst ((ns.erase k).map D.int)))
def rm1 (te : DE) (s : DS) (Q : DK) (d : D) (G : DH) : Prop := ∃ a, d = .ptr a ∧ (∃ zs, G a = some (.lst zs)) ∧ te s G fun y G2 => rm2 a Q y G2
def dRemove (to te : DE) : DE := fun s G Q => to s G fun d G1 => rm1 te s Q d G1
theorem erase_at {ns : List Int} {k : Int} (h : k ∈ ns) : ∃ j, ns[j]? = some k ∧ (∀ m : Nat, m < j → ns[m]? ≠ some k) ∧ ns.eraseIdx j = ns.erase k := by
  induction ns with
  | nil => exact nomatch h
  | cons n ns ih =>
    by_cases e : n = k
    · subst e
      exact ⟨0, rfl, fun m hm => absurd hm (Nat.not_lt_zero _), by simp⟩
    · obtain ⟨j, h1, h2, h3⟩ := ih ((List.mem_cons.mp h).resolve_left (Ne.symm e))
      refine ⟨j + 1, h1, fun m hm => ?_, ?_⟩
      · cases m with
        | zero => simpa using e
        | succ m => simpa using h2 m (by omega)
      · rw [List.eraseIdx_cons_succ, h3, List.erase_cons_tail (by simpa using e)]
theorem ped_remove (ho : PED X o to) (ha : PED X e te) (hbase : attributeBase o "remove" X.env (eval o X.env) = eval o X.env := by rfl)
    (hfew : ((backTo pos (starEach [e] X.env)).all (fun x => !x.1) && (backToKw pos (keywordEach [] X.env)).all (fun x => x.1.isSome) && decide ([e].length + ([] : List Keyword).length + (if ([] : List Keyword).isEmpty then 0 else 1) < 30)) = true := by rfl)
    (hline : (apos.endLine == pos.line) = true := by rfl) (hs : starEach [e] X.env = (false, eval e X.env) :: starEach [] X.env := by rfl) :
    PED X (.Call (.Attribute o "remove" apos) [e] [] pos) (dRemove to te) := by
  refine ⟨(pe_bm PySem.F.plainAttrs_list PySem.F.slot_list_remove PySem.F.type_list_remove mt_remove ho.out (pa_cons ha.out pa_nil hs) hbase hfew hline hs rfl).weak fun σ H Q ⟨F, s, G, R, rs, rg, q, p⟩ => ?_⟩
  refine ⟨F, s, G, _, rs, rg, q, fun d G1 x H1 st rx rg1 ⟨a, ed, ⟨zs, hz⟩, q1⟩ => ?_⟩
  subst ed
  cases rx
  obtain ⟨ys, h, r⟩ := rg1.ob a _ hz
  refine ⟨.inl ⟨rfl, ys, SqL.of h⟩, F, s, G1, _, rs.step st, rg1, q1, fun y G2 u H2 st2 ry rg2 ⟨ns, k, ey, hg, hk, q2⟩ => ?_⟩
  subst ey
  cases ry
  obtain ⟨ys2, h2, r2⟩ := rg2.ob a _ hg
  have e2 := r2.ints_of
  subst e2
  obtain ⟨j, h3, h4, h5⟩ := erase_at hk
  rw [← h5] at q2
  exact ⟨a, ns, k, j, rfl, rfl, h2, h3, h4, mlst_end (p.step (st.trans st2)) rg2 hg (RepL.ints _) .non q2⟩
instance : Stp (dRemove to te s G Q) (to s G fun d G1 => rm1 te s Q d G1) := ⟨id⟩
theorem st_rm1 (hg : G a = some (.lst zs)) (h : te s G fun y G2 => rm2 a Q y G2) : rm1 te s Q (.ptr a) G := ⟨a, rfl, ⟨zs, hg⟩, h⟩
theorem st_rm2 {ns : List Int} {k : Int} (hg : G a = some (.lst (ns.map D.int))) (hk : k ∈ ns) (h : Q .non (uG G a (.lst ((ns.erase k).map D.int)))) : rm2 a Q (.int k) G := ⟨ns, k, rfl, hg, hk, h⟩
theorem st_rm2U {ns : List Int} {k : Int} (hk : k ∈ ns) (h : Q .non (uG G a (.lst ((ns.erase k).map D.int)))) : rm2 a Q (.int k) (uG G a (.lst (ns.map D.int))) := ⟨ns, k, rfl, uG_same, hk, by rw [uG_uG]; exact h⟩
/-- {}, for keys that are tuples -/
def dDispT : DE := fun _ G Q => ∀ p, G p = none → Q (.ptr p) (uG G p (.dT []))
theorem ped_dispT : PED X (.Dict [] [] pos) dDispT := by
  refine ⟨pe_dnewT.weak fun σ H Q ⟨F, s, G, R, rs, rg, q, p⟩ => ?_⟩
  intro C hC
  have nd : ∀ (es : List (List Key × D)) l ks, MO.dT es ≠ .deck l ks := fun _ _ _ z => nomatch z
  exact p _ _ _ _ (step_adopt hC (nd _)) (.ptr C) (rg.adopt hC (nd _) ⟨[], upd_same, rfl, .nil⟩) (q C (rg.none hC))
instance : Stp (dDispT s G Q) (∀ p, G p = none → Q (.ptr p) (uG G p (.dT []))) := ⟨id⟩
end
/-! a def that calls itself: a promise for each depth -/
section
variable {P : Program} {w : World} {K : PySem.W.Frag} {mg : Str → Option Value} {base : Heap}
theorem fnd_none {x : Str} {st : Stmt} {N ps : List Str} {k : Nat} {sp : DSp} (A : DefAt K mg x st) (S : FnScope N ps (defScope st))
    (bd : ∀ (kV doc pm : Value) (an : Option Addr) (cdv ct : Value) (us : List Value), us.length = ps.length → bindArgs (PySem.W.fnOf x x (defArgs st) (defBody st) (defScope st) .none kV doc pm an cdv ct) ⟨us, []⟩ = pure (ps.zip us))
    (no : ∀ ds G R X, ¬ sp ds G R X) : FnD P w K mg base CX0 (k + 1) x sp := by
  obtain ⟨f, fd, hm, F⟩ := A.ex
  refine ⟨f, fd, ps, hm, F.kp, F.binds bd, F.ok S (fun vs H Q E ⟨F, ds, G, R, X, r, g, q, _⟩ => (no _ _ _ _ q).elim) fun cdv A outer s H vs Q E hr ⟨F, ds, G, R, X, r, g, q, p, _⟩ => (no _ _ _ _ q).elim⟩
end
end L2.Ew

set_option Elab.async false
set_option linter.all false
set_option maxRecDepth 100000
set_option maxHeartbeats 4000000
/-! Dicts by pairs of whole numbers, that change. -/
namespace L2.Ew
open PySem PySem.Spec PySem.SeqAt PyProof.Rows
section
variable {κ : Type} [DecidableEq κ] {k k' : κ}
theorem put_lenG (v : D) {kvs : List (κ × D)} : (putD kvs k v).length ≤ kvs.length + 1 := by
  unfold putD
  split
  · rw [List.length_map]; omega
  · rw [List.length_append]; exact Nat.le_refl _
theorem valD_putG (v : D) : ∀ {kvs : List (κ × D)}, valD (putD kvs k v) k' = if k' = k then some v else valD kvs k' := by
  intro kvs
  have e1 : ∀ l : List (κ × D), valD (l.map fun kv => if kv.1 = k then (kv.1, v) else kv) k' = if k' = k ∧ (l.any fun kv => decide (kv.1 = k)) = true then some v else valD l k' := by
    intro l
    induction l with
    | nil => simp [valD]
    | cons x l ih =>
      unfold valD at ih ⊢
      rw [List.map_cons, List.find?_cons, List.find?_cons, List.any_cons]
      by_cases c : x.1 = k
      · rw [if_pos c]
        by_cases c2 : k' = k
        · subst c2; simp [c]
        · have : ¬ x.1 = k' := fun z => c2 (by rw [← z]; exact c)
          have d1 : decide (x.1 = k') = false := decide_eq_false this
          show Option.map Prod.snd (match decide (x.1 = k') with | true => some (x.1, v) | false => List.find? _ _) = if k' = k ∧ _ then some v else Option.map Prod.snd (match decide (x.1 = k') with | true => some x | false => List.find? _ _)
          rw [d1]
          show Option.map Prod.snd (List.find? _ _) = if _ then some v else Option.map Prod.snd (List.find? _ _)
          rw [ih]; simp [c2]
      · rw [if_neg c]
        by_cases c2 : x.1 = k'
        · have : ¬ k' = k := fun z => c (by rw [c2]; exact z)
          simp [c2, this]
        · have d1 : decide (x.1 = k') = false := decide_eq_false c2
          show Option.map Prod.snd (match decide (x.1 = k') with | true => some x | false => List.find? _ _) = if _ then some v else Option.map Prod.snd (match decide (x.1 = k') with | true => some x | false => List.find? _ _)
          rw [d1]
          show Option.map Prod.snd (List.find? _ _) = if _ then some v else Option.map Prod.snd (List.find? _ _)
          have d2 : decide (x.1 = k) = false := decide_eq_false c
          rw [ih]
          simp only [d2, Bool.false_or]
          done
  unfold putD
  split
  · rename_i h
    rw [e1]
    by_cases c : k' = k
    · simp [c, h]
    · simp [c]
  · rename_i h
    unfold valD
    rw [List.find?_append]
    have hn : ∀ x ∈ kvs, ¬ x.1 = k := fun x hx z => h (List.any_eq_true.mpr ⟨x, hx, decide_eq_true z⟩)
    by_cases c : k' = k
    · subst c
      have : kvs.find? (fun p => decide (p.1 = k')) = none := List.find?_eq_none.mpr fun x hx => by simpa using hn x hx
      simp [this]
    · have : ¬ k = k' := fun z => c z.symm
      simp only [if_neg c]
      cases kvs.find? (fun p => decide (p.1 = k')) with
      | none => simp [this]
      | some x => simp
end
section
variable {G : DH} {Q : DK} {a : Addr} {x y : Int} {v : D} {kvs : List (List Key × D)} {s : DS} {S : DS → DH → Prop}
/-- what a dict by pairs tells -/
def valP (kvs : List (List Key × D)) (x y : Int) : Option D := valD kvs [Sum.inl x, Sum.inl y]
def putP (kvs : List (List Key × D)) (x y : Int) (v : D) : List (List Key × D) := putD kvs [Sum.inl x, Sum.inl y] v
theorem valP_put {x' y' : Int} : valP (putP kvs x y v) x' y' = if x' = x ∧ y' = y then some v else valP kvs x' y' := by
  unfold valP putP
  rw [valD_putG]
  by_cases c : x' = x ∧ y' = y
  · obtain ⟨rfl, rfl⟩ := c
    simp
  · rw [if_neg c, if_neg]
    intro z
    simp only [List.cons.injEq, Sum.inl.injEq, and_true] at z
    exact c z
theorem putP_len : (putP kvs x y v).length ≤ kvs.length + 1 := put_lenG v
theorem st_gsT (hg : G a = some (.dT kvs)) (hl : kvs.length ≤ 100000) (q : S s (uG G a (.dT (putP kvs x y v)))) : gsK v s S (.ptr a) (.tup [.int x, .int y]) G := by
  refine st_gsK (G2 := uG G a (.dT (putP kvs x y v))) ?_ q
  simp only [setV, hg, if_pos hl, keyTD, keyD, Option.map_some]
  rfl
theorem st_ixT2 (hg : G a = some (.dT kvs)) (hv : valP kvs x y = some v) (q : Q v G) : dIx (.ptr a) (.tup [.int x, .int y]) G Q := by
  refine st_ix ?_ (fun z hz => nomatch hz) q
  simp only [ixV, res, hg, keyTD, keyD, Option.bind_some]
  exact hv
end
end L2.Ew

set_option Elab.async false
set_option linter.all false
set_option maxRecDepth 100000
set_option maxHeartbeats 4000000
/-! x[i] op= y, of a list that is changed. -/
namespace L2.Ew
open PySem PySem.Spec PySem.SeqAt PyProof PyProof.Rows
section
variable {X : Cx}
def rGetP : V → V → Hp → VK → Prop := fun o i H Q => ∃ p xs k z, o = .ref p ∧ i = .int k ∧ H p = some (.lst xs) ∧ 0 ≤ k ∧ atI xs k = some z ∧ Q z H
theorem get_listP : PGet X rGetP := by
  intro pins s σ H o i ov iv Q I ro ri h
  obtain ⟨p, xs, k, z, rfl, rfl, hp, h0, he, q⟩ := h
  cases ro
  obtain ⟨t, rfl⟩ := ri
  obtain ⟨its, r, pl, hz⟩ := I.list (SqL.of hp)
  obtain ⟨j, h1, h2, h3, h4, h5⟩ := atI_get he
  obtain ⟨w, ew, rw'⟩ := r.get h2
  have hl := r.length
  have hn := line63
  have hj : k.toNat = j := by
    rw [seqIndex_of h0 h5] at h1
    exact Option.some.inj h1
  exact wpAny_getItem_list pl.isList h0 (by omega) (by rw [hj]; simpa using ew) ⟨z, H, I, rw', q⟩
def augK (s : DS) (te : DE) (r : DR2) (nx : DS → DH → Prop) (d e : D) (G : DH) : Prop := ∃ a i x, d = .ptr a ∧ e = .int i ∧ (∃ ds, G a = some (.lst ds) ∧ 0 ≤ i ∧ atI ds i = some x) ∧ te s G fun y G4 => r x y G4 fun z G5 => gsK z s nx d e G5
def dAugS (to ti te : DE) (r : DR2) : DT := fun D s G => to s G fun d G1 => ti s G1 fun e G2 => augK s te r D.nx d e G2
variable {o i e : Expr} {to ti te : DE} {op : Operator} {r : DR2} {tpos pos : Pos}
theorem psd_augS (hu : X.A.units + 1 < cLine) (ho : PED X o to) (hi : PED X i ti) (he : PED X e te) (hp : IpD X op r)
    (ha : ∀ ov iv new, augStore i ov iv new = (do holding [new, ov, iv] (setItem ov iv new); release [new, ov, iv] []; pure .next) := by intros; rfl) : PSD X (.AugAssign (.Subscript o i tpos) op e pos) (dAugS to ti te r) := by
  refine ⟨(ps_augS ho.out hi.out get_listP he.out hp.out (pset_d hu) ha).weak fun D σ H ⟨F, s, G, R, rs, rg, q, p⟩ => ?_⟩
  refine ⟨F, s, G, _, rs, rg, q, fun d1 G1 x H1 st rx rg1 q1 => ?_⟩
  refine ⟨F, s, G1, _, rs.step st, rg1, q1, fun d2 G2 y H2 st2 ry rg2 q2 => ?_⟩
  obtain ⟨a, i, x0, rfl, rfl, ⟨ds, hg, h0, hat⟩, q3⟩ := q2
  cases rx; cases ry
  obtain ⟨ys, hH, rl⟩ := rg2.ob a _ hg
  obtain ⟨z0, h1, h2⟩ := atI_rep rl hat
  refine ⟨a, ys, i, z0, rfl, rfl, hH, h0, h1, ?_⟩
  refine ⟨F, s, G2, _, (rs.step st).step st2, rg2, q3, fun d4 G4 y4 H4 st4 r4 rg4 q4 => ?_⟩
  refine ⟨F, x0, d4, G4, _, h2.step st4, r4, rg4, q4, fun d5 G5 z5 H5 st5 r5 rg5 q5 => ?_⟩
  unfold gsK at q5
  cases hs : setV G5 (.ptr a) (.int i) d5 with
  | none => simp only [hs] at q5
  | some G6 =>
    simp only [hs] at q5
    exact ⟨F, G5, G6, .ptr a, .int i, d5, .ptr a, .int i, r5, rg5, hs, fun H' st6 rg6 => p.nx _ _ _ _ ((((st.trans st2).trans st4).trans st5).trans st6) (((((rs.step st).step st2).step st4).step st5).step st6) rg6 q5⟩
end
section
variable {to ti te : DE} {s : DS} {G : DH} {a : Addr} {r : DR2} {D' : DEnds} {nx : DS → DH → Prop}
instance : Stp (dAugS to ti te r D' s G) (to s G fun d G1 => ti s G1 fun e G2 => augK s te r D'.nx d e G2) := ⟨id⟩
theorem st_aug {i : Nat} {d : D} {te : DE} (hs : sl s i = some d) (h : te s G fun e G1 => r d e G1 fun v G2 => D'.nx (s.set i (some v)) G2) : dAug i r te D' s G := by
  unfold dAug; rw [hs]; exact h
instance {f : Int → Int → Int} {i j : Int} {Q : DK} : Stp (ipInt f (.int i) (.int j) G Q) (Q (.int (f i j)) G) := ⟨id⟩
/-- of a list of whole numbers -/
theorem st_augI {ns : List Int} {i : Int} {f : Int → Int → Int} (hg : G a = some (.lst (ns.map D.int))) (h0 : 0 ≤ i) (h1 : i < ns.length) (h : te s G fun y G4 => ipInt f (.int (nth ns i)) y G4 fun z G5 => gsK z s nx (.ptr a) (.int i) G5) : augK s te (ipInt f) nx (.ptr a) (.int i) G :=
  ⟨a, i, .int (nth ns i), rfl, rfl, ⟨_, hg, h0, atI_map h0 h1⟩, h⟩
end
/-! an item of the script -/
section
variable {X : Cx}
def dIxS : DR2 := fun d e G Q => match d, e with
  | .scr ns, .int i => 0 ≤ i ∧ i < ns.length ∧ Q (.int (nth ns i)) G
  | _, _ => False
theorem atI_mapV {ns : List Int} {i : Int} (h0 : 0 ≤ i) (h1 : i < ns.length) : atI (ns.map V.int) i = some (V.int (nth ns i)) := by
  have hl : i.toNat < ns.length := by omega
  unfold atI ixN
  rw [List.length_map, if_pos h0, if_pos h1]
  show (ns.map V.int)[i.toNat]? = _
  rw [List.getElem?_map, List.getElem?_eq_getElem hl]
  unfold nth
  rw [List.getD_eq_getElem?_getD, List.getElem?_eq_getElem hl]
  rfl
theorem ixdS : IxD X dIxS := by
  refine ⟨fun value slice pins s σ H x y v u Q I rx ry ⟨F, d, e, G, R, qx, qy, rg, q, p⟩ hs => ?_⟩
  unfold dIxS at q
  cases d with
  | scr ns =>
    cases qy with
    | int i =>
      obtain ⟨h0, h1, q⟩ := q
      cases qx with
      | scr h n => exact ix_list value slice pins s σ H _ _ v u Q I rx ry ⟨_, _, i, _, rfl, rfl, .inl h, atI_mapV h0 h1, p.here rg (.int _) q⟩ hs
      | scrK h => exact ix_list value slice pins s σ H _ _ v u Q I rx ry ⟨_, _, i, _, rfl, rfl, .inr h, atI_mapV h0 h1, p.here rg (.int _) q⟩ hs
    | _ => exact q.elim
  | _ => exact q.elim
end
/-! divmod by great numbers -/
section
variable {X : Cx} {G : DH} {Q : DK} {i j : Int}
def cDivmodW : DRs := fun ds G Q => match ds with
  | [.int i, .int j] => CDivW i j ∧ Q (.tup [.int (i / j), .int (i % j)]) G
  | _ => False
theorem cdDivmodW : CallD X (.builtin "divmod") cDivmodW := by
  refine ⟨fun pins s σ H xs us Q I r ⟨F, ds, G, R, rx, rg, q, p⟩ => ?_⟩
  unfold cDivmodW at q
  split at q <;> try exact q.elim
  cases rx with
  | cons r1 r2 =>
    cases r2 with
    | cons r2 r3 =>
      cases r1; cases r2; cases r3
      exact call_divmodW pins s σ H _ us Q I r ⟨_, _, rfl, ⟨q.1.1, PyProof.noPylong_of_log2 q.1.2⟩, new_tup p rg (RepL.cons (.int _) (.one (.int _))) q.2⟩
theorem st_divmodW (h0 : 0 < j) (h1 : j < 2 ^ 64) (h : Q (.tup [.int (i / j), .int (i % j)]) G) : cDivmodW [.int i, .int j] G Q := ⟨wide_div (b := 64) h0 (by omega) (by decide) (by decide), h⟩
end
end L2.Ew

set_option Elab.async false
set_option linter.all false
set_option maxRecDepth 100000
set_option maxHeartbeats 4000000
/-! Is a list of any things empty; comprehensions over any things. -/
namespace L2.Ew
open PySem PySem.Spec PySem.SeqAt PyProof PyProof.Rows
section
variable {X : Cx}
def oNeNil : DR2 := fun d e G Q => ∃ ds, res G d = .lst ds ∧ res G e = .lst [] ∧ Q (.bl (!ds.isEmpty)) G
theorem odNeNil (hu : X.A.units + 64 < cLine) : OpD X (compareOp .NotEq) oNeNil := by
  refine ⟨fun pins s σ H x y v u Q I rx ry ⟨F, d, e, G, R, qx, qy, rg, ⟨ds, hd, he, q⟩, p⟩ => ?_⟩
  obtain ⟨a, xs, rfl, h1, r1⟩ := lst_at rg qx hd
  obtain ⟨b, ys, rfl, h2, r2⟩ := lst_at rg qy he
  cases r2
  cases rx
  cases ry
  obtain ⟨its, l1, pl1, _⟩ := I.list (SqL.of h1)
  obtain ⟨jts, l2, pl2, _⟩ := I.list (SqL.of h2)
  have e1 : xs.length = ds.length := r1.len
  have e2 := l1.length
  have e3 := l2.length
  simp only [List.length_nil] at e2 e3
  have hu0 : X.A.units < cLine := by omega
  refine (?_ : RcNeAt X.A s (.ref a) (.ref b) (!ds.isEmpty)) _ _ _ _ ⟨.bl _, H, I, rfl, p.here rg (.bl _) q⟩
  cases ds with
  | nil =>
    have z : xs.length = 0 := e1
    have := RcNeAt.lists (e := fun _ => true) pl1.isList pl2.isList (by rw [List.size_toArray, List.size_toArray]; omega) hu0 (fun j j1 j2 => by rw [List.size_toArray] at j1; omega)
    rw [List.size_toArray, show its.length = 0 from by omega] at this
    exact this
  | cons d ds =>
    have z : xs.length = ds.length + 1 := e1
    exact RcNeAt.lists_lengths pl1.isList pl2.isList (by rw [bne_iff_ne, List.size_toArray, List.size_toArray]; omega) hu0
end
section
variable {G : DH} {Q : DK} {d : D} {ds : List D} {g : DG} {tt : DTT} {te : DE} {s : DS} {vs : List Nat} {R : List D → DH → Prop}
theorem st_neNilX (hd : res G d = .lst ds) (h : Q (.bl (!ds.isEmpty)) G) : oNeNil d (.lst []) G Q := ⟨ds, hd, rfl, h⟩
instance : Stp (oNeNil (.lst ds) (.lst []) G Q) (Q (.bl (!ds.isEmpty)) G) := ⟨st_neNilX rfl⟩
theorem comp_mapD {gd : DH → Prop} {xs : List D} (e : D → D) (hg : gd G)
    (ht : ∀ x, x ∈ xs → ∀ (acc : List D) (K : List D → DH → Prop), K (acc ++ [e x]) G → g x (wipeD s vs) G fun s1 G1 => tt s1 G1 fun b G2 => if b = true then te s1 G2 fun y G3 => K (acc ++ [y]) G3 else K acc G2) (hd : R (xs.map e) G) : dCompL g tt te gd vs s xs [] G R := by
  have := comp_map (en := fun d : D => d) (xs := xs) (R := R) e hg ht hd
  rwa [List.map_id'] at this
theorem comp_filterD {gd : DH → Prop} {xs : List D} (p : D → Bool) (e : D → D) (hg : gd G)
    (ht : ∀ x, x ∈ xs → ∀ (acc : List D) (K : List D → DH → Prop), K (if p x = true then acc ++ [e x] else acc) G → g x (wipeD s vs) G fun s1 G1 => tt s1 G1 fun b G2 => if b = true then te s1 G2 fun y G3 => K (acc ++ [y]) G3 else K acc G2) (hd : R ((xs.filter p).map e) G) : dCompL g tt te gd vs s xs [] G R := by
  have := comp_filter (en := fun d : D => d) (xs := xs) (R := R) p e hg ht hd
  rwa [List.map_id'] at this
end
theorem st_lenC {ns : List Int} {G : DH} {Q : DK} (h : Q (.int ns.length) G) : cLen [.scr ns] G Q := by unfold cLen; exact h
/-- rising numbers: each one is below the next -/
theorem rising_iff (l : List Int) : l.Pairwise (· < ·) ↔ ∀ k : Nat, k + 1 < l.length → l.getD k 0 < l.getD (k + 1) 0 := by
  induction l with
  | nil => simp
  | cons x l ih =>
    rw [List.pairwise_cons, ih]
    constructor
    · rintro ⟨h1, h2⟩ k hk
      cases k with
      | zero =>
        cases l with
        | nil => simp at hk
        | cons y l => exact h1 y (List.mem_cons_self ..)
      | succ k =>
        simp only [List.length_cons] at hk
        exact h2 k (by omega)
    · intro h
      have h2 : ∀ k : Nat, k + 1 < l.length → l.getD k 0 < l.getD (k + 1) 0 := fun k hk => h (k + 1) (by simp only [List.length_cons]; omega)
      refine ⟨fun y hy => ?_, h2⟩
      obtain ⟨j, hj, rfl⟩ := List.mem_iff_getElem.mp hy
      have : ∀ j (hj : j < l.length), x < l[j] := by
        intro j
        induction j with
        | zero => intro hj; have := h 0 (by simp only [List.length_cons]; omega); simpa [hj] using this
        | succ j ihj =>
          intro hj
          have a := ihj (by omega)
          have b := h2 j (by omega)
          rw [List.getD_eq_getElem?_getD, List.getD_eq_getElem?_getD, List.getElem?_eq_getElem (by omega), List.getElem?_eq_getElem hj] at b
          simp only [Option.getD_some] at b
          omega
      exact this j hj
/-! lists told by their items: are two alike -/
section
variable {α : Type} {en : α → D} {G : DH} {Q : DK}
theorem eqvAll_map [DecidableEq α] (he : ∀ x y, eqD (en x) (en y) = decide (x = y)) : ∀ xs ys : List α, PyData.eqvAll (toPs (xs.map en)) (toPs (ys.map en)) = decide (xs = ys)
  | [], [] => rfl
  | x :: xs, [] => rfl
  | [], y :: ys => rfl
  | x :: xs, y :: ys => by
    show (eqD (en x) (en y) && PyData.eqvAll (toPs (xs.map en)) (toPs (ys.map en))) = _
    rw [he, eqvAll_map he xs ys, Bool.eq_iff_iff]
    simp
theorem eqD_int (i j : Int) : eqD (.int i) (.int j) = decide (i = j) := by
  show (i == j) = _
  rw [Bool.eq_iff_iff, beq_iff_eq, decide_eq_true_eq]
theorem st_eqTM [DecidableEq α] {xs ys : List α} (he : ∀ x y, eqD (en x) (en y) = decide (x = y)) (hp : ∀ x, plainD (en x) = true) (hd : depD (.tup (xs.map en)) ≤ 60) (h : Q (.bl (decide (xs = ys))) G) : oEq (.tup (xs.map en)) (.tup (ys.map en)) G Q :=
  st_eq (v := .tup (xs.map en)) (w := .tup (ys.map en)) rfl rfl ⟨plain_map hp xs, plain_map hp ys, Nat.le_trans (Nat.min_le_left _ _) (Nat.le_trans hd (by decide))⟩ (by rw [show eqD (.tup (xs.map en)) (.tup (ys.map en)) = decide (xs = ys) from eqvAll_map he xs ys]; exact h)
theorem st_neTM [DecidableEq α] {xs ys : List α} (he : ∀ x y, eqD (en x) (en y) = decide (x = y)) (hp : ∀ x, plainD (en x) = true) (hd : depD (.tup (xs.map en)) ≤ 60) (h : Q (.bl (!decide (xs = ys))) G) : oNe (.tup (xs.map en)) (.tup (ys.map en)) G Q :=
  st_ne (v := .tup (xs.map en)) (w := .tup (ys.map en)) rfl rfl ⟨plain_map hp xs, plain_map hp ys, Nat.le_trans (Nat.min_le_left _ _) (Nat.le_trans hd (by decide))⟩ (by rw [show eqD (.tup (xs.map en)) (.tup (ys.map en)) = decide (xs = ys) from eqvAll_map he xs ys]; exact h)
theorem st_eqLM [DecidableEq α] {d e : D} {xs ys : List α} (h1 : res G d = .lst (xs.map en)) (h2 : res G e = .lst (ys.map en)) (he : ∀ x y, eqD (en x) (en y) = decide (x = y)) (hp : ∀ x, plainD (en x) = true) (hd : depD (.lst (xs.map en)) ≤ 60) (h : Q (.bl (decide (xs = ys))) G) : oEq d e G Q :=
  st_eq h1 h2 ⟨plain_map hp xs, plain_map hp ys, Nat.le_trans (Nat.min_le_left _ _) (Nat.le_trans hd (by decide))⟩ (by rw [show eqD (.lst (xs.map en)) (.lst (ys.map en)) = decide (xs = ys) from eqvAll_map he xs ys]; exact h)
theorem st_neLM [DecidableEq α] {d e : D} {xs ys : List α} (h1 : res G d = .lst (xs.map en)) (h2 : res G e = .lst (ys.map en)) (he : ∀ x y, eqD (en x) (en y) = decide (x = y)) (hp : ∀ x, plainD (en x) = true) (hd : depD (.lst (xs.map en)) ≤ 60) (h : Q (.bl (!decide (xs = ys))) G) : oNe d e G Q :=
  st_ne h1 h2 ⟨plain_map hp xs, plain_map hp ys, Nat.le_trans (Nat.min_le_left _ _) (Nat.le_trans hd (by decide))⟩ (by rw [show eqD (.lst (xs.map en)) (.lst (ys.map en)) = decide (xs = ys) from eqvAll_map he xs ys]; exact h)
theorem st_eqTI {l m : List Int} (h : Q (.bl (decide (l = m))) G) : oEq (.tup (l.map D.int)) (.tup (m.map D.int)) G Q := st_eqTM eqD_int (fun _ => rfl) (Nat.le_trans (dep_intT l) (by decide)) h
theorem st_neTI {l m : List Int} (h : Q (.bl (!decide (l = m))) G) : oNe (.tup (l.map D.int)) (.tup (m.map D.int)) G Q := st_neTM eqD_int (fun _ => rfl) (Nat.le_trans (dep_intT l) (by decide)) h
theorem st_eqLI {l m : List Int} (h : Q (.bl (decide (l = m))) G) : oEq (.lst (l.map D.int)) (.lst (m.map D.int)) G Q := st_eqLM rfl rfl eqD_int (fun _ => rfl) (Nat.le_trans (dep_ints l) (by decide)) h
theorem st_neLI {l m : List Int} (h : Q (.bl (!decide (l = m))) G) : oNe (.lst (l.map D.int)) (.lst (m.map D.int)) G Q := st_neLM rfl rfl eqD_int (fun _ => rfl) (Nat.le_trans (dep_ints l) (by decide)) h
end
theorem filter_none {α : Type} (f : α → Bool) : ∀ xs : List α, (xs.filter fun x => !f x).isEmpty = xs.all f
  | [] => rfl
  | x :: xs => by
    rw [List.filter_cons, List.all_cons, ← filter_none f xs]
    cases f x <;> simp
theorem rising_eq {l m : List Int} (hl : l.Pairwise (· < ·)) (hm : m.Pairwise (· < ·)) (h : ∀ k, k ∈ l ↔ k ∈ m) : l = m := by
  induction l generalizing m with
  | nil =>
    cases m with
    | nil => rfl
    | cons y m => exact absurd ((h y).mpr (List.mem_cons_self ..)) (by simp)
  | cons x l ih =>
    cases m with
    | nil => exact absurd ((h x).mp (List.mem_cons_self ..)) (by simp)
    | cons y m =>
      rw [List.pairwise_cons] at hl hm
      have e : x = y := by
        rcases List.mem_cons.mp ((h x).mp (List.mem_cons_self ..)) with e | e
        · exact e
        · rcases List.mem_cons.mp ((h y).mpr (List.mem_cons_self ..)) with e' | e'
          · exact e'.symm
          · have := hm.1 x e; have := hl.1 y e'; omega
      subst e
      rw [ih hl.2 hm.2 fun k => ?_]
      constructor
      · intro hk
        rcases List.mem_cons.mp ((h k).mp (List.mem_cons_of_mem _ hk)) with rfl | z
        · exact absurd (hl.1 k hk) (by omega)
        · exact z
      · intro hk
        rcases List.mem_cons.mp ((h k).mpr (List.mem_cons_of_mem _ hk)) with rfl | z
        · exact absurd (hm.1 k hk) (by omega)
        · exact z
end L2.Ew

set_option Elab.async false
set_option linter.all false
set_option maxRecDepth 100000
set_option maxHeartbeats 4000000
/-! A list that changes, set anew to a sum of lists. -/
namespace L2.Ew
open PySem PySem.Spec PySem.SeqAt PyProof PyProof.Rows
section
variable {X : Cx} {a b : Expr} {ta tb : DE} {pos : Pos}
def adK (R : List D → DH → Prop) (d e : D) (G : DH) : Prop := match res G d, res G e with
  | .lst x, .lst y => x.length + y.length ≤ sizeLine ∧ R (x ++ y) G
  | _, _ => False
def fAddL (ta tb : DE) : DF := fun s G R => ta s G fun d G1 => tb s G1 fun e G2 => adK R d e G2
theorem pef_addL (ha : PED X a ta) (hb : PED X b tb) : PEF X (.BinOp a .Add b pos) (fAddL ta tb) := by
  refine ⟨(pe_op op_cat ha.out hb.out).weak fun σ H Q ⟨F, s, G, R, rs, rg, q, p⟩ => ?_⟩
  refine ⟨F, s, G, _, rs, rg, q, fun d G1 x H1 st rx rg1 q1 => ?_⟩
  refine ⟨F, s, G1, _, rs.step st, rg1, q1, fun e G2 y H2 st2 ry rg2 q2 => ?_⟩
  have rx2 := rx.step st2
  unfold adK at q2
  cases hd : res G2 d <;> cases he : res G2 e <;> rw [hd, he] at q2 <;> try exact q2.elim
  obtain ⟨c, xs, rfl, s1, r1⟩ := lst_at rg2 rx2 hd
  obtain ⟨c2, ys, rfl, s2, r2⟩ := lst_at rg2 ry he
  exact ⟨c, c2, xs, ys, rfl, rfl, s1, s2, by rw [r1.len, r2.len]; exact q2.1, new_fresh (PostF.step p (st.trans st2)) rg2 (r1.append r2) q2.2⟩
variable {s : DS} {G : DH} {R : List D → DH → Prop}
instance : Stp (fAddL ta tb s G R) (ta s G fun d G1 => tb s G1 fun e G2 => adK R d e G2) := ⟨id⟩
theorem st_adK {d e : D} {x y : List D} (hd : res G d = .lst x) (he : res G e = .lst y) (h : x.length + y.length ≤ 100000) (q : R (x ++ y) G) : adK R d e G := by
  unfold adK
  rw [hd, he]
  exact ⟨Nat.le_of_lt (size100000 h), q⟩
theorem st_adM {α : Type} {en : α → D} {d e : D} {x y : List α} (hd : res G d = .lst (x.map en)) (he : res G e = .lst (y.map en)) (h : x.length + y.length ≤ 100000) (q : R ((x ++ y).map en) G) : adK R d e G :=
  st_adK hd he (by rw [List.length_map, List.length_map]; exact h) (by rw [← List.map_append]; exact q)
end
end L2.Ew

set_option Elab.async false
set_option linter.all false
set_option maxRecDepth 100000
set_option maxHeartbeats 4000000
/-! xs.index(k), of a list of whole numbers that holds it. -/
namespace L2.Ew
open PySem PySem.Spec PySem.SeqAt PyProof PyProof.Rows
section
variable {X : Cx} {o e : Expr} {pos apos : Pos} {to te : DE} {s : DS} {G : DH} {Q : DK}
def ix2 (ns : List Int) (Q : DK) (y : D) (G2 : DH) : Prop := ∃ (k : Int) (j : Nat), y = .int k ∧ ns[j]? = some k ∧ (∀ m : Nat, m < j → ns[m]? ≠ some k) ∧ Q (.int (j : Nat)) G2
def ix1 (te : DE) (s : DS) (Q : DK) (d : D) (G : DH) : Prop := ∃ ns : List Int, d = .lst (ns.map D.int) ∧ te s G fun y G2 => ix2 ns Q y G2
def dIndex (to te : DE) : DE := fun s G Q => to s G fun d G1 => ix1 te s Q d G1
theorem ped_index (ho : PED X o to) (ha : PED X e te) (hbase : attributeBase o "index" X.env (eval o X.env) = eval o X.env := by rfl)
    (hfew : ((backTo pos (starEach [e] X.env)).all (fun x => !x.1) && (backToKw pos (keywordEach [] X.env)).all (fun x => x.1.isSome) && decide ([e].length + ([] : List Keyword).length + (if ([] : List Keyword).isEmpty then 0 else 1) < 30)) = true := by rfl)
    (hline : (apos.endLine == pos.line) = true := by rfl) (hs : starEach [e] X.env = (false, eval e X.env) :: starEach [] X.env := by rfl) :
    PED X (.Call (.Attribute o "index" apos) [e] [] pos) (dIndex to te) := by
  refine ⟨(pe_bm PySem.F.plainAttrs_list PySem.F.slot_list_index PySem.F.type_list_index mt_index ho.out (pa_cons ha.out pa_nil hs) hbase hfew hline hs rfl).weak fun σ H Q ⟨F, s, G, R, rs, rg, q, p⟩ => ?_⟩
  refine ⟨F, s, G, _, rs, rg, q, fun d G1 x H1 st rx rg1 ⟨ns, ed, q1⟩ => ?_⟩
  subst ed
  cases rx with
  | @lst a xs ds h n r =>
    refine ⟨.inl ⟨rfl, xs, SqL.of h⟩, F, s, G1, _, rs.step st, rg1, q1, fun y G2 u H2 st2 ry rg2 ⟨k, j, ey, hj, hno, q2⟩ => ?_⟩
    subst ey
    cases ry
    have ex := r.ints_of
    subst ex
    have h2 := (st2.at_ a _ h (fun z => n (.inr z))).1
    refine ⟨a, ns.map V.int, .int k, j, .int k, rfl, rfl, SqL.of h2, rfl, ?_, ?_, by show (k == k) = true; simp, fun m z' hm hz' => ?_, p _ _ _ _ (st.trans st2) (.int _) rg2 q2⟩
    · rw [List.all_map]; exact List.all_eq_true.mpr fun _ _ => rfl
    · rw [List.getElem?_map, hj]; rfl
    · rw [List.getElem?_map] at hz'
      obtain ⟨w, hw, rfl⟩ := Option.map_eq_some_iff.mp hz'
      show (w == k) = false
      rw [beq_eq_false_iff_ne]
      exact fun z => hno m hm (z ▸ hw)
instance : Stp (dIndex to te s G Q) (to s G fun d G1 => ix1 te s Q d G1) := ⟨id⟩
theorem st_ix1 {ns : List Int} (h : te s G fun y G2 => ix2 ns Q y G2) : ix1 te s Q (.lst (ns.map D.int)) G := ⟨ns, rfl, h⟩
theorem st_ix2 {ns : List Int} {k : Int} {j : Nat} (h1 : ns[j]? = some k) (h2 : ∀ m : Nat, m < j → ns[m]? ≠ some k) (h : Q (.int (j : Nat)) G) : ix2 ns Q (.int k) G := ⟨k, j, rfl, h1, h2, h⟩
end
theorem first_at {ns : List Int} {k : Int} (h : k ∈ ns) : ∃ j : Nat, ns[j]? = some k ∧ ∀ m : Nat, m < j → ns[m]? ≠ some k := by
  obtain ⟨j, h1, h2, _⟩ := erase_at h
  exact ⟨j, h1, h2⟩
end L2.Ew

set_option Elab.async false
set_option linter.all false
set_option maxRecDepth 100000
set_option maxHeartbeats 4000000
/-! repr of data that may hold an empty dict, in the law itself; {} as a value. -/
namespace L2.Ew
open PySem PySem.Spec PySem.SeqAt PyProof PyProof.Rows
def toK : Key → PyData
  | .inl i => .int i
  | .inr x => .str x
mutual
def toQ : D → PyData
  | .non => .none | .bl b => .bool b | .int i => .int i | .str x => .str x
  | .tup ds => .tuple (toQs ds) | .lst ds => .list (toQs ds)
  | .dk ks ds => .dict (toKVs ks ds)
  | _ => .none
def toQs : List D → List PyData
  | [] => []
  | d :: ds => toQ d :: toQs ds
def toKVs : List Key → List D → List (PyData × PyData)
  | k :: ks, d :: ds => (toK k, toQ d) :: toKVs ks ds
  | _, _ => []
end
mutual
def plainQ : D → Bool
  | .non => true | .bl _ => true | .int _ => true | .str _ => true
  | .tup ds => plainQs ds | .lst ds => plainQs ds
  | .dk ks ds => (ks.length == ds.length) && plainQs ds
  | _ => false
def plainQs : List D → Bool
  | [] => true
  | d :: ds => plainQ d && plainQs ds
end
/-- the table of modules stands in the heap -/
def SysAt (h : Heap) : Prop := ∃ mm, h.Ns sysModules mm
theorem SysAt.seq {h : Heap} (S : SysAt h) {a : Addr} {o : Obj} {vs : Array Value} {n : Nat} (ho : h.get? a = some o) (hd : o.data = .seq vs n) : sysModules ≠ a := by
  rintro rfl
  obtain ⟨mm, o', es, ep, x, y, _⟩ := S
  rw [ho] at x
  cases x
  rw [hd] at y
  cases y
section
variable {X : Cx} {pins : List (Addr × Obj)} {σ : List (Option V)} {H : Hp} {s : Shared} {O : Addr → Prop}
mutual
theorem repQ (I : Inv X pins σ H s) (S : SysAt s.heap) : ∀ (d : D) (v : V) (u : Value), Rep X.K H O v d → plainQ d = true → RelV v u → ∃ as, Reads s.heap u (toQ d) as ∧ sysModules ∉ as
  | .non, _, _, r, _, q => by cases r; cases q; exact ⟨_, .none, List.not_mem_nil⟩
  | .bl b, _, _, r, _, q => by cases r; cases q; exact ⟨_, .bool b, List.not_mem_nil⟩
  | .int i, _, _, r, _, q => by cases r; obtain ⟨t, rfl⟩ := q; exact ⟨_, .int i t, List.not_mem_nil⟩
  | .str x, _, _, r, _, q => by cases r; obtain ⟨t, rfl⟩ := q; exact ⟨_, .str x t, List.not_mem_nil⟩
  | .tup ds, _, _, r, k, q => by
    cases r with
    | tup h n r =>
      cases q
      obtain ⟨its, rv, ⟨o, ho, hc, n, hd⟩, _⟩ := I.tuple (SqT.of h)
      obtain ⟨as, hr, hn⟩ := repQs I S ds _ its r k rv
      exact ⟨_, Reads.tuple ho hc hd hr, hn⟩
  | .lst ds, _, _, r, k, q => by
    cases r with
    | lst h n r =>
      cases q
      obtain ⟨its, rv, ⟨o, n, ho, hc, _, hd⟩, _⟩ := I.list (SqL.of h)
      obtain ⟨as, hr, hn⟩ := repQs I S ds _ its r k rv
      exact ⟨_, Reads.list ho hc hd hr, fun z => (List.mem_cons.mp z).elim (S.seq ho hd) hn⟩
  | .dk ks ds, _, _, r, k, q => by
    cases r with
    | dk h n r =>
      rename_i a kvs
      cases q
      simp only [plainQ, Bool.and_eq_true] at k
      obtain ⟨_, hs, vs, kv, o, es, ep, ho, hx, hd, _, hp, _⟩ := I.hok _ _ h
      obtain ⟨as, r1, r2, hn⟩ := repKs I S ds kvs vs es.toList r k.2 kv hp
      refine ⟨_, Reads.dict ho hx.1 hd r1 r2, fun z => ?_⟩
      rcases List.mem_cons.mp z with z | z
      · rw [← z] at hs; exact nomatch hs
      · exact hn z
  | .ty _, _, _, _, k, _ => nomatch k
  | .ptr _, _, _, _, k, _ => nomatch k
  | .scr _, _, _, _, k, _ => nomatch k
theorem repQs (I : Inv X pins σ H s) (S : SysAt s.heap) : ∀ (ds : List D) (vs : List V) (us : List Value), RepL X.K H O vs ds → plainQs ds = true → Vals vs us → ∃ as, ReadsAll s.heap us (toQs ds) as ∧ sysModules ∉ as
  | [], _, _, r, _, q => by cases r; cases q; exact ⟨_, .nil, List.not_mem_nil⟩
  | d :: ds, _, _, r, k, q => by
    cases r with
    | cons r t =>
      cases q with
      | cons q p =>
        simp only [plainQs, Bool.and_eq_true] at k
        obtain ⟨as, h1, n1⟩ := repQ I S d _ _ r k.1 q
        obtain ⟨bs, h2, n2⟩ := repQs I S ds _ _ t k.2 p
        exact ⟨_, .cons h1 h2, fun z => (List.mem_append.mp z).elim n1 n2⟩
theorem repKs (I : Inv X pins σ H s) (S : SysAt s.heap) : ∀ (ds : List D) (kvs : List (Key × V)) (vs : List (Key × Value)) (es : List DictEntry), RepL X.K H O (kvs.map Prod.snd) ds → plainQs ds = true → KV kvs vs → Pairs (mixKind X.prog X.w) es vs →
    ∃ as, ReadsAll s.heap (es.map (·.key)) ((toKVs (kvs.map Prod.fst) ds).map (·.1)) [] ∧ ReadsAll s.heap (es.map (·.val)) ((toKVs (kvs.map Prod.fst) ds).map (·.2)) as ∧ sysModules ∉ as
  | [], kvs, vs, es, r, _, kv, p => by
    cases kvs with
    | cons _ _ => cases r
    | nil => cases kv; cases p; exact ⟨_, .nil, .nil, List.not_mem_nil⟩
  | d :: ds, kvs, vs, es, r, k, kv, p => by
    cases kvs with
    | nil => cases r
    | cons q kvs =>
      cases r with
      | cons r t =>
        cases kv with
        | cons e kv =>
          cases p with
          | @cons e0 _ _ _ y ev p =>
            simp only [plainQs, Bool.and_eq_true] at k
            obtain ⟨ek, er⟩ := e
            obtain ⟨as, h1, n1⟩ := repQ I S d _ _ r k.1 er
            obtain ⟨bs, h2, h3, n2⟩ := repKs I S ds kvs _ _ t k.2 kv p
            rw [← ek] at y
            rw [← ev] at h1
            have hk : Reads s.heap e0.key (toK q.1) [] := by
              rcases keyIs_shape y with ⟨i, t, e1, e2⟩ | ⟨i, t, e1, e2⟩
              · rw [e1]; exact e2 ▸ .int i t
              · rw [e1]; exact e2 ▸ .str i t
            exact ⟨_, .cons hk h2, .cons h1 h3, fun z => (List.mem_append.mp z).elim n1 n2⟩
end
end
/-- data whose text can be made, an empty dict in it too -/
structure ShwQ (d : D) : Prop where
  pl : plainQ d = true
  sh : (toQ d).showable = true
  dp : (toQ d).depth ≤ 60
  sz : (toQ d).shown.length ≤ sizeLine
def cReprQ : DRs := fun ds G Q => match ds with
  | [d] => ShwQ d ∧ Q (.str (toQ d).shown) G
  | _ => False
section
variable {X : Cx} {G : DH} {Q : DK} {d : D}
theorem cdReprQ (hg : X.A.guards = some []) (hu : X.A.units + 64 < cLine) (hS : SysAt X.base) : CallD X (.builtin "repr") cReprQ := by
  refine ⟨fun pins s σ H xs us Q I r ⟨F, ds, G, R, rx, rg, q, p⟩ => ?_⟩
  unfold cReprQ at q
  split at q <;> try exact q.elim
  rename_i d
  obtain ⟨sd, q⟩ := q
  cases rx with
  | cons r1 r2 =>
    cases r2
    obtain ⟨u, rfl, ru⟩ := r.one
    have S : SysAt s.heap := by obtain ⟨mm, z⟩ := hS; exact ⟨mm, z.keeps I.bk⟩
    obtain ⟨as, rd, hn⟩ := repQ I S _ _ u r1 sd.pl ru
    cases r1 with
    | non => cases ru; exact PySem.P.repr_of_none ⟨.str _, H, I.tok _, ⟨_, rfl⟩, p.here rg (.str _) q⟩
    | bl b => cases ru; exact PySem.P.repr_of_bool ⟨.str _, H, I.tok _, ⟨_, rfl⟩, p.here rg (.str _) q⟩
    | int i => obtain ⟨t, rfl⟩ := ru; exact PySem.P.repr_of_int (by have := sd.sh; simpa only [toQ, PyData.showable, decide_eq_true_eq] using this) ⟨.str _, H, I.tok _, ⟨_, rfl⟩, p.here rg (.str _) q⟩
    | str i => obtain ⟨t, rfl⟩ := ru; exact PySem.P.repr_of_str ⟨.str _, H, I.tok _, ⟨_, rfl⟩, p.here rg (.str _) q⟩ sd.sz
    | ty _ => exact nomatch sd.pl
    | ptr _ => exact nomatch sd.pl
    | scr _ _ => exact nomatch sd.pl
    | scrK _ => exact nomatch sd.pl
    | tup _ _ _ => cases ru; exact repr_of_reads' rd sd.sh (fun _ => hn) hg (Nat.lt_of_le_of_lt (Nat.add_le_add_left (show PyData.depth (toQ _) + 1 ≤ 64 from Nat.succ_le_succ (Nat.le_trans sd.dp (by decide))) _) hu) (fun _ _ e => e) (fun h' u2 tk hk => ⟨.str _, H, I.kept hk, ⟨_, rfl⟩, p.here rg (.str _) q⟩) sd.sz
    | lst _ _ _ => cases ru; exact repr_of_reads' rd sd.sh (fun _ => hn) hg (Nat.lt_of_le_of_lt (Nat.add_le_add_left (show PyData.depth (toQ _) + 1 ≤ 64 from Nat.succ_le_succ (Nat.le_trans sd.dp (by decide))) _) hu) (fun _ _ e => e) (fun h' u2 tk hk => ⟨.str _, H, I.kept hk, ⟨_, rfl⟩, p.here rg (.str _) q⟩) sd.sz
    | dk _ _ _ => cases ru; exact repr_of_reads' rd sd.sh (fun _ => hn) hg (Nat.lt_of_le_of_lt (Nat.add_le_add_left (show PyData.depth (toQ _) + 1 ≤ 64 from Nat.succ_le_succ (Nat.le_trans sd.dp (by decide))) _) hu) (fun _ _ e => e) (fun h' u2 tk hk => ⟨.str _, H, I.kept hk, ⟨_, rfl⟩, p.here rg (.str _) q⟩) sd.sz
theorem st_reprQ (sd : ShwQ d) (h : Q (.str (toQ d).shown) G) : cReprQ [d] G Q := ⟨sd, h⟩
variable {pos : Pos}
/-- a dict display that nobody changes -/
def dDispW (trs : List (DE × DE)) : DE := fun s G Q => dPairs trs s G fun ps G1 => match keysD ps with
  | some kvs => kvs.length ≤ 15 ∧ Q (.dk ((mergeD [] kvs).map Prod.fst) ((mergeD [] kvs).map Prod.snd)) G1
  | none => False
theorem ped_dispW {keys : List (Option Expr)} {values : List Expr} {trs : List (DE × DE)} (h : PPsD X pos keys values trs) (hall : keys.all (·.isSome) = true := by rfl) (hl : keys.length = values.length := by rfl) (h0 : keys ≠ [] := by exact fun z => nomatch z) (h15 : keys.length ≤ 15 := by decide) :
    PED X (.Dict keys values pos) (dDispW trs) := by
  refine ⟨(pe_disp h.out hall hl h0 h15).weak fun σ H Q ⟨F, s, G, R, rs, rg, q, p⟩ => ?_⟩
  intro C hC
  have nF : ¬ F C := fun z => by obtain ⟨⟨u, e, _⟩, _⟩ := rg.hid C z; rw [hC] at e; cases e
  have nfp : ¬ Fp G C := fun z => rg.fresh hC (.inr z)
  have rgC : RepG X.K (upd H C (.dK [])) (F.add C) G := by
    refine ⟨fun a o h => (rg.ob a o h).imp (fun b u e n => ⟨by rw [upd_ne (ne_of_none e hC)]; exact e, fun z => ?_⟩) ?_ ?_, rg.dk, rg.dd, fun a z => ?_⟩
    · rcases z with (z | z) | z
      · exact n (.inl z)
      · exact ne_of_none e hC z
      · exact n (.inr z)
    · obtain ⟨w, q⟩ := (rg.ob a o h).there; rw [upd_ne (ne_of_none q hC)]
    · rintro l' ks rfl; obtain ⟨is, cs, _, _, q⟩ := rg.ob a _ h; rw [upd_ne (ne_of_none q hC)]
    · rcases z with z | rfl
      · obtain ⟨⟨u, e, t⟩, n⟩ := rg.hid a z; exact ⟨⟨u, by rw [upd_ne (ne_of_none e hC)]; exact e, t⟩, n⟩
      · exact ⟨⟨_, upd_same, fun _ y => nomatch y⟩, nfp⟩
  have rsC : RepS X.K (upd H C (.dK [])) (Own (F.add C) G) σ s := rs.imp fun a o e n => ⟨by rw [upd_ne (ne_of_none e hC)]; exact e, fun z => by
    rcases z with (z | z) | z
    · exact n (.inl z)
    · exact ne_of_none e hC z
    · exact n (.inr z)⟩
  refine low_pairs rsC rgC q fun ds G1 xs H1 st rp rg1 q1 => ?_
  have hC1 : H1 C = some (.dK []) := (st.at_ C _ upd_same nfp).1
  refine ⟨hC1, ?_⟩
  cases hk : keysD ds with
  | none => simp only [hk] at q1
  | some kvs =>
    simp only [hk] at q1
    obtain ⟨ws, h1, h2, h3⟩ := keys_rep rp hk
    have hl' : ws.length = kvs.length := by have := congrArg List.length h2; simpa using this
    refine ⟨ws, h1, by rw [hl']; exact q1.1, ?_⟩
    obtain ⟨m1, m2⟩ := merge_rep (acc := []) (bcc := []) h2 h3 rfl .nil
    have nfp1 : ¬ Fp G1 C := (rg1.hid C (.inr rfl)).2
    have hG : G1 C = none := by
      cases q : G1 C with
      | none => rfl
      | some o => exact absurd (.inl ⟨o, q⟩) nfp1
    have key : ∀ a o, H1 a = some o → ¬ Own (F.add C) G1 a → (upd H1 C (.dK (mergeK [] ws))) a = some o ∧ ¬ Own F G1 a := fun a o e n =>
      ⟨by rw [upd_ne fun z => n (.inl (.inr z))]; exact e, own_add n⟩
    have q2 := q1.2
    rw [← m1] at q2
    refine p _ G1 _ _ ⟨fun a o e n => ?_, fun a o e => ?_⟩ (.dk upd_same (rg1.unown nF) (m2.imp key)) ⟨fun a o ha => ?_, rg1.dk, rg1.dd, fun a z => ?_⟩ q2
    · have ne := ne_of_none e hC
      have z := st.at_ a o (by rw [upd_ne ne]; exact e) n
      exact ⟨by rw [upd_ne ne]; exact z.1, z.2⟩
    · have ne := ne_of_none e hC
      obtain ⟨w, z⟩ := st.dom a o (by rw [upd_ne ne]; exact e)
      exact ⟨w, by rw [upd_ne ne]; exact z⟩
    · have ea : a ≠ C := fun z => by subst z; rw [hG] at ha; cases ha
      refine (rg1.ob a o ha).imp key (upd_ne ea) ?_
      rintro l ks rfl
      have : l ≠ C := fun z => by subst z; exact nfp1 (.inr ⟨a, ks, ha⟩)
      rw [upd_ne this]
    · obtain ⟨⟨w, q, t⟩, n⟩ := rg1.hid a (.inl z)
      have ne : a ≠ C := fun y => by subst y; exact nF z
      exact ⟨⟨w, by rw [upd_ne ne]; exact q, t⟩, n⟩
instance {trs : List (DE × DE)} {s : DS} : Stp (dDispW trs s G Q) (dPairs trs s G fun ps G1 => match keysD ps with
    | some kvs => kvs.length ≤ 15 ∧ Q (.dk ((mergeD [] kvs).map Prod.fst) ((mergeD [] kvs).map Prod.snd)) G1
    | none => False) := ⟨id⟩
/-- {} that nobody changes -/
def dDispV : DE := fun _ G Q => Q (.dk [] []) G
instance {s : DS} : Stp (dDispV s G Q) (Q (.dk [] []) G) := ⟨id⟩
theorem ped_dispV : PED X (.Dict [] [] pos) dDispV := by
  refine ⟨pe_dnewK.weak fun σ H Q ⟨F, s, G, R, rs, rg, q, p⟩ => ?_⟩
  intro C hC
  exact p _ _ _ _ (step_new hC) (.dk (kvs := []) (ds := []) upd_same (rg.fresh hC) .nil) (rg.new hC) q
end
section
variable {P : Program} {w : World} {K : PySem.W.Frag} {mg : Str → Option Value} {base : Heap} {x : Str} {st : Stmt} {f : Addr} {fd : FuncData} {N ps : List Str} {k : Nat} {t : DT}
variable {a : Addr} {vs : List Value} {ns : List Int}
theorem lone_envS {mb : Str → Option Value} {s : Shared} (KX : K.In s.heap) (gns : s.heap.Ns mainGlobals mg) (bns : s.heap.Ns builtinsNs mb) (bb : ∀ x : Str, x ≠ "__name__" → mb x = bootBuiltins x) (lim : s.heap.NoLimit) (ge : s.gens = #[])
    (sy : SysAt s.heap) (ha : s.heap.get? a = some { cls := .type "list", data := .seq vs.toArray }) (hi : IntsAre vs ns) (hl : ns.length ≤ 63) :
    ∃ base : Heap, K.In base ∧ base.Ns mainGlobals mg ∧ SysAt base ∧ SqL K (scrH K a vs ns) a (ns.map V.int) ∧ Env0 P w K mg base callerA [] s (scrH K a vs ns) := by
  have stays : ∀ {b : Addr} {o : Obj}, s.heap.get? b = some o → (b = a → K.lookup a ≠ none) → (hidT s.heap (scrH K a vs ns)).get? b = some o := fun e c => hidT_get e (scrH_off c)
  have kin : K.In (hidT s.heap (scrH K a vs ns)) := fun b o e => stays (KX b o e) fun z => by subst z; rw [e]; exact fun q => nomatch q
  have space : ∀ {b : Addr} {m : Str → Option Value}, s.heap.Ns b m → (hidT s.heap (scrH K a vs ns)).Ns b m := by
    rintro b m ⟨o, es, ep, e, d, rest⟩
    refine ⟨o, es, ep, stays e fun z => ?_, d, rest⟩
    subst z
    rw [ha] at e
    rw [← Option.some.inj e] at d
    exact nomatch d
  have small : ns.length ≤ sizeLine := by rw [sizeLine_eq]; omega
  have isok : HOk P w (scrH K a vs ns) s.heap := fun b u e => by
    obtain ⟨rfl, _, rfl⟩ := scrH_on e
    exact ⟨ha, by rw [List.length_map]; exact small, vs, _, vals_ints hi, ha⟩
  refine ⟨hidT s.heap (scrH K a vs ns), kin, space gns, (let ⟨mm, z⟩ := sy; ⟨mm, space z⟩), ?_, ⟨rfl, ⟨kin, space gns, ⟨mb, space bns, bb⟩, ?_⟩, fun b o e => of_hidT e, Nat.le_of_eq (hidT_size _ _), trivial, fun b h => absurd h List.not_mem_nil, isok, .of_eq ge⟩⟩
  · cases c : K.lookup a with
    | none => exact .inl (.inr ⟨_, if_pos ⟨rfl, c⟩⟩)
    | some o =>
      have e := KX a o c
      rw [ha] at e
      cases e
      refine .inr ⟨_, vs.toArray, _, c, rfl, rfl, rfl, ?_, by simpa using vals_ints hi⟩
      rw [List.size_toArray, hi.length]; exact small
  · obtain ⟨mc, c1, c2⟩ := lim
    exact ⟨mc, space c1, c2⟩
theorem lone_callS {mb : Str → Option Value} {s : Shared} {y : Str} (KX : K.In s.heap) (gns : s.heap.Ns mainGlobals mg) (bns : s.heap.Ns builtinsNs mb) (bb : ∀ x : Str, x ≠ "__name__" → mb x = bootBuiltins x) (lim : s.heap.NoLimit) (ge : s.gens = #[])
    (sy : SysAt s.heap) (ha : s.heap.get? a = some { cls := .type "list", data := .seq vs.toArray }) (hi : IntsAre vs ns) (hl : ns.length ≤ 63) (F : Fun K x x st f fd) (S : FnScope N [y] (defScope st)) (body : ∀ base, K.In base → base.Ns mainGlobals mg → SysAt base → LoneBody P w K mg base N x st k t)
    (sem : ∀ ds G R X, spLawD ds G R X → ds.length = [y].length ∧ t { nx := fun _ G' => RetOk R .non G', rt := RetOk R } (dstart N ds) G) (hr : Room (k + 1) callerA) (hb : BindsTo s fd ⟨[.ref a], []⟩ [(y, .ref a)]) :
    codeAny (model P w) callerA (.call (.ref f) ⟨[.ref a], []⟩) (fun r s' => r = .ok (.ret (.bool true)) ∧ OldK s.heap s'.heap ∧ s'.os = s.os ∧ AllBare s'.gens) s := by
  obtain ⟨base, k1, k2, k3, sq, e0⟩ := lone_envS (P := P) (w := w) KX gns bns bb lim ge sy ha hi hl
  refine codeAny_mono (lone_run (Q := fun v _ => v = .bl true) (E := fun _ _ _ => False) (vs := [.ref a]) (us := [.ref a]) F S (body base k1 k2 k3) sem hr e0 hb (.cons rfl .nil) ⟨a, ns, rfl, sq, hl, fun _ => rfl⟩) fun r s' h => ?_
  match r, h with
  | .error _, h => exact h.elim
  | .ok (.ret u), ⟨v, H', os, bare, un, ok', rv, q⟩ =>
    subst q
    cases (show u = Value.bool true from rv)
    refine ⟨rfl, OldK.of_keep fun b o e => ?_, os, bare⟩
    cases c : scrH K a vs ns b with
    | none => exact un.keep b o e c List.not_mem_nil List.not_mem_nil
    | some u =>
      obtain ⟨rfl, _, rfl⟩ := scrH_on c
      obtain ⟨z1, _⟩ := e0.hok _ _ c
      obtain ⟨z2, _⟩ := ok' _ _ (un.frzs _ _ _ c)
      rw [z1] at e
      rw [← e]; exact z2
end
end L2.Ew
namespace L2.Ew
open PySem PySem.Spec PySem.SeqAt PyProof PyProof.Rows
theorem lone_walkS {l : PySem.W.OpenLaw} {q : Program} {loose : List Str} {XP : (Str → Option Value) → Heap → Prop} {YP : World → Heap → Prop} {d : DefRec} {K : Params → PySem.W.Frag} {x y : Str} {st : Stmt} {N : List Str} {k : Nat} {t : DT}
    (himp : importsNone q = true) (hn : l.most = some 63) (hdf : d.params.defaults = []) (hr : Room (k + 1) callerA) (hY : ∀ (w : World) (h : Heap), YP w h → (K w.params).In h) (S : FnScope N [y] (defScope st))
    (sem : ∀ ds G R X, spLawD ds G R X → ds.length = [y].length ∧ t { nx := fun _ G' => RetOk R .non G', rt := RetOk R } (dstart N ds) G)
    (F : ∀ (w : World) (mg : Str → Option Value) (fa : Addr) (h : Heap), (K w.params).In h → h.Ns mainGlobals mg → mg d.name = some (.ref fa) →
      ∃ fd : FuncData, (∀ (s : Shared) (u : Value), BindsTo s fd ⟨[u], []⟩ [(y, u)]) ∧ Fun (K w.params) x x st fa fd ∧ ∀ base : Heap, (K w.params).In base → base.Ns mainGlobals mg → SysAt base → LoneBody l.prog w (K w.params) mg base N x st k t) :
    PySem.W.WalkO q loose XP YP l.row.toRowW d [] (fun f vs => PySem.call f vs) := by
  refine Att.attach_call hn hdf fun w _ s m _ fa _ _ _ _ a vs ns gr yp _ _ _ em ea ei el eg => ?_
  have kin := hY w _ yp
  obtain ⟨fd, bnd, fn, body⟩ := F w m fa _ kin gr.T.g em
  exact lone_callS kin gr.T.g gr.T.b gr.T.builtins gr.T.nolimit eg (let ⟨mm, z, _⟩ := (gr.T.seer himp).mods; ⟨mm, z⟩) ea ei el fn S body sem hr (bnd s (.ref a))
end L2.Ew

set_option Elab.async false
set_option linter.all false
set_option maxRecDepth 100000
set_option maxHeartbeats 4000000
/-! Is a tuple of any things empty; the text of a whole number. -/
namespace L2.Ew
open PySem PySem.Spec PySem.SeqAt PyProof PyProof.Rows
section
variable {X : Cx}
def oNeNilT : DR2 := fun d e G Q => ∃ ds, d = .tup ds ∧ e = .tup [] ∧ Q (.bl (!ds.isEmpty)) G
def oEqNilT : DR2 := fun d e G Q => ∃ ds, d = .tup ds ∧ e = .tup [] ∧ Q (.bl ds.isEmpty) G
theorem odNeNilT (hu : X.A.units + 64 < cLine) : OpD X (compareOp .NotEq) oNeNilT := by
  refine ⟨fun pins s σ H x y v u Q I rx ry ⟨F, d, e, G, R, qx, qy, rg, ⟨ds, hd, he, q⟩, p⟩ => ?_⟩
  subst hd he
  obtain ⟨a, xs, rfl, h1, r1⟩ := tup_at qx
  obtain ⟨b, ys, rfl, h2, r2⟩ := tup_at qy
  cases r2
  cases rx
  cases ry
  obtain ⟨its, l1, ⟨o1, ho1, hc1, n1, hd1⟩, _⟩ := I.tuple h1
  obtain ⟨jts, l2, ⟨o2, ho2, hc2, n2, hd2⟩, _⟩ := I.tuple h2
  have e1 : xs.length = ds.length := r1.len
  have e2 := l1.length
  have e3 := l2.length
  simp only [List.length_nil] at e2 e3
  have hu0 : X.A.units < cLine := by omega
  refine (?_ : RcNeAt X.A s (.ref a) (.ref b) (!ds.isEmpty)) _ _ _ _ ⟨.bl _, H, I, rfl, p.here rg (.bl _) q⟩
  have z := RcNeAt.tuples (A := X.A) (s := s) (e := fun _ => true) ⟨o1, ho1, hc1, n1, hd1⟩ ⟨o2, ho2, hc2, n2, hd2⟩ hu0 (fun j j1 j2 => by rw [List.size_toArray] at j2; omega)
  rw [show (!((List.range (min its.toArray.size jts.toArray.size)).all (fun _ => true) && its.toArray.size == jts.toArray.size)) = (!ds.isEmpty) from by
    rw [List.size_toArray, List.size_toArray, show jts.length = 0 from by omega, show its.length = ds.length from by omega]
    cases ds <;> simp] at z
  exact z
theorem odEqNilT (hu : X.A.units + 64 < cLine) : OpD X (compareOp .Eq) oEqNilT := by
  refine ⟨fun pins s σ H x y v u Q I rx ry ⟨F, d, e, G, R, qx, qy, rg, ⟨ds, hd, he, q⟩, p⟩ => ?_⟩
  subst hd he
  obtain ⟨a, xs, rfl, h1, r1⟩ := tup_at qx
  obtain ⟨b, ys, rfl, h2, r2⟩ := tup_at qy
  cases r2
  cases rx
  cases ry
  obtain ⟨its, l1, ⟨o1, ho1, hc1, n1, hd1⟩, _⟩ := I.tuple h1
  obtain ⟨jts, l2, ⟨o2, ho2, hc2, n2, hd2⟩, _⟩ := I.tuple h2
  have e1 : xs.length = ds.length := r1.len
  have e2 := l1.length
  have e3 := l2.length
  simp only [List.length_nil] at e2 e3
  have hu0 : X.A.units < cLine := by omega
  refine (?_ : RcAt X.A s (.ref a) (.ref b) ds.isEmpty) _ _ _ _ ⟨.bl _, H, I, rfl, p.here rg (.bl _) q⟩
  have z := RcAt.tuples (A := X.A) (s := s) (e := fun _ => true) ⟨o1, ho1, hc1, n1, hd1⟩ ⟨o2, ho2, hc2, n2, hd2⟩ hu0 (fun j j1 j2 => by rw [List.size_toArray] at j2; omega)
  rw [show ((List.range (min its.toArray.size jts.toArray.size)).all (fun _ => true) && its.toArray.size == jts.toArray.size) = ds.isEmpty from by
    rw [List.size_toArray, List.size_toArray, show jts.length = 0 from by omega, show its.length = ds.length from by omega]
    cases ds <;> simp] at z
  exact z
/-- the text of a whole number -/
def cStr : DRs := fun ds G Q => match ds with
  | [.int i] => i.natAbs.log2 < 1920 ∧ Q (.str (toString i)) G
  | _ => False
theorem cdStr : CallD X (.type "str") cStr := by
  refine ⟨fun pins s σ H xs us Q I r ⟨F, ds, G, R, rx, rg, q, p⟩ => ?_⟩
  unfold cStr at q
  split at q <;> try exact q.elim
  cases rx with
  | cons r1 r2 =>
    cases r1; cases r2
    exact call_str_int pins s σ H _ us Q I r ⟨_, rfl, q.1, p.here rg (.str _) q.2⟩
end
section
variable {G : DH} {Q : DK} {ds : List D} {i : Int}
theorem st_neNilT2 (h : Q (.bl (!ds.isEmpty)) G) : oNeNilT (.tup ds) (.tup []) G Q := ⟨ds, rfl, rfl, h⟩
theorem st_eqNilT2 (h : Q (.bl ds.isEmpty) G) : oEqNilT (.tup ds) (.tup []) G Q := ⟨ds, rfl, rfl, h⟩
instance : Stp (oNeNilT (.tup ds) (.tup []) G Q) (Q (.bl (!ds.isEmpty)) G) := ⟨st_neNilT2⟩
instance : Stp (oEqNilT (.tup ds) (.tup []) G Q) (Q (.bl ds.isEmpty) G) := ⟨st_eqNilT2⟩
theorem st_str (h0 : i.natAbs.log2 < 1920) (h : Q (.str (toString i)) G) : cStr [.int i] G Q := ⟨h0, h⟩
end
/-! ### how long lists are at most, and what holds of all that is in them -/
class LenL {α : Type} (l : List α) (n : outParam Nat) : Prop where
  le : l.length ≤ n
section
variable {α β : Type} {a b : List α} {n m : Nat}
instance : LenL ([] : List α) 0 := ⟨Nat.le_refl _⟩
instance {x : α} [h : LenL a n] : LenL (x :: a) (n + 1) := ⟨Nat.succ_le_succ h.le⟩
instance [h : LenL a n] [k : LenL b m] : LenL (a ++ b) (n + m) := ⟨by rw [List.length_append]; exact Nat.add_le_add h.le k.le⟩
instance [h : LenL a n] : LenL a.reverse n := ⟨by rw [List.length_reverse]; exact h.le⟩
instance {f : α → β} [h : LenL a n] : LenL (a.map f) n := ⟨by rw [List.length_map]; exact h.le⟩
instance {lo hi : Option Int} [h : LenL a n] : LenL (cutL a lo hi) n := ⟨Nat.le_trans (cutL_len a lo hi) h.le⟩
class AllL {α : Type} (P : α → Prop) (l : List α) : Prop where
  all : ∀ x ∈ l, P x
class OneL {α : Type} (P : α → Prop) (x : α) : Prop where
  one : P x
variable {P : α → Prop}
instance : AllL P [] := ⟨fun _ h => nomatch h⟩
instance {x : α} [h : OneL P x] [k : AllL P a] : AllL P (x :: a) := ⟨fun y hy => by
  rcases List.mem_cons.mp hy with rfl | hy
  · exact h.one
  · exact k.all y hy⟩
instance [h : AllL P a] [k : AllL P b] : AllL P (a ++ b) := ⟨fun x hx => (List.mem_append.mp hx).elim (h.all x) (k.all x)⟩
instance [h : AllL P a] : AllL P a.reverse := ⟨fun x hx => h.all x (List.mem_reverse.mp hx)⟩
instance {lo hi : Option Int} [h : AllL P a] : AllL P (cutL a lo hi) := ⟨fun x hx => h.all x (List.mem_of_mem_drop (List.mem_of_mem_take hx))⟩
instance {f : β → α} {c : List β} [h : AllL (fun x => P (f x)) c] : AllL P (c.map f) := ⟨fun x hx => by
  obtain ⟨y, hy, rfl⟩ := List.mem_map.mp hx
  exact h.all y hy⟩
end
section
variable {G : DH} {Q : DK} {a b : List D} {n m : Nat}
/-- two tuples together, where how long they are can be told -/
theorem st_cat [h : LenL a n] [k : LenL b m] (z : n + m ≤ 100000) (q : Q (.tup (a ++ b)) G) : oAdd (.tup a) (.tup b) G Q :=
  st_addT (by have := h.le; have := k.le; rw [sizeLine_eq]; omega) q
end
/-- a thing of any kind -/
def OkD (d : D) : Prop := okT d = true
instance {i : Int} : OneL (OkD) (.int i) := ⟨rfl⟩
instance {b : Bool} : OneL (OkD) (.bl b) := ⟨rfl⟩
instance {x : Str} : OneL (OkD) (.str x) := ⟨rfl⟩
instance : OneL (OkD) .non := ⟨rfl⟩
theorem ok_tup {ds : List D} {n : Nat} [h : LenL ds n] [k : AllL OkD ds] (z : n ≤ 900 := by decide) : okT (.tup ds) = true := tup_okT (Nat.le_trans h.le z) k.all
theorem ok_lst {ds : List D} {n : Nat} [h : LenL ds n] [k : AllL OkD ds] (z : n ≤ 900 := by decide) : okT (.lst ds) = true := lst_okT (Nat.le_trans h.le z) k.all
instance {js : Jn} : AllL (fun x => OkD (pD x)) js := ⟨fun _ _ => rfl⟩
instance {es : List End} : AllL (fun x => OkD (eD x)) es := ⟨fun _ _ => rfl⟩
example (d : D) (js : Jn) [LenL js 100] [OneL OkD d] : okT (.tup ((cutL js none (some 3)).map pD ++ [d])) = true := ok_tup
end L2.Ew

set_option Elab.async false
set_option linter.all false
set_option maxRecDepth 100000
set_option maxHeartbeats 4000000
/-! + and - with truths, the text of a truth; how long texts are. -/
namespace L2.Ew
open PySem PySem.Spec PySem.SeqAt PyProof PyProof.Rows
section
variable {X : Cx}
def oAddN : DR2 := fun d e G Q => match d, e with
  | .bl b, .int j => Q (.int ((if b = true then (1 : Int) else 0) + j)) G
  | .bl _, _ => False
  | d, e => oAdd d e G Q
def oSubN : DR2 := fun d e G Q => match d, e with
  | .bl b, .int j => Q (.int ((if b = true then (1 : Int) else 0) - j)) G
  | .int i, .bl b => Q (.int (i - (if b = true then (1 : Int) else 0))) G
  | d, e => oSub d e G Q
theorem odAddN : OpD X (binaryOp .Add) oAddN := by
  refine ⟨fun pins s σ H x y v u Q I rx ry ⟨F, d, e, G, R, qx, qy, rg, q, p⟩ => ?_⟩
  unfold oAddN at q
  split at q
  · cases qx; cases qy
    cases rx
    obtain ⟨t, rfl⟩ := ry
    exact PySem.IntBool.add_bool_int ⟨.int _, H, I.tok _, ⟨_, rfl⟩, p.here rg (.int _) q⟩
  · exact q.elim
  · exact odAdd.out pins s σ H x y v u Q I rx ry ⟨F, _, _, G, R, qx, qy, rg, q, p⟩
theorem odSubN : OpD X (binaryOp .Sub) oSubN := by
  refine ⟨fun pins s σ H x y v u Q I rx ry ⟨F, d, e, G, R, qx, qy, rg, q, p⟩ => ?_⟩
  unfold oSubN at q
  split at q
  · cases qx; cases qy
    cases rx
    obtain ⟨t, rfl⟩ := ry
    exact PySem.IntBool.sub_bool_int ⟨.int _, H, I.tok _, ⟨_, rfl⟩, p.here rg (.int _) q⟩
  · cases qx; cases qy
    obtain ⟨t, rfl⟩ := rx
    cases ry
    exact PySem.IntBool.sub_int_bool ⟨.int _, H, I.tok _, ⟨_, rfl⟩, p.here rg (.int _) q⟩
  · exact odSub.out pins s σ H x y v u Q I rx ry ⟨F, _, _, G, R, qx, qy, rg, q, p⟩
/-- the text of a whole number or of a truth -/
def cStrN : DRs := fun ds G Q => match ds with
  | [.int i] => i.natAbs.log2 < 1920 ∧ Q (.str (toString i)) G
  | [.bl b] => Q (.str (if b = true then "True" else "False")) G
  | _ => False
theorem cdStrN : CallD X (.type "str") cStrN := by
  refine ⟨fun pins s σ H xs us Q I r ⟨F, ds, G, R, rx, rg, q, p⟩ => ?_⟩
  unfold cStrN at q
  split at q <;> try exact q.elim
  · cases rx with
    | cons r1 r2 =>
      cases r1; cases r2
      exact call_str_int pins s σ H _ us Q I r ⟨_, rfl, q.1, p.here rg (.str _) q.2⟩
  · cases rx with
    | cons r1 r2 =>
      cases r1; cases r2
      obtain ⟨u, rfl, r1⟩ := vals1 r
      cases r1
      exact PySem.P.str_of_bool ⟨.str _, H, I.tok _, ⟨_, rfl⟩, p.here rg (.str _) q⟩
end
section
variable {G : DH} {Q : DK} {i j : Int} {b : Bool} {a c : List D}
instance : Stp (oAddN (.bl b) (.int j) G Q) (Q (.int ((if b = true then (1 : Int) else 0) + j)) G) := ⟨id⟩
instance : Stp (oAddN (.int i) (.int j) G Q) (oAdd (.int i) (.int j) G Q) := ⟨id⟩
instance : Stp (oAddN (.tup a) (.tup c) G Q) (oAdd (.tup a) (.tup c) G Q) := ⟨id⟩
instance : Stp (oSubN (.bl b) (.int j) G Q) (Q (.int ((if b = true then (1 : Int) else 0) - j)) G) := ⟨id⟩
instance : Stp (oSubN (.int i) (.bl b) G Q) (Q (.int (i - (if b = true then (1 : Int) else 0))) G) := ⟨id⟩
instance : Stp (oSubN (.int i) (.int j) G Q) (oSub (.int i) (.int j) G Q) := ⟨id⟩
theorem st_strN (h0 : i.natAbs.log2 < 1920) (h : Q (.str (toString i)) G) : cStrN [.int i] G Q := ⟨h0, h⟩
instance : Stp (cStrN [.bl b] G Q) (Q (.str (if b = true then "True" else "False")) G) := ⟨id⟩
end
theorem ofString_small (i : Int) : ∀ c ∈ (PySem.Str.ofString (toString i)).cps.toList, c < 16 ^ 8 := fun c hc => by
  refine Nat.lt_of_not_le fun h => ?_
  have : (16 : Nat) ^ 8 = 4294967296 := by decide
  exact int_text_free' c (by omega) i hc
theorem str_text {i : Int} (h : i.natAbs.log2 < 1920) : (PySem.PyData.shown (.str (toString i))).length ≤ 19212 := by
  have h1 := int_text_len_1921 h
  have h2 := PySem.StrLaws.reprText_len (PySem.Str.ofString (toString i)) (ofString_small _)
  have : (PySem.PyData.shown (.str (toString i))).length = (reprText (PySem.Str.ofString (toString i))).length := rfl
  omega
end L2.Ew

set_option Elab.async false
set_option linter.all false
set_option maxRecDepth 100000
set_option maxHeartbeats 4000000
/-! Joinings told by their rows; what is beneath knots of one chain; joinings within joinings. -/
namespace L2.Ew
open PySem PySem.Spec PySem.SeqAt PyProof.Rows
theorem took_er {xs : List Int} {x : Int} (h : x ∈ xs) : Took xs x (xs.erase x) := ⟨List.perm_cons_erase h, by have := List.length_erase_of_mem h; have := List.length_pos_of_mem h; omega⟩
theorem knots_app (a b : Jn) : knotsOf (a ++ b) = knotsOf a ++ knotsOf b := by unfold knotsOf; rw [List.flatMap_append]
/-- a joining told by its rows -/
theorem joinOk_of {n : Nat} {js : Jn} (hl : js.length + 1 = n)
    (hr : ∀ k p, js[k]? = some p → (0 ≤ p.1 ∧ p.1 < (n : Int) + (k : Nat)) ∧ (0 ≤ p.2 ∧ p.2 < (n : Int) + (k : Nat)))
    (nd : (knotsOf js).Nodup) : JoinOk n js := by
  have go : ∀ i, i ≤ js.length → ∃ left, JAll n (js.take i) left := by
    intro i
    induction i with
    | zero => intro _; exact ⟨upto n, JAll.start n⟩
    | succ i ih =>
      intro hi
      obtain ⟨left, A⟩ := ih (by omega)
      have il : i < js.length := by omega
      have e : js.take (i + 1) = js.take i ++ [js[i]] := by rw [List.take_succ, List.getElem?_eq_getElem il]; rfl
      obtain ⟨⟨a0, a1⟩, ⟨b0, b1⟩⟩ := hr i js[i] (List.getElem?_eq_getElem il)
      have nd2 : (knotsOf (js.take i) ++ ([js[i].1, js[i].2] ++ knotsOf (js.drop (i + 1)))).Nodup := by
        have e2 : js = js.take i ++ (js[i] :: js.drop (i + 1)) := by rw [List.getElem_cons_drop, List.take_append_drop]
        have e3 : knotsOf js = knotsOf (js.take i) ++ ([js[i].1, js[i].2] ++ knotsOf (js.drop (i + 1))) := by
          conv => lhs; rw [e2, knots_app]
          rfl
        rw [← e3]; exact nd
      obtain ⟨_, nd3, dj⟩ := List.nodup_append.mp nd2
      have tl : (js.take i).length = i := by rw [List.length_take]; omega
      have mem : ∀ x, 0 ≤ x → x < (n : Int) + i → (x = js[i].1 ∨ x = js[i].2) → x ∈ left := fun x x0 x1 hx => by
        have := A.cur.perm.mem_iff.mpr (mem_upto.mpr ⟨x0, by rw [tl]; exact x1⟩)
        refine (List.mem_append.mp this).resolve_left fun z => dj x z x ?_ rfl
        rcases hx with h | h
        · rw [h]; simp
        · rw [h]; simp
      have hne : js[i].1 ≠ js[i].2 := fun z => by
        have := (List.nodup_append.mp nd3).1
        rw [z] at this
        simp at this
      have m1 : js[i].1 ∈ left := mem _ a0 a1 (.inl rfl)
      have m2 : js[i].2 ∈ left.erase js[i].1 := (List.mem_erase_of_ne hne.symm).mpr (mem _ b0 b1 (.inr rfl))
      rw [e]
      exact ⟨_, A.more (took_er m1) (took_er m2) (p := js[i]) (.inl rfl) (.refl _)⟩
  obtain ⟨left, A⟩ := go js.length (Nat.le_refl _)
  rw [List.take_length] at A
  exact A.done hl
theorem knots_all {n : Nat} {js : Jn} (J : JoinOk n js) : (knotsOf js).Perm (upto ((n : Int) + js.length - 1)) := by
  have jl := J.len
  have p := J.perm
  rw [show (n : Int) + js.length = ((n : Int) + js.length - 1) + 1 from by omega, upto_succ (by omega), show (n : Int) + js.length - 1 + 1 - 1 = (n : Int) + js.length - 1 from by omega] at p
  exact (List.perm_append_right_iff _).mp p
theorem knots_nd {n : Nat} {js : Jn} (J : JoinOk n js) : (knotsOf js).Nodup := (knots_all J).nodup_iff.mpr (upto_nodup _)
/-- two knots beneath which one end is: the lower one's ends are beneath the higher one -/
theorem below_up {n : Nat} {js : Jn} (J : JoinOk n js) {w e : Int} (w1 : w < (n : Int) + js.length) (ew : e ∈ nth (below n js) w) : ∀ (d : Nat) (x : Int), 0 ≤ x → x ≤ w → w - x ≤ d → e ∈ nth (below n js) x →
    (∀ f ∈ nth (below n js) x, f ∈ nth (below n js) w) ∧ (x < w → (nth (below n js) x).length < (nth (below n js) w).length)
  | d, x, x0, xw, hd, ex => by
    by_cases c : x = w
    · subst c; exact ⟨fun f h => h, fun z => absurd z (Int.lt_irrefl _)⟩
    · obtain ⟨k, q, hk, hq⟩ := has_row J x0 (by omega)
      obtain ⟨u1, u2, u3⟩ := up_next J x0 (by omega) ex hk hq
      have kl := (List.getElem?_eq_some_iff.mp hk).1
      have pw : (n : Int) + k ≤ w := by
        by_cases z : w < (n : Int) + k
        · have m : w ∈ upOf n js e ((n : Int) + k) := List.mem_filter.mpr ⟨mem_upto.mpr ⟨by omega, z⟩, decide_eq_true ew⟩
          rw [u3] at m
          have := (mem_upto.mp (List.mem_filter.mp m).1).2
          omega
        · omega
      match d with
      | 0 => omega
      | d + 1 =>
        obtain ⟨r1, r2⟩ := below_up J w1 ew d ((n : Int) + k) (by omega) pw (by omega) u1
        obtain ⟨⟨a0, a1⟩, ⟨b0, b1⟩, _⟩ := J.rows k q hk
        have hb := below_at J hk
        have la := (below_nth J a0 (by omega)).1
        have lb := (below_nth J b0 (by omega)).1
        have hl : (nth (below n js) x).length < (nth (below n js) ((n : Int) + k)).length := by
          rw [hb, List.length_append]
          rcases hq with rfl | rfl <;> omega
        refine ⟨fun f hf => r1 f ?_, fun _ => ?_⟩
        · rw [hb, List.mem_append]
          rcases hq with rfl | rfl
          · exact .inl hf
          · exact .inr hf
        · by_cases z : (n : Int) + k < w
          · exact Nat.lt_trans hl (r2 z)
          · have : (n : Int) + k = w := by omega
            rw [← this]; exact hl
theorem below_sub {n : Nat} {js : Jn} (J : JoinOk n js) {x w e : Int} (x0 : 0 ≤ x) (xw : x ≤ w) (w1 : w < (n : Int) + js.length) (ex : e ∈ nth (below n js) x) (ew : e ∈ nth (below n js) w) : ∀ f ∈ nth (below n js) x, f ∈ nth (below n js) w := (below_up J w1 ew (w - x).toNat x x0 xw (by omega) ex).1
theorem below_lt {n : Nat} {js : Jn} (J : JoinOk n js) {x w e : Int} (x0 : 0 ≤ x) (xw : x < w) (w1 : w < (n : Int) + js.length) (ex : e ∈ nth (below n js) x) (ew : e ∈ nth (below n js) w) : (nth (below n js) x).length < (nth (below n js) w).length := (below_up J w1 ew (w - x).toNat x x0 (by omega) (by omega) ex).2 xw
theorem below_nd {n : Nat} {js : Jn} (J : JoinOk n js) {x : Int} (x0 : 0 ≤ x) (x1 : x < (n : Int) + js.length) : (nth (below n js) x).Nodup := by
  by_cases c : x = (n : Int) + js.length - 1
  · rw [c]; exact J.root.nodup_iff.mpr (upto_nodup _)
  · obtain ⟨k, q, hk, hq⟩ := has_row J x0 (by omega)
    obtain ⟨l, hl, m1, m2⟩ := J.sides hk
    have kl := (List.getElem?_eq_some_iff.mp hk).1
    obtain ⟨⟨a0, a1⟩, ⟨b0, b1⟩, _⟩ := J.rows k q hk
    have xl : x ∈ l := by rcases hq with rfl | rfl <;> assumption
    have xk : x < (n : Int) + k := by rcases hq with rfl | rfl <;> assumption
    have nd := hl.flat.nodup_iff.mpr (upto_nodup _)
    have pm := (List.perm_cons_erase xl).flatMap_right fun k' => nth (below n (js.take k)) k'
    have nd2 := pm.nodup_iff.mp nd
    rw [List.flatMap_cons, below_take (by omega) x0 xk] at nd2
    exact (List.nodup_append.mp nd2).1
/-- the joints all of whose ends are beneath a knot -/
def subI (n : Nat) (js : Jn) (a : Int) : List Int := (upto js.length).filter fun k => (nth (below n js) ((n : Int) + k)).all fun e => decide (e ∈ nth (below n js) a)
theorem mem_subI {n : Nat} {js : Jn} {a k : Int} : k ∈ subI n js a ↔ (0 ≤ k ∧ k < js.length) ∧ ∀ e ∈ nth (below n js) ((n : Int) + k), e ∈ nth (below n js) a := by
  unfold subI
  rw [List.mem_filter, mem_upto, List.all_eq_true]
  simp only [decide_eq_true_eq]
theorem nodup_le {α : Type} [DecidableEq α] {a b : List α} (nd : a.Nodup) (h : ∀ x ∈ a, x ∈ b) : a.length ≤ b.length := by
  induction a generalizing b with
  | nil => simp
  | cons x a ih =>
    have hx : x ∈ b := h x (List.mem_cons_self ..)
    have nd2 := List.nodup_cons.mp nd
    have := ih (b := b.erase x) nd2.2 fun y hy => (List.mem_erase_of_ne (fun z => nd2.1 (by rw [← z]; exact hy))).mpr (h y (List.mem_cons_of_mem _ hy))
    rw [List.length_erase_of_mem hx] at this
    have := List.length_pos_of_mem hx
    rw [List.length_cons]; omega
theorem fm_sub {α β : Type} {f : α → List β} {a b : List α} (h : a.Sublist b) : (a.flatMap f).Sublist (b.flatMap f) := by
  induction h with
  | slnil => exact .slnil
  | cons x _ ih => rw [List.flatMap_cons]; exact ih.trans (List.sublist_append_right _ _)
  | cons_cons x _ ih => rw [List.flatMap_cons, List.flatMap_cons]; exact (List.Sublist.refl _).append ih
theorem knots_range (js : Jn) : knotsOf js = (upto js.length).flatMap fun k => pr (nth js k) := by
  unfold knotsOf upto
  have e : js = (List.range js.length).map fun k : Nat => nth js (k : Int) := by
    apply List.ext_getElem (by simp)
    intro i i1 i2
    rw [List.getElem_map, List.getElem_range, nth_nat i1]
  conv => lhs; rw [e]
  rw [List.flatMap_map, List.flatMap_map]
  simp
theorem sub_perm {n : Nat} {js : Jn} (J : JoinOk n js) {a : Int} (a0 : 0 ≤ a) (a1 : a < (n : Int) + js.length) : (((subI n js a).flatMap fun k => pr (nth js k)) ++ [a]).Perm (nth (below n js) a ++ (subI n js a).map fun k => (n : Int) + k) := by
  have hrow : ∀ k, 0 ≤ k → k < (js.length : Int) → ∃ i : Nat, k = i ∧ js[i]? = some (nth js k) := fun k k0 k1 => by
    refine ⟨k.toNat, by omega, ?_⟩
    rw [List.getElem?_eq_getElem (by omega)]
    have := nth_nat (xs := js) (n := k.toNat) (by omega)
    rw [show ((k.toNat : Nat) : Int) = k from by omega] at this
    rw [this]
  -- what is beneath a side is beneath its joint
  have sd : ∀ k, k ∈ subI n js a → ∀ y ∈ pr (nth js k), 0 ≤ y ∧ y < (n : Int) + k ∧ ∀ e ∈ nth (below n js) y, e ∈ nth (below n js) ((n : Int) + k) := fun k hk y hy => by
    obtain ⟨⟨k0, k1⟩, _⟩ := mem_subI.mp hk
    obtain ⟨i, rfl, hi⟩ := hrow k k0 k1
    obtain ⟨⟨p0, p1⟩, ⟨q0, q1⟩, _⟩ := J.rows i _ hi
    rw [below_at J hi]
    have hy : y = (nth js (i : Int)).1 ∨ y = (nth js (i : Int)).2 := by simpa [pr] using hy
    rcases hy with rfl | rfl
    · exact ⟨p0, p1, fun e he => List.mem_append_left _ he⟩
    · exact ⟨q0, q1, fun e he => List.mem_append_right _ he⟩
  have lt_of : ∀ y, 0 ≤ y → y < (n : Int) + js.length → (∀ e ∈ nth (below n js) y, e ∈ nth (below n js) a) → y ≤ a := fun y y0 y1 h => by
    have nd := below_nd J y0 y1
    have le := nodup_le nd h
    obtain ⟨z, _, _⟩ := below_nth J y0 y1
    obtain ⟨e, he⟩ := List.exists_mem_of_length_pos z
    by_cases c : a < y
    · have := below_lt J a0 c y1 (h e he) he
      omega
    · omega
  have nd1 : (((subI n js a).flatMap fun k => pr (nth js k)) ++ [a]).Nodup := by
    refine List.nodup_append.mpr ⟨?_, by simp, fun x hx y hy e => ?_⟩
    · have := knots_nd J
      rw [knots_range] at this
      exact this.sublist (fm_sub List.filter_sublist)
    · obtain ⟨k, hk, hxk⟩ := List.mem_flatMap.mp hx
      obtain ⟨s0, s1, _⟩ := sd k hk x hxk
      have hya : y = a := List.mem_singleton.mp hy
      obtain ⟨⟨k0, k1⟩, hs⟩ := mem_subI.mp hk
      have := lt_of ((n : Int) + k) (by omega) (by omega) hs
      omega
  have nd2 : (nth (below n js) a ++ (subI n js a).map fun k => (n : Int) + k).Nodup := by
    refine List.nodup_append.mpr ⟨below_nd J a0 a1, ?_, fun x hx y hy e => ?_⟩
    · refine List.Pairwise.map _ (fun x y (h : x ≠ y) z => h (by omega)) ?_
      exact (upto_nodup _).filter _
    · have := (below_nth J a0 a1).2.2 x hx
      obtain ⟨k, hk, rfl⟩ := List.mem_map.mp hy
      obtain ⟨⟨k0, k1⟩, _⟩ := mem_subI.mp hk
      omega
  refine (List.perm_ext_iff_of_nodup nd1 nd2).mpr fun y => ?_
  -- a knot all of whose ends are beneath
  have inR : ∀ y, 0 ≤ y → y < (n : Int) + js.length → ((∀ e ∈ nth (below n js) y, e ∈ nth (below n js) a) ↔ y ∈ nth (below n js) a ++ (subI n js a).map fun k => (n : Int) + k) := fun y y0 y1 => by
    constructor
    · intro h
      by_cases c : y < n
      · refine List.mem_append_left _ (h y ?_)
        rw [below_end js y0 c]; simp
      · refine List.mem_append_right _ (List.mem_map.mpr ⟨y - n, mem_subI.mpr ⟨by omega, ?_⟩, by omega⟩)
        rw [show (n : Int) + (y - n) = y from by omega]; exact h
    · intro h e he
      rcases List.mem_append.mp h with h | h
      · obtain ⟨z0, z1⟩ := (below_nth J a0 a1).2.2 y h
        rw [below_end js z0 z1] at he
        rw [List.mem_singleton.mp he]; exact h
      · obtain ⟨k, hk, rfl⟩ := List.mem_map.mp h
        exact (mem_subI.mp hk).2 e he
  constructor
  · intro h
    rcases List.mem_append.mp h with h | h
    · obtain ⟨k, hk, hyk⟩ := List.mem_flatMap.mp h
      obtain ⟨s0, s1, s2⟩ := sd k hk y hyk
      obtain ⟨⟨k0, k1⟩, hs⟩ := mem_subI.mp hk
      exact (inR y s0 (by omega)).mp fun e he => hs e (s2 e he)
    · rw [List.mem_singleton.mp h]
      exact (inR a a0 a1).mp fun e he => he
  · intro h
    have yb : 0 ≤ y ∧ y < (n : Int) + js.length := by
      rcases List.mem_append.mp h with h | h
      · have := (below_nth J a0 a1).2.2 y h; omega
      · obtain ⟨k, hk, rfl⟩ := List.mem_map.mp h
        have := (mem_subI.mp hk).1; omega
    have hs := (inR y yb.1 yb.2).mpr h
    have ya := lt_of y yb.1 yb.2 hs
    by_cases c : y = a
    · rw [c]; exact List.mem_append_right _ (List.mem_singleton.mpr rfl)
    · refine List.mem_append_left _ ?_
      obtain ⟨k, q, hk, hq⟩ := has_row J yb.1 (by omega)
      have kl := (List.getElem?_eq_some_iff.mp hk).1
      obtain ⟨z, _, _⟩ := below_nth J yb.1 yb.2
      obtain ⟨e, he⟩ := List.exists_mem_of_length_pos z
      obtain ⟨u1, u2, u3⟩ := up_next J yb.1 yb.2 he hk hq
      have pw : (n : Int) + k ≤ a := by
        by_cases z : a < (n : Int) + k
        · have m : a ∈ upOf n js e ((n : Int) + k) := List.mem_filter.mpr ⟨mem_upto.mpr ⟨a0, z⟩, decide_eq_true (hs e he)⟩
          rw [u3] at m
          have := (mem_upto.mp (List.mem_filter.mp m).1).2
          omega
        · omega
      refine List.mem_flatMap.mpr ⟨k, mem_subI.mpr ⟨by omega, below_sub J (by omega) pw a1 u1 (hs e he)⟩, ?_⟩
      rw [nth_nat kl, ← Option.some.inj ((List.getElem?_eq_getElem kl).symm.trans hk |>.symm)]
      rcases hq with rfl | rfl <;> simp [pr]
/-- a joining within another one: its rows are some of the other's, by names that g turns back -/
structure Emb (n : Nat) (js : Jn) (m : Nat) (ks : Jn) (sg : List Int) (g : Int → Int) : Prop where
  len : ks.length = sg.length
  at_ : ∀ (i : Nat) (k : Int), sg[i]? = some k → (0 ≤ k ∧ k < js.length) ∧ g ((m : Int) + i) = (n : Int) + k
  row : ∀ (i : Nat) (p : Int × Int) (k : Int), ks[i]? = some p → sg[i]? = some k → ((0 ≤ p.1 ∧ p.1 < (m : Int) + i) ∧ (0 ≤ p.2 ∧ p.2 < (m : Int) + i)) ∧ ((g p.1 = (nth js k).1 ∧ g p.2 = (nth js k).2) ∨ (g p.1 = (nth js k).2 ∧ g p.2 = (nth js k).1))
theorem Emb.start (n : Nat) (js : Jn) (m : Nat) (g : Int → Int) : Emb n js m [] [] g := ⟨rfl, fun i k h => by simp at h, fun i p k h => by simp at h⟩
theorem Emb.more {n : Nat} {js : Jn} {m : Nat} {ks : Jn} {sg od : List Int} (E : Emb n js m ks sg (nth (od ++ sg.map fun k => (n : Int) + k))) (hl : od.length = m) {k : Int} {p : Int × Int} (hk : 0 ≤ k ∧ k < js.length)
    (hp : (0 ≤ p.1 ∧ p.1 < (m : Int) + sg.length) ∧ (0 ≤ p.2 ∧ p.2 < (m : Int) + sg.length))
    (hs : (nth (od ++ sg.map fun k => (n : Int) + k) p.1 = (nth js k).1 ∧ nth (od ++ sg.map fun k => (n : Int) + k) p.2 = (nth js k).2) ∨ (nth (od ++ sg.map fun k => (n : Int) + k) p.1 = (nth js k).2 ∧ nth (od ++ sg.map fun k => (n : Int) + k) p.2 = (nth js k).1)) :
    Emb n js m (ks ++ [p]) (sg ++ [k]) (nth (od ++ (sg ++ [k]).map fun k => (n : Int) + k)) := by
  have e1 : od ++ (sg ++ [k]).map (fun k => (n : Int) + k) = (od ++ sg.map fun k => (n : Int) + k) ++ [(n : Int) + k] := by rw [List.map_append, List.append_assoc]; rfl
  have el : (od ++ sg.map fun k => (n : Int) + k).length = m + sg.length := by rw [List.length_append, List.length_map, hl]
  have lo : ∀ x, 0 ≤ x → x < (m : Int) + sg.length → nth (od ++ (sg ++ [k]).map fun k => (n : Int) + k) x = nth (od ++ sg.map fun k => (n : Int) + k) x := fun x x0 x1 => by
    rw [e1, nth_append_left x0 (by omega)]
  have kl := E.len
  refine ⟨by rw [List.length_append, List.length_append, kl]; rfl, fun i j h => ?_, fun i r j hr h => ?_⟩
  · by_cases c : i < sg.length
    · rw [List.getElem?_append_left c] at h
      rw [lo _ (by omega) (by omega)]
      exact E.at_ i j h
    · have il := (List.getElem?_eq_some_iff.mp h).1
      rw [List.length_append, List.length_singleton] at il
      have : i = sg.length := by omega
      subst this
      rw [List.getElem?_concat_length] at h
      cases h
      refine ⟨hk, ?_⟩
      rw [e1, show (m : Int) + sg.length = ((od ++ sg.map fun k => (n : Int) + k).length : Int) from by rw [el]; omega, nth_append_at]
  · by_cases c : i < sg.length
    · rw [List.getElem?_append_left c] at h
      rw [List.getElem?_append_left (by omega)] at hr
      obtain ⟨⟨⟨a0, a1⟩, ⟨b0, b1⟩⟩, q⟩ := E.row i r j hr h
      rw [lo _ a0 (by omega), lo _ b0 (by omega)]
      exact ⟨⟨⟨a0, a1⟩, ⟨b0, b1⟩⟩, q⟩
    · have il := (List.getElem?_eq_some_iff.mp h).1
      rw [List.length_append, List.length_singleton] at il
      have : i = sg.length := by omega
      subst this
      rw [List.getElem?_concat_length] at h
      cases h
      rw [← kl, List.getElem?_concat_length] at hr
      cases hr
      rw [lo _ hp.1.1 hp.1.2, lo _ hp.2.1 hp.2.2]
      exact ⟨hp, hs⟩
theorem flatMap_at {α β γ : Type} {xs : List α} {ys : List β} {f : α → List γ} {h : β → List γ} (hl : xs.length = ys.length) (hp : ∀ (i : Nat) x y, xs[i]? = some x → ys[i]? = some y → (f x).Perm (h y)) : (xs.flatMap f).Perm (ys.flatMap h) := by
  induction xs generalizing ys with
  | nil => match ys, hl with
    | [], _ => exact .refl _
  | cons x xs ih => match ys, hl with
    | y :: ys, hl =>
      rw [List.flatMap_cons, List.flatMap_cons]
      exact (hp 0 x y rfl rfl).append (ih (Nat.succ.inj hl) fun i a b ha hb => hp (i + 1) a b ha hb)
theorem Emb.knots {n : Nat} {js : Jn} {m : Nat} {ks : Jn} {sg : List Int} {g : Int → Int} (E : Emb n js m ks sg g) : ((knotsOf ks).map g).Perm (sg.flatMap fun k => pr (nth js k)) := by
  unfold knotsOf
  rw [List.map_flatMap]
  refine flatMap_at E.len fun i p k hp hk => ?_
  obtain ⟨_, ⟨a, b⟩ | ⟨a, b⟩⟩ := E.row i p k hp hk
  · show [g p.1, g p.2].Perm _
    rw [a, b]; exact .refl _
  · show [g p.1, g p.2].Perm _
    rw [a, b]; exact .swap _ _ _
theorem Emb.join {n : Nat} {js : Jn} {m : Nat} {ks : Jn} {sg : List Int} {g : Int → Int} (E : Emb n js m ks sg g) (hl : sg.length + 1 = m) (nd : (sg.flatMap fun k => pr (nth js k)).Nodup) : JoinOk m ks := by
  refine joinOk_of (by rw [E.len]; exact hl) (fun i p hp => ?_) ?_
  · have il := (List.getElem?_eq_some_iff.mp hp).1
    have := E.len
    exact (E.row i p _ hp (List.getElem?_eq_getElem (by omega))).1
  · have := E.knots.nodup_iff.mpr nd
    rw [List.Nodup, List.pairwise_map] at this
    exact this.imp fun h e => h (by rw [e])
/-- names that a dict tells, in the order in which they came -/
structure KnP (od : List Int) (kvs : List (Key × D)) : Prop where
  few : kvs.length ≤ od.length
  at_ : ∀ k : Nat, k < od.length → ∀ x, od[k]? = some x → valD kvs (.inl x) = some (.int k)
  off : ∀ x, x ∉ od → valD kvs (.inl x) = none
theorem KnP.start : KnP [] [] := ⟨Nat.le_refl _, fun k hk => absurd hk (Nat.not_lt_zero _), fun x _ => rfl⟩
theorem KnP.more {od : List Int} {kvs : List (Key × D)} (h : KnP od kvs) {x : Int} (hx : x ∉ od) : KnP (od ++ [x]) (putD kvs (.inl x) (.int od.length)) := by
  refine ⟨?_, fun k hk y hy => ?_, fun y hy => ?_⟩
  · have := put_len (kvs := kvs) (k := .inl x) (.int od.length)
    have := h.few
    rw [List.length_append, List.length_singleton]
    omega
  · rw [valD_put]
    rw [List.length_append, List.length_singleton] at hk
    by_cases c : k = od.length
    · subst c
      rw [List.getElem?_concat_length] at hy
      cases hy
      rw [if_pos rfl]
    · rw [List.getElem?_append_left (by omega)] at hy
      have : y ∈ od := List.mem_of_getElem? hy
      rw [if_neg (fun z => hx (by rw [← Sum.inl.inj z]; exact this))]
      exact h.at_ k (by omega) y hy
  · rw [List.mem_append, List.mem_singleton, not_or] at hy
    rw [valD_put, if_neg (fun z => hy.2 (Sum.inl.inj z))]
    exact h.off y hy.1
theorem KnP.known {od : List Int} {kvs : List (Key × D)} (h : KnP od kvs) (x : Int) : (valD kvs (.inl x)).isSome = decide (x ∈ od) := by
  by_cases c : x ∈ od
  · obtain ⟨k, kl, e⟩ := List.getElem_of_mem c
    rw [h.at_ k kl x (by rw [List.getElem?_eq_getElem kl, e]), decide_eq_true c]; rfl
  · rw [h.off x c, decide_eq_false c]; rfl
theorem KnP.get {od : List Int} {kvs : List (Key × D)} (h : KnP od kvs) {x : Int} (c : x ∈ od) : ∃ i : Int, valD kvs (.inl x) = some (.int i) ∧ 0 ≤ i ∧ i < od.length ∧ nth od i = x := by
  obtain ⟨k, kl, e⟩ := List.getElem_of_mem c
  exact ⟨k, h.at_ k kl x (by rw [List.getElem?_eq_getElem kl, e]), by omega, by omega, by rw [nth_nat kl, e]⟩
/-- the wires of heights, row by row -/
def dD (F : Int → Int) : Int → Jn → List Int
  | _, [] => []
  | m, q :: js => (F m - F q.1) :: (F m - F q.2) :: dD F (m + 1) js
def dR (F : Int → Int) (n : Int) (js : Jn) (k : Int) : List Int := [F (n + k) - F (nth js k).1, F (n + k) - F (nth js k).2]
theorem dD_range {F : Int → Int} {n : Int} : ∀ {js : Jn} {m : Int}, dD F m js = (List.range js.length).flatMap fun i => [F (m + (i : Nat)) - F (nth js (i : Nat)).1, F (m + (i : Nat)) - F (nth js (i : Nat)).2]
  | [], m => rfl
  | q :: js, m => by
    rw [List.length_cons, List.range_succ_eq_map, List.flatMap_cons, List.flatMap_map]
    show (F m - F q.1) :: (F m - F q.2) :: dD F (m + 1) js = [F (m + ((0 : Nat) : Int)) - F (nth (q :: js) ((0 : Nat) : Int)).1, F (m + ((0 : Nat) : Int)) - F (nth (q :: js) ((0 : Nat) : Int)).2] ++ _
    rw [dD_range (n := n) (m := m + 1)]
    have e0 : nth (q :: js) ((0 : Nat) : Int) = q := rfl
    rw [e0, show m + ((0 : Nat) : Int) = m from by omega]
    show _ :: _ :: _ = _ :: _ :: _
    congr 2
    congr 1
    funext i
    have e1 : nth (q :: js) ((i + 1 : Nat) : Int) = nth js (i : Int) := rfl
    show _ = [F (m + ((i + 1 : Nat) : Int)) - F (nth (q :: js) ((i + 1 : Nat) : Int)).1, F (m + ((i + 1 : Nat) : Int)) - F (nth (q :: js) ((i + 1 : Nat) : Int)).2]
    rw [e1, show m + ((i + 1 : Nat) : Int) = m + 1 + (i : Int) from by omega]
theorem dD_upto {F : Int → Int} {n : Int} {js : Jn} : dD F n js = (upto js.length).flatMap (dR F n js) := by
  rw [dD_range (n := n)]
  unfold upto
  rw [List.flatMap_map]
  rfl
theorem dD_congr {F G : Int → Int} : ∀ {m l : Int} {js ks : Jn}, js.length = ks.length → (∀ (i : Nat) q r, js[i]? = some q → ks[i]? = some r → F (m + i) - F q.1 = G (l + i) - G r.1 ∧ F (m + i) - F q.2 = G (l + i) - G r.2) → dD F m js = dD G l ks
  | m, l, [], [], _, _ => rfl
  | m, l, q :: js, r :: ks, hl, h => by
    obtain ⟨h1, h2⟩ := h 0 q r rfl rfl
    rw [show m + ((0 : Nat) : Int) = m from by omega, show l + ((0 : Nat) : Int) = l from by omega] at h1 h2
    show _ :: _ :: _ = _ :: _ :: _
    rw [h1, h2, dD_congr (Nat.succ.inj hl) fun i q r hq hr => by
      have := h (i + 1) q r hq hr
      rw [show m + ((i + 1 : Nat) : Int) = m + 1 + (i : Int) from by omega, show l + ((i + 1 : Nat) : Int) = l + 1 + (i : Int) from by omega] at this
      exact this]
/-- the wires of a joining within another one -/
theorem Emb.wires {n : Nat} {js : Jn} {m : Nat} {ks : Jn} {sg : List Int} {g F H : Int → Int} (E : Emb n js m ks sg g) (h : ∀ x, 0 ≤ x → x < (m : Int) + ks.length → H x = F (g x)) : (dD H m ks).Perm (sg.flatMap (dR F n js)) := by
  rw [dD_upto]
  have kl := E.len
  refine flatMap_at (by rw [upto_len, ← kl]; omega) fun i x k hx hk => ?_
  have il := (List.getElem?_eq_some_iff.mp hk).1
  rw [upto_get (by omega)] at hx
  cases hx
  have hp : ks[i]? = some ks[i] := List.getElem?_eq_getElem (by omega)
  obtain ⟨⟨⟨a0, a1⟩, ⟨b0, b1⟩⟩, q⟩ := E.row i _ k hp hk
  obtain ⟨_, e⟩ := E.at_ i k hk
  unfold dR
  rw [nth_nat (show i < ks.length by omega), h _ (show 0 ≤ (m : Int) + i by omega) (by omega), h _ a0 (by omega), h _ b0 (by omega), e]
  rcases q with ⟨a, b⟩ | ⟨a, b⟩
  · rw [a, b]
  · rw [a, b]; exact .swap _ _ _
end L2.Ew

set_option Elab.async false
set_option linter.all false
set_option maxRecDepth 100000
set_option maxHeartbeats 4000000
/-! Exceptions: defs that raise, what is caught. A class is told by its name. -/
namespace L2.Ew
open PySem PySem.Spec PySem.SeqAt PyProof.Rows
/-- what an exception does: its class, its fields, the slots where it flies -/
abbrev XS := Str → Option (List (Str × D)) → DS → DH → Prop
abbrev XN := Str → Option (List (Str × D)) → DH → Prop
abbrev DSpX := List D → DH → DK → XN → Prop
abbrev xNo : XS := fun _ _ _ _ => False
def XfOk (K : PySem.W.Frag) (F : Hid) (G : DH) (H : Hp) (od : Option Addr) : Option (List (Str × D)) → Prop
  | none => od = none
  | some fs => ∃ d ws, od = some d ∧ H d = some (.xd ws) ∧ ¬ Own F G d ∧ ws.map Prod.fst = fs.map Prod.fst ∧ RepL K H (Own F G) (ws.map Prod.snd) (fs.map Prod.snd)
def PostW (K : PySem.W.Frag) (mg : Str → Option Value) (F : Hid) (G : DH) (H : Hp) (Xx : XS) (W : WX) : Prop := ∀ x c fs s' G' od σ' H', mg x = some c → Step G H G' H' → RepS K H' (Own F G') σ' s' → RepG K H' F G' → XfOk K F G' H' od fs → Xx x fs s' G' → W c od σ' H'
def PostXN (K : PySem.W.Frag) (mg : Str → Option Value) (F : Hid) (G : DH) (H : Hp) (Xn : XN) (E : XK) : Prop := ∀ x c fs G' od H', mg x = some c → Step G H G' H' → RepG K H' F G' → XfOk K F G' H' od fs → Xn x fs G' → E c od H'
theorem PostW.step {K : PySem.W.Frag} {mg : Str → Option Value} {F : Hid} {G G1 : DH} {H H1 : Hp} {Xx : XS} {W : WX} (p : PostW K mg F G H Xx W) (st : Step G H G1 H1) : PostW K mg F G1 H1 Xx W := fun x c fs s' G' od σ' H' hm s => p x c fs s' G' od σ' H' hm (st.trans s)
theorem PostW.no {K : PySem.W.Frag} {mg : Str → Option Value} {F : Hid} {G : DH} {H : Hp} {W : WX} : PostW K mg F G H xNo W := fun _ _ _ _ _ _ _ _ _ _ _ _ _ z => z.elim
def lowSX (K : PySem.W.Frag) (mg : Str → Option Value) (W : WX) (Xx : XS) (t : DT) : TS := fun D σ H => ∃ F s G R, RepS K H (Own F G) σ s ∧ RepG K H F G ∧ t R s G ∧ PostS K F G H R D ∧ PostW K mg F G H Xx W
def lowX (K : PySem.W.Frag) (mg : Str → Option Value) (W : WX) (Xx : XS) (t : DE) : TE := fun σ H Q => ∃ F s G R, RepS K H (Own F G) σ s ∧ RepG K H F G ∧ t s G R ∧ Post K F G H R Q ∧ PostW K mg F G H Xx W
structure PEDX (X : Cx) (W : WX) (Xx : XS) (e : Expr) (t : DE) : Prop where
  out : PE X e (lowX X.K X.mg W Xx t)
structure PSDX (X : Cx) (W : WX) (Xx : XS) (st : Stmt) (t : DT) : Prop where
  out : PS X st (lowSX X.K X.mg W Xx t)
structure PSsDX (X : Cx) (W : WX) (Xx : XS) (sts : List Stmt) (t : DT) : Prop where
  out : PSs X sts (lowSX X.K X.mg W Xx t)
def lowerX (K : PySem.W.Frag) (mg : Str → Option Value) (sp : DSpX) : Sp := fun vs H Q E => ∃ F ds G R Xn, RepL K H (Own F G) vs ds ∧ RepG K H F G ∧ sp ds G R Xn ∧ Post K F G H R Q ∧ PostXN K mg F G H Xn E
structure FnDX (P : Program) (w : World) (K : PySem.W.Frag) (mg : Str → Option Value) (base : Heap) (k : Nat) (x : Str) (sp : DSpX) : Prop where
  ex : ∃ f fd ps, mg x = some (.ref f) ∧ PySem.W.keepIn K (.ref f) = true ∧ Binds K fd ps [] ∧ FnOk P w K mg base (L2.CX P w) k f fd ps (lowerX K mg sp)
section
variable {X : Cx} {W : WX} {Xx : XS} {e : Expr} {es : List Expr} {st : Stmt} {rest : List Stmt} {te : DE} {t u : DT} {pos : Pos} {tr : DA}
theorem psdx_of (h : PSD X st t) : PSDX X W Xx st t := ⟨h.out.weak fun D σ H ⟨F, s, G, R, rs, rg, q, p, _⟩ => ⟨F, s, G, R, rs, rg, q, p⟩⟩
theorem pssdx_of (h : PSsD X rest t) : PSsDX X W Xx rest t := ⟨h.out.weak fun D σ H ⟨F, s, G, R, rs, rg, q, p, _⟩ => ⟨F, s, G, R, rs, rg, q, p⟩⟩
theorem pedx_of (h : PED X e te) : PEDX X W Xx e te := ⟨h.out.weak fun σ H Q ⟨F, s, G, R, rs, rg, q, p, _⟩ => ⟨F, s, G, R, rs, rg, q, p⟩⟩
theorem pssdx_cons (h1 : PSDX X W Xx st t) (h2 : PSsDX X W Xx rest u) : PSsDX X W Xx (st :: rest) (dSeq t u) := by
  refine ⟨(pss_cons h1.out h2.out).weak fun D σ H ⟨F, s, G, R, rs, rg, q, p, pw⟩ => ?_⟩
  refine ⟨F, s, G, _, rs, rg, q, ⟨fun s1 G1 σ1 H1 st1 rs1 rg1 q1 => ⟨F, s1, G1, R, rs1, rg1, q1, p.step st1, pw.step st1⟩, p.rt, p.bk, p.ct⟩, pw⟩
theorem pssdx_one (h1 : PSDX X W Xx st t) : PSsDX X W Xx [st] t := ⟨pss_one h1.out⟩
theorem psdx_if {c : Expr} {xs ys : List Stmt} {tc : DTT} (hc : PTD X c tc) (ha : PSsDX X W Xx xs t) (hb : PSsDX X W Xx ys u) : PSDX X W Xx (.If c xs ys pos) (dIfS tc t u) := by
  refine ⟨(ps_if hc.out ha.out hb.out).weak fun D σ H ⟨F, s, G, R, rs, rg, q, p, pw⟩ => ?_⟩
  refine ⟨F, s, G, _, rs, rg, q, fun c G1 H1 st rg1 q1 => ?_⟩
  cases c with
  | true => rw [if_pos rfl] at q1 ⊢; exact ⟨F, s, G1, R, rs.step st, rg1, q1, p.step st, pw.step st⟩
  | false => rw [if_neg Bool.false_ne_true] at q1 ⊢; exact ⟨F, s, G1, R, rs.step st, rg1, q1, p.step st, pw.step st⟩
/-- raise C('..') -/
def dRaise (Xx : XS) (x : Str) : DT := fun _ s G => Xx x none s G
theorem psdx_raise {x : Str} {c : Value} (hc : X.calm = true) (tk : Takes X W) (hm : X.mg x = some c) (he : PMk X e (fun _ H Q => Q c none H)) : PSDX X W Xx (.Raise (some e) none pos) (dRaise Xx x) := by
  refine ⟨(ps_raise hc tk he).weak fun D σ H ⟨F, s, G, R, rs, rg, q, p, pw⟩ => ?_⟩
  exact pw x c none s G none σ H hm Step.refl rs rg rfl q
/-- a call that may raise -/
def dFnX (sp : DSpX) (Xx : XS) (ta : DA) : DE := fun s G Q => ta s G fun ds G1 => sp ds G1 Q fun x fs G2 => Xx x fs s G2
theorem pedx_call {k : Nat} {x : Str} {sp : DSpX} {p : Pos} (F : FnDX X.prog X.w X.K X.mg X.base k x sp) (tk : Takes X W) (hr : Room k X.A) (hg : Gl X x) (ha : PAD X (e :: es) tr) (hdb : (x == ("__debug__" : Str)) = false := by decide)
    (he : starEach (e :: es) X.env = (false, eval e X.env) :: starEach es X.env := by rfl) (hpl : (backTo pos (starEach es X.env)).any (·.1) = false := by rfl) : PEDX X W Xx (.Call (.Name x p) (e :: es) [] pos) (dFnX sp Xx tr) := by
  obtain ⟨f, fd, ps, hm, hk, hb, ok⟩ := F.ex
  refine ⟨(pe_callS ok hr hg hm hk hb (fun σ => passAt tk σ) ha.out hdb he hpl).weak fun σ H Q ⟨F, s, G, R, rs, rg, q, p, pw⟩ => ?_⟩
  refine ⟨F, s, G, _, rs, rg, q, fun ds G1 xs H1 st rx rg1 q1 => ⟨F, ds, G1, R, _, rx, rg1, q1, p.step st, fun x c fs G2 od H2 hm2 st2 rg2 hf hx => ?_⟩⟩
  exact pw x c fs s G2 od σ H2 hm2 (st.trans st2) ((rs.step st).step st2) rg2 hf hx
/-- the same where nothing may be raised -/
theorem ped_callX0 {k : Nat} {x : Str} {sp : DSpX} {p : Pos} (F : FnDX X.prog X.w X.K X.mg X.base k x sp) (hr : Room k X.A) (hg : Gl X x) (ha : PAD X (e :: es) tr) (hdb : (x == ("__debug__" : Str)) = false := by decide)
    (he : starEach (e :: es) X.env = (false, eval e X.env) :: starEach es X.env := by rfl) (hpl : (backTo pos (starEach es X.env)).any (·.1) = false := by rfl) : PED X (.Call (.Name x p) (e :: es) [] pos) (dFnX sp xNo tr) :=
  ⟨(pedx_call (Xx := xNo) F takes0 hr hg ha hdb he hpl).out.weak fun σ H Q ⟨F, s, G, R, rs, rg, q, p⟩ => ⟨F, s, G, R, rs, rg, q, p, .no⟩⟩
theorem psdx_drop (he : PEDX X W Xx e te) (hs : swapsWith e none pos.line X.env = pure false := by rfl) : PSDX X W Xx (.Expr e pos) (dDrop te) := by
  refine ⟨(ps_expr he.out hs).weak fun D σ H ⟨F, s, G, R, rs, rg, q, p, pw⟩ => ?_⟩
  exact ⟨F, s, G, _, rs, rg, q, fun d G1 x H1 st rx rg1 q1 => p.nx _ _ _ _ st (rs.step st) rg1 q1, pw⟩
theorem psdx_ret (he : PEDX X W Xx e te) : PSDX X W Xx (.Return (some e) pos) (dRet te) := by
  refine ⟨(ps_ret he.out).weak fun D σ H ⟨F, s, G, R, rs, rg, q, p, pw⟩ => ?_⟩
  exact ⟨F, s, G, _, rs, rg, q, p.rt, pw⟩
theorem psdx_set {i : Nat} {x : Str} {pos' : Pos} (hN : X.N.Nodup) (hi : X.N[i]? = some x) (hx : Loc X.env.scope x) (he : PEDX X W Xx e te) (hs : swapsWith e (some (.Name x pos')) pos.line X.env = pure false := by rfl) (hf : X.fn x = true ∨ X.env.scope.names.lookup x = some .local := by first | exact .inl rfl | exact .inr rfl | assumption) :
    PSDX X W Xx (.Assign [.Name x pos'] e pos) (dAsg te (gN i)) := by
  refine ⟨(ps_set hN hi hx he.out hs hf).weak fun D σ H ⟨F, s, G, R, rs, rg, q, p, pw⟩ => ?_⟩
  exact ⟨F, s, G, _, rs, rg, q, fun d G1 x H1 st rx rg1 q1 => p.nx _ _ _ _ st ((rs.step st).set rx i) rg1 q1, pw⟩
end
/-! ### defs that raise -/
section
variable {P : Program} {w : World} {K : PySem.W.Frag} {mg : Str → Option Value} {base : Heap} {x : Str} {st : Stmt} {N ps : List Str} {k : Nat} {sp : DSpX} {t : XS → DT}
/-- what a def lets out: what is its own is let go -/
def XRet (Xn : XN) : XS := fun x fs _ G => ∃ G2, Sub G2 G ∧ Xn x fs G2
theorem XRet.drop {Xn : XN} {fs : Option (List (Str × D))} {s : DS} {G G2 : DH} (h : Sub G2 G) (q : Xn x fs G2) : XRet Xn x fs s G := ⟨G2, h, q⟩
theorem XRet.same {Xn : XN} {fs : Option (List (Str × D))} {s : DS} {G : DH} (q : Xn x fs G) : XRet Xn x fs s G := ⟨G, Sub.refl, q⟩
theorem XfOk.sub {F : Hid} {G G2 : DH} {H : Hp} {od : Option Addr} {fs : Option (List (Str × D))} (h : XfOk K F G H od fs) (s : Sub G2 G) : XfOk K F G2 H od fs := by
  cases fs with
  | none => exact h
  | some fs =>
    obtain ⟨d, ws, h1, h2, h3, h4, h5⟩ := h
    exact ⟨d, ws, h1, h2, fun z => h3 (z.imp id s.fp), h4, h5.sub s⟩
theorem fnx_ok {f : Addr} {fd : FuncData} (F : Fun K x x st f fd) (S : FnScope N ps (defScope st))
    (body : ∀ (f : Addr) (cdv : Value) (A : Around) (outer : List Env) (s : Shared) (H : Hp) (E : XK) (W : WX) (Xx : XS), Takes (cxOf (L2.CX P w) P w K mg base N x (defScope st) f cdv A outer s H E) W → Room k (A.deeper (envOfC x (defScope st) s.heap.objs.size f cdv)) → PSsDX (cxOf (L2.CX P w) P w K mg base N x (defScope st) f cdv A outer s H E) W Xx (defBody st) (t Xx))
    (sem : ∀ ds G R Xn, sp ds G R Xn → ds.length = ps.length ∧ t (XRet Xn) { nx := fun _ G' => RetOk R .non G', rt := RetOk R } (dstart N ds) G) : FnOk P w K mg base (L2.CX P w) (k + 1) f fd ps (lowerX K mg sp) := by
  refine F.okX S (fun vs H Q E ⟨F, ds, G, R, Xn, r, g, q, _⟩ => ?_) fun cdv A outer s H vs Q E hr ⟨F, ds, G, R, Xn, r, g, q, p, px⟩ => ⟨_, (body f cdv A outer s H E (fun c d _ H' => E c d H') (XRet Xn) (takes_of rfl rfl rfl rfl) hr).out, ?_⟩
  · rw [r.len]; exact (sem ds G R Xn q).1
  · refine ⟨F, dstart N ds, G, _, reps_start r, g, (sem ds G R Xn q).2, ⟨fun s' G' σ' H' st rs rg q => p.ret _ _ _ _ st .non rg q, p.ret, fun _ _ _ _ _ _ _ z => z.elim, fun _ _ _ _ _ _ _ z => z.elim⟩, ?_⟩
    rintro y c fs s' G' od σ' H' hm st rs rg hf ⟨G2, sb, hx⟩
    exact px y c fs G2 od H' hm (st.sub sb) (rg.sub sb) (hf.sub sb) hx
theorem fndx_mk (A : DefAt K mg x st) (S : FnScope N ps (defScope st))
    (bd : ∀ (kV doc pm : Value) (an : Option Addr) (cdv ct : Value) (us : List Value), us.length = ps.length → bindArgs (PySem.W.fnOf x x (defArgs st) (defBody st) (defScope st) .none kV doc pm an cdv ct) ⟨us, []⟩ = pure (ps.zip us))
    (body : ∀ (f : Addr) (cdv : Value) (A : Around) (outer : List Env) (s : Shared) (H : Hp) (E : XK) (W : WX) (Xx : XS), Takes (cxOf (L2.CX P w) P w K mg base N x (defScope st) f cdv A outer s H E) W → Room k (A.deeper (envOfC x (defScope st) s.heap.objs.size f cdv)) → PSsDX (cxOf (L2.CX P w) P w K mg base N x (defScope st) f cdv A outer s H E) W Xx (defBody st) (t Xx))
    (sem : ∀ ds G R Xn, sp ds G R Xn → ds.length = ps.length ∧ t (XRet Xn) { nx := fun _ G' => RetOk R .non G', rt := RetOk R } (dstart N ds) G) : FnDX P w K mg base (k + 1) x sp := by
  obtain ⟨f, fd, hm, F⟩ := A.ex
  exact ⟨f, fd, ps, hm, F.kp, F.binds bd, fnx_ok F S body sem⟩
end
/-! ### try: .. except C as e: .. -/
/-- the names that may be raised there; which of them are caught; the exception's slot -/
def dTryAs (names : List Str) (catch_ : Str → Bool) (i : Nat) (body : XS → DT) (suite : Str → Addr → DT) (Xo : XS) : DT := fun R s G =>
  body (fun x fs s' G' => x ∈ names ∧ fs = none ∧ (catch_ x = true → ∀ a, suite x a { nx := fun s'' G'' => R.nx (s''.set i none) G'', rt := R.rt, bk := fun s'' G'' => R.bk (s''.set i none) G'', ct := fun s'' G'' => R.ct (s''.set i none) G'' } (s'.set i (some (.ptr a))) G') ∧ (catch_ x = false → Xo x fs s' G')) R s G
section
variable {X : Cx} {W : WX} {Xx : XS}
theorem psdx_tryAs {y n : Str} {c : Value} {i : Nat} {body suite : List Stmt} {b₀ : Stmt} {np pos pos' : Pos} {names : List Str} {cf : Str → Bool} {tb : XS → DT} {ts : Str → Addr → DT}
    (hs : X.stack = X.env :: X.outer) (hf : X.env.frame = some X.env.locals) (hN : X.N.Nodup) (hi : X.N[i]? = some n) (hln : X.env.kindOf n = some .local) (hc : Names X y c) (tk : Takes X W)
    (hcf : ∀ x ∈ names, ∀ cl, X.mg x = some cl → PySem.W.exmOne X.K cl c = some (cf x))
    (hb : ∀ (W' : WX) (Xx' : XS) (pn : List (Addr × Obj)) (xe : Value → Shared → Prop), Takes (X.tr pn xe) W' → PassesOwn (model X.prog X.w) X.A X.env xe → PSsDX (X.tr pn xe) W' Xx' body (tb Xx'))
    (hsu : ∀ x ∈ names, ∀ (a : Addr) (oe : Obj) (cl : Value) (pn : List (Addr × Obj)), X.mg x = some cl → Zc cl none oe → (∃ vs, oe.data = .fields vs) → PSsD (X.suite a ((a, oe) :: pn)) (b₀ :: suite) (ts x a)) :
    PSDX X W Xx (.Try body [.ExceptHandler (some (.Name y np)) (some n) (b₀ :: suite) pos'] [] [] pos) (dTryAs names cf i tb ts Xx) := by
  refine ⟨(ps_try_as (i := i) (tb := fun W' D σ H => ∃ Xx', lowSX X.K X.mg W' Xx' (tb Xx') D σ H) (ts := fun a cl d D σ H => ∃ x, x ∈ names ∧ X.mg x = some cl ∧ d = none ∧ lowS X.K (ts x a) D σ H) (Wout := W) hs hf hN hi hln hc tk
    (fun W' pn xe tk' hp => ⟨fun pins s σ H D I ⟨Xx', q⟩ => (hb W' Xx' pn xe tk' hp).out.run pins s σ H D I q⟩)
    (fun a oe cl d pn hz hfv => ⟨fun pins s σ H D I ⟨x, hx, hm, hd, q⟩ => by subst hd; exact (hsu x hx a oe cl pn hm hz hfv).out.run pins s σ H D I q⟩)).weak fun D σ H ⟨F, s, G, R, rs, rg, q, p, pw⟩ => ?_⟩
  refine ⟨_, F, s, G, R, rs, rg, q, p, ?_⟩
  rintro x cl fs s' G' od σ' H' hm st rs' rg' hxf ⟨hx, hfs, h1, h2⟩
  subst hfs
  have hod : od = none := hxf
  subst hod
  refine ⟨cf x, hcf x hx cl hm, fun hcx a ha => ⟨x, hx, hm, rfl, F, _, G', _, ?_, rg', h1 hcx a, ⟨?_, ?_, ?_, ?_⟩⟩, fun hcx => pw x cl none s' G' none σ' H' hm st rs' rg' rfl (h2 hcx)⟩
  · exact rs'.set (.ptr a) i
  · exact fun s2 G2 σ2 H2 st2 rs2 rg2 q2 => p.nx _ _ _ _ (st.trans st2) (rs2.unset none i) rg2 q2
  · exact fun d G2 v H2 st2 rv rg2 q2 => p.rt _ _ _ _ (st.trans st2) rv rg2 q2
  · exact fun s2 G2 σ2 H2 st2 rs2 rg2 q2 => p.bk _ _ _ _ (st.trans st2) (rs2.unset none i) rg2 q2
  · exact fun s2 G2 σ2 H2 st2 rs2 rg2 q2 => p.ct _ _ _ _ (st.trans st2) (rs2.unset none i) rg2 q2
/-- where nothing is let out -/
theorem psd_x0 {st : Stmt} {t : DT} (h : PSDX X (fun _ _ _ _ => False) xNo st t) : PSD X st t := ⟨h.out.weak fun D σ H ⟨F, s, G, R, rs, rg, q, p⟩ => ⟨F, s, G, R, rs, rg, q, p, .no⟩⟩
end
/-! ### isinstance of what is caught -/
/-- the class that an argument of isinstance names, or classes -/
inductive ClsD (K : PySem.W.Frag) (t : Value) : D → Bool → Prop
  | own {C : Addr} {b : Bool} : PySem.W.kitOne K t (.ref C) = some b → ClsD K t (.ptr C) b
  | ty {T : String} {b : Bool} : PySem.W.kitOne K t (.type T) = some b → ClsD K t (.ty T) b
  | tup {Cs : List Addr} {b : Bool} : PySem.W.kitAny K t (Cs.map Value.ref) = some b → ClsD K t (.tup (Cs.map D.ptr)) b
def rIsD (K : PySem.W.Frag) (t : Value) (a : Addr) : DRs := fun ds G Q => ∃ d b, ds = [.ptr a, d] ∧ ClsD K t d b ∧ Q (.bl b) G
theorem refs_of {K : PySem.W.Frag} {H : Hp} {O : Addr → Prop} : ∀ {Cs : List Addr} {xs : List V} {its : List Value}, RepL K H O xs (Cs.map D.ptr) → Vals xs its → its = Cs.map Value.ref
  | [], _, _, .nil, .nil => rfl
  | C :: Cs, _, _, .cons r1 r2, .cons v1 v2 => by
    cases r1
    cases v1
    rw [refs_of r2 v2]; rfl
theorem cdIsE {X : Cx} {a Dc : Addr} {oe : Obj} {pn : List (Addr × Obj)} (C : ExcC X.K Dc) (hz : Zc (.ref Dc) none oe) (hf : ∃ vs, oe.data = .fields vs) : CallD (X.suite a ((a, oe) :: pn)) (.builtin "isinstance") (rIsD X.K (.ref Dc) a) := by
  refine ⟨fun pins s σ H xs us Q I r ⟨F, ds, G, R, rx, rg, ⟨d, b, ed, hk, q⟩, p⟩ => ?_⟩
  subst ed
  obtain ⟨hget, _⟩ := I.pin (a, oe) (List.mem_append.mpr (.inl List.mem_cons_self))
  obtain ⟨vs, hv⟩ := hf
  have J : PySem.W.InstAt s.heap a oe Dc none := by
    obtain ⟨oc, od, oda, osl⟩ := oe
    obtain ⟨h1, h2⟩ := hz
    dsimp only at h1 h2 hv
    subst h1 h2 hv
    exact ⟨hget, rfl, rfl, trivial⟩
  have KX := PySem.W.handS_kitx_exc (x := a) (ox := oe) C.hg C.hk C.hs C.hd C.ha C.hn C.ht C.hm
  have fin : ∀ tk, EP (X.suite a ((a, oe) :: pn)) pins σ Q (.bool b) { s with toks := tk } := fun tk => ⟨.bl b, H, I.kept (t' := tk) fun _ _ z => z, rfl, p.here rg (.bl b) q⟩
  cases rx with
  | cons rx1 rx2 =>
    cases rx2 with
    | cons rx2 rx3 =>
      cases rx3
      cases rx1
      cases r with
      | cons r1 r2 =>
        cases r2 with
        | cons r2 r3 =>
          cases r3
          cases r1
          cases hk with
          | own e =>
            cases rx2
            cases r2
            exact PySem.W.kia_one KX I.kIn J e (fun z => nomatch z) fin
          | ty e =>
            cases rx2
            cases r2
            exact PySem.W.kia_one KX I.kIn J e (fun z => nomatch z) fin
          | @tup Cs b e =>
            obtain ⟨c, xs, ec, hT, rxs⟩ := tup_at rx2
            subst ec
            cases r2
            obtain ⟨its, rv, ⟨⟨cls, dd, data, sl⟩, ho, hc, n, hd⟩, hsz⟩ := I.tuple hT
            dsimp only at hc hd
            subst hc hd
            have ei : its = Cs.map Value.ref := refs_of rxs rv
            rw [ei] at ho
            exact PySem.W.kia_tup KX I.kIn J ho e (fun z => nomatch z) fin
/-- which of the program's classes another one is -/
def isErr (x y : Str) : Bool := decide (x = y) || decide (y = "WireError") || decide (y = "ValueError")
def isErrs (x : Str) (ys : List Str) : Bool := ys.any (isErr x)
/-- isinstance(e, ..), e the exception that is caught -/
def dIsX (i : Nat) (a : Addr) (b : Bool) : DE := fun s G Q => sl s i = some (.ptr a) ∧ Q (.bl b) G
section
variable {X : Cx} {s : DS} {G : DH} {Q : DK}
theorem ped_cls {C : Addr} {y : Str} {pos : Pos} (hm : X.mg y = some (.ref C)) (hg : Gl X y) (hd : (y == ("__debug__" : Str)) = false := by decide) : PED X (.Name y pos) (dC (.ptr C)) := ped_glob ⟨.ref C, .ref C, hm, rfl, fun _ _ => .ptr C⟩ hg hd
theorem ped_isE {e1 e2 : Expr} {p pos : Pos} {t : Value} {a : Addr} {i : Nat} {d : D} {b b' : Bool} {te2 : DE} (hc : CallD X (.builtin "isinstance") (rIsD X.K t a)) (hg : Gl X "isinstance") (hm : X.mg "isinstance" = none) (ha : PAD X [e1, e2] (aCons (dVar i) (aCons te2 aNil)))
    (h2 : ∀ s G Q, Q d G → te2 s G Q) (hk : ClsD X.K t d b) (hb : b' = b) (he : starEach [e1, e2] X.env = (false, eval e1 X.env) :: starEach [e2] X.env := by rfl) (hpl : (backTo pos (starEach [e2] X.env)).any (·.1) = false := by rfl) : PED X (.Call (.Name "isinstance" p) [e1, e2] [] pos) (dIsX i a b') := by
  subst hb
  have h := ped_callB (p := p) hc hg hm (by decide +kernel) ha (by decide) (by decide) he hpl
  refine ⟨h.out.weak fun σ H Q ⟨F, s, G, R, rs, rg, ⟨q1, q2⟩, p⟩ => ⟨F, s, G, R, rs, rg, ?_, p⟩⟩
  show dVar i s G fun d1 G1 => te2 s G1 fun d2 G2 => rIsD X.K t a [d1, d2] G2 R
  unfold dVar
  rw [q1]
  exact h2 _ _ _ ⟨d, b', rfl, hk, q2⟩
theorem kit_nil {K : PySem.W.Frag} {t : Value} : PySem.W.kitAny K t [] = some false := rfl
theorem kit_no {K : PySem.W.Frag} {t c : Value} {r : List Value} {b : Bool} (h : PySem.W.kitOne K t c = some false) (q : PySem.W.kitAny K t r = some b) : PySem.W.kitAny K t (c :: r) = some b := by
  unfold PySem.W.kitAny; rw [h]; exact q
theorem kit_yes {K : PySem.W.Frag} {t c : Value} {r : List Value} (h : PySem.W.kitOne K t c = some true) : PySem.W.kitAny K t (c :: r) = some true := by
  unfold PySem.W.kitAny; rw [h]
theorem st_isX {i : Nat} {a : Addr} {b : Bool} (h : sl s i = some (.ptr a)) (q : Q (.bl b) G) : dIsX i a b s G Q := ⟨h, q⟩
instance {names : List Str} {cf : Str → Bool} {i : Nat} {tb : XS → DT} {ts : Str → Addr → DT} {Xo : XS} {R : DEnds} : Stp (dTryAs names cf i tb ts Xo R s G) (tb (fun x fs s' G' => x ∈ names ∧ fs = none ∧ (cf x = true → ∀ a, ts x a { nx := fun s'' G'' => R.nx (s''.set i none) G'', rt := R.rt, bk := fun s'' G'' => R.bk (s''.set i none) G'', ct := fun s'' G'' => R.ct (s''.set i none) G'' } (s'.set i (some (.ptr a))) G') ∧ (cf x = false → Xo x fs s' G')) R s G) := ⟨id⟩
instance {sp : DSpX} {Xx : XS} {ta : DA} : Stp (dFnX sp Xx ta s G Q) (ta s G fun ds G1 => sp ds G1 Q fun x fs G2 => Xx x fs s G2) := ⟨id⟩
instance {Xx : XS} {x : Str} {R : DEnds} : Stp (dRaise Xx x R s G) (Xx x none s G) := ⟨id⟩
end
/-! ### defs that raise and have a default -/
section
variable {P : Program} {w : World} {K : PySem.W.Frag} {mg : Str → Option Value} {base : Heap} {x : Str} {st : Stmt} {N ps : List Str} {k : Nat} {sp : DSpX} {t : XS → DT}
theorem fndxf_mk {m : Nat} (A : DefAtN K mg x st) (S : FnScope N ps (defScope st)) (hn : m = ps.length)
    (bd : ∀ (T : Addr) (kV doc pm : Value) (an : Option Addr) (cdv ct : Value) (us its : List Value), us.length = m → its.length = 1 →
      ∃ k, bindArgs (PySem.W.fnOf x x (defArgs st) (defBody st) (defScope st) (.ref T) kV doc pm an cdv ct) ⟨us, []⟩ = seqItems? (.ref T) >>= k ∧ k (some its.toArray) = pure (ps.zip (us ++ its.drop 1)))
    (body : ∀ (f : Addr) (cdv : Value) (A : Around) (outer : List Env) (s : Shared) (H : Hp) (E : XK) (W : WX) (Xx : XS), Takes (cxOf (L2.CX P w) P w K mg base N x (defScope st) f cdv A outer s H E) W → Room k (A.deeper (envOfC x (defScope st) s.heap.objs.size f cdv)) → PSsDX (cxOf (L2.CX P w) P w K mg base N x (defScope st) f cdv A outer s H E) W Xx (defBody st) (t Xx))
    (sem : ∀ ds G R Xn, sp ds G R Xn → ds.length = ps.length ∧ t (XRet Xn) { nx := fun _ G' => RetOk R .non G', rt := RetOk R } (dstart N ds) G) : FnDX P w K mg base (k + 1) x sp := by
  obtain ⟨f, fd, hm, F⟩ := A.ex
  obtain ⟨ds, r, b⟩ := F.binds1 (ps := ps) m 1 (fun z => nomatch z) (by simpa using hn) fun T kV doc pm an cdv ct us its h1 h2 => bd T kV doc pm an cdv ct us its h1 h2
  cases r
  refine ⟨f, fd, ps, hm, F.kp, b, ?_⟩
  obtain ⟨oc, od, dv, kV, doc, pm, an, cdv, ct, osl, rfl, lk, hcd, hd1, hd2⟩ := F.ex
  refine fn_of lk hcd S (fun vs H Q E ⟨F, ds, G, R, Xn, r, g, q, _⟩ => ?_) fun A outer s H vs Q E hr ⟨F, ds, G, R, Xn, r, g, q, p, px⟩ => ⟨_, (body f cdv A outer s H E (fun c d _ H' => E c d H') (XRet Xn) (takes_of rfl rfl rfl rfl) hr).out, ?_⟩
  · rw [r.len]; exact (sem ds G R Xn q).1
  · refine ⟨F, dstart N ds, G, _, reps_start r, g, (sem ds G R Xn q).2, ⟨fun s' G' σ' H' st rs rg q => p.ret _ _ _ _ st .non rg q, p.ret, fun _ _ _ _ _ _ _ z => z.elim, fun _ _ _ _ _ _ _ z => z.elim⟩, ?_⟩
    rintro y c fs s' G' od σ' H' hm st rs rg hf ⟨G2, sb, hx⟩
    exact px y c fs G2 od H' hm (st.sub sb) (rg.sub sb) (hf.sub sb) hx
end
end L2.Ew

set_option Elab.async false
set_option linter.all false
set_option maxRecDepth 100000
set_option maxHeartbeats 4000000
/-! Decks with a bounded count; loops over the keys of a dict. -/
namespace L2.Ew
open PySem PySem.Spec PySem.SeqAt PyProof.Rows
section
variable {K : PySem.W.Frag} {F : Hid} {G : DH} {H : Hp} {a l b : Addr} {n m : Nat} {is is' cs cs' : List Int}
/-! ### decks whose second number is at most n -/
theorem fp_db {ks ks' : DkS} (hg : G a = some (.deck l ks)) (b : Addr) : Fp (uG G a (.deck l ks')) b ↔ Fp G b := by
  constructor
  · rintro (⟨o, h⟩ | ⟨c, k, h⟩)
    · by_cases ea : b = a
      · subst ea; exact .inl ⟨_, hg⟩
      · rw [uG_ne ea] at h; exact .inl ⟨o, h⟩
    · by_cases ea : c = a
      · subst ea; rw [uG_same] at h; cases h; exact .inr ⟨c, ks, hg⟩
      · rw [uG_ne ea] at h; exact .inr ⟨c, k, h⟩
  · rintro (⟨o, h⟩ | ⟨c, k, h⟩)
    · by_cases ea : b = a
      · subst ea; exact .inl ⟨_, uG_same⟩
      · exact .inl ⟨o, by rw [uG_ne ea]; exact h⟩
    · by_cases ea : c = a
      · subst ea; rw [hg] at h; cases h; exact .inr ⟨c, ks', uG_same⟩
      · exact .inr ⟨c, k, by rw [uG_ne ea]; exact h⟩
theorem openB {k k' : Nat} : openG G a l (.b k) is cs = openG G a l (.b k') is cs := rfl
def spDrawBX : DSp := fun ds G R _ => ∃ (a l : Addr) (m : Int) (n : Nat) (is cs : List Int), ds = [.ptr a, .int m] ∧ G a = some (deckMO l (.b 0) is) ∧ G l = some (.lst (cs.map D.int)) ∧ a ≠ l ∧ DkI (.b n) is ∧ 0 < m ∧ m < 1073741824 ∧ n < 1000000000 ∧
  ∀ (r : Int) (is' cs' : List Int), 0 ≤ r → r < m → DkI (.b (n + 1)) is' → R (.int r) (openG G a l (.b 0) is' cs')
/-- a draw: any number below m -/
def spDrawB : DSp := fun ds G R _ => ∃ (a l : Addr) (m : Int) (n : Nat), ds = [.ptr a, .int m] ∧ G a = some (.deck l (.b n)) ∧ 0 < m ∧ m < 1073741824 ∧ n < 1000000000 ∧ ∀ r : Int, 0 ≤ r → r < m → R (.int r) (uG G a (.deck l (.b (n + 1))))
theorem drawB_shift {K : PySem.W.Frag} : ∀ vs H Q E, lower K spDrawB vs H Q E → lower K spDrawBX vs H Q E := by
  rintro vs H Q E ⟨F, ds, G, R, X, r, g, ⟨a, l, m, n, rfl, hg, h0, h1, hn, q⟩, p, px⟩
  obtain ⟨is, cs, hlen, gx⟩ := open_deck g hg
  have hl := g.dk a l _ hg
  have nal : a ≠ l := fun z => by subst z; rw [hl] at hg; cases hg
  have hd : ∀ b ks', G b = some (.deck l ks') → b = a := fun b ks' h => g.dd b a l ks' _ h hg
  refine ⟨F, _, openG G a l (.b 0) is cs, fun d G' => ∃ (r : Int) (is' cs' : List Int), d = .int r ∧ 0 ≤ r ∧ r < m ∧ DkI (.b (n + 1)) is' ∧ G' = openG G a l (.b 0) is' cs', fun _ _ _ => False, r.imp fun b _ e n => ⟨e, fun z => n ((own_open hg hl b).mp z)⟩, gx, ?_, ?_, fun _ _ _ _ _ _ _ _ z => z.elim⟩
  · exact ⟨a, l, m, n, is, cs, rfl, by unfold openG; exact uG_same, by unfold openG; rw [uG_ne nal.symm]; exact uG_same, nal, hlen, h0, h1, hn, fun r is' cs' h2 h3 h4 => ⟨r, is', cs', rfl, h2, h3, h4, open_open⟩⟩
  · rintro d G' v H' st rd rg ⟨r, is', cs', rfl, h2, h3, h4, rfl⟩
    have hg2 : uG G a (.deck l (.b (n + 1))) a = some (.deck l (.b (n + 1))) := uG_same
    have hl2 : uG G a (.deck l (.b (n + 1))) l = none := by rw [uG_ne nal.symm]; exact hl
    have hd2 : ∀ b ks', uG G a (.deck l (.b (n + 1))) b = some (.deck l ks') → b = a := fun b ks' h => by
      by_cases ea : b = a
      · exact ea
      · rw [uG_ne ea] at h; exact hd b ks' h
    have eo : openG G a l (.b 0) is' cs' = openG (uG G a (.deck l (.b (n + 1)))) a l (.b (n + 1)) is' cs' := by
      funext b
      unfold openG uG
      by_cases ea : b = a
      · simp [ea]; rfl
      · simp [ea]
    rw [eo] at rd rg
    refine p (.int r) (uG G a (.deck l (.b (n + 1)))) v H' ⟨fun b o e nf => ?_, st.dom⟩ (rep_close hg2 hl2 rd) (close_deck hg2 hl2 hd2 h4 rg) (q r h2 h3)
    have z := st.at_ b o e fun y => nf ((fp_open hg hl b).mp y)
    exact ⟨z.1, fun y => z.2 ((fp_open hg hl b).mpr ((fp_db hg b).mp y))⟩
theorem dkb3 {i j k : Int} : DkI (.b n) [i, j, k] ↔ 0 ≤ i ∧ 0 ≤ j ∧ 0 ≤ k ∧ j ≤ n := by
  show ([i, j, k].length = 3 ∧ (∀ x ∈ [i, j, k], 0 ≤ x) ∧ [i, j, k].getD 1 0 ≤ (n : Int)) ↔ _
  simp [and_assoc]
theorem dkb3_of (h : DkI (.b n) is) : ∃ i j k : Int, is = [i, j, k] ∧ 0 ≤ i ∧ 0 ≤ j ∧ 0 ≤ k ∧ j ≤ n := by
  obtain ⟨h1, h2, h3⟩ : is.length = 3 ∧ (∀ i ∈ is, 0 ≤ i) ∧ is.getD 1 0 ≤ (n : Int) := h
  match is, h1, h2, h3 with
  | [a, b, c], _, h2, h3 => exact ⟨a, b, c, rfl, h2 a (by simp), h2 b (by simp), h2 c (by simp), by simpa using h3⟩
theorem og_aB : openG G a l (.b n) is cs a = some (.lst (.ptr l :: is.map D.int)) := by unfold openG; exact uG_same
theorem og_putB {ds : List D} (e : ds = .ptr l :: is'.map D.int) : uG (openG G a l (.b n) is cs) a (.lst ds) = openG G a l (.b n) is' cs := by subst e; unfold openG; rw [uG_uG]; rfl
variable {v d : D} {Q : DK} {i : Int} {S : DS → DH → Prop} {s : DS} {k : Nat} {R : DK} {X : XD}
theorem ogB_ix (h : atI (.ptr l :: is.map D.int) i = some v) (q : Q v (openG G a l (.b n) is cs)) : dIx (.ptr a) (.int i) (openG G a l (.b n) is cs) Q := st_ixL (res_ptr og_aB) h q
theorem ogB_set {j : Int} {is' : List Int} (hk : ixN (is.length + 1) i = some (k + 1)) (e : is' = is.set k j) (q : S s (openG G a l (.b n) is' cs)) : gsK (.int j) s S (.ptr a) (.int i) (openG G a l (.b n) is cs) := by
  refine st_gsK (setV_lst og_aB (by rw [List.length_cons, List.length_map]; exact hk)) ?_
  subst e
  rw [List.set_cons_succ, ← List.map_set, og_putB rfl]
  exact q
theorem st_drawB {m : Int} (hg : G a = some (.deck l (.b n))) (h0 : 0 < m) (h1 : m < 1073741824) (hn : n < 1000000000) (q : ∀ r : Int, 0 ≤ r → r < m → R (.int r) (uG G a (.deck l (.b (n + 1))))) : spDrawB [.ptr a, .int m] G R X := ⟨a, l, m, n, rfl, hg, h0, h1, hn, q⟩
/-- so many draws later -/
theorem st_drawBU {m : Int} (h0 : 0 < m) (h1 : m < 1073741824) (hn : n < 1000000000) (q : ∀ r : Int, 0 ≤ r → r < m → R (.int r) (uG G a (.deck l (.b (n + 1))))) : spDrawB [.ptr a, .int m] (uG G a (.deck l (.b n))) R X := ⟨a, l, m, n, rfl, uG_same, h0, h1, hn, fun r r0 r1 => by rw [uG_uG]; exact q r r0 r1⟩
end

/-! ### a dict is locked while a statement runs -/
section
variable {K : PySem.W.Frag} {F : Hid} {G : DH} {H : Hp} {X : Cx} {a : Addr}
def lkE (E : DEnds) (d : Addr) (f u : MO) : DEnds := ⟨fun s' G' => G' d = some f ∧ E.nx s' (uG G' d u), fun v G' => G' d = some f ∧ E.rt v (uG G' d u), fun s' G' => G' d = some f ∧ E.bk s' (uG G' d u), fun s' G' => G' d = some f ∧ E.ct s' (uG G' d u)⟩
def dLock (t : DT) : DT := fun E s G => ∃ d, (∃ kvs, G d = some (.dk kvs) ∧ ∀ o ws, t (lkE E d (.fK o ws kvs) (.dk kvs)) s (uG G d (.fK o ws kvs))) ∨
  ∃ kvs, G d = some (.dT kvs) ∧ ∀ o ws, t (lkE E d (.fT o ws kvs) (.dT kvs)) s (uG G d (.fT o ws kvs))
theorem low_lock {t : DT} {D : Ends} {σ : L2.St} {E : DEnds} {s : DS} {d : Addr} {u : HO} {f v : MO} {od : Obj} (rs : RepS K H (Own F G) σ s) (rg : RepG K H F G) (p : PostS K F G H E D) (hg : G d = some v) (hH : H d = some u) (mu : Mut (some u))
    (nv : ∀ l ks, v ≠ .deck l ks) (nf : ∀ l ks, f ≠ .deck l ks)
    (rf : ∀ H' (O : Addr → Prop), (∀ b o, H b = some o → ¬ Own F G b → H' b = some o ∧ ¬ O b) → H' d = some (.frz od u) → RepO K H' O d f)
    (fr : ∀ H' (O : Addr → Prop), RepO K H' O d f → H' d = some (.frz od u) ∧ ∀ H'' (O' : Addr → Prop), (∀ b o, H' b = some o → ¬ O b → H'' b = some o ∧ ¬ O' b) → H'' d = some u → RepO K H'' O' d v)
    (q : t (lkE E d f v) s (uG G d f)) :
    lowS K t ⟨fun σ' H' => H' d = some (.frz od u) ∧ D.nx σ' (upd H' d u), fun v H' => H' d = some (.frz od u) ∧ D.rt v (upd H' d u), fun σ' H' => H' d = some (.frz od u) ∧ D.bk σ' (upd H' d u), fun σ' H' => H' d = some (.frz od u) ∧ D.ct σ' (upd H' d u)⟩ σ (upd H d (.frz od u)) := by
  have st : Step G H (uG G d f) (upd H d (.frz od u)) := step_write hg nf
  have rg1 : RepG K (upd H d (.frz od u)) F (uG G d f) := rg.write hg nv nf (rf _ _ (own_step st) upd_same)
  have back : ∀ G' H', Step (uG G d f) (upd H d (.frz od u)) G' H' → RepG K H' F G' → G' d = some f → H' d = some (.frz od u) ∧ Step G H (uG G' d v) (upd H' d u) ∧ Step G' H' (uG G' d v) (upd H' d u) ∧ RepG K (upd H' d u) F (uG G' d v) := fun G' H' st' rg' e => by
    obtain ⟨h1, h2⟩ := fr _ _ (rg'.ob d _ e)
    have st2 : Step G' H' (uG G' d v) (upd H' d u) := step_write e nv
    exact ⟨h1, (st.trans st').trans st2, st2, rg'.write e nf nv (h2 _ _ (own_step st2) upd_same)⟩
  refine ⟨F, s, uG G d f, lkE E d f v, rs.step st, rg1, q, ⟨?_, ?_, ?_, ?_⟩⟩
  · intro s' G' σ' H' st' rs' rg' ⟨e, q'⟩
    obtain ⟨h1, h2, h3, h4⟩ := back G' H' st' rg' e
    exact ⟨h1, p.nx _ _ _ _ h2 (rs'.step h3) h4 q'⟩
  · intro v' G' w H' st' rv rg' ⟨e, q'⟩
    obtain ⟨h1, h2, h3, h4⟩ := back G' H' st' rg' e
    exact ⟨h1, p.rt _ _ _ _ h2 (rv.step h3) h4 q'⟩
  · intro s' G' σ' H' st' rs' rg' ⟨e, q'⟩
    obtain ⟨h1, h2, h3, h4⟩ := back G' H' st' rg' e
    exact ⟨h1, p.bk _ _ _ _ h2 (rs'.step h3) h4 q'⟩
  · intro s' G' σ' H' st' rs' rg' ⟨e, q'⟩
    obtain ⟨h1, h2, h3, h4⟩ := back G' H' st' rg' e
    exact ⟨h1, p.ct _ _ _ _ h2 (rs'.step h3) h4 q'⟩
theorem psd_lock {st : Stmt} {t : DT} (h : PSD X st t) : PSD X st (dLock t) := by
  refine ⟨(ps_lock h.out).weak fun D σ H ⟨F, s, G, E, rs, rg, ⟨d, q⟩, p⟩ => ?_⟩
  rcases q with ⟨kvs, hg, q⟩ | ⟨kvs, hg, q⟩
  · obtain ⟨ws, hH, h2, r⟩ := rg.ob d _ hg
    refine ⟨d, .dK ws, hH, trivial, fun od => low_lock (f := .fK od ws kvs) (v := .dk kvs) rs rg p hg hH trivial (fun _ _ z => nomatch z) (fun _ _ z => nomatch z) (fun H' O i e => ⟨e, h2, r.imp i⟩) (fun H' O r' => ⟨r'.1, fun H'' O' i e => ⟨ws, e, h2, r'.2.2.imp i⟩⟩) (q od ws)⟩
  · obtain ⟨ws, hH, h2, r⟩ := rg.ob d _ hg
    refine ⟨d, .dT ws, hH, trivial, fun od => low_lock (f := .fT od ws kvs) (v := .dT kvs) rs rg p hg hH trivial (fun _ _ z => nomatch z) (fun _ _ z => nomatch z) (fun H' O i e => ⟨e, h2, r.imp i⟩) (fun H' O r' => ⟨r'.1, fun H'' O' i e => ⟨ws, e, h2, r'.2.2.imp i⟩⟩) (q od ws)⟩

/-! ### its keys -/
def keyV : Key → D
  | .inl i => .int i
  | .inr x => .str x
theorem keyV_rep {O : Addr → Prop} : ∀ k : Key, Rep K H O (kV k) (keyV k)
  | .inl i => .int i
  | .inr x => .str x
theorem keyV_reps {O : Addr → Prop} : ∀ k : List Key, RepL K H O (k.map kV) (k.map keyV)
  | [] => .nil
  | k :: l => .cons (keyV_rep k) (keyV_reps l)
theorem RepG.notup (g : RepG K H F G) {q : Addr} {xs : List V} (h : H q = some (.tup xs)) : ¬ Own F G q := by
  rintro (z | ⟨o, z⟩ | ⟨b, ks, z⟩)
  · obtain ⟨⟨o, e, t⟩, _⟩ := g.hid q z
    rw [h] at e
    exact t xs (Option.some.inj e).symm
  · have r := g.ob q o z
    cases o with
    | lst ds => obtain ⟨_, e, _⟩ := r; rw [h] at e; cases e
    | dk ds => obtain ⟨_, e, _⟩ := r; rw [h] at e; cases e
    | dT ds => obtain ⟨_, e, _⟩ := r; rw [h] at e; cases e
    | ins C fs => obtain ⟨_, _, e, _⟩ := r; rw [h] at e; cases e
    | deck l ks => obtain ⟨_, _, e, _⟩ := r; rw [h] at e; cases ks <;> exact nomatch e
    | well n => obtain ⟨_, e, _⟩ := r; rw [h] at e; cases e
    | fK o ws kvs => have e := r.1; rw [h] at e; cases e
    | fT o ws kvs => have e := r.1; rw [h] at e; cases e
  · obtain ⟨_, _, _, _, e⟩ := g.ob b _ z
    rw [h] at e; cases e
theorem fst_at {κ α β : Type} {ws : List (κ × α)} {kvs : List (κ × β)} (h : ws.map Prod.fst = kvs.map Prod.fst) {i : Nat} {k : κ} {v : α} (e : ws[i]? = some (k, v)) : ∃ y, kvs[i]? = some (k, y) := by
  have e1 : (ws.map Prod.fst)[i]? = some k := by rw [List.getElem?_map, e]; rfl
  rw [h, List.getElem?_map] at e1
  obtain ⟨p, hp, e2⟩ := Option.map_eq_some_iff.mp e1
  exact ⟨p.2, by rw [hp, ← e2]⟩
theorem dwalk_fK {o : Obj} {ws : List (Key × V)} {kvs : List (Key × D)} : DWalk K F (Itk a o ws) (kvs.map fun kv => keyV kv.1) (fun G => G a = some (.fK o ws kvs)) G H := by
  refine ⟨fun i G1 H1 F1 hi gd rg st => ?_, fun G1 H1 F1 gd rg st => ?_, fun i G1 H1 F1 v H' hi gd rg st y => ?_⟩
  · obtain ⟨h, h2, r⟩ := rg.ob a _ gd
    have hl := congrArg List.length h2
    rw [List.length_map, List.length_map] at hl
    rw [List.length_map] at hi
    exact ⟨h, by omega⟩
  · obtain ⟨h, h2, r⟩ := rg.ob a _ gd
    have hl := congrArg List.length h2
    rw [List.length_map, List.length_map] at hl
    exact ⟨h, by rw [List.length_map]; omega⟩
  · obtain ⟨h, h2, r⟩ := rg.ob a _ gd
    obtain ⟨rfl, k, w, hk, rfl⟩ := y
    obtain ⟨z, hz⟩ := fst_at h2 hk
    exact ⟨keyV k, by rw [List.getElem?_map, hz]; rfl, Step.refl, rg, keyV_rep k⟩
theorem dwalk_fT {o : Obj} {ws : List (List Key × V)} {kvs : List (List Key × D)} : DWalk K F (Itkt a o ws) (kvs.map fun kv => .tup (kv.1.map keyV)) (fun G => G a = some (.fT o ws kvs)) G H := by
  refine ⟨fun i G1 H1 F1 hi gd rg st => ?_, fun G1 H1 F1 gd rg st => ?_, fun i G1 H1 F1 v H' hi gd rg st y => ?_⟩
  · obtain ⟨h, h2, r⟩ := rg.ob a _ gd
    have hl := congrArg List.length h2
    rw [List.length_map, List.length_map] at hl
    rw [List.length_map] at hi
    exact ⟨h, by omega⟩
  · obtain ⟨h, h2, r⟩ := rg.ob a _ gd
    have hl := congrArg List.length h2
    rw [List.length_map, List.length_map] at hl
    exact ⟨h, by rw [List.length_map]; omega⟩
  · obtain ⟨h, h2, r⟩ := rg.ob a _ gd
    obtain ⟨rfl, k, w, q, hk, rfl, hq⟩ := y
    obtain ⟨z, hz⟩ := fst_at h2 hk
    exact ⟨.tup (k.map keyV), by rw [List.getElem?_map, hz]; rfl, Step.refl, rg, .tup hq (rg.notup hq) (keyV_reps k)⟩
def iKeysD (te : DE) : DI := fun s G R => te s G fun d G1 => ∃ a, d = .ptr a ∧ ((∃ o ws kvs, G1 a = some (.fK o ws kvs) ∧ R (kvs.map fun kv => keyV kv.1) (fun G => G a = some (.fK o ws kvs)) G1) ∨
  ∃ o ws kvs, G1 a = some (.fT o ws kvs) ∧ R (kvs.map fun kv => .tup (kv.1.map keyV)) (fun G => G a = some (.fT o ws kvs)) G1)
theorem pid_keys {tg e : Expr} {te : DE} (he : PED X e te) : PID X tg e (iKeysD te) := by
  refine ⟨(pi_keys he.out).weak fun σ H R ⟨F, s, G, Q, rs, rg, q, p⟩ => ?_⟩
  refine ⟨F, s, G, _, rs, rg, q, fun d G1 x H1 st rx rg1 q1 => ?_⟩
  obtain ⟨a, rfl, q1⟩ := q1
  cases rx
  rcases q1 with ⟨o, ws, kvs, hg, q1⟩ | ⟨o, ws, kvs, hg, q1⟩
  · exact ⟨a, o, rfl, .inl ⟨ws, (rg1.ob a _ hg).1, p _ _ _ _ _ st rg1 dwalk_fK q1⟩⟩
  · exact ⟨a, o, rfl, .inr ⟨ws, (rg1.ob a _ hg).1, p _ _ _ _ _ st rg1 dwalk_fT q1⟩⟩
variable {Q : DK} {x y : Int} {v : D} {kT : List (List Key × D)} {kK : List (Key × D)} {e : D} {k : Key} {o : Obj} {wT : List (List Key × V)} {wK : List (Key × V)}
theorem st_ixFT (hg : G a = some (.fT o wT kT)) (hv : valP kT x y = some v) (q : Q v G) : dIx (.ptr a) (.tup [.int x, .int y]) G Q := by
  refine st_ix ?_ (fun z hz => nomatch hz) q
  show ixV G (.ptr a) (.tup [.int x, .int y]) = some v
  unfold ixV
  simp only [res, hg]
  exact hv
theorem st_ixFK (hg : G a = some (.fK o wK kK)) (hk : keyD e = some k) (hv : valD kK k = some v) (q : Q v G) : dIx (.ptr a) e G Q := by
  refine st_ix ?_ (fun z hz => nomatch hz) q
  unfold ixV
  simp only [res, hg, hk, Option.bind_some, hv]
end
end L2.Ew

set_option Elab.async false
set_option linter.all false
set_option maxRecDepth 100000
set_option maxHeartbeats 4000000
/-! min of the values of a dict by tuples. -/
namespace L2.Ew
open PySem PySem.Spec PySem.SeqAt PyProof.Rows
section
variable {prog : Program} {w : World} {A : Around} {E : Value → Shared → Prop} {s : Shared}
/-- a dict, told by its values -/
def VAt (h : Heap) (d : Addr) (vs : List Value) (ep : Nat) : Prop := ∃ o es, h.get? d = some o ∧ o.ExactDict ∧ o.data = .dict es ep ∧ es.toList.map (·.val) = vs
theorem VAt.at' {h h' : Heap} {a vs ep} (x : VAt h a vs ep) (e : ∀ o, h.get? a = some o → h'.get? a = some o) : VAt h' a vs ep := let ⟨o, es, ho, r⟩ := x; ⟨o, es, e _ ho, r⟩
theorem meets_vals (d : Addr) (hd : (d == sysModules) = false) :
    MeetsIn prog w (Builtin.«dict.values» ⟨[.ref d], []⟩) (fun _ R s => s.TypeIs (.ref d) "dict" ∧
      R (.ok (.ret (.ref s.heap.objs.size))) { s with heap := s.heap.push { cls := .type "dict_values", data := .fields #[.ref d] } }) :=
  .of_wp fun A R s ⟨hm, h⟩ => by
    refine wpAny_bind ?_
    unfold Builtin.Dict.noArgs
    refine wpAny_bind (wpAny_notOrdered_dict hm ?_)
    show wpAny _ _ (pure d) _ _ s
    refine wpAny_pure ?_
    show wpAny _ _ (Builtin.Dict.showsAll d >>= _) _ _ s
    unfold Builtin.Dict.showsAll
    rw [if_neg (by rw [hd]; exact Bool.false_ne_true)]
    refine wpAny_bind (wpAny_pure ?_)
    exact wpAny_bind (wpAny_newObj_type (wpAny_pure ⟨_, rfl, h⟩))
theorem iter_vals {v d : Addr} {vs : List Value} {ep : Nat} {Q : Value → Shared → Prop} (hv : s.heap.IsValuesView v d) (hm : VAt s.heap d vs ep)
    (hQ : Q (.ref s.heap.objs.size) { s with heap := s.heap.push { cls := .type "dict_valueiterator", data := .fields #[.ref d, .int 0 0, .int vs.length 0, .int ep 0] } }) :
    wpAny (model prog w) A (pyIter (.ref v)) Q E s := by
  obtain ⟨ov, hov, hcv, hdv⟩ := id hv
  obtain ⟨o, es, ho, hc, hdat, hp⟩ := id hm
  refine wpAny_pyIter_slot hv.typeIs F.slot_dict_values_iter (wpAny_call_entry F.slot_dict_values_iter hv.typeIs F.entry_dict_values_iter ?_ (F.args_dict_values_iter_1 _))
  unfold Builtin.«dict_values.__iter__»
  refine wpAny_bind (wpAny_pure ?_)
  refine wpAny_bind ?_
  unfold Builtin.Dict_items.dictOf
  refine wpAny_bind (wpAny_field hov hdv (x := .ref d) rfl (wpAny_pure ?_))
  refine wpAny_bind ?_
  unfold Builtin.Dict_items.newIterator
  refine wpAny_bind (wpAny_dictEntries ho hdat ?_)
  refine wpAny_bind (wpAny_dictEpoch ho hdat ?_)
  have hsz : es.size = vs.length := by rw [← hp, List.length_map]; simp
  have hown : Builtin.Dict_items.ownsTuple "dict_valueiterator" = false := by decide
  simp only [hown, Bool.false_eq_true, if_false]
  refine wpAny_newObj_type (wpAny_pure ⟨_, rfl, "dict_valueiterator", _, ⟨_, Heap.get?_push_size _ rfl, rfl⟩, F.slot_dict_valueiterator_next.lookup, ?_⟩)
  simpa [rawInt, hsz] using hQ
theorem next_val {it d : Addr} {i ep : Nat} {vs : List Value} {v : Value} {Q : Option Value → Shared → Prop} (hit : s.heap.IsValIter it d i vs.length ep)
    (hm : VAt s.heap d vs ep) (hx : vs[i]? = some v)
    (hQ : ∀ h', h'.IsValIter it d (i + 1) vs.length ep → Heap.SameBut it s.heap h' → Q (some v) { s with heap := h' }) :
    wpAny (model prog w) A (pyNext (.ref it)) Q E s := by
  obtain ⟨o, ho, hc, hd⟩ := id hit
  obtain ⟨od, es, hod, hcd, hdd, hp⟩ := id hm
  unfold pyNext
  refine wpAny_bind (wpAny_attempt (wpAny_callSpecial?_slot (name := Str.ofString "__next__") hit.typeIs F.slot_dict_valueiterator_next
    (wpAny_call_entry F.slot_dict_valueiterator_next hit.typeIs F.entry_dict_valueiterator_next ?_ (F.args_dict_valueiterator_next_1 _))))
  refine wpAny_bind (wpAny_pure ?_)
  refine wpAny_bind ?_
  refine wpAny_bind ?_
  first | refine wpAny_bind (wpAny_typeNameOfWhole_valiter hit.typeIs (wpAny_pure ?_)) | refine wpAny_bind (wpAny_typeNameOf_valiter hit.typeIs (wpAny_pure ?_))
  refine wpAny_bind (wpAny_fieldsOf ho hd ?_)
  have hown : Builtin.Dict_items.ownsTuple "dict_valueiterator" = false := by decide
  simp only [hown, Bool.false_eq_true, if_false]
  show wpAny _ _ (if (Value.ref d == Value.none) = true then _ else _) _ _ s
  rw [if_neg (show ¬ ((Value.ref d == Value.none) = true) from Bool.false_ne_true)]
  refine wpAny_bind (wpAny_pure ?_)
  refine wpAny_bind (wpAny_dictEntries hod hdd ?_)
  have hsz : es.size = vs.length := by rw [← hp, List.length_map]; simp
  rw [if_neg (by rw [hsz]; simp)]
  refine wpAny_bind (wpAny_pure ?_)
  refine wpAny_bind (wpAny_dictEpoch hod hdd ?_)
  rw [if_neg (by simp)]
  refine wpAny_pure ?_
  have hlt : i < vs.length := (List.getElem?_eq_some_iff.mp hx).1
  have hlt' : i < es.size := by rw [hsz]; exact hlt
  have hval : es[i].val = v := by
    have h1 := hx
    rw [← hp, List.getElem?_map, Array.getElem?_toList, Array.getElem?_eq_getElem hlt'] at h1
    simpa using h1
  simp only [show ¬ ((i : Int) < 0) from by omega, if_false, Int.toNat_natCast, Array.getElem?_eq_getElem hlt']
  refine wpAny_bind ?_
  first | refine wpAny_bind (wpAny_typeNameOfWhole_valiter hit.typeIs (wpAny_pure ?_)) | refine wpAny_bind (wpAny_typeNameOf_valiter hit.typeIs (wpAny_pure ?_))
  refine wpAny_bind (wpAny_isOneOf_valiter hit.typeIs ?_)
  show wpAny _ _ (setField (.ref it) 1 (rawInt ((i : Int) + 1)) >>= _) _ _ s
  refine wpAny_bind (wpAny_setField ho hd (by simp) ?_)
  have hit' : (s.heap.update it (Obj.mapFields (·.setIfInBounds 1 (rawInt ((i : Int) + 1))))).IsValIter it d (i + 1) vs.length ep :=
    ⟨_, Heap.get?_update_self _ ho (Obj.isFreed_of_fields (Obj.data_mapFields hd _)), (Obj.cls_mapFields ..).trans hc, by rw [Obj.data_mapFields hd]; simp [rawInt]⟩
  refine wpAny_bind (wpAny_holding ?_)
  refine wpAny_bind (wpAny_isOneOf_valiter (s := { s with heap := s.heap.update it (Obj.mapFields (·.setIfInBounds 1 (rawInt ((i : Int) + 1)))) }) hit'.typeIs ?_)
  refine wpAny_bind (wpAny_isOneOf_valiter (s := { s with heap := s.heap.update it (Obj.mapFields (·.setIfInBounds 1 (rawInt ((i : Int) + 1)))) }) hit'.typeIs ?_)
  show wpAny _ _ (pure es[i].val) _ _ _
  exact wpAny_pure (wpAny_pure ⟨_, rfl, wpAny_pure (hval ▸ hQ _ hit' (Heap.SameBut.update ..))⟩)
theorem next_vals_end {it d : Addr} {i ep : Nat} {vs : List Value} {Q : Option Value → Shared → Prop} (hh : A.handled = none) (hit : s.heap.IsValIter it d i vs.length ep)
    (hm : VAt s.heap d vs ep) (hx : vs.length ≤ i)
    (hQ : ∀ h', Heap.ExtBut it s.heap h' → Q none { s with heap := h' }) : wpAny (model prog w) A (pyNext (.ref it)) Q E s := by
  obtain ⟨o, ho, hc, hd⟩ := id hit
  obtain ⟨od, es, hod, hcd, hdd, hp⟩ := id hm
  unfold pyNext
  refine wpAny_bind (wpAny_attempt (wpAny_callSpecial?_slot (name := Str.ofString "__next__") hit.typeIs F.slot_dict_valueiterator_next
    (wpAny_call_entry F.slot_dict_valueiterator_next hit.typeIs F.entry_dict_valueiterator_next ?_ (F.args_dict_valueiterator_next_1 _))))
  refine wpAny_bind (wpAny_pure ?_)
  refine wpAny_bind ?_
  refine wpAny_bind ?_
  first | refine wpAny_bind (wpAny_typeNameOfWhole_valiter hit.typeIs (wpAny_pure ?_)) | refine wpAny_bind (wpAny_typeNameOf_valiter hit.typeIs (wpAny_pure ?_))
  refine wpAny_bind (wpAny_fieldsOf ho hd ?_)
  have hown : Builtin.Dict_items.ownsTuple "dict_valueiterator" = false := by decide
  simp only [hown, Bool.false_eq_true, if_false]
  show wpAny _ _ (if (Value.ref d == Value.none) = true then _ else _) _ _ s
  rw [if_neg (show ¬ ((Value.ref d == Value.none) = true) from Bool.false_ne_true)]
  refine wpAny_bind (wpAny_pure ?_)
  refine wpAny_bind (wpAny_dictEntries hod hdd ?_)
  have hsz : es.size = vs.length := by rw [← hp, List.length_map]; simp
  rw [if_neg (by rw [hsz]; simp)]
  refine wpAny_bind (wpAny_pure ?_)
  refine wpAny_bind (wpAny_dictEpoch hod hdd ?_)
  rw [if_neg (by simp)]
  refine wpAny_pure ?_
  have hge : es.size ≤ i := by rw [hsz]; exact hx
  simp only [show ¬ ((i : Int) < 0) from by omega, if_false, Int.toNat_natCast, Array.getElem?_eq_none hge]
  refine wpAny_bind ?_
  first | refine wpAny_bind (wpAny_typeNameOfWhole_valiter hit.typeIs (wpAny_pure ?_)) | refine wpAny_bind (wpAny_typeNameOf_valiter hit.typeIs (wpAny_pure ?_))
  show wpAny _ _ (setField (.ref it) 0 .none >>= _) _ _ s
  refine wpAny_bind (wpAny_setField ho hd (by simp) ?_)
  show wpAny _ _ (newExc (.type "StopIteration") [] >>= _) _ _ _
  refine wpAny_bind ?_
  simp only [newExc, newTuple]
  refine wpAny_bind (wpAny_newObj_type ?_ (by size_fits))
  refine wpAny_bind (m := firstArgMember _ _) (wpAny_of_eq (a := Value.none) (by first | rfl | (simp only [firstArgMember]; rfl)) ?_)
  refine wpAny_newObj_type ?_ (by size_fits)
  simp only [raiseNew]
  refine wpAny_bind (wpAny_handled ?_)
  rw [show A.in1.handled = none from hh]
  refine wpAny_bind (wpAny_pure (wpAny_throw ?_))
  refine wpAny_bind (wpAny_isInstance (T := "StopIteration") (b := true) ⟨_, Heap.get?_push_size _ rfl, rfl⟩ isSubtype_stop ?_)
  exact wpAny_pure (hQ _ (((Heap.SameBut.update ..).extBut.push _).push _))
theorem walks_vals (hh : A.handled = none) (I d : Addr) (hne : d ≠ I) (vs : List Value) (ep : Nat) :
    Walks prog w A I [I, d] [I] vs.length (fun i v => vs[i]? = some v) (fun i h => h.IsValIter I d i vs.length ep ∧ VAt h d vs ep) where
  sub := fun b hb => by simp at hb; simp [hb]
  frame := fun _ _ _ st hk => ⟨st.1.at fun o e => hk I (by simp) o e, st.2.at' fun o e => hk d (by simp) o e⟩
  item := fun i s Q E hi st hQ => by
    refine next_val st.1 st.2 (List.getElem?_eq_getElem hi) fun h' hit' hs' => ?_
    exact hQ _ h' s.toks (List.getElem?_eq_getElem hi) ⟨hit', st.2.at' fun o e => hs'.extBut d o hne e⟩ fun b o hb e => hs'.extBut b o (fun h => hb (by simp [h])) e
  done := fun s Q E st hQ => next_vals_end hh st.1 st.2 (Nat.le_refl _) fun h' he' => hQ h' s.toks fun b o hb e => he' b o (fun h => hb (by simp [h])) e
  self := fun _ _ _ _ st hQ => wpAny_pyIter_valiter st.1 hQ
end
section
variable {X : Cx}
/-- min(o.values()), a dict by tuples with int values, one at least -/
def tMinValsT (td : TE) : TE := fun σ H Q => td σ H fun x H1 => ∃ a kvs is, x = V.ref a ∧ H1 a = some (.dT kvs) ∧ kvs.map (·.2) = is.map V.int ∧ is ≠ [] ∧ ∀ m, m ∈ is → (∀ j ∈ is, m ≤ j) → Q (.int m) H1
variable {o : Expr} {p pos apos mpos : Pos} {td : TE}
theorem pe_minValsT (hc : X.calm = true) (hg : Gl X "min") (hm : X.mg "min" = none) (hd : PE X o td) (hbase : attributeBase o "values" X.env (eval o X.env) = eval o X.env := by rfl) (hline : (apos.endLine == mpos.line) = true := by rfl)
    (hse : starEach [Expr.Call (.Attribute o "values" apos) [] [] mpos] X.env = [(false, eval (Expr.Call (.Attribute o "values" apos) [] [] mpos) X.env)] := by rfl) :
    PE X (.Call (.Name "min" p) [.Call (.Attribute o "values" apos) [] [] mpos] [] pos) (tMinValsT td) := by
  refine ⟨fun pins s σ H Q I h => ?_⟩
  refine wpAny_Call_Name_kw (ld_blt I hg hm (u := .builtin "min") (by first | rfl | decide +kernel) ?_ (by first | decide +kernel | decide) (by first | decide +kernel | decide))
  rw [hse]
  refine PySem.callWith_builtin1 (wpAny_Call_method0_late hbase hline (thn (hd.run pins s σ H _ I h) fun v s1 ⟨x, H1, I1, r1, a, kvs, is, ex, ha, hv, hne, q⟩ => ?_))
  subst ex
  obtain rfl : v = Value.ref a := r1
  obtain ⟨_, hsys, xs, rel, ob, es, ep, ho, ex, hdat, hes, hnd⟩ := dt_of I1.hok ha
  have hvals : ∃ vs : List Value, es.toList.map (·.val) = vs ∧ vs = xs.map (·.2.2) := ⟨_, rfl, by rw [hes, List.map_map]; rfl⟩
  obtain ⟨vs, hvs, hvx⟩ := hvals
  refine ⟨"dict", "dict.values", F.plainAttrs_dict, F.slot_dict_values, F.type_dict_values, ⟨ob, ho, ex.1⟩, fun b e => ?_, Calls.callWith_builtin rfl (PySem.evalArgs_none ?_)⟩
  · cases e
    exact ⟨ob, ho, ex.2.1⟩
  refine call_meetsIn F.slot_dict_values ⟨ob, ho, ex.1⟩ F.entry_dict_values (F.args_dict_values_1 _) (meets_vals a hsys) ⟨⟨ob, ho, ex.1⟩, ?_⟩
  have k1 : ∀ b u, s1.heap.get? b = some u → (s1.heap.push { cls := .type "dict_values", data := .fields #[.ref a] }).get? b = some u := fun b u e => Heap.get?_push_of_some _ e
  have dat1 : VAt (s1.heap.push { cls := .type "dict_values", data := .fields #[.ref a] }) a vs ep := ⟨ob, es, k1 _ _ ho, ex, hdat, hvs⟩
  have hlx : xs.length = kvs.length := (Paired.length rel).symm
  have hlv : vs.length = is.length := by
    have e1 := congrArg List.length hv
    rw [List.length_map, List.length_map] at e1
    rw [hvx, List.length_map, hlx, e1]
  have hlen : 0 < vs.length := by
    rw [hlv]
    exact List.length_pos_iff.mpr hne
  have hval : ∀ (i : Nat) (v : Value), vs[i]? = some v → ∃ t, v = Value.int (is.getD i 0) t := fun i v hk => by
    have hi : i < vs.length := (List.getElem?_eq_some_iff.mp hk).1
    have hik : i < kvs.length := by rw [hvx, List.length_map] at hi; omega
    obtain ⟨y, h1, h2, h3, h4⟩ := paired_get rel (List.getElem?_eq_getElem hik)
    rw [hvx, List.getElem?_map, h1] at hk
    have e1 : (kvs.map (·.2))[i]? = some kvs[i].2 := by rw [List.getElem?_map, List.getElem?_eq_getElem hik]; rfl
    rw [hv, List.getElem?_map] at e1
    obtain ⟨j, hj, e2⟩ := Option.map_eq_some_iff.mp e1
    rw [← e2] at h4
    obtain ⟨t, e3⟩ := h4
    refine ⟨t, ?_⟩
    have e4 : y.2.2 = v := Option.some.inj hk
    rw [← e4, e3, List.getD_eq_getElem?_getD, hj] <;> rfl
  refine call_min_walk (iter_vals (v := s1.heap.objs.size) (d := a) ⟨_, Heap.get?_push_size _ rfl, rfl, rfl⟩ dat1 ?_)
  have hlt : a < s1.heap.objs.size := Heap.lt_size ho
  have hsz : (s1.heap.push { cls := .type "dict_values", data := .fields #[.ref a] }).objs.size = s1.heap.objs.size + 1 := Heap.size_push _ _
  refine ⟨_, _, _, _, _, _, _, rfl, walks_vals (A := X.A.in1) (I.ok.hd hc) (s1.heap.push { cls := .type "dict_values", data := .fields #[.ref a] }).objs.size a (by rw [hsz]; exact Nat.ne_of_lt (Nat.lt_succ_of_lt hlt)) vs ep,
    ⟨⟨_, Heap.get?_push_size _ rfl, rfl, rfl⟩, dat1.at' fun u e => Heap.get?_push_of_some _ e⟩, fun b hb => ?_, hlen, CmpOf.ints_lt (fun i => is.getD i 0) hval, fun v h' tk hP hk => ?_⟩
  · show b < ((s1.heap.push _).push _).objs.size
    rw [Heap.size_push, Heap.size_push]
    rw [hsz] at hb
    rcases List.mem_cons.mp hb with e | hb
    · rw [e]
      exact Nat.lt_succ_self _
    · have e : b = a := List.mem_singleton.mp hb
      rw [e]
      exact Nat.lt_succ_of_lt (Nat.lt_succ_of_lt hlt)
  · obtain ⟨t, rfl⟩ := hval _ v hP
    obtain ⟨b1, b2⟩ := argBest_lt (fun i => is.getD i 0) (vs.length - 1)
    refine ⟨.int _, H1, I1.kept (t' := tk) fun b u e => hk b u (fun hmem => ?_) (Heap.get?_push_of_some _ (k1 b u e)), ⟨t, rfl⟩, q _ ?_ fun j hj => ?_⟩
    · have e1 : b = (s1.heap.push { cls := .type "dict_values", data := .fields #[.ref a] }).objs.size := List.mem_singleton.mp hmem
      have e2 := Heap.lt_size e
      rw [hsz] at e1
      rw [e1] at e2
      exact absurd e2 (Nat.not_lt.mpr (Nat.le_succ _))
    · have hb : argBest (fun i j => decide (is.getD i 0 < is.getD j 0)) (vs.length - 1) < is.length := by omega
      rw [List.getD_eq_getElem?_getD, List.getElem?_eq_getElem hb]
      exact List.getElem_mem hb
    · obtain ⟨i, hi, e⟩ := List.mem_iff_getElem.mp hj
      have e2 : is.getD i 0 = j := by rw [List.getD_eq_getElem?_getD, List.getElem?_eq_getElem hi, ← e] <;> rfl
      rw [← e2]
      exact b2 i (by omega)
def dMinVT (te : DE) : DE := fun s G Q => te s G fun d G1 => ∃ a kvs is, d = .ptr a ∧ G1 a = some (.dT kvs) ∧ kvs.map Prod.snd = is.map D.int ∧ is ≠ [] ∧ ∀ m, m ∈ is → (∀ j ∈ is, m ≤ j) → Q (.int m) G1
theorem ped_minVT {te : DE} (hc : X.calm = true) (hg : Gl X "min") (hm : X.mg "min" = none) (hd : PED X o te) (hbase : attributeBase o "values" X.env (eval o X.env) = eval o X.env := by rfl) (hline : (apos.endLine == mpos.line) = true := by rfl)
    (hse : starEach [Expr.Call (.Attribute o "values" apos) [] [] mpos] X.env = [(false, eval (Expr.Call (.Attribute o "values" apos) [] [] mpos) X.env)] := by rfl) :
    PED X (.Call (.Name "min" p) [.Call (.Attribute o "values" apos) [] [] mpos] [] pos) (dMinVT te) := by
  refine ⟨(pe_minValsT hc hg hm hd.out hbase hline hse).weak fun σ H Q ⟨F, s, G, R, rs, rg, q, p⟩ => ?_⟩
  refine ⟨F, s, G, _, rs, rg, q, fun d G1 x H1 st rx rg1 ⟨a, kvs, is, e, ha, hv, hne, q1⟩ => ?_⟩
  subst e
  cases rx
  obtain ⟨ws, h, h2, r⟩ := rg1.ob a _ ha
  refine ⟨a, ws, is, rfl, h, ?_, hne, fun m hm hj => p _ _ _ _ st (.int m) rg1 (q1 m hm hj)⟩
  rw [hv] at r
  exact r.ints_of
def minVK (Q : DK) (d : D) (G1 : DH) : Prop := ∃ a kvs is, d = .ptr a ∧ G1 a = some (.dT kvs) ∧ kvs.map Prod.snd = is.map D.int ∧ is ≠ [] ∧ ∀ m, m ∈ is → (∀ j ∈ is, m ≤ j) → Q (.int m) G1
def keysK (R : List D → (DH → Prop) → DH → Prop) (d : D) (G1 : DH) : Prop := ∃ a, d = .ptr a ∧ ((∃ o ws kvs, G1 a = some (.fK o ws kvs) ∧ R (kvs.map fun kv => keyV kv.1) (fun G => G a = some (.fK o ws kvs)) G1) ∨
  ∃ o ws kvs, G1 a = some (.fT o ws kvs) ∧ R (kvs.map fun kv => .tup (kv.1.map keyV)) (fun G => G a = some (.fT o ws kvs)) G1)
variable {te : DE} {s : DS} {G : DH} {Q : DK} {R : List D → (DH → Prop) → DH → Prop} {a : Addr} {kT : List (List Key × D)} {kK : List (Key × D)} {is : List Int} {t : DT} {D0 : DEnds} {ob : Obj} {wT : List (List Key × V)} {wK : List (Key × V)}
instance : Stp (dMinVT te s G Q) (te s G fun d G1 => minVK Q d G1) := ⟨id⟩
instance : Stp (iKeysD te s G R) (te s G fun d G1 => keysK R d G1) := ⟨id⟩
theorem st_minVT (hg : G a = some (.dT kT)) (hv : kT.map Prod.snd = is.map D.int) (hn : is ≠ []) (q : ∀ m, m ∈ is → (∀ j ∈ is, m ≤ j) → Q (.int m) G) : minVK Q (.ptr a) G := ⟨a, kT, is, rfl, hg, hv, hn, q⟩
theorem st_keysT (hg : G a = some (.fT ob wT kT)) (q : R (kT.map fun kv => .tup (kv.1.map keyV)) (fun G => G a = some (.fT ob wT kT)) G) : keysK R (.ptr a) G := ⟨a, rfl, .inr ⟨ob, wT, kT, hg, q⟩⟩
theorem st_keysK (hg : G a = some (.fK ob wK kK)) (q : R (kK.map fun kv => keyV kv.1) (fun G => G a = some (.fK ob wK kK)) G) : keysK R (.ptr a) G := ⟨a, rfl, .inl ⟨ob, wK, kK, hg, q⟩⟩
theorem st_lockT (a : Addr) {kvs : List (List Key × D)} (hg : G a = some (.dT kvs)) (q : ∀ ob ws, t (lkE D0 a (.fT ob ws kvs) (.dT kvs)) s (uG G a (.fT ob ws kvs))) : dLock t D0 s G := ⟨a, .inr ⟨kvs, hg, q⟩⟩
theorem st_lockK (a : Addr) {kvs : List (Key × D)} (hg : G a = some (.dk kvs)) (q : ∀ ob ws, t (lkE D0 a (.fK ob ws kvs) (.dk kvs)) s (uG G a (.fK ob ws kvs))) : dLock t D0 s G := ⟨a, .inl ⟨kvs, hg, q⟩⟩
end
end L2.Ew

set_option Elab.async false
set_option linter.all false
set_option maxRecDepth 100000
set_option maxHeartbeats 4000000
namespace L2.Ew.Law
open PySem PySem.Spec PySem.SeqAt PyProof.Rows
def topS (i : Nat) : Stmt := PySem.Challenge.pw_evenwires_k19_whole_rows_on_small_street.main.body.getD i (.Pass ⟨0, 0, 0, 0⟩)
abbrev s_spot_of : Stmt := topS 1
abbrev s_grown : Stmt := topS 2
abbrev s_met : Stmt := topS 3
abbrev s_apart : Stmt := topS 4
abbrev s_has : Stmt := topS 5
abbrev s_steps : Stmt := topS 7
abbrev s_wanted : Stmt := topS 10
abbrev s_box_of_end : Stmt := topS 11
abbrev s_row_of : Stmt := topS 12
abbrev s_joined : Stmt := topS 13
abbrev s_rows_of : Stmt := topS 14
abbrev s__law_deck : Stmt := topS 16
abbrev s__law_draw : Stmt := topS 17
abbrev s__law_ends : Stmt := topS 18
abbrev s__law_joining : Stmt := topS 19
abbrev s__law_beneath : Stmt := topS 20
abbrev s__law_radius : Stmt := topS 21
abbrev s__law_want : Stmt := topS 22
abbrev s__law_heights : Stmt := topS 23
abbrev s__law_right : Stmt := topS 24
abbrev s_law : Stmt := topS 25
structure Mods (K : PySem.W.Frag) (mg : Str → Option Value) : Prop where
  d_spot_of : DefAt K mg "spot_of" s_spot_of
  d_grown : DefAt K mg "grown" s_grown
  d_met : DefAt K mg "met" s_met
  d_apart : DefAt K mg "apart" s_apart
  d_has : DefAt K mg "has" s_has
  d_steps : DefAt K mg "steps" s_steps
  d_wanted : DefAt K mg "wanted" s_wanted
  d_box_of_end : DefAt K mg "box_of_end" s_box_of_end
  d_row_of : DefAt K mg "row_of" s_row_of
  d_joined : DefAt K mg "joined" s_joined
  d_rows_of : DefAt K mg "rows_of" s_rows_of
  d__law_deck : DefAt K mg "_law_deck" s__law_deck
  d__law_draw : DefAt K mg "_law_draw" s__law_draw
  d__law_ends : DefAt K mg "_law_ends" s__law_ends
  d__law_joining : DefAt K mg "_law_joining" s__law_joining
  d__law_beneath : DefAt K mg "_law_beneath" s__law_beneath
  d__law_radius : DefAt K mg "_law_radius" s__law_radius
  d__law_want : DefAt K mg "_law_want" s__law_want
  d__law_heights : DefAt K mg "_law_heights" s__law_heights
  d__law_right : DefAt K mg "_law_right" s__law_right
  d_law : DefAt K mg "law" s_law
  b_abs : mg "abs" = none
  b_enumerate : mg "enumerate" = none
  b_int : mg "int" = none
  b_len : mg "len" = none
  b_list : mg "list" = none
  b_max : mg "max" = none
  b_min : mg "min" = none
  b_range : mg "range" = none
  b_sorted : mg "sorted" = none
  b_tuple : mg "tuple" = none
  c_HALF : ∀ X : Cx, X.mg = mg → GC X "HALF" (.int (2))
local macro_rules | `(tactic| walk_at "ps") => `(tactic| simp only [putS, List.set_cons_zero, List.set_cons_succ])
local macro_rules | `(tactic| walk_at "sd") => `(tactic| first | assumption | exact uG_same | omega | decide | (constructor <;> omega) | (simp only [List.length_reverse, List.length_drop, List.length_take, List.length_append, List.length_map, List.length_zipIdx, upto_len, List.length_cons, List.length_nil, List.length_zip, List.length_range]; omega))
local macro_rules | `(tactic| walk_at "dk") => `(tactic| first | assumption | exact uG_keep (by assumption) (by assumption) | exact uG_keep (by assumption) (uG_keep (by assumption) (by assumption)) | (rw [uG_ne (by assumption)]; assumption))
local macro_rules | `(tactic| walk_at "ls") => `(tactic| first | (with_unfolding_all exact rfl) | exact res_ptr (by assumption) | exact res_ptr uG_same)
local macro_rules | `(tactic| walk_at "lg") => `(tactic| first | assumption | exact uG_same)
local macro_rules | `(tactic| walk_at "sc") => `(tactic| first | walk_at "sd" | walk_at "dk")
local macro_rules | `(tactic| walk_at "pl") => `(tactic| first | exact plain_ints _ | exact plain_map (fun _ => rfl) _ | assumption)
local macro_rules | `(tactic| walk_at "sl") => `(tactic| first | omega | (simp only [List.length_reverse, List.length_drop, List.length_take, List.length_append, List.length_map, List.length_cons, List.length_nil, upto_len]; omega) | exact Nat.le_trans (Nat.add_le_add (cutL_len _ _ _) (cutL_len _ _ _)) (by omega))

abbrev dkl : List Str := ["at", "rest", "seed"]
abbrev dks : DkS := .d dkl
section
variable {P : Program} {w : World} {K : PySem.W.Frag} {mg : Str → Option Value} {base : Heap}
/-! ### spot_of -/
def sp_spot_of : DSp := fun ds G R _ => ∃ g x y : Int, ds = [.int g, .int x, .int y] ∧ (0 < g ∧ g ≤ 1000000000000000) ∧ R (.tup [.int (g * (x + y)), .int (g * (x - y))]) G
theorem st_spot_of {G : DH} {R : DK} {X : XD} {g x y : Int} (zh0 : (0 < g ∧ g ≤ 1000000000000000)) (zq : R (.tup [.int (g * (x + y)), .int (g * (x - y))]) G) : sp_spot_of [.int g, .int x, .int y] G R X := ⟨g, x, y, rfl, zh0, zq⟩
abbrev N_spot_of : List Str := ["grain", "x", "y"]
theorem sc_spot_of : FnScope N_spot_of ["grain", "x", "y"] (defScope s_spot_of) := ⟨rfl, rfl, rfl, by decide +kernel, rfl, by decide +kernel, by decide +kernel⟩
def t_spot_of : DT := dRet (dTup (aCons (dBin oMul (dVar 0) (dBin oAdd (dVar 1) (dVar 2))) (aCons (dBin oMul (dVar 0) (dBin oSub (dVar 1) (dVar 2))) (aNil))))
theorem body_spot_of (T : Mods K mg) (f : Addr) (cdv : Value) (A : Around) (outer : List Env) (s : Shared) (H : Hp) (E : XK) (hr : Room 0 (A.deeper (envOfC "spot_of" (defScope s_spot_of) s.heap.objs.size f cdv))) : PSsD (cxOf CX0 P w K mg base N_spot_of "spot_of" (defScope s_spot_of) f cdv A outer s H E).nox (defBody s_spot_of) t_spot_of :=
  pssd_one (psd_ret (ped_tup (pad_cons (ped_op odMul (dv 0) (ped_op odAdd (dv 1) (dv 2))) (pad_cons (ped_op odMul (dv 0) (ped_op odSub (dv 1) (dv 2))) (pad_nil)))))
theorem ds_spot_of (d0 : D) (d1 : D) (d2 : D) : dstart N_spot_of [d0, d1, d2] = [some d0, some d1, some d2] := rfl
set_option hygiene false in
local macro_rules | `(tactic| walk_at "st") => `(tactic| repeat (first
  | (refine Stp.out ?_)
  | (with_reducible apply st_var; (with_unfolding_all exact rfl))
  | (with_reducible apply st_ixT; (with_unfolding_all exact rfl))
  | (with_reducible apply st_len5; (with_unfolding_all exact Nat.le_of_ble_eq_true rfl))
  | (with_reducible apply st_len; (with_unfolding_all exact Nat.le_of_ble_eq_true rfl))
  | (with_reducible apply st_mulI; (first | (left; constructor <;> omega) | (right; constructor <;> omega)))
  | (with_reducible apply st_ixL; (first | (with_unfolding_all exact rfl) | exact res_ptr (by assumption) | exact res_ptr uG_same); (with_unfolding_all exact rfl))
  | (with_reducible apply st_fdiv; (first | omega | decide); (first | omega | decide)) | (with_reducible apply st_mod; (first | omega | decide))
  | (with_reducible first | refine st_p3 ?_ | refine st_p5 ?_ | refine st_p6 ?_ | refine st_p7 ?_ | refine st_p8 ?_ | refine st_p9 ?_ | refine st_p10 ?_ | refine st_p12 ?_ | refine st_p15 ?_ | refine st_p18 ?_)
  | (with_reducible apply st_gU; (with_unfolding_all exact rfl)) | (with_reducible apply st_gUL; (first | (with_unfolding_all exact rfl) | exact res_ptr (by assumption) | exact res_ptr uG_same); (with_unfolding_all exact rfl))
  | (with_reducible apply st_is; (with_unfolding_all exact rfl)) | (with_reducible apply st_isNot; (with_unfolding_all exact rfl))
  | (with_reducible apply st_isiT; (with_unfolding_all exact rfl); (simp); (decide)) | (with_reducible apply st_isiF; (with_unfolding_all exact rfl); (simp); (decide))
  | (with_reducible apply st_rgK1; (omega); (omega)) | (with_reducible apply st_rgK2; (omega); (omega); (omega); (omega))
  | (with_reducible apply st_sum; (first | (with_unfolding_all exact rfl) | exact res_ptr (by assumption) | exact res_ptr uG_same); (first | exact intsD_map _ | with_unfolding_all exact rfl))
  | (with_reducible apply st_bools; (first | (with_unfolding_all exact rfl) | exact res_ptr (by assumption) | exact res_ptr uG_same); (first | exact boolsD_map _ | with_unfolding_all exact rfl))
  | (with_reducible apply st_tupL; (first | exact res_ptr (by assumption) | exact res_ptr uG_same)) | (with_reducible apply st_lenL; (first | exact res_ptr (by assumption) | exact res_ptr uG_same)) | (with_reducible apply st_slL; (first | exact res_ptr (by assumption) | exact res_ptr uG_same)) | (with_reducible apply st_lsKL; (first | exact res_ptr (by assumption) | exact res_ptr uG_same))
  | (with_reducible apply st_sqP; (first | assumption | exact uG_same))))

theorem sem_spot_of : ∀ ds G R X, sp_spot_of ds G R X → ds.length = 3 ∧ t_spot_of { nx := fun _ G' => RetOk R .non G', rt := RetOk R } (dstart N_spot_of ds) G := by
  rintro ds G R X ⟨g, x, y, rfl, ⟨g0, g1⟩, h⟩
  refine ⟨rfl, ?_⟩
  simp only [t_spot_of, ds_spot_of]
  walk_at "st"
  exact .same h
theorem fn_spot_of (T : Mods K mg) : FnD P w K mg base CX0 1 "spot_of" sp_spot_of := fnd_mk T.d_spot_of sc_spot_of (fun _ _ _ _ _ _ us hl => match us, hl with | [_, _, _], _ => rfl) (body_spot_of T) sem_spot_of
/-! ### grown -/
def grB (p : Bx) (k : Int) : Bx := ⟨p.a - k, p.b + k, p.c - k, p.d + k⟩
def sp_grown : DSp := fun ds G R _ => ∃ (p : Bx) (k : Int), ds = [bD p, .int k] ∧ R (bD (grB p k)) G
theorem grB_zero (p : Bx) : grB p 0 = p := by unfold grB; cases p; simp
theorem grB_more (p : Bx) (j k : Int) : grB (grB p j) k = grB p (j + k) := by unfold grB; simp only [Bx.mk.injEq]; omega
theorem st_grown {G : DH} {R : DK} {X : XD} {p : Bx} {k : Int}  (zq : R (bD (grB p k)) G) : sp_grown [bD p, .int k] G R X := ⟨p, k, rfl, zq⟩
abbrev N_grown : List Str := ["box", "by"]
theorem sc_grown : FnScope N_grown ["box", "by"] (defScope s_grown) := ⟨rfl, rfl, rfl, by decide +kernel, rfl, by decide +kernel, by decide +kernel⟩
def t_grown : DT := dRet (dTup (aCons (dBin oSub (dBin dIx (dVar 0) (dC (.int 0))) (dVar 1)) (aCons (dBin oAdd (dBin dIx (dVar 0) (dC (.int 1))) (dVar 1)) (aCons (dBin oSub (dBin dIx (dVar 0) (dC (.int 2))) (dVar 1)) (aCons (dBin oAdd (dBin dIx (dVar 0) (dC (.int 3))) (dVar 1)) (aNil))))))
theorem body_grown (T : Mods K mg) (f : Addr) (cdv : Value) (A : Around) (outer : List Env) (s : Shared) (H : Hp) (E : XK) (hr : Room 0 (A.deeper (envOfC "grown" (defScope s_grown) s.heap.objs.size f cdv))) : PSsD (cxOf CX0 P w K mg base N_grown "grown" (defScope s_grown) f cdv A outer s H E).nox (defBody s_grown) t_grown :=
  pssd_one (psd_ret (ped_tup (pad_cons (ped_op odSub (ped_ix (ixd (hu_of hr)) (dv 0) (ped_int)) (dv 1)) (pad_cons (ped_op odAdd (ped_ix (ixd (hu_of hr)) (dv 0) (ped_int)) (dv 1)) (pad_cons (ped_op odSub (ped_ix (ixd (hu_of hr)) (dv 0) (ped_int)) (dv 1)) (pad_cons (ped_op odAdd (ped_ix (ixd (hu_of hr)) (dv 0) (ped_int)) (dv 1)) (pad_nil)))))))
theorem ds_grown (d0 : D) (d1 : D) : dstart N_grown [d0, d1] = [some d0, some d1] := rfl
set_option hygiene false in
local macro_rules | `(tactic| walk_at "st") => `(tactic| repeat (first
  | (refine Stp.out ?_)
  | (with_reducible apply st_var; (with_unfolding_all exact rfl))
  | (with_reducible apply st_ixT; (with_unfolding_all exact rfl))
  | (with_reducible apply st_len5; (with_unfolding_all exact Nat.le_of_ble_eq_true rfl))
  | (with_reducible apply st_len; (with_unfolding_all exact Nat.le_of_ble_eq_true rfl))
  | (with_reducible apply st_mulI; (first | (left; constructor <;> omega) | (right; constructor <;> omega)))
  | (with_reducible apply st_ixL; (first | (with_unfolding_all exact rfl) | exact res_ptr (by assumption) | exact res_ptr uG_same); (with_unfolding_all exact rfl))
  | (with_reducible apply st_fdiv; (first | omega | decide); (first | omega | decide)) | (with_reducible apply st_mod; (first | omega | decide))
  | (with_reducible first | refine st_p3 ?_ | refine st_p5 ?_ | refine st_p6 ?_ | refine st_p7 ?_ | refine st_p8 ?_ | refine st_p9 ?_ | refine st_p10 ?_ | refine st_p12 ?_ | refine st_p15 ?_ | refine st_p18 ?_)
  | (with_reducible apply st_gU; (with_unfolding_all exact rfl)) | (with_reducible apply st_gUL; (first | (with_unfolding_all exact rfl) | exact res_ptr (by assumption) | exact res_ptr uG_same); (with_unfolding_all exact rfl))
  | (with_reducible apply st_is; (with_unfolding_all exact rfl)) | (with_reducible apply st_isNot; (with_unfolding_all exact rfl))
  | (with_reducible apply st_isiT; (with_unfolding_all exact rfl); (simp); (decide)) | (with_reducible apply st_isiF; (with_unfolding_all exact rfl); (simp); (decide))
  | (with_reducible apply st_rgK1; (omega); (omega)) | (with_reducible apply st_rgK2; (omega); (omega); (omega); (omega))
  | (with_reducible apply st_sum; (first | (with_unfolding_all exact rfl) | exact res_ptr (by assumption) | exact res_ptr uG_same); (first | exact intsD_map _ | with_unfolding_all exact rfl))
  | (with_reducible apply st_bools; (first | (with_unfolding_all exact rfl) | exact res_ptr (by assumption) | exact res_ptr uG_same); (first | exact boolsD_map _ | with_unfolding_all exact rfl))
  | (with_reducible apply st_tupL; (first | exact res_ptr (by assumption) | exact res_ptr uG_same)) | (with_reducible apply st_lenL; (first | exact res_ptr (by assumption) | exact res_ptr uG_same)) | (with_reducible apply st_slL; (first | exact res_ptr (by assumption) | exact res_ptr uG_same)) | (with_reducible apply st_lsKL; (first | exact res_ptr (by assumption) | exact res_ptr uG_same))
  | (with_reducible apply st_sqP; (first | assumption | exact uG_same))))

theorem sem_grown : ∀ ds G R X, sp_grown ds G R X → ds.length = 2 ∧ t_grown { nx := fun _ G' => RetOk R .non G', rt := RetOk R } (dstart N_grown ds) G := by
  rintro ds G R X ⟨p, k, rfl, h⟩
  refine ⟨rfl, ?_⟩
  simp only [t_grown, ds_grown]
  walk_at "st"
  exact .same h
theorem fn_grown (T : Mods K mg) : FnD P w K mg base CX0 1 "grown" sp_grown := fnd_mk T.d_grown sc_grown (fun _ _ _ _ _ _ us hl => match us, hl with | [_, _], _ => rfl) (body_grown T) sem_grown
/-! ### met -/
def sp_met : DSp := fun ds G R _ => ∃ p q : Bx, ds = [bD p, bD q] ∧ R (bO (metB p q)) G
theorem st_met {G : DH} {R : DK} {X : XD} {p q : Bx}  (zq : R (bO (metB p q)) G) : sp_met [bD p, bD q] G R X := ⟨p, q, rfl, zq⟩
abbrev N_met : List Str := ["box", "other", "both"]
theorem sc_met : FnScope N_met ["box", "other"] (defScope s_met) := ⟨rfl, rfl, rfl, by decide +kernel, rfl, by decide +kernel, by decide +kernel⟩
def t_met : DT := dSeq (dAsg (dTup (aCons (dCall cMax2 (aCons (dBin dIx (dVar 0) (dC (.int 0))) (aCons (dBin dIx (dVar 1) (dC (.int 0))) (aNil)))) (aCons (dCall cMin2 (aCons (dBin dIx (dVar 0) (dC (.int 1))) (aCons (dBin dIx (dVar 1) (dC (.int 1))) (aNil)))) (aCons (dCall cMax2 (aCons (dBin dIx (dVar 0) (dC (.int 2))) (aCons (dBin dIx (dVar 1) (dC (.int 2))) (aNil)))) (aCons (dCall cMin2 (aCons (dBin dIx (dVar 0) (dC (.int 3))) (aCons (dBin dIx (dVar 1) (dC (.int 3))) (aNil)))) (aNil)))))) (gN 2))
    (dSeq (dIfS (dOr (dTest (dBin oGt (dBin dIx (dVar 2) (dC (.int 0))) (dBin dIx (dVar 2) (dC (.int 1))))) (dTest (dBin oGt (dBin dIx (dVar 2) (dC (.int 2))) (dBin dIx (dVar 2) (dC (.int 3)))))) (dRet (dC .non)) (dNext))
    (dRet (dVar 2)))
theorem body_met (T : Mods K mg) (f : Addr) (cdv : Value) (A : Around) (outer : List Env) (s : Shared) (H : Hp) (E : XK) (hr : Room 0 (A.deeper (envOfC "met" (defScope s_met) s.heap.objs.size f cdv))) : PSsD (cxOf CX0 P w K mg base N_met "met" (defScope s_met) f cdv A outer s H E).nox (defBody s_met) t_met :=
  pssd_cons (psd_set (i := 2) sc_met.nd rfl (Or.inl rfl) (ped_tup (pad_cons (ped_callB (cdMax2 rfl) rfl T.b_max (by decide +kernel) (pad_cons (ped_ix (ixd (hu_of hr)) (dv 0) (ped_int)) (pad_cons (ped_ix (ixd (hu_of hr)) (dv 1) (ped_int)) (pad_nil)))) (pad_cons (ped_callB (cdMin2 rfl) rfl T.b_min (by decide +kernel) (pad_cons (ped_ix (ixd (hu_of hr)) (dv 0) (ped_int)) (pad_cons (ped_ix (ixd (hu_of hr)) (dv 1) (ped_int)) (pad_nil)))) (pad_cons (ped_callB (cdMax2 rfl) rfl T.b_max (by decide +kernel) (pad_cons (ped_ix (ixd (hu_of hr)) (dv 0) (ped_int)) (pad_cons (ped_ix (ixd (hu_of hr)) (dv 1) (ped_int)) (pad_nil)))) (pad_cons (ped_callB (cdMin2 rfl) rfl T.b_min (by decide +kernel) (pad_cons (ped_ix (ixd (hu_of hr)) (dv 0) (ped_int)) (pad_cons (ped_ix (ixd (hu_of hr)) (dv 1) (ped_int)) (pad_nil)))) (pad_nil)))))))
      (pssd_cons (psd_if (PTD.pw (pwd_or (ptd_cmp odGt (ped_ix (ixd (hu_of hr)) (dv 2) (ped_int)) (ped_ix (ixd (hu_of hr)) (dv 2) (ped_int))) (pwd_or1 (ptd_cmp odGt (ped_ix (ixd (hu_of hr)) (dv 2) (ped_int)) (ped_ix (ixd (hu_of hr)) (dv 2) (ped_int)))))) (pssd_one (psd_ret (ped_non))) (pssd_nil))
      (pssd_one (psd_ret (dv 2))))
theorem ds_met (d0 : D) (d1 : D) : dstart N_met [d0, d1] = [some d0, some d1, none] := rfl
set_option hygiene false in
local macro_rules | `(tactic| walk_at "st") => `(tactic| repeat (first
  | (refine Stp.out ?_)
  | (with_reducible apply st_var; (with_unfolding_all exact rfl))
  | (with_reducible apply st_ixT; (with_unfolding_all exact rfl))
  | (with_reducible apply st_len5; (with_unfolding_all exact Nat.le_of_ble_eq_true rfl))
  | (with_reducible apply st_len; (with_unfolding_all exact Nat.le_of_ble_eq_true rfl))
  | (with_reducible apply st_mulI; (first | (left; constructor <;> omega) | (right; constructor <;> omega)))
  | (with_reducible apply st_ixL; (first | (with_unfolding_all exact rfl) | exact res_ptr (by assumption) | exact res_ptr uG_same); (with_unfolding_all exact rfl))
  | (with_reducible apply st_fdiv; (first | omega | decide); (first | omega | decide)) | (with_reducible apply st_mod; (first | omega | decide))
  | (with_reducible first | refine st_p3 ?_ | refine st_p5 ?_ | refine st_p6 ?_ | refine st_p7 ?_ | refine st_p8 ?_ | refine st_p9 ?_ | refine st_p10 ?_ | refine st_p12 ?_ | refine st_p15 ?_ | refine st_p18 ?_)
  | (with_reducible apply st_gU; (with_unfolding_all exact rfl)) | (with_reducible apply st_gUL; (first | (with_unfolding_all exact rfl) | exact res_ptr (by assumption) | exact res_ptr uG_same); (with_unfolding_all exact rfl))
  | (with_reducible apply st_is; (with_unfolding_all exact rfl)) | (with_reducible apply st_isNot; (with_unfolding_all exact rfl))
  | (with_reducible apply st_isiT; (with_unfolding_all exact rfl); (simp); (decide)) | (with_reducible apply st_isiF; (with_unfolding_all exact rfl); (simp); (decide))
  | (with_reducible apply st_rgK1; (omega); (omega)) | (with_reducible apply st_rgK2; (omega); (omega); (omega); (omega))
  | (with_reducible apply st_sum; (first | (with_unfolding_all exact rfl) | exact res_ptr (by assumption) | exact res_ptr uG_same); (first | exact intsD_map _ | with_unfolding_all exact rfl))
  | (with_reducible apply st_bools; (first | (with_unfolding_all exact rfl) | exact res_ptr (by assumption) | exact res_ptr uG_same); (first | exact boolsD_map _ | with_unfolding_all exact rfl))
  | (with_reducible apply st_tupL; (first | exact res_ptr (by assumption) | exact res_ptr uG_same)) | (with_reducible apply st_lenL; (first | exact res_ptr (by assumption) | exact res_ptr uG_same)) | (with_reducible apply st_slL; (first | exact res_ptr (by assumption) | exact res_ptr uG_same)) | (with_reducible apply st_lsKL; (first | exact res_ptr (by assumption) | exact res_ptr uG_same))
  | (with_reducible apply st_sqP; (first | assumption | exact uG_same))))

theorem sem_met : ∀ ds G R X, sp_met ds G R X → ds.length = 2 ∧ t_met { nx := fun _ G' => RetOk R .non G', rt := RetOk R } (dstart N_met ds) G := by
  rintro ds G R X ⟨p, q, rfl, h⟩
  refine ⟨rfl, ?_⟩
  simp only [t_met, ds_met]
  walk_at "st"
  refine iteD (fun c => ?_) (fun c => ?_)
  · walk_at "st"
    have e : metB p q = none := if_pos (.inl c)
    rw [e] at h
    exact .same h
  walk_at "st"
  refine iteD (fun c2 => ?_) (fun c2 => ?_)
  · walk_at "st"
    have e : metB p q = none := if_pos (.inr c2)
    rw [e] at h
    exact .same h
  walk_at "st"
  have e : metB p q = some ⟨mxI p.a q.a, mnI p.b q.b, mxI p.c q.c, mnI p.d q.d⟩ := if_neg (fun x => x.elim c c2)
  rw [e] at h
  exact .same h
theorem fn_met (T : Mods K mg) : FnD P w K mg base CX0 1 "met" sp_met := fnd_mk T.d_met sc_met (fun _ _ _ _ _ _ us hl => match us, hl with | [_, _], _ => rfl) (body_met T) sem_met
/-! ### apart -/
def mx3 (i j k : Int) : Int := max i (max j k)
/-- how far two boxes are apart -/
def aptI (p q : Bx) : Int := max 0 (max (max (p.a - q.b) (q.a - p.b)) (max (p.c - q.d) (q.c - p.d)))
def sp_apart : DSp := fun ds G R _ => ∃ p q : Bx, ds = [bD p, bD q] ∧ R (.int (aptI p q)) G
theorem aptI_max {p q : Bx} {m : Int} (h1 : m ∈ [0, mxI (p.a - q.b) (q.a - p.b), mxI (p.c - q.d) (q.c - p.d)]) (h2 : ∀ y, y ∈ [0, mxI (p.a - q.b) (q.a - p.b), mxI (p.c - q.d) (q.c - p.d)] → y ≤ m) : m = aptI p q := by
  simp only [List.mem_cons, List.not_mem_nil, or_false, forall_eq_or_imp, forall_eq, mxI_eq] at h1 h2
  unfold aptI
  omega
theorem st_apart {G : DH} {R : DK} {X : XD} {p q : Bx}  (zq : R (.int (aptI p q)) G) : sp_apart [bD p, bD q] G R X := ⟨p, q, rfl, zq⟩
abbrev N_apart : List Str := ["box", "other", "across", "along"]
theorem sc_apart : FnScope N_apart ["box", "other"] (defScope s_apart) := ⟨rfl, rfl, rfl, by decide +kernel, rfl, by decide +kernel, by decide +kernel⟩
def t_apart : DT := dSeq (dAsg (dCall cMax2 (aCons (dBin oSub (dBin dIx (dVar 0) (dC (.int 0))) (dBin dIx (dVar 1) (dC (.int 1)))) (aCons (dBin oSub (dBin dIx (dVar 1) (dC (.int 0))) (dBin dIx (dVar 0) (dC (.int 1)))) (aNil)))) (gN 2))
    (dSeq (dAsg (dCall cMax2 (aCons (dBin oSub (dBin dIx (dVar 0) (dC (.int 2))) (dBin dIx (dVar 1) (dC (.int 3)))) (aCons (dBin oSub (dBin dIx (dVar 1) (dC (.int 2))) (dBin dIx (dVar 0) (dC (.int 3)))) (aNil)))) (gN 3))
    (dRet (dCall cMaxN (aCons (dC (.int 0)) (aCons (dVar 2) (aCons (dVar 3) (aNil)))))))
theorem body_apart (T : Mods K mg) (f : Addr) (cdv : Value) (A : Around) (outer : List Env) (s : Shared) (H : Hp) (E : XK) (hr : Room 0 (A.deeper (envOfC "apart" (defScope s_apart) s.heap.objs.size f cdv))) : PSsD (cxOf CX0 P w K mg base N_apart "apart" (defScope s_apart) f cdv A outer s H E).nox (defBody s_apart) t_apart :=
  pssd_cons (psd_set (i := 2) sc_apart.nd rfl (Or.inl rfl) (ped_callB (cdMax2 rfl) rfl T.b_max (by decide +kernel) (pad_cons (ped_op odSub (ped_ix (ixd (hu_of hr)) (dv 0) (ped_int)) (ped_ix (ixd (hu_of hr)) (dv 1) (ped_int))) (pad_cons (ped_op odSub (ped_ix (ixd (hu_of hr)) (dv 1) (ped_int)) (ped_ix (ixd (hu_of hr)) (dv 0) (ped_int))) (pad_nil)))))
      (pssd_cons (psd_set (i := 3) sc_apart.nd rfl (Or.inl rfl) (ped_callB (cdMax2 rfl) rfl T.b_max (by decide +kernel) (pad_cons (ped_op odSub (ped_ix (ixd (hu_of hr)) (dv 0) (ped_int)) (ped_ix (ixd (hu_of hr)) (dv 1) (ped_int))) (pad_cons (ped_op odSub (ped_ix (ixd (hu_of hr)) (dv 1) (ped_int)) (ped_ix (ixd (hu_of hr)) (dv 0) (ped_int))) (pad_nil)))))
      (pssd_one (psd_ret (ped_callB (cdMaxN rfl) rfl T.b_max (by decide +kernel) (pad_cons (ped_int) (pad_cons (dv 2) (pad_cons (dv 3) (pad_nil))))))))
theorem ds_apart (d0 : D) (d1 : D) : dstart N_apart [d0, d1] = [some d0, some d1, none, none] := rfl
set_option hygiene false in
local macro_rules | `(tactic| walk_at "st") => `(tactic| repeat (first
  | (refine Stp.out ?_)
  | (with_reducible apply st_var; (with_unfolding_all exact rfl))
  | (with_reducible apply st_ixT; (with_unfolding_all exact rfl))
  | (with_reducible apply st_len5; (with_unfolding_all exact Nat.le_of_ble_eq_true rfl))
  | (with_reducible apply st_len; (with_unfolding_all exact Nat.le_of_ble_eq_true rfl))
  | (with_reducible apply st_mulI; (first | (left; constructor <;> omega) | (right; constructor <;> omega)))
  | (with_reducible apply st_ixL; (first | (with_unfolding_all exact rfl) | exact res_ptr (by assumption) | exact res_ptr uG_same); (with_unfolding_all exact rfl))
  | (with_reducible apply st_fdiv; (first | omega | decide); (first | omega | decide)) | (with_reducible apply st_mod; (first | omega | decide))
  | (with_reducible first | refine st_p3 ?_ | refine st_p5 ?_ | refine st_p6 ?_ | refine st_p7 ?_ | refine st_p8 ?_ | refine st_p9 ?_ | refine st_p10 ?_ | refine st_p12 ?_ | refine st_p15 ?_ | refine st_p18 ?_)
  | (with_reducible apply st_gU; (with_unfolding_all exact rfl)) | (with_reducible apply st_gUL; (first | (with_unfolding_all exact rfl) | exact res_ptr (by assumption) | exact res_ptr uG_same); (with_unfolding_all exact rfl))
  | (with_reducible apply st_is; (with_unfolding_all exact rfl)) | (with_reducible apply st_isNot; (with_unfolding_all exact rfl))
  | (with_reducible apply st_isiT; (with_unfolding_all exact rfl); (simp); (decide)) | (with_reducible apply st_isiF; (with_unfolding_all exact rfl); (simp); (decide))
  | (with_reducible apply st_rgK1; (omega); (omega)) | (with_reducible apply st_rgK2; (omega); (omega); (omega); (omega))
  | (with_reducible apply st_sum; (first | (with_unfolding_all exact rfl) | exact res_ptr (by assumption) | exact res_ptr uG_same); (first | exact intsD_map _ | with_unfolding_all exact rfl))
  | (with_reducible apply st_bools; (first | (with_unfolding_all exact rfl) | exact res_ptr (by assumption) | exact res_ptr uG_same); (first | exact boolsD_map _ | with_unfolding_all exact rfl))
  | (with_reducible apply st_tupL; (first | exact res_ptr (by assumption) | exact res_ptr uG_same)) | (with_reducible apply st_lenL; (first | exact res_ptr (by assumption) | exact res_ptr uG_same)) | (with_reducible apply st_slL; (first | exact res_ptr (by assumption) | exact res_ptr uG_same)) | (with_reducible apply st_lsKL; (first | exact res_ptr (by assumption) | exact res_ptr uG_same))
  | (with_reducible apply st_sqP; (first | assumption | exact uG_same))))

theorem sem_apart : ∀ ds G R X, sp_apart ds G R X → ds.length = 2 ∧ t_apart { nx := fun _ G' => RetOk R .non G', rt := RetOk R } (dstart N_apart ds) G := by
  rintro ds G R X ⟨p, q, rfl, h⟩
  refine ⟨rfl, ?_⟩
  simp only [t_apart, ds_apart]
  walk_at "st"
  refine st_maxN (ns := [0, mxI (p.a - q.b) (q.a - p.b), mxI (p.c - q.d) (q.c - p.d)]) (by show 3 ≤ 3; decide) (by show 3 ≤ 5; decide) fun m h1 h2 => ?_
  rw [aptI_max h1 h2]
  exact .same h
theorem fn_apart (T : Mods K mg) : FnD P w K mg base CX0 1 "apart" sp_apart := fnd_mk T.d_apart sc_apart (fun _ _ _ _ _ _ us hl => match us, hl with | [_, _], _ => rfl) (body_apart T) sem_apart
/-! ### has -/
def sp_has : DSp := fun ds G R _ => ∃ (p : Bx) (u v : Int), ds = [bD p, .tup [.int u, .int v]] ∧ R (.bl (decide (insB p u v))) G
theorem st_has {G : DH} {R : DK} {X : XD} {p : Bx} {u v : Int}  (zq : R (.bl (decide (insB p u v))) G) : sp_has [bD p, .tup [.int u, .int v]] G R X := ⟨p, u, v, rfl, zq⟩
abbrev N_has : List Str := ["box", "spot"]
theorem sc_has : FnScope N_has ["box", "spot"] (defScope s_has) := ⟨rfl, rfl, rfl, by decide +kernel, rfl, by decide +kernel, by decide +kernel⟩
def t_has : DT := dRet (dAndV (dChain oLe oLe (dBin dIx (dVar 0) (dC (.int 0))) (dBin dIx (dVar 1) (dC (.int 0))) (dBin dIx (dVar 0) (dC (.int 1)))) (dChain oLe oLe (dBin dIx (dVar 0) (dC (.int 2))) (dBin dIx (dVar 1) (dC (.int 1))) (dBin dIx (dVar 0) (dC (.int 3)))))
theorem body_has (T : Mods K mg) (f : Addr) (cdv : Value) (A : Around) (outer : List Env) (s : Shared) (H : Hp) (E : XK) (hr : Room 0 (A.deeper (envOfC "has" (defScope s_has) s.heap.objs.size f cdv))) : PSsD (cxOf CX0 P w K mg base N_has "has" (defScope s_has) f cdv A outer s H E).nox (defBody s_has) t_has :=
  pssd_one (psd_ret (ped_and (ped_chain odLe odLe (ped_ix (ixd (hu_of hr)) (dv 0) (ped_int)) (ped_ix (ixd (hu_of hr)) (dv 1) (ped_int)) (ped_ix (ixd (hu_of hr)) (dv 0) (ped_int))) (ped_one (ped_chain odLe odLe (ped_ix (ixd (hu_of hr)) (dv 0) (ped_int)) (ped_ix (ixd (hu_of hr)) (dv 1) (ped_int)) (ped_ix (ixd (hu_of hr)) (dv 0) (ped_int))))))
theorem ds_has (d0 : D) (d1 : D) : dstart N_has [d0, d1] = [some d0, some d1] := rfl
set_option hygiene false in
local macro_rules | `(tactic| walk_at "st") => `(tactic| repeat (first
  | (refine Stp.out ?_)
  | (with_reducible apply st_var; (with_unfolding_all exact rfl))
  | (with_reducible apply st_ixT; (with_unfolding_all exact rfl))
  | (with_reducible apply st_len5; (with_unfolding_all exact Nat.le_of_ble_eq_true rfl))
  | (with_reducible apply st_len; (with_unfolding_all exact Nat.le_of_ble_eq_true rfl))
  | (with_reducible apply st_mulI; (first | (left; constructor <;> omega) | (right; constructor <;> omega)))
  | (with_reducible apply st_ixL; (first | (with_unfolding_all exact rfl) | exact res_ptr (by assumption) | exact res_ptr uG_same); (with_unfolding_all exact rfl))
  | (with_reducible apply st_fdiv; (first | omega | decide); (first | omega | decide)) | (with_reducible apply st_mod; (first | omega | decide))
  | (with_reducible first | refine st_p3 ?_ | refine st_p5 ?_ | refine st_p6 ?_ | refine st_p7 ?_ | refine st_p8 ?_ | refine st_p9 ?_ | refine st_p10 ?_ | refine st_p12 ?_ | refine st_p15 ?_ | refine st_p18 ?_)
  | (with_reducible apply st_gU; (with_unfolding_all exact rfl)) | (with_reducible apply st_gUL; (first | (with_unfolding_all exact rfl) | exact res_ptr (by assumption) | exact res_ptr uG_same); (with_unfolding_all exact rfl))
  | (with_reducible apply st_is; (with_unfolding_all exact rfl)) | (with_reducible apply st_isNot; (with_unfolding_all exact rfl))
  | (with_reducible apply st_isiT; (with_unfolding_all exact rfl); (simp); (decide)) | (with_reducible apply st_isiF; (with_unfolding_all exact rfl); (simp); (decide))
  | (with_reducible apply st_rgK1; (omega); (omega)) | (with_reducible apply st_rgK2; (omega); (omega); (omega); (omega))
  | (with_reducible apply st_sum; (first | (with_unfolding_all exact rfl) | exact res_ptr (by assumption) | exact res_ptr uG_same); (first | exact intsD_map _ | with_unfolding_all exact rfl))
  | (with_reducible apply st_bools; (first | (with_unfolding_all exact rfl) | exact res_ptr (by assumption) | exact res_ptr uG_same); (first | exact boolsD_map _ | with_unfolding_all exact rfl))
  | (with_reducible apply st_tupL; (first | exact res_ptr (by assumption) | exact res_ptr uG_same)) | (with_reducible apply st_lenL; (first | exact res_ptr (by assumption) | exact res_ptr uG_same)) | (with_reducible apply st_slL; (first | exact res_ptr (by assumption) | exact res_ptr uG_same)) | (with_reducible apply st_lsKL; (first | exact res_ptr (by assumption) | exact res_ptr uG_same))
  | (with_reducible apply st_sqP; (first | assumption | exact uG_same))))

theorem sem_has : ∀ ds G R X, sp_has ds G R X → ds.length = 2 ∧ t_has { nx := fun _ G' => RetOk R .non G', rt := RetOk R } (dstart N_has ds) G := by
  rintro ds G R X ⟨p, u, v, rfl, h⟩
  refine ⟨rfl, ?_⟩
  simp only [t_has, ds_has]
  by_cases k : insB p u v
  · rw [decide_eq_true k] at h
    obtain ⟨k1, k2, k3, k4⟩ := k
    walk_at "st"
    refine iteD (fun _ => ?_) (fun c => (c k1).elim)
    walk_at "st"
    rw [decide_eq_true k2]
    walk_at "st"
    refine iteD (fun _ => ?_) (fun c => (c k3).elim)
    walk_at "st"
    rw [decide_eq_true k4]
    exact .same h
  · rw [decide_eq_false k] at h
    walk_at "st"
    refine iteD (fun k1 => ?_) (fun _ => ?_)
    rotate_left
    · walk_at "st"
      exact .same h
    walk_at "st"
    refine iteD (fun k2 => ?_) (fun _ => ?_)
    rotate_left
    · walk_at "st"
      exact .same h
    walk_at "st"
    refine iteD (fun k3 => ?_) (fun _ => ?_)
    rotate_left
    · walk_at "st"
      exact .same h
    walk_at "st"
    rw [decide_eq_false (fun k4 => k ⟨k1, k2, k3, k4⟩)]
    exact .same h
theorem fn_has (T : Mods K mg) : FnD P w K mg base CX0 1 "has" sp_has := fnd_mk T.d_has sc_has (fun _ _ _ _ _ _ us hl => match us, hl with | [_, _], _ => rfl) (body_has T) sem_has
/-! ### steps -/
def sp_steps : DSp := fun ds G R _ => ∃ a b c d : Int, ds = [.tup [.int a, .int b], .tup [.int c, .int d]] ∧ R (.int (stepsI a b c d)) G
instance {a b c d : Int} {G : DH} {R : DK} {X : XD} : Stp (sp_steps [.tup [.int a, .int b], .tup [.int c, .int d]] G R X) (R (.int (stepsI a b c d)) G) := ⟨fun h => ⟨a, b, c, d, rfl, h⟩⟩
abbrev N_steps : List Str := ["one", "other"]
theorem sc_steps : FnScope N_steps ["one", "other"] (defScope s_steps) := ⟨rfl, rfl, rfl, by decide +kernel, rfl, by decide +kernel, by decide +kernel⟩
def t_steps : DT := dRet (dBin oAdd (dCall cAbs (aCons (dBin oSub (dBin dIx (dVar 0) (dC (.int 0))) (dBin dIx (dVar 1) (dC (.int 0)))) (aNil))) (dCall cAbs (aCons (dBin oSub (dBin dIx (dVar 0) (dC (.int 1))) (dBin dIx (dVar 1) (dC (.int 1)))) (aNil))))
theorem body_steps (T : Mods K mg) (f : Addr) (cdv : Value) (A : Around) (outer : List Env) (s : Shared) (H : Hp) (E : XK) (hr : Room 0 (A.deeper (envOfC "steps" (defScope s_steps) s.heap.objs.size f cdv))) : PSsD (cxOf CX0 P w K mg base N_steps "steps" (defScope s_steps) f cdv A outer s H E).nox (defBody s_steps) t_steps :=
  pssd_one (psd_ret (ped_op odAdd (ped_callB cdAbs rfl T.b_abs (by decide +kernel) (pad_cons (ped_op odSub (ped_ix (ixd (hu_of hr)) (dv 0) (ped_int)) (ped_ix (ixd (hu_of hr)) (dv 1) (ped_int))) (pad_nil))) (ped_callB cdAbs rfl T.b_abs (by decide +kernel) (pad_cons (ped_op odSub (ped_ix (ixd (hu_of hr)) (dv 0) (ped_int)) (ped_ix (ixd (hu_of hr)) (dv 1) (ped_int))) (pad_nil)))))
theorem ds_steps (d0 : D) (d1 : D) : dstart N_steps [d0, d1] = [some d0, some d1] := rfl
set_option hygiene false in
local macro_rules | `(tactic| walk_at "st") => `(tactic| repeat (first
  | (refine Stp.out ?_)
  | (with_reducible apply st_var; (with_unfolding_all exact rfl))
  | (with_reducible apply st_ixT; (with_unfolding_all exact rfl))
  | (with_reducible apply st_len5; (with_unfolding_all exact Nat.le_of_ble_eq_true rfl))
  | (with_reducible apply st_len; (with_unfolding_all exact Nat.le_of_ble_eq_true rfl))
  | (with_reducible apply st_mulI; (first | (left; constructor <;> omega) | (right; constructor <;> omega)))
  | (with_reducible apply st_ixL; (first | (with_unfolding_all exact rfl) | exact res_ptr (by assumption) | exact res_ptr uG_same); (with_unfolding_all exact rfl))
  | (with_reducible apply st_fdiv; (first | omega | decide); (first | omega | decide)) | (with_reducible apply st_mod; (first | omega | decide))
  | (with_reducible first | refine st_p3 ?_ | refine st_p5 ?_ | refine st_p6 ?_ | refine st_p7 ?_ | refine st_p8 ?_ | refine st_p9 ?_ | refine st_p10 ?_ | refine st_p12 ?_ | refine st_p15 ?_ | refine st_p18 ?_)
  | (with_reducible apply st_gU; (with_unfolding_all exact rfl)) | (with_reducible apply st_gUL; (first | (with_unfolding_all exact rfl) | exact res_ptr (by assumption) | exact res_ptr uG_same); (with_unfolding_all exact rfl))
  | (with_reducible apply st_is; (with_unfolding_all exact rfl)) | (with_reducible apply st_isNot; (with_unfolding_all exact rfl))
  | (with_reducible apply st_isiT; (with_unfolding_all exact rfl); (simp); (decide)) | (with_reducible apply st_isiF; (with_unfolding_all exact rfl); (simp); (decide))
  | (with_reducible apply st_rgK1; (omega); (omega)) | (with_reducible apply st_rgK2; (omega); (omega); (omega); (omega))
  | (with_reducible apply st_sum; (first | (with_unfolding_all exact rfl) | exact res_ptr (by assumption) | exact res_ptr uG_same); (first | exact intsD_map _ | with_unfolding_all exact rfl))
  | (with_reducible apply st_bools; (first | (with_unfolding_all exact rfl) | exact res_ptr (by assumption) | exact res_ptr uG_same); (first | exact boolsD_map _ | with_unfolding_all exact rfl))
  | (with_reducible apply st_tupL; (first | exact res_ptr (by assumption) | exact res_ptr uG_same)) | (with_reducible apply st_lenL; (first | exact res_ptr (by assumption) | exact res_ptr uG_same)) | (with_reducible apply st_slL; (first | exact res_ptr (by assumption) | exact res_ptr uG_same)) | (with_reducible apply st_lsKL; (first | exact res_ptr (by assumption) | exact res_ptr uG_same))
  | (with_reducible apply st_sqP; (first | assumption | exact uG_same))))

theorem sem_steps : ∀ ds G R X, sp_steps ds G R X → ds.length = 2 ∧ t_steps { nx := fun _ G' => RetOk R .non G', rt := RetOk R } (dstart N_steps ds) G := by
  rintro ds G R X ⟨a, b, c, d, rfl, h⟩
  refine ⟨rfl, ?_⟩
  simp only [t_steps, ds_steps]
  walk_at "st"
  exact .same h
theorem fn_steps (T : Mods K mg) : FnD P w K mg base CX0 1 "steps" sp_steps := fnd_mk T.d_steps sc_steps (fun _ _ _ _ _ _ us hl => match us, hl with | [_, _], _ => rfl) (body_steps T) sem_steps
/-! ### wanted -/
def sp_wanted : DSp := fun ds G R _ => ∃ (es : List End) (i j : Int), ds = [.tup (es.map eD), .int i, .int j] ∧ (0 ≤ i ∧ i < es.length) ∧ (0 ≤ j ∧ j < es.length) ∧ (R (.int (wantI (nth es i) (nth es j))) G)
theorem st_wanted {G : DH} {R : DK} {X : XD}  {es : List End} {i j : Int} (zh0 : 0 ≤ i ∧ i < es.length)  (zh1 : 0 ≤ j ∧ j < es.length) (zq : R (.int (wantI (nth es i) (nth es j))) G) : sp_wanted [.tup (es.map eD), .int i, .int j] G R X := ⟨es, i, j, rfl, zh0, zh1, zq⟩
abbrev N_wanted : List Str := ["ends", "one", "other", "here", "there"]
theorem sc_wanted : FnScope N_wanted ["ends", "one", "other"] (defScope s_wanted) := ⟨rfl, rfl, rfl, by decide +kernel, rfl, by decide +kernel, by decide +kernel⟩
def t_wanted : DT := dSeq (dAsg (dBin dIx (dVar 0) (dVar 1)) (gN 3))
    (dSeq (dAsg (dBin dIx (dVar 0) (dVar 2)) (gN 4))
    (dRet (dBin oAdd (dBin oAdd (dBin dIx (dVar 3) (dC (.int 2))) (dBin dIx (dVar 4) (dC (.int 2)))) (dFn sp_steps (aCons (dSlice rSl (dVar 3) (oNo) (oPart (dC (.int 2)))) (aCons (dSlice rSl (dVar 4) (oNo) (oPart (dC (.int 2)))) (aNil)))))))
theorem body_wanted (T : Mods K mg) (f : Addr) (cdv : Value) (A : Around) (outer : List Env) (s : Shared) (H : Hp) (E : XK) (hr : Room 1 (A.deeper (envOfC "wanted" (defScope s_wanted) s.heap.objs.size f cdv))) : PSsD (cxOf CX0 P w K mg base N_wanted "wanted" (defScope s_wanted) f cdv A outer s H E).nox (defBody s_wanted) t_wanted :=
  pssd_cons (psd_set (i := 3) sc_wanted.nd rfl (Or.inl rfl) (ped_ix (ixd (hu_of hr)) (dv 0) (dv 1)))
      (pssd_cons (psd_set (i := 4) sc_wanted.nd rfl (Or.inl rfl) (ped_ix (ixd (hu_of hr)) (dv 0) (dv 2)))
      (pssd_one (psd_ret (ped_op odAdd (ped_op odAdd (ped_ix (ixd (hu_of hr)) (dv 3) (ped_int)) (ped_ix (ixd (hu_of hr)) (dv 4) (ped_int))) (ped_call (fn_steps T) (hr.mono (by decide)) rfl (pad_cons (ped_slice (dv 3) (pod_none) (pod_some (ped_int))) (pad_cons (ped_slice (dv 4) (pod_none) (pod_some (ped_int))) (pad_nil))))))))
theorem ds_wanted (d0 : D) (d1 : D) (d2 : D) : dstart N_wanted [d0, d1, d2] = [some d0, some d1, some d2, none, none] := rfl
set_option hygiene false in
local macro_rules | `(tactic| walk_at "go") => `(tactic| repeat' ((fail_if_success (with_reducible refine isLoop ?_)); (fail_if_success (with_reducible refine isComp ?_)); first
  | (refine Stp.out ?_)
  | (with_reducible apply st_var; (with_unfolding_all exact rfl))
  | (with_reducible apply st_len5U; (walk_at "sd")) | (with_reducible apply st_len5M; (walk_at "sd"))
  | (with_reducible apply st_len5; (with_unfolding_all exact Nat.le_of_ble_eq_true rfl))
  | (with_reducible apply st_len; (with_unfolding_all exact Nat.le_of_ble_eq_true rfl))
  | (with_reducible apply st_ixT; (with_unfolding_all exact rfl))
  | (with_reducible apply st_ixRow; (with_unfolding_all exact rfl)) | (with_reducible apply st_ixE; (with_unfolding_all exact rfl)) | (with_reducible apply st_ixP; (with_unfolding_all exact rfl))
  | (with_reducible apply st_ixL; (with_unfolding_all exact rfl); (with_unfolding_all exact rfl))
  | (with_reducible apply st_ixMT; (walk_at "sd"); (walk_at "sd"))
  | (with_reducible apply st_ixML; (walk_at "sd"); (walk_at "sd"))
  | (with_reducible apply st_ixIA; (assumption); (walk_at "sd"); (walk_at "sd"))
  | (with_reducible apply st_ixR; (walk_at "lg"))
  | (with_reducible apply st_ixlT; (walk_at "sd")) | (with_reducible apply st_ixlL; (walk_at "sd"))
  | (with_reducible refine st_selV ?_) | (with_reducible refine st_selVB ?_)
  | (with_reducible apply st_mulI; (first | (left; constructor <;> omega) | (right; constructor <;> omega)))
  | (with_reducible apply st_fdiv; (first | omega | decide); (first | omega | decide)) | (with_reducible apply st_mod; (first | omega | decide))
  | (with_reducible first | refine st_p3 ?_ | refine st_p5 ?_ | refine st_p6 ?_ | refine st_p7 ?_ | refine st_p8 ?_ | refine st_p9 ?_ | refine st_p10 ?_ | refine st_p12 ?_ | refine st_p15 ?_ | refine st_p18 ?_)
  | (with_reducible apply st_gU; (with_unfolding_all exact rfl)) | (with_reducible apply st_gUL; (walk_at "ls"); (with_unfolding_all exact rfl))
  | (with_reducible apply st_is; (with_unfolding_all exact rfl)) | (with_reducible apply st_isNot; (with_unfolding_all exact rfl))
  | (with_reducible apply st_isiT; (with_unfolding_all exact rfl); (simp); (decide)) | (with_reducible apply st_isiF; (with_unfolding_all exact rfl); (simp); (decide))
  | (with_reducible apply st_rg1; (omega); (omega)) | (with_reducible apply st_rgK2; (omega); (omega); (omega); (omega)) | (with_reducible apply st_rgK3; (omega); (omega); (omega); (omega)) | (with_reducible apply st_rvK; (omega); (omega))
  | (with_reducible apply st_lrK; (omega); (omega))
  | (with_reducible first | refine st_sumM ?_ | refine st_allM ?_ | refine st_anyM ?_ | refine st_inIT ?_ | refine st_inIL ?_ | apply st_inIP; (walk_at "lg"))
  | (with_reducible apply st_sum; (walk_at "ls"); (first | exact intsD_map _ | with_unfolding_all exact rfl))
  | (with_reducible apply st_bools; (walk_at "ls"); (first | exact boolsD_map _ | with_unfolding_all exact rfl))
  | (with_reducible apply st_lenMP; (walk_at "lg"))
  | (with_reducible apply st_tupL; (first | exact res_ptr (by assumption) | exact res_ptr uG_same)) | (with_reducible apply st_lenL; (first | exact res_ptr (by assumption) | exact res_ptr uG_same)) | (with_reducible apply st_slL; (first | exact res_ptr (by assumption) | exact res_ptr uG_same)) | (with_reducible apply st_lsKL; (first | exact res_ptr (by assumption) | exact res_ptr uG_same))
  | (with_reducible apply st_sqP; (walk_at "lg"))
  | (with_reducible apply st_neNilM; (walk_at "pl")) | (with_reducible apply st_neNilP; (walk_at "lg"); (walk_at "pl")) | (with_reducible apply st_eqNilL; (walk_at "pl")) | (with_reducible apply st_eqNilP; (walk_at "lg"); (walk_at "pl"))
  | (with_reducible refine st_inKV rfl ?_) | (with_reducible apply st_neNilT; (walk_at "pl"))
  | (with_reducible apply st_enP; (walk_at "lg"))
  | (with_reducible first | refine st_ninIT ?_ | refine st_ninIL ?_ | apply st_ninIP; (walk_at "lg"))
  | (with_reducible apply st_addTS; (with_unfolding_all exact Nat.le_of_ble_eq_true rfl))
  | (with_reducible apply st_mulT1; (walk_at "sd"); (walk_at "sd"))
  | (with_reducible apply st_ml1; (walk_at "sd"); (walk_at "sd"))
  | (with_reducible apply st_ex1; (walk_at "lg")) | (with_reducible apply st_ex2P; (walk_at "sd"))
  | (with_reducible apply st_ap1; (walk_at "lg")) | (with_reducible apply st_ap2U; (walk_at "sd")) | (with_reducible apply st_ap2; (walk_at "lg"); (walk_at "sd"))
  | (with_reducible apply st_revP; (walk_at "lg"))
  | (with_reducible apply st_rm1; (walk_at "lg")) | (with_reducible apply st_rm2U; (assumption)) | (with_reducible apply st_rm2; (walk_at "lg"); (assumption))
  | (with_reducible apply st_gsT; (walk_at "lg"); (omega)) | (with_reducible apply st_ixT2; (walk_at "lg"); (assumption))
  | (with_reducible apply st_addLM; (walk_at "sl")) | (with_reducible apply st_addTM; (walk_at "sl"))
  | (with_reducible apply ogL_ix; (with_unfolding_all exact rfl)) | (with_reducible apply ogL_set; (with_unfolding_all exact rfl); (with_unfolding_all exact rfl)) | (with_reducible apply st_rlP; (walk_at "lg"))
  | (with_reducible apply og_neNil; (assumption)) | (with_reducible apply og_popLast; (assumption); (walk_at "sd"); intro cc cs')
  | (with_reducible apply st_pa1; (walk_at "lg")) | (with_reducible apply st_pa2U; (walk_at "sd"); (walk_at "sd"); (walk_at "sd"); intro x ys tk) | (with_reducible apply st_pa2; (walk_at "lg"); (walk_at "sd"); (walk_at "sd"); (walk_at "sd"); intro x ys tk)
  | (with_reducible apply st_ins1; (walk_at "lg"))
  | (with_reducible apply st_cat; (first | decide | omega))

  | (with_reducible refine iteD ?_ ?_ <;> intro c <;> try omega)
  | (with_reducible refine iteND ?_ ?_ <;> intro c <;> try omega)
  | (with_reducible refine iteB ?_ ?_ <;> intro c) | (with_reducible refine iteNB ?_ ?_ <;> intro c)
  | (with_reducible apply st_pickI2; (walk_at "sd"); (walk_at "sd"); intro v hv) | (with_reducible apply st_pickI3; (walk_at "sd"); (walk_at "sd"); intro v hv) | (with_reducible apply st_pickI4; (walk_at "sd"); (walk_at "sd"); intro v hv) | (with_reducible apply st_pickI5; (walk_at "sd"); (walk_at "sd"); intro v hv) | (with_reducible apply st_pickI6; (walk_at "sd"); (walk_at "sd"); intro v hv)
  | (with_reducible refine st_sel ?_ ?_ <;> intro c)
  | (with_reducible apply st_pickD2; (walk_at "sd"); (walk_at "sd"))
  | (with_reducible intro p hp)
))

theorem sem_wanted : ∀ ds G R X, sp_wanted ds G R X → ds.length = 3 ∧ t_wanted { nx := fun _ G' => RetOk R .non G', rt := RetOk R } (dstart N_wanted ds) G := by
  rintro ds G R X ⟨es, i, j, rfl, ⟨i0, i1⟩, ⟨j0, j1⟩, h⟩
  refine ⟨rfl, ?_⟩
  simp only [t_wanted, ds_wanted]
  walk_at "go"
  exact .same h
theorem fn_wanted (T : Mods K mg) : FnD P w K mg base CX0 2 "wanted" sp_wanted := fnd_mk T.d_wanted sc_wanted (fun _ _ _ _ _ _ us hl => match us, hl with | [_, _, _], _ => rfl) (body_wanted T) sem_wanted
/-! ### box_of_end -/
def uE (e : End) : Int := 2 * (e.x + e.y)
def vE (e : End) : Int := 2 * (e.x - e.y)
/-- what is within a radius of an end -/
def bxE (e : End) (h : Int) : Bx := grB ⟨uE e, uE e, vE e, vE e⟩ (h - 2 * e.s)
def sp_box_of_end : DSp := fun ds G R _ => ∃ (e : End) (h : Int), ds = [eD e, .int h] ∧ (R (bD (bxE e h)) G)
theorem st_box_of_end {G : DH} {R : DK} {X : XD}  {e : End} {h : Int}  (zq : R (bD (bxE e h)) G) : sp_box_of_end [eD e, .int h] G R X := ⟨e, h, rfl, zq⟩
abbrev N_box_of_end : List Str := ["end", "height", "u", "v"]
theorem sc_box_of_end : FnScope N_box_of_end ["end", "height"] (defScope s_box_of_end) := ⟨rfl, rfl, rfl, by decide +kernel, rfl, by decide +kernel, by decide +kernel⟩
def t_box_of_end : DT := dSeq (dAsg (dFn sp_spot_of (aCons (dC (.int (2))) (aCons (dBin dIx (dVar 0) (dC (.int 0))) (aCons (dBin dIx (dVar 0) (dC (.int 1))) (aNil))))) (gU 2 (gNc (gN 2) (gNc (gN 3) (gN0)))))
    (dRet (dFn sp_grown (aCons (dTup (aCons (dVar 2) (aCons (dVar 2) (aCons (dVar 3) (aCons (dVar 3) (aNil)))))) (aCons (dBin oSub (dVar 1) (dBin oMul (dC (.int 2)) (dBin dIx (dVar 0) (dC (.int 2))))) (aNil)))))
theorem body_box_of_end (T : Mods K mg) (f : Addr) (cdv : Value) (A : Around) (outer : List Env) (s : Shared) (H : Hp) (E : XK) (hr : Room 1 (A.deeper (envOfC "box_of_end" (defScope s_box_of_end) s.heap.objs.size f cdv))) : PSsD (cxOf CX0 P w K mg base N_box_of_end "box_of_end" (defScope s_box_of_end) f cdv A outer s H E).nox (defBody s_box_of_end) t_box_of_end :=
  pssd_cons (psd_asg (vs := [2, 3]) (ped_call (fn_spot_of T) (hr.mono (by decide)) rfl (pad_cons (ped_glob (T.c_HALF _ rfl) rfl) (pad_cons (ped_ix (ixd (hu_of hr)) (dv 0) (ped_int)) (pad_cons (ped_ix (ixd (hu_of hr)) (dv 0) (ped_int)) (pad_nil))))) (pgd_seq (n := 2) rfl (pgsd_cons (pgd_name (i := 2) sc_box_of_end.nd rfl (Or.inl rfl)) (pgsd_cons (pgd_name (i := 3) sc_box_of_end.nd rfl (Or.inl rfl)) (pgsd_nil)))))
      (pssd_one (psd_ret (ped_call (fn_grown T) (hr.mono (by decide)) rfl (pad_cons (ped_tup (pad_cons (dv 2) (pad_cons (dv 2) (pad_cons (dv 3) (pad_cons (dv 3) (pad_nil)))))) (pad_cons (ped_op odSub (dv 1) (ped_op odMul (ped_int) (ped_ix (ixd (hu_of hr)) (dv 0) (ped_int)))) (pad_nil))))))
theorem ds_box_of_end (d0 : D) (d1 : D) : dstart N_box_of_end [d0, d1] = [some d0, some d1, none, none] := rfl
set_option hygiene false in
local macro_rules | `(tactic| walk_at "go") => `(tactic| repeat' ((fail_if_success (with_reducible refine isLoop ?_)); (fail_if_success (with_reducible refine isComp ?_)); first
  | (refine Stp.out ?_)
  | (with_reducible apply st_var; (with_unfolding_all exact rfl))
  | (with_reducible apply st_len5U; (walk_at "sd")) | (with_reducible apply st_len5M; (walk_at "sd"))
  | (with_reducible apply st_len5; (with_unfolding_all exact Nat.le_of_ble_eq_true rfl))
  | (with_reducible apply st_len; (with_unfolding_all exact Nat.le_of_ble_eq_true rfl))
  | (with_reducible apply st_ixT; (with_unfolding_all exact rfl))
  | (with_reducible apply st_ixRow; (with_unfolding_all exact rfl)) | (with_reducible apply st_ixE; (with_unfolding_all exact rfl)) | (with_reducible apply st_ixP; (with_unfolding_all exact rfl))
  | (with_reducible apply st_ixL; (with_unfolding_all exact rfl); (with_unfolding_all exact rfl))
  | (with_reducible apply st_ixMT; (walk_at "sd"); (walk_at "sd"))
  | (with_reducible apply st_ixML; (walk_at "sd"); (walk_at "sd"))
  | (with_reducible apply st_ixIA; (assumption); (walk_at "sd"); (walk_at "sd"))
  | (with_reducible apply st_ixR; (walk_at "lg"))
  | (with_reducible apply st_ixlT; (walk_at "sd")) | (with_reducible apply st_ixlL; (walk_at "sd"))
  | (with_reducible refine st_selV ?_) | (with_reducible refine st_selVB ?_)
  | (with_reducible apply st_mulI; (first | (left; constructor <;> omega) | (right; constructor <;> omega)))
  | (with_reducible apply st_fdiv; (first | omega | decide); (first | omega | decide)) | (with_reducible apply st_mod; (first | omega | decide))
  | (with_reducible first | refine st_p3 ?_ | refine st_p5 ?_ | refine st_p6 ?_ | refine st_p7 ?_ | refine st_p8 ?_ | refine st_p9 ?_ | refine st_p10 ?_ | refine st_p12 ?_ | refine st_p15 ?_ | refine st_p18 ?_)
  | (with_reducible apply st_gU; (with_unfolding_all exact rfl)) | (with_reducible apply st_gUL; (walk_at "ls"); (with_unfolding_all exact rfl))
  | (with_reducible apply st_is; (with_unfolding_all exact rfl)) | (with_reducible apply st_isNot; (with_unfolding_all exact rfl))
  | (with_reducible apply st_isiT; (with_unfolding_all exact rfl); (simp); (decide)) | (with_reducible apply st_isiF; (with_unfolding_all exact rfl); (simp); (decide))
  | (with_reducible apply st_rg1; (omega); (omega)) | (with_reducible apply st_rgK2; (omega); (omega); (omega); (omega)) | (with_reducible apply st_rgK3; (omega); (omega); (omega); (omega)) | (with_reducible apply st_rvK; (omega); (omega))
  | (with_reducible apply st_lrK; (omega); (omega))
  | (with_reducible first | refine st_sumM ?_ | refine st_allM ?_ | refine st_anyM ?_ | refine st_inIT ?_ | refine st_inIL ?_ | apply st_inIP; (walk_at "lg"))
  | (with_reducible apply st_sum; (walk_at "ls"); (first | exact intsD_map _ | with_unfolding_all exact rfl))
  | (with_reducible apply st_bools; (walk_at "ls"); (first | exact boolsD_map _ | with_unfolding_all exact rfl))
  | (with_reducible apply st_lenMP; (walk_at "lg"))
  | (with_reducible apply st_tupL; (first | exact res_ptr (by assumption) | exact res_ptr uG_same)) | (with_reducible apply st_lenL; (first | exact res_ptr (by assumption) | exact res_ptr uG_same)) | (with_reducible apply st_slL; (first | exact res_ptr (by assumption) | exact res_ptr uG_same)) | (with_reducible apply st_lsKL; (first | exact res_ptr (by assumption) | exact res_ptr uG_same))
  | (with_reducible apply st_sqP; (walk_at "lg"))
  | (with_reducible apply st_neNilM; (walk_at "pl")) | (with_reducible apply st_neNilP; (walk_at "lg"); (walk_at "pl")) | (with_reducible apply st_eqNilL; (walk_at "pl")) | (with_reducible apply st_eqNilP; (walk_at "lg"); (walk_at "pl"))
  | (with_reducible refine st_inKV rfl ?_) | (with_reducible apply st_neNilT; (walk_at "pl"))
  | (with_reducible apply st_enP; (walk_at "lg"))
  | (with_reducible first | refine st_ninIT ?_ | refine st_ninIL ?_ | apply st_ninIP; (walk_at "lg"))
  | (with_reducible apply st_addTS; (with_unfolding_all exact Nat.le_of_ble_eq_true rfl))
  | (with_reducible apply st_mulT1; (walk_at "sd"); (walk_at "sd"))
  | (with_reducible apply st_ml1; (walk_at "sd"); (walk_at "sd"))
  | (with_reducible apply st_ex1; (walk_at "lg")) | (with_reducible apply st_ex2P; (walk_at "sd"))
  | (with_reducible apply st_ap1; (walk_at "lg")) | (with_reducible apply st_ap2U; (walk_at "sd")) | (with_reducible apply st_ap2; (walk_at "lg"); (walk_at "sd"))
  | (with_reducible apply st_revP; (walk_at "lg"))
  | (with_reducible apply st_rm1; (walk_at "lg")) | (with_reducible apply st_rm2U; (assumption)) | (with_reducible apply st_rm2; (walk_at "lg"); (assumption))
  | (with_reducible apply st_gsT; (walk_at "lg"); (omega)) | (with_reducible apply st_ixT2; (walk_at "lg"); (assumption))
  | (with_reducible apply st_addLM; (walk_at "sl")) | (with_reducible apply st_addTM; (walk_at "sl"))
  | (with_reducible apply ogL_ix; (with_unfolding_all exact rfl)) | (with_reducible apply ogL_set; (with_unfolding_all exact rfl); (with_unfolding_all exact rfl)) | (with_reducible apply st_rlP; (walk_at "lg"))
  | (with_reducible apply og_neNil; (assumption)) | (with_reducible apply og_popLast; (assumption); (walk_at "sd"); intro cc cs')
  | (with_reducible apply st_pa1; (walk_at "lg")) | (with_reducible apply st_pa2U; (walk_at "sd"); (walk_at "sd"); (walk_at "sd"); intro x ys tk) | (with_reducible apply st_pa2; (walk_at "lg"); (walk_at "sd"); (walk_at "sd"); (walk_at "sd"); intro x ys tk)
  | (with_reducible apply st_ins1; (walk_at "lg"))
  | (with_reducible apply st_cat; (first | decide | omega))
  | (with_reducible refine st_grown ?_)
  | (with_reducible apply st_spot_of; (walk_at "sc"))
  | (with_reducible refine iteD ?_ ?_ <;> intro c <;> try omega)
  | (with_reducible refine iteND ?_ ?_ <;> intro c <;> try omega)
  | (with_reducible refine iteB ?_ ?_ <;> intro c) | (with_reducible refine iteNB ?_ ?_ <;> intro c)
  | (with_reducible apply st_pickI2; (walk_at "sd"); (walk_at "sd"); intro v hv) | (with_reducible apply st_pickI3; (walk_at "sd"); (walk_at "sd"); intro v hv) | (with_reducible apply st_pickI4; (walk_at "sd"); (walk_at "sd"); intro v hv) | (with_reducible apply st_pickI5; (walk_at "sd"); (walk_at "sd"); intro v hv) | (with_reducible apply st_pickI6; (walk_at "sd"); (walk_at "sd"); intro v hv)
  | (with_reducible refine st_sel ?_ ?_ <;> intro c)
  | (with_reducible apply st_pickD2; (walk_at "sd"); (walk_at "sd"))
  | (with_reducible intro p hp)
))

theorem sem_box_of_end : ∀ ds G R X, sp_box_of_end ds G R X → ds.length = 2 ∧ t_box_of_end { nx := fun _ G' => RetOk R .non G', rt := RetOk R } (dstart N_box_of_end ds) G := by
  rintro ds G R X ⟨e, h, rfl, hq⟩
  refine ⟨rfl, ?_⟩
  simp only [t_box_of_end, ds_box_of_end]
  walk_at "go"
  refine st_grown (p := ⟨uE e, uE e, vE e, vE e⟩) ?_
  exact .same hq
theorem fn_box_of_end (T : Mods K mg) : FnD P w K mg base CX0 2 "box_of_end" sp_box_of_end := fnd_mk T.d_box_of_end sc_box_of_end (fun _ _ _ _ _ _ us hl => match us, hl with | [_, _], _ => rfl) (body_box_of_end T) sem_box_of_end
/-! ### row_of -/
/-- the height of some ends: the most that two of them want -/
structure Hgt (l : List End) (h : Int) : Prop where
  is : ∃ e ∈ l, ∃ f ∈ l, wantI e f = h
  le : ∀ e ∈ l, ∀ f ∈ l, wantI e f ≤ h
/-- the box of all spots that are within the radius of each -/
structure BoxOf (l : List End) (h : Int) (b : Bx) : Prop where
  fa : (∃ e ∈ l, (bxE e h).a = b.a) ∧ ∀ e ∈ l, (bxE e h).a ≤ b.a
  fb : (∃ e ∈ l, (bxE e h).b = b.b) ∧ ∀ e ∈ l, b.b ≤ (bxE e h).b
  fc : (∃ e ∈ l, (bxE e h).c = b.c) ∧ ∀ e ∈ l, (bxE e h).c ≤ b.c
  fd : (∃ e ∈ l, (bxE e h).d = b.d) ∧ ∀ e ∈ l, b.d ≤ (bxE e h).d
theorem wantI_comm (e f : End) : wantI e f = wantI f e := by unfold wantI stepsI absI; (repeat' split) <;> omega
theorem Hgt.uniq {l m : List End} {h k : Int} (a : Hgt l h) (b : Hgt m k) (e : ∀ x, x ∈ l ↔ x ∈ m) : h = k := by
  obtain ⟨x, hx, y, hy, rfl⟩ := a.is
  obtain ⟨x', hx', y', hy', rfl⟩ := b.is
  have h1 := b.le x ((e x).mp hx) y ((e y).mp hy)
  have h2 := a.le x' ((e x').mpr hx') y' ((e y').mpr hy')
  omega
theorem BoxOf.uniq {l m : List End} {h : Int} {p q : Bx} (a : BoxOf l h p) (b : BoxOf m h q) (e : ∀ x, x ∈ l ↔ x ∈ m) : p = q := by
  obtain ⟨⟨⟨x1, i1, e1⟩, l1⟩, ⟨⟨x2, i2, e2⟩, l2⟩, ⟨⟨x3, i3, e3⟩, l3⟩, ⟨⟨x4, i4, e4⟩, l4⟩⟩ := a
  obtain ⟨⟨⟨y1, j1, f1⟩, m1⟩, ⟨⟨y2, j2, f2⟩, m2⟩, ⟨⟨y3, j3, f3⟩, m3⟩, ⟨⟨y4, j4, f4⟩, m4⟩⟩ := b
  have a1 := m1 x1 ((e _).mp i1); have a2 := m2 x2 ((e _).mp i2); have a3 := m3 x3 ((e _).mp i3); have a4 := m4 x4 ((e _).mp i4)
  have b1 := l1 y1 ((e _).mpr j1); have b2 := l2 y2 ((e _).mpr j2); have b3 := l3 y3 ((e _).mpr j3); have b4 := l4 y4 ((e _).mpr j4)
  cases p; cases q
  simp only [Bx.mk.injEq]
  dsimp only at *
  omega
/-- two such boxes meet where the height is what both want -/
theorem bxE_meet {e f : End} {h : Int} (w : wantI e f ≤ h) : (bxE e h).a ≤ (bxE f h).b ∧ (bxE e h).c ≤ (bxE f h).d := by
  unfold wantI stepsI absI at w
  unfold bxE grB uE vE
  dsimp only
  (repeat' split at w) <;> omega
theorem BoxOf.one {e : End} {h : Int} : BoxOf [e] h (bxE e h) := by
  constructor <;> exact ⟨⟨e, List.mem_singleton.mpr rfl, rfl⟩, fun x hx => by rw [List.mem_singleton.mp hx]; exact Int.le_refl _⟩
theorem BoxOf.ok {l : List End} {h : Int} {b : Bx} (B : BoxOf l h b) (w : ∀ e ∈ l, ∀ f ∈ l, wantI e f ≤ h) : okB b := by
  obtain ⟨⟨⟨x1, i1, e1⟩, l1⟩, ⟨⟨x2, i2, e2⟩, l2⟩, ⟨⟨x3, i3, e3⟩, l3⟩, ⟨⟨x4, i4, e4⟩, l4⟩⟩ := B
  have h1 := (bxE_meet (w x1 i1 x2 i2)).1
  have h2 := (bxE_meet (w x3 i3 x4 i4)).2
  unfold okB; omega
theorem BoxOf.more {l : List End} {h : Int} {b : Bx} {e : End} (B : BoxOf l h b) (w : ∀ x ∈ l ++ [e], ∀ f ∈ l ++ [e], wantI x f ≤ h) : ∃ b', metB b (bxE e h) = some b' ∧ BoxOf (l ++ [e]) h b' := by
  have B' : BoxOf (l ++ [e]) h ⟨mxI b.a (bxE e h).a, mnI b.b (bxE e h).b, mxI b.c (bxE e h).c, mnI b.d (bxE e h).d⟩ := by
    have hm : ∀ x, x ∈ l ++ [e] ↔ x ∈ l ∨ x = e := fun x => by rw [List.mem_append, List.mem_singleton]
    obtain ⟨⟨⟨x1, i1, e1⟩, l1⟩, ⟨⟨x2, i2, e2⟩, l2⟩, ⟨⟨x3, i3, e3⟩, l3⟩, ⟨⟨x4, i4, e4⟩, l4⟩⟩ := B
    simp only [mxI_eq, mnI_eq]
    constructor
    · refine ⟨?_, fun x hx => ?_⟩
      · by_cases c : b.a ≤ (bxE e h).a
        · exact ⟨e, (hm _).mpr (.inr rfl), by dsimp only; omega⟩
        · exact ⟨x1, (hm _).mpr (.inl i1), by dsimp only; omega⟩
      · rcases (hm x).mp hx with hx | rfl
        · have := l1 x hx; dsimp only; omega
        · dsimp only; omega
    · refine ⟨?_, fun x hx => ?_⟩
      · by_cases c : (bxE e h).b ≤ b.b
        · exact ⟨e, (hm _).mpr (.inr rfl), by dsimp only; omega⟩
        · exact ⟨x2, (hm _).mpr (.inl i2), by dsimp only; omega⟩
      · rcases (hm x).mp hx with hx | rfl
        · have := l2 x hx; dsimp only; omega
        · dsimp only; omega
    · refine ⟨?_, fun x hx => ?_⟩
      · by_cases c : b.c ≤ (bxE e h).c
        · exact ⟨e, (hm _).mpr (.inr rfl), by dsimp only; omega⟩
        · exact ⟨x3, (hm _).mpr (.inl i3), by dsimp only; omega⟩
      · rcases (hm x).mp hx with hx | rfl
        · have := l3 x hx; dsimp only; omega
        · dsimp only; omega
    · refine ⟨?_, fun x hx => ?_⟩
      · by_cases c : (bxE e h).d ≤ b.d
        · exact ⟨e, (hm _).mpr (.inr rfl), by dsimp only; omega⟩
        · exact ⟨x4, (hm _).mpr (.inl i4), by dsimp only; omega⟩
      · rcases (hm x).mp hx with hx | rfl
        · have := l4 x hx; dsimp only; omega
        · dsimp only; omega
  have ok := B'.ok w
  refine ⟨_, ?_, B'⟩
  unfold metB mkB
  unfold okB at ok
  dsimp only at ok
  rw [if_neg (by omega)]
/-- the ends of some numbers -/
def pick (es : List End) (sm : List Int) : List End := sm.map (nth es)
def sp_row_of : DSp := fun ds G R _ => ∃ (es : List End) (sm : List Int), ds = [.tup (es.map eD), .tup (sm.map D.int)] ∧ (0 < sm.length) ∧ (∀ i ∈ sm, 0 ≤ i ∧ i < es.length) ∧ (∀ e ∈ es, 0 ≤ e.s) ∧ (∀ (h : Int) (b : Bx), Hgt (pick es sm) h → BoxOf (pick es sm) h b → R (.tup [.int h, bD b]) G)
theorem st_row_of {G : DH} {R : DK} {X : XD}  {es : List End} {sm : List Int} (zh0 : 0 < sm.length)  (zh1 : ∀ i ∈ sm, 0 ≤ i ∧ i < es.length)  (zh2 : ∀ e ∈ es, 0 ≤ e.s) (zq : ∀ (h : Int) (b : Bx), Hgt (pick es sm) h → BoxOf (pick es sm) h b → R (.tup [.int h, bD b]) G) : sp_row_of [.tup (es.map eD), .tup (sm.map D.int)] G R X := ⟨es, sm, rfl, zh0, zh1, zh2, zq⟩
abbrev N_row_of : List Str := ["ends", "some", "height", "at", "one", "other", "box"]
theorem sc_row_of : FnScope N_row_of ["ends", "some"] (defScope s_row_of) := ⟨rfl, rfl, rfl, by decide +kernel, rfl, by decide +kernel, by decide +kernel⟩
def t_row_of : DT := dSeq (dAsg (dC (.int 0)) (gN 2))
    (dSeq (dFor (iEnum (dVar 1)) (gU 2 (gNc (gN 3) (gNc (gN 4) (gN0)))) (dFor (iSeq (dSlice rSl (dVar 1) (oPart (dVar 3)) (oNo))) (gN 5) (dAsg (dCall cMax2 (aCons (dVar 2) (aCons (dFn sp_wanted (aCons (dVar 0) (aCons (dVar 4) (aCons (dVar 5) (aNil))))) (aNil)))) (gN 2))))
    (dSeq (dAsg (dFn sp_box_of_end (aCons (dBin dIx (dVar 0) (dBin dIx (dVar 1) (dC (.int 0)))) (aCons (dVar 2) (aNil)))) (gN 6))
    (dSeq (dFor (iSeq (dSlice rSl (dVar 1) (oPart (dC (.int 1))) (oNo))) (gN 4) (dAsg (dFn sp_met (aCons (dVar 6) (aCons (dFn sp_box_of_end (aCons (dBin dIx (dVar 0) (dVar 4)) (aCons (dVar 2) (aNil)))) (aNil)))) (gN 6)))
    (dRet (dTup (aCons (dVar 2) (aCons (dVar 6) (aNil))))))))
theorem body_row_of (T : Mods K mg) (f : Addr) (cdv : Value) (A : Around) (outer : List Env) (s : Shared) (H : Hp) (E : XK) (hr : Room 2 (A.deeper (envOfC "row_of" (defScope s_row_of) s.heap.objs.size f cdv))) : PSsD (cxOf CX0 P w K mg base N_row_of "row_of" (defScope s_row_of) f cdv A outer s H E).nox (defBody s_row_of) t_row_of :=
  pssd_cons (psd_set (i := 2) sc_row_of.nd rfl (Or.inl rfl) (ped_int))
      (pssd_cons (psd_for (vs := [3, 4]) PassesOwn.never rfl (pid_enumerate rfl T.b_enumerate (dv 1)) (pgd_seq (n := 2) rfl (pgsd_cons (pgd_name (i := 3) sc_row_of.nd rfl (Or.inl rfl)) (pgsd_cons (pgd_name (i := 4) sc_row_of.nd rfl (Or.inl rfl)) (pgsd_nil)))) (pssd_one (psd_for (vs := [5]) PassesOwn.never rfl (pid_seq (ped_slice (dv 1) (pod_some (dv 3)) (pod_none))) (pgd_name (i := 5) sc_row_of.nd rfl (Or.inl rfl)) (pssd_one (psd_set (i := 2) sc_row_of.nd rfl (Or.inl rfl) (ped_callB (cdMax2 rfl) rfl T.b_max (by decide +kernel) (pad_cons (dv 2) (pad_cons (ped_call (fn_wanted T) (hr.mono (by decide)) rfl (pad_cons (dv 0) (pad_cons (dv 4) (pad_cons (dv 5) (pad_nil))))) (pad_nil)))))))))
      (pssd_cons (psd_set (i := 6) sc_row_of.nd rfl (Or.inl rfl) (ped_call (fn_box_of_end T) (hr.mono (by decide)) rfl (pad_cons (ped_ix (ixd (hu_of hr)) (dv 0) (ped_ix (ixd (hu_of hr)) (dv 1) (ped_int))) (pad_cons (dv 2) (pad_nil)))))
      (pssd_cons (psd_for (vs := [4]) PassesOwn.never rfl (pid_seq (ped_slice (dv 1) (pod_some (ped_int)) (pod_none))) (pgd_name (i := 4) sc_row_of.nd rfl (Or.inl rfl)) (pssd_one (psd_set (i := 6) sc_row_of.nd rfl (Or.inl rfl) (ped_call (fn_met T) (hr.mono (by decide)) rfl (pad_cons (dv 6) (pad_cons (ped_call (fn_box_of_end T) (hr.mono (by decide)) rfl (pad_cons (ped_ix (ixd (hu_of hr)) (dv 0) (dv 4)) (pad_cons (dv 2) (pad_nil)))) (pad_nil)))))))
      (pssd_one (psd_ret (ped_tup (pad_cons (dv 2) (pad_cons (dv 6) (pad_nil)))))))))
theorem ds_row_of (d0 : D) (d1 : D) : dstart N_row_of [d0, d1] = [some d0, some d1, none, none, none, none, none] := rfl
set_option hygiene false in
local macro_rules | `(tactic| walk_at "go") => `(tactic| repeat' ((fail_if_success (with_reducible refine isLoop ?_)); (fail_if_success (with_reducible refine isComp ?_)); first
  | (refine Stp.out ?_)
  | (with_reducible apply st_var; (with_unfolding_all exact rfl))
  | (with_reducible apply st_len5U; (walk_at "sd")) | (with_reducible apply st_len5M; (walk_at "sd"))
  | (with_reducible apply st_len5; (with_unfolding_all exact Nat.le_of_ble_eq_true rfl))
  | (with_reducible apply st_len; (with_unfolding_all exact Nat.le_of_ble_eq_true rfl))
  | (with_reducible apply st_ixT; (with_unfolding_all exact rfl))
  | (with_reducible apply st_ixRow; (with_unfolding_all exact rfl)) | (with_reducible apply st_ixE; (with_unfolding_all exact rfl)) | (with_reducible apply st_ixP; (with_unfolding_all exact rfl))
  | (with_reducible apply st_ixL; (with_unfolding_all exact rfl); (with_unfolding_all exact rfl))
  | (with_reducible apply st_ixMT; (walk_at "sd"); (walk_at "sd"))
  | (with_reducible apply st_ixML; (walk_at "sd"); (walk_at "sd"))
  | (with_reducible apply st_ixIA; (assumption); (walk_at "sd"); (walk_at "sd"))
  | (with_reducible apply st_ixR; (walk_at "lg"))
  | (with_reducible apply st_ixlT; (walk_at "sd")) | (with_reducible apply st_ixlL; (walk_at "sd"))
  | (with_reducible refine st_selV ?_) | (with_reducible refine st_selVB ?_)
  | (with_reducible apply st_mulI; (first | (left; constructor <;> omega) | (right; constructor <;> omega)))
  | (with_reducible apply st_fdiv; (first | omega | decide); (first | omega | decide)) | (with_reducible apply st_mod; (first | omega | decide))
  | (with_reducible first | refine st_p3 ?_ | refine st_p5 ?_ | refine st_p6 ?_ | refine st_p7 ?_ | refine st_p8 ?_ | refine st_p9 ?_ | refine st_p10 ?_ | refine st_p12 ?_ | refine st_p15 ?_ | refine st_p18 ?_)
  | (with_reducible apply st_gU; (with_unfolding_all exact rfl)) | (with_reducible apply st_gUL; (walk_at "ls"); (with_unfolding_all exact rfl))
  | (with_reducible apply st_is; (with_unfolding_all exact rfl)) | (with_reducible apply st_isNot; (with_unfolding_all exact rfl))
  | (with_reducible apply st_isiT; (with_unfolding_all exact rfl); (simp); (decide)) | (with_reducible apply st_isiF; (with_unfolding_all exact rfl); (simp); (decide))
  | (with_reducible apply st_rg1; (omega); (omega)) | (with_reducible apply st_rgK2; (omega); (omega); (omega); (omega)) | (with_reducible apply st_rgK3; (omega); (omega); (omega); (omega)) | (with_reducible apply st_rvK; (omega); (omega))
  | (with_reducible apply st_lrK; (omega); (omega))
  | (with_reducible first | refine st_sumM ?_ | refine st_allM ?_ | refine st_anyM ?_ | refine st_inIT ?_ | refine st_inIL ?_ | apply st_inIP; (walk_at "lg"))
  | (with_reducible apply st_sum; (walk_at "ls"); (first | exact intsD_map _ | with_unfolding_all exact rfl))
  | (with_reducible apply st_bools; (walk_at "ls"); (first | exact boolsD_map _ | with_unfolding_all exact rfl))
  | (with_reducible apply st_lenMP; (walk_at "lg"))
  | (with_reducible apply st_tupL; (first | exact res_ptr (by assumption) | exact res_ptr uG_same)) | (with_reducible apply st_lenL; (first | exact res_ptr (by assumption) | exact res_ptr uG_same)) | (with_reducible apply st_slL; (first | exact res_ptr (by assumption) | exact res_ptr uG_same)) | (with_reducible apply st_lsKL; (first | exact res_ptr (by assumption) | exact res_ptr uG_same))
  | (with_reducible apply st_sqP; (walk_at "lg"))
  | (with_reducible apply st_neNilM; (walk_at "pl")) | (with_reducible apply st_neNilP; (walk_at "lg"); (walk_at "pl")) | (with_reducible apply st_eqNilL; (walk_at "pl")) | (with_reducible apply st_eqNilP; (walk_at "lg"); (walk_at "pl"))
  | (with_reducible refine st_inKV rfl ?_) | (with_reducible apply st_neNilT; (walk_at "pl"))
  | (with_reducible apply st_enP; (walk_at "lg"))
  | (with_reducible first | refine st_ninIT ?_ | refine st_ninIL ?_ | apply st_ninIP; (walk_at "lg"))
  | (with_reducible apply st_addTS; (with_unfolding_all exact Nat.le_of_ble_eq_true rfl))
  | (with_reducible apply st_mulT1; (walk_at "sd"); (walk_at "sd"))
  | (with_reducible apply st_ml1; (walk_at "sd"); (walk_at "sd"))
  | (with_reducible apply st_ex1; (walk_at "lg")) | (with_reducible apply st_ex2P; (walk_at "sd"))
  | (with_reducible apply st_ap1; (walk_at "lg")) | (with_reducible apply st_ap2U; (walk_at "sd")) | (with_reducible apply st_ap2; (walk_at "lg"); (walk_at "sd"))
  | (with_reducible apply st_revP; (walk_at "lg"))
  | (with_reducible apply st_rm1; (walk_at "lg")) | (with_reducible apply st_rm2U; (assumption)) | (with_reducible apply st_rm2; (walk_at "lg"); (assumption))
  | (with_reducible apply st_gsT; (walk_at "lg"); (omega)) | (with_reducible apply st_ixT2; (walk_at "lg"); (assumption))
  | (with_reducible apply st_addLM; (walk_at "sl")) | (with_reducible apply st_addTM; (walk_at "sl"))
  | (with_reducible apply ogL_ix; (with_unfolding_all exact rfl)) | (with_reducible apply ogL_set; (with_unfolding_all exact rfl); (with_unfolding_all exact rfl)) | (with_reducible apply st_rlP; (walk_at "lg"))
  | (with_reducible apply og_neNil; (assumption)) | (with_reducible apply og_popLast; (assumption); (walk_at "sd"); intro cc cs')
  | (with_reducible apply st_pa1; (walk_at "lg")) | (with_reducible apply st_pa2U; (walk_at "sd"); (walk_at "sd"); (walk_at "sd"); intro x ys tk) | (with_reducible apply st_pa2; (walk_at "lg"); (walk_at "sd"); (walk_at "sd"); (walk_at "sd"); intro x ys tk)
  | (with_reducible apply st_ins1; (walk_at "lg"))
  | (with_reducible apply st_cat; (first | decide | omega))
  | (with_reducible refine st_box_of_end ?_)
  | (with_reducible refine st_met ?_)
  | (with_reducible apply st_wanted; (walk_at "sc"); (walk_at "sc"))
  | (with_reducible refine iteD ?_ ?_ <;> intro c <;> try omega)
  | (with_reducible refine iteND ?_ ?_ <;> intro c <;> try omega)
  | (with_reducible refine iteB ?_ ?_ <;> intro c) | (with_reducible refine iteNB ?_ ?_ <;> intro c)
  | (with_reducible apply st_pickI2; (walk_at "sd"); (walk_at "sd"); intro v hv) | (with_reducible apply st_pickI3; (walk_at "sd"); (walk_at "sd"); intro v hv) | (with_reducible apply st_pickI4; (walk_at "sd"); (walk_at "sd"); intro v hv) | (with_reducible apply st_pickI5; (walk_at "sd"); (walk_at "sd"); intro v hv) | (with_reducible apply st_pickI6; (walk_at "sd"); (walk_at "sd"); intro v hv)
  | (with_reducible refine st_sel ?_ ?_ <;> intro c)
  | (with_reducible apply st_pickD2; (walk_at "sd"); (walk_at "sd"))
  | (with_reducible intro p hp)
))

theorem sem_row_of : ∀ ds G R X, sp_row_of ds G R X → ds.length = 2 ∧ t_row_of { nx := fun _ G' => RetOk R .non G', rt := RetOk R } (dstart N_row_of ds) G := by
  rintro ds G R X ⟨es, sm, rfl, hl, hr, hs, h⟩
  refine ⟨rfl, ?_⟩
  simp only [t_row_of, ds_row_of]
  walk_at "go"
  have getp : ∀ k (hk : k < sm.length), nth es sm[k] ∈ pick es sm := fun k hk => List.mem_map.mpr ⟨_, List.getElem_mem _, rfl⟩
  -- the height so far: all pairs with a first one ahead
  let P : Int → Nat → Nat → Prop := fun m i j => ((m = 0 ∧ (i = 0 ∧ j = 0)) ∨ ∃ e ∈ pick es sm, ∃ f ∈ pick es sm, wantI e f = m) ∧ 0 ≤ m ∧
    ∀ a b (ha : a < sm.length) (hb : b < sm.length), a ≤ b → (a < i ∨ (a = i ∧ b < i + j)) → wantI (nth es sm[a]) (nth es sm[b]) ≤ m
  refine loop_fm [2, 3, 4, 5] (fun i vs G' => ∃ m, (∃ x3 x4 x5, vs = [some (.int m), x3, x4, x5]) ∧ P m i 0 ∧ G' = G) ⟨0, ⟨_, _, _, rfl⟩, ⟨.inl ⟨rfl, rfl, rfl⟩, Int.le_refl _, fun a b _ _ _ z => by omega⟩, rfl⟩ (fun _ _ _ _ _ => trivial) ?_ ?_
  · rintro i ⟨x, k⟩ vs G' E hi hx ⟨m, ⟨x3, x4, x5, rfl⟩, hP, rfl⟩ hnx - - -
    rw [List.length_zipIdx] at hi
    have hk : sm[i] = x ∧ i = k := by
      rw [List.getElem?_zipIdx, List.getElem?_eq_getElem hi] at hx
      simpa using hx
    obtain ⟨hk, rfl⟩ := hk
    walk_at "ps"
    walk_at "go"
    rw [cutL_from (by omega), Int.toNat_natCast]
    refine loop_fm [2, 5] (fun j vs G2 => ∃ m, (∃ x5, vs = [some (.int m), x5]) ∧ P m i j ∧ G2 = G') ⟨m, ⟨_, rfl⟩, hP, rfl⟩ (fun _ _ _ _ _ => trivial) ?_ ?_
    · rintro j y vs G2 E2 hj hy ⟨m, ⟨x5, rfl⟩, ⟨p1, p2, p3⟩, rfl⟩ hnx2 - - -
      rw [List.length_drop] at hj
      rw [List.getElem?_drop, List.getElem?_eq_getElem (by omega)] at hy
      have hy := Option.some.inj hy
      have w1 := hr x (by rw [← hk]; exact List.getElem_mem _)
      have w2 := hr y (by rw [← hy]; exact List.getElem_mem _)
      walk_at "ps"
      walk_at "go"
      refine hnx2 [_, _] _ ⟨_, ⟨_, rfl⟩, ?_, rfl⟩
      have g1 := getp i hi
      have g2 := getp (i + j) (by omega)
      rw [hk] at g1
      rw [hy] at g2
      have w0 : 0 ≤ wantI (nth es x) (nth es y) := by
        have s1 := hs _ (nth_mem w1.1 w1.2)
        have s2 := hs _ (nth_mem w2.1 w2.2)
        unfold wantI stepsI absI
        (repeat' split) <;> omega
      generalize hw : wantI (nth es x) (nth es y) = w at w0
      refine ⟨?_, ?_, ?_⟩
      · split
        · exact .inr ⟨_, g1, _, g2, hw⟩
        · rcases p1 with ⟨rfl, _, _⟩ | p1
          · exact .inr ⟨_, g1, _, g2, by omega⟩
          · exact .inr p1
      · split <;> omega
      · intro a b ha hb hab hc
        by_cases hc' : a = i ∧ b = i + j
        · obtain ⟨rfl, rfl⟩ := hc'
          rw [hk, hy, hw]
          split <;> omega
        · have := p3 a b ha hb hab (by omega)
          split <;> omega
    rintro vs G2 ⟨m, ⟨x5, rfl⟩, ⟨p1, p2, p3⟩, rfl⟩
    rw [List.length_drop] at p3 p1
    walk_at "ps"
    refine hnx [_, _, _, _] _ ⟨m, ⟨_, _, _, rfl⟩, ⟨?_, p2, fun a b ha hb hab hc => p3 a b ha hb hab (by omega)⟩, rfl⟩
    rcases p1 with ⟨rfl, h1, h2⟩ | p1
    · omega
    · exact .inr p1
  rintro vs G' ⟨m, ⟨x3, x4, x5, rfl⟩, ⟨p1, p2, p3⟩, rfl⟩
  rw [List.length_zipIdx] at p1 p3
  have H : Hgt (pick es sm) m := by
    refine ⟨?_, ?_⟩
    · rcases p1 with ⟨_, h1, _⟩ | p1
      · omega
      · exact p1
    · intro e he f hf
      obtain ⟨u, hu, rfl⟩ := List.mem_map.mp he
      obtain ⟨v, hv, rfl⟩ := List.mem_map.mp hf
      obtain ⟨a, ha, rfl⟩ := List.getElem_of_mem hu
      obtain ⟨b, hb, rfl⟩ := List.getElem_of_mem hv
      by_cases c : a ≤ b
      · exact p3 a b ha hb c (.inl ha)
      · rw [wantI_comm]; exact p3 b a hb ha (by omega) (.inl hb)
  have hl' : (0 : Int) < (sm.length : Int) := by omega
  have H0 := hr (nth sm 0) (nth_mem (Int.le_refl _) hl')
  obtain ⟨H1, H2⟩ := H0
  walk_at "ps"
  walk_at "go"
  rw [cutL_from (by omega)]
  refine loop_fm [4, 6] (fun i vs G2 => ∃ b, (∃ x4, vs = [x4, some (bD b)]) ∧ BoxOf (pick es (sm.take (i + 1))) m b ∧ G2 = G') ⟨_, ⟨_, rfl⟩, ?_, rfl⟩ (fun _ _ _ _ _ => trivial) ?_ ?_
  · have e : pick es (sm.take (0 + 1)) = [nth es (nth sm 0)] := by
      unfold pick
      rw [List.take_succ, List.getElem?_eq_getElem hl, show nth sm 0 = sm[0] from nth_nat hl]
      rfl
    rw [e]; exact .one
  · rintro i x vs G2 E hi hx ⟨b, ⟨x4, rfl⟩, hB, rfl⟩ hnx - - -
    rw [List.length_drop] at hi
    rw [List.getElem?_drop, List.getElem?_eq_getElem (by omega)] at hx
    have hx := Option.some.inj hx
    have e1 : pick es (sm.take (i + 1 + 1)) = pick es (sm.take (i + 1)) ++ [nth es x] := by
      unfold pick
      rw [List.take_succ, List.getElem?_eq_getElem (by omega), List.map_append]
      have : sm[i + 1]'(by omega) = x := by rw [← hx]; congr 1; omega
      rw [this]; rfl
    have sub : ∀ z ∈ pick es (sm.take (i + 1 + 1)), z ∈ pick es sm := fun z hz => by
      obtain ⟨u, hu, rfl⟩ := List.mem_map.mp hz
      exact List.mem_map.mpr ⟨u, List.mem_of_mem_take hu, rfl⟩
    obtain ⟨b', hb, hB'⟩ := hB.more (e := nth es x) (fun z hz f hf => H.le z (sub z (by rw [e1]; exact hz)) f (sub f (by rw [e1]; exact hf)))
    have w1 := hr x (by rw [← hx]; exact List.getElem_mem _)
    walk_at "ps"
    walk_at "go"
    rw [hb]
    exact hnx [_, _] _ ⟨b', ⟨_, rfl⟩, by rw [e1]; exact hB', rfl⟩
  rintro vs G2 ⟨b, ⟨x4, rfl⟩, hB, rfl⟩
  rw [List.length_drop, List.take_of_length_le (by simp; omega)] at hB
  walk_at "ps"
  walk_at "go"
  exact .same (h m b H hB)
theorem fn_row_of (T : Mods K mg) : FnD P w K mg base CX0 3 "row_of" sp_row_of := fnd_mk T.d_row_of sc_row_of (fun _ _ _ _ _ _ us hl => match us, hl with | [_, _], _ => rfl) (body_row_of T) sem_row_of
/-! ### joined -/
theorem BoxOf.shift {l : List End} {h : Int} {b : Bx} (B : BoxOf l h b) (k : Int) : BoxOf l (h + k) (grB b k) := by
  obtain ⟨⟨⟨x1, i1, e1⟩, l1⟩, ⟨⟨x2, i2, e2⟩, l2⟩, ⟨⟨x3, i3, e3⟩, l3⟩, ⟨⟨x4, i4, e4⟩, l4⟩⟩ := B
  unfold bxE grB at *
  dsimp only at *
  constructor
  · exact ⟨⟨x1, i1, by unfold bxE grB; dsimp only; omega⟩, fun x hx => by have := l1 x hx; unfold bxE grB at *; dsimp only at *; omega⟩
  · exact ⟨⟨x2, i2, by unfold bxE grB; dsimp only; omega⟩, fun x hx => by have := l2 x hx; unfold bxE grB at *; dsimp only at *; omega⟩
  · exact ⟨⟨x3, i3, by unfold bxE grB; dsimp only; omega⟩, fun x hx => by have := l3 x hx; unfold bxE grB at *; dsimp only at *; omega⟩
  · exact ⟨⟨x4, i4, by unfold bxE grB; dsimp only; omega⟩, fun x hx => by have := l4 x hx; unfold bxE grB at *; dsimp only at *; omega⟩
theorem BoxOf.app {l m : List End} {h : Int} {p q : Bx} (A : BoxOf l h p) (B : BoxOf m h q) : BoxOf (l ++ m) h ⟨mxI p.a q.a, mnI p.b q.b, mxI p.c q.c, mnI p.d q.d⟩ := by
  have hm : ∀ x, x ∈ l ++ m ↔ x ∈ l ∨ x ∈ m := fun x => List.mem_append
  obtain ⟨⟨⟨x1, i1, e1⟩, l1⟩, ⟨⟨x2, i2, e2⟩, l2⟩, ⟨⟨x3, i3, e3⟩, l3⟩, ⟨⟨x4, i4, e4⟩, l4⟩⟩ := A
  obtain ⟨⟨⟨y1, j1, f1⟩, m1⟩, ⟨⟨y2, j2, f2⟩, m2⟩, ⟨⟨y3, j3, f3⟩, m3⟩, ⟨⟨y4, j4, f4⟩, m4⟩⟩ := B
  simp only [mxI_eq, mnI_eq]
  constructor
  · refine ⟨?_, fun x hx => ?_⟩
    · by_cases c : p.a ≤ q.a
      · exact ⟨y1, (hm _).mpr (.inr j1), by dsimp only; omega⟩
      · exact ⟨x1, (hm _).mpr (.inl i1), by dsimp only; omega⟩
    · rcases (hm x).mp hx with hx | hx
      · have := l1 x hx; dsimp only; omega
      · have := m1 x hx; dsimp only; omega
  · refine ⟨?_, fun x hx => ?_⟩
    · by_cases c : q.b ≤ p.b
      · exact ⟨y2, (hm _).mpr (.inr j2), by dsimp only; omega⟩
      · exact ⟨x2, (hm _).mpr (.inl i2), by dsimp only; omega⟩
    · rcases (hm x).mp hx with hx | hx
      · have := l2 x hx; dsimp only; omega
      · have := m2 x hx; dsimp only; omega
  · refine ⟨?_, fun x hx => ?_⟩
    · by_cases c : p.c ≤ q.c
      · exact ⟨y3, (hm _).mpr (.inr j3), by dsimp only; omega⟩
      · exact ⟨x3, (hm _).mpr (.inl i3), by dsimp only; omega⟩
    · rcases (hm x).mp hx with hx | hx
      · have := l3 x hx; dsimp only; omega
      · have := m3 x hx; dsimp only; omega
  · refine ⟨?_, fun x hx => ?_⟩
    · by_cases c : q.d ≤ p.d
      · exact ⟨y4, (hm _).mpr (.inr j4), by dsimp only; omega⟩
      · exact ⟨x4, (hm _).mpr (.inl i4), by dsimp only; omega⟩
    · rcases (hm x).mp hx with hx | hx
      · have := l4 x hx; dsimp only; omega
      · have := m4 x hx; dsimp only; omega
/-- what two rows come to together -/
theorem rows_join {l m : List End} {h k n : Int} {p q : Bx} (Hl : Hgt l h) (Bl : BoxOf l h p) (Hm : Hgt m k) (Bm : BoxOf m k q)
    (n1 : n ∈ [h, k, (h + k + aptI p q) / 2]) (n2 : ∀ y, y ∈ [h, k, (h + k + aptI p q) / 2] → y ≤ n) :
    Hgt (l ++ m) n ∧ ∃ b, metB (grB p (n - h)) (grB q (n - k)) = some b ∧ BoxOf (l ++ m) n b := by
  simp only [List.mem_cons, List.not_mem_nil, or_false, forall_eq_or_imp, forall_eq] at n1 n2
  have okp := Bl.ok Hl.le
  have okq := Bm.ok Hm.le
  have cross : ∀ e ∈ l, ∀ f ∈ m, 2 * wantI e f ≤ h + k + aptI p q := fun e he f hf => by
    have a1 := Bl.fa.2 e he; have b1 := Bl.fb.2 e he; have c1 := Bl.fc.2 e he; have d1 := Bl.fd.2 e he
    have a2 := Bm.fa.2 f hf; have b2 := Bm.fb.2 f hf; have c2 := Bm.fc.2 f hf; have d2 := Bm.fd.2 f hf
    unfold bxE grB uE vE at *
    dsimp only at *
    unfold wantI stepsI absI aptI
    (repeat' split) <;> omega
  have reach : 0 < aptI p q → ∃ e ∈ l, ∃ f ∈ m, h + k + aptI p q ≤ 2 * wantI e f := fun hp => by
    obtain ⟨⟨⟨x1, i1, e1⟩, l1⟩, ⟨⟨x2, i2, e2⟩, l2⟩, ⟨⟨x3, i3, e3⟩, l3⟩, ⟨⟨x4, i4, e4⟩, l4⟩⟩ := Bl
    obtain ⟨⟨⟨y1, j1, f1⟩, m1⟩, ⟨⟨y2, j2, f2⟩, m2⟩, ⟨⟨y3, j3, f3⟩, m3⟩, ⟨⟨y4, j4, f4⟩, m4⟩⟩ := Bm
    unfold bxE grB uE vE at *
    dsimp only at *
    have hc : aptI p q = p.a - q.b ∨ aptI p q = q.a - p.b ∨ aptI p q = p.c - q.d ∨ aptI p q = q.c - p.d := by unfold aptI at *; omega
    rcases hc with hc | hc | hc | hc
    · refine ⟨x1, i1, y2, j2, ?_⟩; unfold wantI stepsI absI; (repeat' split) <;> omega
    · refine ⟨x2, i2, y1, j1, ?_⟩; unfold wantI stepsI absI; (repeat' split) <;> omega
    · refine ⟨x3, i3, y4, j4, ?_⟩; unfold wantI stepsI absI; (repeat' split) <;> omega
    · refine ⟨x4, i4, y3, j3, ?_⟩; unfold wantI stepsI absI; (repeat' split) <;> omega
  have apt0 : 0 ≤ aptI p q := by unfold aptI; omega
  have Hn : Hgt (l ++ m) n := by
    refine ⟨?_, ?_⟩
    · by_cases c1 : n = h
      · obtain ⟨e, he, f, hf, w⟩ := Hl.is
        exact ⟨e, List.mem_append.mpr (.inl he), f, List.mem_append.mpr (.inl hf), by omega⟩
      by_cases c2 : n = k
      · obtain ⟨e, he, f, hf, w⟩ := Hm.is
        exact ⟨e, List.mem_append.mpr (.inr he), f, List.mem_append.mpr (.inr hf), by omega⟩
      have c3 : n = (h + k + aptI p q) / 2 := by omega
      obtain ⟨e, he, f, hf, w⟩ := reach (by omega)
      have := cross e he f hf
      exact ⟨e, List.mem_append.mpr (.inl he), f, List.mem_append.mpr (.inr hf), by omega⟩
    · intro e he f hf
      rcases List.mem_append.mp he with he | he <;> rcases List.mem_append.mp hf with hf | hf
      · have := Hl.le e he f hf; omega
      · have := cross e he f hf; omega
      · rw [wantI_comm]; have := cross f hf e he; omega
      · have := Hm.le e he f hf; omega
  refine ⟨Hn, ?_⟩
  have B1 := Bl.shift (n - h)
  have B2 := Bm.shift (n - k)
  rw [show h + (n - h) = n from by omega] at B1
  rw [show k + (n - k) = n from by omega] at B2
  have B := B1.app B2
  have ok := B.ok Hn.le
  refine ⟨_, ?_, B⟩
  unfold metB mkB
  unfold okB at ok
  dsimp only at ok
  rw [if_neg (by omega)]
structure RowOf (l : List End) (r : Int × Bx) : Prop where
  h : Hgt l r.1
  b : BoxOf l r.1 r.2
theorem RowOf.uniq {l m : List End} {p q : Int × Bx} (a : RowOf l p) (b : RowOf m q) (e : ∀ x, x ∈ l ↔ x ∈ m) : p = q := by
  have e1 := a.h.uniq b.h e
  have e2 := a.b.uniq (by rw [e1]; exact b.b) e
  cases p; cases q
  simp only at e1 e2
  rw [e1, e2]
def sp_joined : DSp := fun ds G R _ => ∃ (l m : List End) (p q : Int × Bx), ds = [rD p, rD q] ∧ (RowOf l p) ∧ (RowOf m q) ∧ (∀ r : Int × Bx, RowOf (l ++ m) r → R (.tup [.int r.1, bD r.2, .int (r.1 - p.1), .int (r.1 - q.1)]) G)
theorem st_joined {G : DH} {R : DK} {X : XD}  {l m : List End} {p q : Int × Bx} (zh0 : RowOf l p)  (zh1 : RowOf m q) (zq : ∀ r : Int × Bx, RowOf (l ++ m) r → R (.tup [.int r.1, bD r.2, .int (r.1 - p.1), .int (r.1 - q.1)]) G) : sp_joined [rD p, rD q] G R X := ⟨l, m, p, q, rfl, zh0, zh1, zq⟩
abbrev N_joined : List Str := ["one", "other", "height", "first", "second"]
theorem sc_joined : FnScope N_joined ["one", "other"] (defScope s_joined) := ⟨rfl, rfl, rfl, by decide +kernel, rfl, by decide +kernel, by decide +kernel⟩
def t_joined : DT := dSeq (dAsg (dCall cMaxN (aCons (dBin dIx (dVar 0) (dC (.int 0))) (aCons (dBin dIx (dVar 1) (dC (.int 0))) (aCons (dBin oFdiv (dBin oAdd (dBin oAdd (dBin dIx (dVar 0) (dC (.int 0))) (dBin dIx (dVar 1) (dC (.int 0)))) (dFn sp_apart (aCons (dBin dIx (dVar 0) (dC (.int 1))) (aCons (dBin dIx (dVar 1) (dC (.int 1))) (aNil))))) (dC (.int 2))) (aNil))))) (gN 2))
    (dSeq (dAsg (dBin oSub (dVar 2) (dBin dIx (dVar 0) (dC (.int 0)))) (gN 3))
    (dSeq (dAsg (dBin oSub (dVar 2) (dBin dIx (dVar 1) (dC (.int 0)))) (gN 4))
    (dRet (dTup (aCons (dVar 2) (aCons (dFn sp_met (aCons (dFn sp_grown (aCons (dBin dIx (dVar 0) (dC (.int 1))) (aCons (dVar 3) (aNil)))) (aCons (dFn sp_grown (aCons (dBin dIx (dVar 1) (dC (.int 1))) (aCons (dVar 4) (aNil)))) (aNil)))) (aCons (dVar 3) (aCons (dVar 4) (aNil)))))))))
theorem body_joined (T : Mods K mg) (f : Addr) (cdv : Value) (A : Around) (outer : List Env) (s : Shared) (H : Hp) (E : XK) (hr : Room 1 (A.deeper (envOfC "joined" (defScope s_joined) s.heap.objs.size f cdv))) : PSsD (cxOf CX0 P w K mg base N_joined "joined" (defScope s_joined) f cdv A outer s H E).nox (defBody s_joined) t_joined :=
  pssd_cons (psd_set (i := 2) sc_joined.nd rfl (Or.inl rfl) (ped_callB (cdMaxN rfl) rfl T.b_max (by decide +kernel) (pad_cons (ped_ix (ixd (hu_of hr)) (dv 0) (ped_int)) (pad_cons (ped_ix (ixd (hu_of hr)) (dv 1) (ped_int)) (pad_cons (ped_op odFdiv (ped_op odAdd (ped_op odAdd (ped_ix (ixd (hu_of hr)) (dv 0) (ped_int)) (ped_ix (ixd (hu_of hr)) (dv 1) (ped_int))) (ped_call (fn_apart T) (hr.mono (by decide)) rfl (pad_cons (ped_ix (ixd (hu_of hr)) (dv 0) (ped_int)) (pad_cons (ped_ix (ixd (hu_of hr)) (dv 1) (ped_int)) (pad_nil))))) (ped_int)) (pad_nil))))))
      (pssd_cons (psd_set (i := 3) sc_joined.nd rfl (Or.inl rfl) (ped_op odSub (dv 2) (ped_ix (ixd (hu_of hr)) (dv 0) (ped_int))))
      (pssd_cons (psd_set (i := 4) sc_joined.nd rfl (Or.inl rfl) (ped_op odSub (dv 2) (ped_ix (ixd (hu_of hr)) (dv 1) (ped_int))))
      (pssd_one (psd_ret (ped_tup (pad_cons (dv 2) (pad_cons (ped_call (fn_met T) (hr.mono (by decide)) rfl (pad_cons (ped_call (fn_grown T) (hr.mono (by decide)) rfl (pad_cons (ped_ix (ixd (hu_of hr)) (dv 0) (ped_int)) (pad_cons (dv 3) (pad_nil)))) (pad_cons (ped_call (fn_grown T) (hr.mono (by decide)) rfl (pad_cons (ped_ix (ixd (hu_of hr)) (dv 1) (ped_int)) (pad_cons (dv 4) (pad_nil)))) (pad_nil)))) (pad_cons (dv 3) (pad_cons (dv 4) (pad_nil))))))))))
theorem ds_joined (d0 : D) (d1 : D) : dstart N_joined [d0, d1] = [some d0, some d1, none, none, none] := rfl
set_option hygiene false in
local macro_rules | `(tactic| walk_at "go") => `(tactic| repeat' ((fail_if_success (with_reducible refine isLoop ?_)); (fail_if_success (with_reducible refine isComp ?_)); first
  | (refine Stp.out ?_)
  | (with_reducible apply st_var; (with_unfolding_all exact rfl))
  | (with_reducible apply st_len5U; (walk_at "sd")) | (with_reducible apply st_len5M; (walk_at "sd"))
  | (with_reducible apply st_len5; (with_unfolding_all exact Nat.le_of_ble_eq_true rfl))
  | (with_reducible apply st_len; (with_unfolding_all exact Nat.le_of_ble_eq_true rfl))
  | (with_reducible apply st_ixT; (with_unfolding_all exact rfl))
  | (with_reducible apply st_ixRow; (with_unfolding_all exact rfl)) | (with_reducible apply st_ixE; (with_unfolding_all exact rfl)) | (with_reducible apply st_ixP; (with_unfolding_all exact rfl))
  | (with_reducible apply st_ixL; (with_unfolding_all exact rfl); (with_unfolding_all exact rfl))
  | (with_reducible apply st_ixMT; (walk_at "sd"); (walk_at "sd"))
  | (with_reducible apply st_ixML; (walk_at "sd"); (walk_at "sd"))
  | (with_reducible apply st_ixIA; (assumption); (walk_at "sd"); (walk_at "sd"))
  | (with_reducible apply st_ixR; (walk_at "lg"))
  | (with_reducible apply st_ixlT; (walk_at "sd")) | (with_reducible apply st_ixlL; (walk_at "sd"))
  | (with_reducible refine st_selV ?_) | (with_reducible refine st_selVB ?_)
  | (with_reducible apply st_mulI; (first | (left; constructor <;> omega) | (right; constructor <;> omega)))
  | (with_reducible apply st_fdiv; (first | omega | decide); (first | omega | decide)) | (with_reducible apply st_mod; (first | omega | decide))
  | (with_reducible first | refine st_p3 ?_ | refine st_p5 ?_ | refine st_p6 ?_ | refine st_p7 ?_ | refine st_p8 ?_ | refine st_p9 ?_ | refine st_p10 ?_ | refine st_p12 ?_ | refine st_p15 ?_ | refine st_p18 ?_)
  | (with_reducible apply st_gU; (with_unfolding_all exact rfl)) | (with_reducible apply st_gUL; (walk_at "ls"); (with_unfolding_all exact rfl))
  | (with_reducible apply st_is; (with_unfolding_all exact rfl)) | (with_reducible apply st_isNot; (with_unfolding_all exact rfl))
  | (with_reducible apply st_isiT; (with_unfolding_all exact rfl); (simp); (decide)) | (with_reducible apply st_isiF; (with_unfolding_all exact rfl); (simp); (decide))
  | (with_reducible apply st_rg1; (omega); (omega)) | (with_reducible apply st_rgK2; (omega); (omega); (omega); (omega)) | (with_reducible apply st_rgK3; (omega); (omega); (omega); (omega)) | (with_reducible apply st_rvK; (omega); (omega))
  | (with_reducible apply st_lrK; (omega); (omega))
  | (with_reducible first | refine st_sumM ?_ | refine st_allM ?_ | refine st_anyM ?_ | refine st_inIT ?_ | refine st_inIL ?_ | apply st_inIP; (walk_at "lg"))
  | (with_reducible apply st_sum; (walk_at "ls"); (first | exact intsD_map _ | with_unfolding_all exact rfl))
  | (with_reducible apply st_bools; (walk_at "ls"); (first | exact boolsD_map _ | with_unfolding_all exact rfl))
  | (with_reducible apply st_lenMP; (walk_at "lg"))
  | (with_reducible apply st_tupL; (first | exact res_ptr (by assumption) | exact res_ptr uG_same)) | (with_reducible apply st_lenL; (first | exact res_ptr (by assumption) | exact res_ptr uG_same)) | (with_reducible apply st_slL; (first | exact res_ptr (by assumption) | exact res_ptr uG_same)) | (with_reducible apply st_lsKL; (first | exact res_ptr (by assumption) | exact res_ptr uG_same))
  | (with_reducible apply st_sqP; (walk_at "lg"))
  | (with_reducible apply st_neNilM; (walk_at "pl")) | (with_reducible apply st_neNilP; (walk_at "lg"); (walk_at "pl")) | (with_reducible apply st_eqNilL; (walk_at "pl")) | (with_reducible apply st_eqNilP; (walk_at "lg"); (walk_at "pl"))
  | (with_reducible refine st_inKV rfl ?_) | (with_reducible apply st_neNilT; (walk_at "pl"))
  | (with_reducible apply st_enP; (walk_at "lg"))
  | (with_reducible first | refine st_ninIT ?_ | refine st_ninIL ?_ | apply st_ninIP; (walk_at "lg"))
  | (with_reducible apply st_addTS; (with_unfolding_all exact Nat.le_of_ble_eq_true rfl))
  | (with_reducible apply st_mulT1; (walk_at "sd"); (walk_at "sd"))
  | (with_reducible apply st_ml1; (walk_at "sd"); (walk_at "sd"))
  | (with_reducible apply st_ex1; (walk_at "lg")) | (with_reducible apply st_ex2P; (walk_at "sd"))
  | (with_reducible apply st_ap1; (walk_at "lg")) | (with_reducible apply st_ap2U; (walk_at "sd")) | (with_reducible apply st_ap2; (walk_at "lg"); (walk_at "sd"))
  | (with_reducible apply st_revP; (walk_at "lg"))
  | (with_reducible apply st_rm1; (walk_at "lg")) | (with_reducible apply st_rm2U; (assumption)) | (with_reducible apply st_rm2; (walk_at "lg"); (assumption))
  | (with_reducible apply st_gsT; (walk_at "lg"); (omega)) | (with_reducible apply st_ixT2; (walk_at "lg"); (assumption))
  | (with_reducible apply st_addLM; (walk_at "sl")) | (with_reducible apply st_addTM; (walk_at "sl"))
  | (with_reducible apply ogL_ix; (with_unfolding_all exact rfl)) | (with_reducible apply ogL_set; (with_unfolding_all exact rfl); (with_unfolding_all exact rfl)) | (with_reducible apply st_rlP; (walk_at "lg"))
  | (with_reducible apply og_neNil; (assumption)) | (with_reducible apply og_popLast; (assumption); (walk_at "sd"); intro cc cs')
  | (with_reducible apply st_pa1; (walk_at "lg")) | (with_reducible apply st_pa2U; (walk_at "sd"); (walk_at "sd"); (walk_at "sd"); intro x ys tk) | (with_reducible apply st_pa2; (walk_at "lg"); (walk_at "sd"); (walk_at "sd"); (walk_at "sd"); intro x ys tk)
  | (with_reducible apply st_ins1; (walk_at "lg"))
  | (with_reducible apply st_cat; (first | decide | omega))
  | (with_reducible refine st_apart ?_)
  | (with_reducible refine st_grown ?_)
  | (with_reducible refine st_met ?_)
  | (with_reducible refine iteD ?_ ?_ <;> intro c <;> try omega)
  | (with_reducible refine iteND ?_ ?_ <;> intro c <;> try omega)
  | (with_reducible refine iteB ?_ ?_ <;> intro c) | (with_reducible refine iteNB ?_ ?_ <;> intro c)
  | (with_reducible apply st_pickI2; (walk_at "sd"); (walk_at "sd"); intro v hv) | (with_reducible apply st_pickI3; (walk_at "sd"); (walk_at "sd"); intro v hv) | (with_reducible apply st_pickI4; (walk_at "sd"); (walk_at "sd"); intro v hv) | (with_reducible apply st_pickI5; (walk_at "sd"); (walk_at "sd"); intro v hv) | (with_reducible apply st_pickI6; (walk_at "sd"); (walk_at "sd"); intro v hv)
  | (with_reducible refine st_sel ?_ ?_ <;> intro c)
  | (with_reducible apply st_pickD2; (walk_at "sd"); (walk_at "sd"))
  | (with_reducible intro p hp)
))

theorem sem_joined : ∀ ds G R X, sp_joined ds G R X → ds.length = 2 ∧ t_joined { nx := fun _ G' => RetOk R .non G', rt := RetOk R } (dstart N_joined ds) G := by
  rintro ds G R X ⟨l, m, ⟨h, p⟩, ⟨k, q⟩, rfl, ⟨Hl, Bl⟩, ⟨Hm, Bm⟩, hh⟩
  refine ⟨rfl, ?_⟩
  simp only [t_joined, ds_joined]
  dsimp only at *
  walk_at "go"
  refine st_maxN (ns := [_, _, _]) (Nat.le_of_ble_eq_true rfl) (Nat.le_of_ble_eq_true rfl) fun n h1 h2 => ?_
  obtain ⟨Hn, b, hb, Bn⟩ := rows_join Hl Bl Hm Bm h1 h2
  walk_at "go"
  rw [hb, bO_some]
  walk_at "go"
  exact .same (hh (n, b) ⟨Hn, Bn⟩)
theorem fn_joined (T : Mods K mg) : FnD P w K mg base CX0 2 "joined" sp_joined := fnd_mk T.d_joined sc_joined (fun _ _ _ _ _ _ us hl => match us, hl with | [_, _], _ => rfl) (body_joined T) sem_joined
/-! ### rows_of -/
/-- the rows of all knots -/
def RowsOf (es : List End) (bl : List (List Int)) (rs : List (Int × Bx)) : Prop := rs.length = bl.length ∧ ∀ k (_ : k < rs.length) (_ : k < bl.length), RowOf (pick es bl[k]) rs[k]
theorem RowsOf.at {es : List End} {bl : List (List Int)} {rs : List (Int × Bx)} (h : RowsOf es bl rs) {i : Int} (h0 : 0 ≤ i) (h1 : i < bl.length) : i < rs.length ∧ RowOf (pick es (nth bl i)) (nth rs i) := by
  have hl := h.1
  refine ⟨by omega, ?_⟩
  have := h.2 i.toNat (by omega) (by omega)
  have e : i = ((i.toNat : Nat) : Int) := by omega
  rw [e, nth_nat (by omega), nth_nat (by omega)]
  simpa using this
theorem RowsOf.more {es : List End} {bl : List (List Int)} {rs : List (Int × Bx)} (h : RowsOf es bl rs) {l : List Int} {r : Int × Bx} (hr : RowOf (pick es l) r) : RowsOf es (bl ++ [l]) (rs ++ [r]) := by
  refine ⟨by rw [List.length_append, List.length_append, h.1]; rfl, fun k h1 h2 => ?_⟩
  by_cases c : k < rs.length
  · have c2 : k < bl.length := by rw [← h.1]; exact c
    rw [List.getElem_append_left c, List.getElem_append_left c2]
    exact h.2 k c c2
  · have hl := h.1
    have : k = rs.length := by simp at h1; omega
    subst this
    rw [List.getElem_append_right (by omega), List.getElem_append_right (by omega)]
    simp only [hl, Nat.sub_self, List.getElem_cons_zero]
    exact hr
theorem RowOf.ex_uniq {l : List End} {p q : Int × Bx} (a : RowOf l p) (b : RowOf l q) : p = q := a.uniq b fun _ => Iff.rfl
def sp_rows_of : DSp := fun ds G R _ => ∃ (es : List End) (js : Jn), ds = [.tup (es.map eD), .tup (js.map pD)] ∧ (0 < es.length) ∧ (es.length ≤ 1000) ∧ (js.length ≤ 1000) ∧ (∀ e ∈ es, okE e) ∧ (∀ k p, js[k]? = some p → (0 ≤ p.1 ∧ p.1 < (es.length : Int) + (k : Nat)) ∧ (0 ≤ p.2 ∧ p.2 < (es.length : Int) + (k : Nat)) ∧ p.1 ≠ p.2) ∧ (∀ rs : List (Int × Bx), RowsOf es (below es.length js) rs → R (.tup (rs.map rD)) G)
theorem st_rows_of {G : DH} {R : DK} {X : XD}  {es : List End} {js : Jn} (zh0 : 0 < es.length)  (zh1 : es.length ≤ 1000)  (zh2 : js.length ≤ 1000)  (zh3 : ∀ e ∈ es, okE e)  (zh4 : ∀ k p, js[k]? = some p → (0 ≤ p.1 ∧ p.1 < (es.length : Int) + (k : Nat)) ∧ (0 ≤ p.2 ∧ p.2 < (es.length : Int) + (k : Nat)) ∧ p.1 ≠ p.2) (zq : ∀ rs : List (Int × Bx), RowsOf es (below es.length js) rs → R (.tup (rs.map rD)) G) : sp_rows_of [.tup (es.map eD), .tup (js.map pD)] G R X := ⟨es, js, rfl, zh0, zh1, zh2, zh3, zh4, zq⟩
abbrev N_rows_of : List Str := ["ends", "joining", "rows", "one", "other", "height", "box", "first", "second", "end"]
theorem sc_rows_of : FnScope N_rows_of ["ends", "joining"] (defScope s_rows_of) := ⟨rfl, rfl, rfl, by decide +kernel, rfl, by decide +kernel, by decide +kernel⟩
def t_rows_of : DT := dSeq (dAsgL (fComp (iRange1 (aCons (dCall cLen (aCons (dVar 0) (aNil))) (aNil))) (gN 9) dYes (dFn sp_row_of (aCons (dVar 0) (aCons (dTup (aCons (dVar 9) (aNil))) (aNil)))) [9]) 2)
    (dSeq (dFor (iSeq (dVar 1)) (gU 2 (gNc (gN 3) (gNc (gN 4) (gN0)))) (dSeq (dAsg (dFn sp_joined (aCons (dBin dIx (dVar 2) (dVar 3)) (aCons (dBin dIx (dVar 2) (dVar 4)) (aNil)))) (gU 4 (gNc (gN 5) (gNc (gN 6) (gNc (gN 7) (gNc (gN 8) (gN0)))))))
    (dDrop (dAppend (dVar 2) (dTup (aCons (dVar 5) (aCons (dVar 6) (aNil))))))))
    (dRet (dCall cTuple (aCons (dVar 2) (aNil)))))
theorem body_rows_of (T : Mods K mg) (f : Addr) (cdv : Value) (A : Around) (outer : List Env) (s : Shared) (H : Hp) (E : XK) (hr : Room 3 (A.deeper (envOfC "rows_of" (defScope s_rows_of) s.heap.objs.size f cdv))) : PSsD (cxOf CX0 P w K mg base N_rows_of "rows_of" (defScope s_rows_of) f cdv A outer s H E).nox (defBody s_rows_of) t_rows_of :=
  pssd_cons (psd_setLcL (i := 2) (own := [("end", 9)]) rfl sc_rows_of.nd rfl rfl (sw_true rfl rfl rfl (by decide +kernel)) (pid_range1 rfl T.b_range (pad_cons (ped_callB cdLen rfl T.b_len (by decide +kernel) (pad_cons (dv 0) (pad_nil))) (pad_nil))) (blkOk_by (N := N_rows_of) (sc := defScope s_rows_of) (by decide +kernel)) (fun _ _ _ _ _ => pgd_name (i := 9) sc_rows_of.nd rfl (Or.inl rfl)) (fun _ _ _ _ _ => ptsd_nil) (fun _ _ _ _ _ => ped_call (fn_row_of T) (hr.mono (by decide)) rfl (pad_cons (dv 0) (pad_cons (ped_tup (pad_cons (dv 9) (pad_nil))) (pad_nil)))))
      (pssd_cons (psd_for (vs := [3, 4]) PassesOwn.never rfl (pid_seq (dv 1)) (pgd_seq (n := 2) rfl (pgsd_cons (pgd_name (i := 3) sc_rows_of.nd rfl (Or.inl rfl)) (pgsd_cons (pgd_name (i := 4) sc_rows_of.nd rfl (Or.inl rfl)) (pgsd_nil)))) (pssd_cons (psd_asg (vs := [5, 6, 7, 8]) (ped_call (fn_joined T) (hr.mono (by decide)) rfl (pad_cons (ped_ix (ixd (hu_of hr)) (dv 2) (dv 3)) (pad_cons (ped_ix (ixd (hu_of hr)) (dv 2) (dv 4)) (pad_nil)))) (pgd_seq (n := 4) rfl (pgsd_cons (pgd_name (i := 5) sc_rows_of.nd rfl (Or.inl rfl)) (pgsd_cons (pgd_name (i := 6) sc_rows_of.nd rfl (Or.inl rfl)) (pgsd_cons (pgd_name (i := 7) sc_rows_of.nd rfl (Or.inl rfl)) (pgsd_cons (pgd_name (i := 8) sc_rows_of.nd rfl (Or.inl rfl)) (pgsd_nil)))))))
      (pssd_one (psd_drop (ped_append (dv 2) (ped_tup (pad_cons (dv 5) (pad_cons (dv 6) (pad_nil)))))))))
      (pssd_one (psd_ret (ped_callTy cdTuple rfl T.b_tuple (by decide +kernel) (pad_cons (dv 2) (pad_nil))))))
theorem ds_rows_of (d0 : D) (d1 : D) : dstart N_rows_of [d0, d1] = [some d0, some d1, none, none, none, none, none, none, none, none] := rfl
set_option hygiene false in
local macro_rules | `(tactic| walk_at "go") => `(tactic| repeat' ((fail_if_success (with_reducible refine isLoop ?_)); (fail_if_success (with_reducible refine isComp ?_)); first
  | (refine Stp.out ?_)
  | (with_reducible apply st_var; (with_unfolding_all exact rfl))
  | (with_reducible apply st_len5U; (walk_at "sd")) | (with_reducible apply st_len5M; (walk_at "sd"))
  | (with_reducible apply st_len5; (with_unfolding_all exact Nat.le_of_ble_eq_true rfl))
  | (with_reducible apply st_len; (with_unfolding_all exact Nat.le_of_ble_eq_true rfl))
  | (with_reducible apply st_ixT; (with_unfolding_all exact rfl))
  | (with_reducible apply st_ixRow; (with_unfolding_all exact rfl)) | (with_reducible apply st_ixE; (with_unfolding_all exact rfl)) | (with_reducible apply st_ixP; (with_unfolding_all exact rfl))
  | (with_reducible apply st_ixL; (with_unfolding_all exact rfl); (with_unfolding_all exact rfl))
  | (with_reducible apply st_ixMT; (walk_at "sd"); (walk_at "sd"))
  | (with_reducible apply st_ixML; (walk_at "sd"); (walk_at "sd"))
  | (with_reducible apply st_ixIA; (assumption); (walk_at "sd"); (walk_at "sd"))
  | (with_reducible apply st_ixR; (walk_at "lg"))
  | (with_reducible apply st_ixlT; (walk_at "sd")) | (with_reducible apply st_ixlL; (walk_at "sd"))
  | (with_reducible refine st_selV ?_) | (with_reducible refine st_selVB ?_)
  | (with_reducible apply st_mulI; (first | (left; constructor <;> omega) | (right; constructor <;> omega)))
  | (with_reducible apply st_fdiv; (first | omega | decide); (first | omega | decide)) | (with_reducible apply st_mod; (first | omega | decide))
  | (with_reducible first | refine st_p3 ?_ | refine st_p5 ?_ | refine st_p6 ?_ | refine st_p7 ?_ | refine st_p8 ?_ | refine st_p9 ?_ | refine st_p10 ?_ | refine st_p12 ?_ | refine st_p15 ?_ | refine st_p18 ?_)
  | (with_reducible apply st_gU; (with_unfolding_all exact rfl)) | (with_reducible apply st_gUL; (walk_at "ls"); (with_unfolding_all exact rfl))
  | (with_reducible apply st_is; (with_unfolding_all exact rfl)) | (with_reducible apply st_isNot; (with_unfolding_all exact rfl))
  | (with_reducible apply st_isiT; (with_unfolding_all exact rfl); (simp); (decide)) | (with_reducible apply st_isiF; (with_unfolding_all exact rfl); (simp); (decide))
  | (with_reducible apply st_rg1; (omega); (omega)) | (with_reducible apply st_rgK2; (omega); (omega); (omega); (omega)) | (with_reducible apply st_rgK3; (omega); (omega); (omega); (omega)) | (with_reducible apply st_rvK; (omega); (omega))
  | (with_reducible apply st_lrK; (omega); (omega))
  | (with_reducible first | refine st_sumM ?_ | refine st_allM ?_ | refine st_anyM ?_ | refine st_inIT ?_ | refine st_inIL ?_ | apply st_inIP; (walk_at "lg"))
  | (with_reducible apply st_sum; (walk_at "ls"); (first | exact intsD_map _ | with_unfolding_all exact rfl))
  | (with_reducible apply st_bools; (walk_at "ls"); (first | exact boolsD_map _ | with_unfolding_all exact rfl))
  | (with_reducible apply st_lenMP; (walk_at "lg"))
  | (with_reducible apply st_tupL; (first | exact res_ptr (by assumption) | exact res_ptr uG_same)) | (with_reducible apply st_lenL; (first | exact res_ptr (by assumption) | exact res_ptr uG_same)) | (with_reducible apply st_slL; (first | exact res_ptr (by assumption) | exact res_ptr uG_same)) | (with_reducible apply st_lsKL; (first | exact res_ptr (by assumption) | exact res_ptr uG_same))
  | (with_reducible apply st_sqP; (walk_at "lg"))
  | (with_reducible apply st_neNilM; (walk_at "pl")) | (with_reducible apply st_neNilP; (walk_at "lg"); (walk_at "pl")) | (with_reducible apply st_eqNilL; (walk_at "pl")) | (with_reducible apply st_eqNilP; (walk_at "lg"); (walk_at "pl"))
  | (with_reducible refine st_inKV rfl ?_) | (with_reducible apply st_neNilT; (walk_at "pl"))
  | (with_reducible apply st_enP; (walk_at "lg"))
  | (with_reducible first | refine st_ninIT ?_ | refine st_ninIL ?_ | apply st_ninIP; (walk_at "lg"))
  | (with_reducible apply st_addTS; (with_unfolding_all exact Nat.le_of_ble_eq_true rfl))
  | (with_reducible apply st_mulT1; (walk_at "sd"); (walk_at "sd"))
  | (with_reducible apply st_ml1; (walk_at "sd"); (walk_at "sd"))
  | (with_reducible apply st_ex1; (walk_at "lg")) | (with_reducible apply st_ex2P; (walk_at "sd"))
  | (with_reducible apply st_ap1; (walk_at "lg")) | (with_reducible apply st_ap2U; (walk_at "sd")) | (with_reducible apply st_ap2; (walk_at "lg"); (walk_at "sd"))
  | (with_reducible apply st_revP; (walk_at "lg"))
  | (with_reducible apply st_rm1; (walk_at "lg")) | (with_reducible apply st_rm2U; (assumption)) | (with_reducible apply st_rm2; (walk_at "lg"); (assumption))
  | (with_reducible apply st_gsT; (walk_at "lg"); (omega)) | (with_reducible apply st_ixT2; (walk_at "lg"); (assumption))
  | (with_reducible apply st_addLM; (walk_at "sl")) | (with_reducible apply st_addTM; (walk_at "sl"))
  | (with_reducible apply ogL_ix; (with_unfolding_all exact rfl)) | (with_reducible apply ogL_set; (with_unfolding_all exact rfl); (with_unfolding_all exact rfl)) | (with_reducible apply st_rlP; (walk_at "lg"))
  | (with_reducible apply og_neNil; (assumption)) | (with_reducible apply og_popLast; (assumption); (walk_at "sd"); intro cc cs')
  | (with_reducible apply st_pa1; (walk_at "lg")) | (with_reducible apply st_pa2U; (walk_at "sd"); (walk_at "sd"); (walk_at "sd"); intro x ys tk) | (with_reducible apply st_pa2; (walk_at "lg"); (walk_at "sd"); (walk_at "sd"); (walk_at "sd"); intro x ys tk)
  | (with_reducible apply st_ins1; (walk_at "lg"))
  | (with_reducible apply st_cat; (first | decide | omega))
  | (with_reducible apply st_joined; (walk_at "sc"); (walk_at "sc"); intro n hn)
  | (with_reducible apply st_row_of; (walk_at "sc"); (walk_at "sc"); (walk_at "sc"); intro h b q0 q1)
  | (with_reducible refine iteD ?_ ?_ <;> intro c <;> try omega)
  | (with_reducible refine iteND ?_ ?_ <;> intro c <;> try omega)
  | (with_reducible refine iteB ?_ ?_ <;> intro c) | (with_reducible refine iteNB ?_ ?_ <;> intro c)
  | (with_reducible apply st_pickI2; (walk_at "sd"); (walk_at "sd"); intro v hv) | (with_reducible apply st_pickI3; (walk_at "sd"); (walk_at "sd"); intro v hv) | (with_reducible apply st_pickI4; (walk_at "sd"); (walk_at "sd"); intro v hv) | (with_reducible apply st_pickI5; (walk_at "sd"); (walk_at "sd"); intro v hv) | (with_reducible apply st_pickI6; (walk_at "sd"); (walk_at "sd"); intro v hv)
  | (with_reducible refine st_sel ?_ ?_ <;> intro c)
  | (with_reducible apply st_pickD2; (walk_at "sd"); (walk_at "sd"))
  | (with_reducible intro p hp)
))

theorem sem_rows_of : ∀ ds G R X, sp_rows_of ds G R X → ds.length = 2 ∧ t_rows_of { nx := fun _ G' => RetOk R .non G', rt := RetOk R } (dstart N_rows_of ds) G := by
  rintro ds G R X ⟨es, js, rfl, h0, h1, h2, hok, hj, h⟩
  refine ⟨rfl, ?_⟩
  simp only [t_rows_of, ds_rows_of]
  have hs : ∀ e ∈ es, 0 ≤ e.s := fun e he => (hok e he).2.2.1.1
  have rowE : ∀ i : Int, ∃ r : Int × Bx, 0 ≤ i → i < es.length → RowOf [nth es i] r := fun i => ⟨(wantI (nth es i) (nth es i), bxE (nth es i) (wantI (nth es i) (nth es i))), fun _ _ => ⟨⟨⟨_, List.mem_singleton.mpr rfl, _, List.mem_singleton.mpr rfl, rfl⟩, fun e he f hf => by rw [List.mem_singleton.mp he, List.mem_singleton.mp hf]; exact Int.le_refl _⟩, .one⟩⟩
  let g : Int → Int × Bx := fun i => (rowE i).choose
  have hg : ∀ i : Int, 0 ≤ i → i < es.length → RowOf [nth es i] (g i) := fun i => (rowE i).choose_spec
  clear_value g
  walk_at "go"
  refine comp_map (fun i => rD (g i)) trivial ?_ ?_
  · intro x hx acc K hK
    obtain ⟨x0, x1⟩ := mem_upto.mp hx
    walk_at "go"
    refine st_row_of (sm := [x]) (Nat.lt_succ_self 0) (fun i hi => by rw [List.mem_singleton.mp hi]; exact ⟨x0, x1⟩) hs fun h b H B => ?_
    have e : g x = (h, b) := (hg x x0 x1).ex_uniq ⟨H, B⟩
    rw [e] at hK
    exact hK
  intro p hp
  walk_at "go"
  refine loop_fm [3, 4, 5, 6, 7, 8] (fun i vs G' => (∃ x3 x4 x5 x6 x7 x8, vs = [x3, x4, x5, x6, x7, x8]) ∧ ∃ rs : List (Int × Bx), G' = uG G p (.lst (rs.map rD)) ∧ RowsOf es (below es.length (js.take i)) rs) ⟨⟨_, _, _, _, _, _, rfl⟩, (upto es.length).map g, ?_, ?_⟩ (fun _ _ _ _ _ => trivial) ?_ ?_
  · rw [List.map_map]; rfl
  · refine ⟨by rw [below_len]; simp [upto_len], fun k k1 k2 => ?_⟩
    rw [List.length_map, upto_len] at k1
    have e1 : (below es.length (js.take 0))[k] = [(k : Int)] := by simp [below, upto]
    have e2 : ((upto es.length).map g)[k]'(by simpa [upto_len] using k1) = g k := by simp [upto]
    rw [e1, e2]
    exact hg k (by omega) (by omega)
  · rintro i q vs G' E hi hx ⟨⟨x3, x4, x5, x6, x7, x8, rfl⟩, rs, rfl, hrs⟩ hnx - - -
    obtain ⟨⟨a0, a1⟩, ⟨b0, b1⟩, hne⟩ := hj i q hx
    have hbl : (below es.length (js.take i)).length = es.length + i := by rw [below_len, List.length_take]; omega
    obtain ⟨a2, ra⟩ := hrs.at a0 (by rw [hbl]; omega)
    obtain ⟨b2, rb⟩ := hrs.at b0 (by rw [hbl]; omega)
    have hlr := hrs.1
    walk_at "ps"
    walk_at "go"
    refine hnx [_, _, _, _, _, _] _ ⟨⟨_, _, _, _, _, _, rfl⟩, _, snocR, ?_⟩
    have e : js.take (i + 1) = js.take i ++ [q] := by
      rw [List.take_succ, hx]; rfl
    rw [e, below_snoc]
    exact hrs.more (by unfold pick at *; rw [List.map_append]; exact hn)
  rintro vs G' ⟨⟨x3, x4, x5, x6, x7, x8, rfl⟩, rs, rfl, hrs⟩
  rw [List.take_length] at hrs
  walk_at "ps"
  walk_at "go"
  exact .drop (Sub.refl.new hp) (h rs hrs)
theorem fn_rows_of (T : Mods K mg) : FnD P w K mg base CX0 4 "rows_of" sp_rows_of := fnd_mk T.d_rows_of sc_rows_of (fun _ _ _ _ _ _ us hl => match us, hl with | [_, _], _ => rfl) (body_rows_of T) sem_rows_of
/-! ### _law_deck -/
abbrev sp__law_deck : DSp := spDeck dks
abbrev spx__law_deck : DSp := spDeckX dks
-- parts
abbrev N__law_deck : List Str := ["_law_script"]
theorem sc__law_deck : FnScope N__law_deck ["_law_script"] (defScope s__law_deck) := ⟨rfl, rfl, rfl, by decide +kernel, rfl, by decide +kernel, by decide +kernel⟩
def t__law_deck : DT := dRet (dDisp [(dC (.str "cells"), dAd (fListOf (dSlice rSl (dVar 0) (oNo) (oPart (dC (.int 63)))))), (dC (.str "at"), dC (.int 0)), (dC (.str "rest"), dC (.int 0)), (dC (.str "seed"), dC (.int 31))])
theorem body__law_deck (T : Mods K mg) (f : Addr) (cdv : Value) (A : Around) (outer : List Env) (s : Shared) (H : Hp) (E : XK) (hr : Room 0 (A.deeper (envOfC "_law_deck" (defScope s__law_deck) s.heap.objs.size f cdv))) : PSsD (cxOf CX0 P w K mg base N__law_deck "_law_deck" (defScope s__law_deck) f cdv A outer s H E).nox (defBody s__law_deck) t__law_deck :=
  pssd_one (psd_ret (ped_disp (ppsd_cons (ped_str) (ped_ad (pef_list rfl T.b_list (ped_slice (dv 0) (pod_none) (pod_some (ped_int))))) (ppsd_cons (ped_str) (ped_int) (ppsd_cons (ped_str) (ped_int) (ppsd_cons (ped_str) (ped_int) (ppsd_nil)))))))
theorem ds__law_deck (d0 : D) : dstart N__law_deck [d0] = [some d0] := rfl
set_option hygiene false in
local macro_rules | `(tactic| walk_at "st") => `(tactic| repeat (first
  | (refine Stp.out ?_)
  | (with_reducible apply st_var; (with_unfolding_all exact rfl))
  | (with_reducible apply st_ixT; (with_unfolding_all exact rfl))
  | (with_reducible apply st_len5; (with_unfolding_all exact Nat.le_of_ble_eq_true rfl))
  | (with_reducible apply st_len; (with_unfolding_all exact Nat.le_of_ble_eq_true rfl))
  | (with_reducible apply st_mulI; (first | (left; constructor <;> omega) | (right; constructor <;> omega)))
  | (with_reducible apply st_ixL; (first | (with_unfolding_all exact rfl) | exact res_ptr (by assumption) | exact res_ptr uG_same); (with_unfolding_all exact rfl))
  | (with_reducible apply st_fdiv; (first | omega | decide); (first | omega | decide)) | (with_reducible apply st_mod; (first | omega | decide))
  | (with_reducible first | refine st_p3 ?_ | refine st_p5 ?_ | refine st_p6 ?_ | refine st_p7 ?_ | refine st_p8 ?_ | refine st_p9 ?_ | refine st_p10 ?_ | refine st_p12 ?_ | refine st_p15 ?_ | refine st_p18 ?_)
  | (with_reducible apply st_gU; (with_unfolding_all exact rfl)) | (with_reducible apply st_gUL; (first | (with_unfolding_all exact rfl) | exact res_ptr (by assumption) | exact res_ptr uG_same); (with_unfolding_all exact rfl))
  | (with_reducible apply st_is; (with_unfolding_all exact rfl)) | (with_reducible apply st_isNot; (with_unfolding_all exact rfl))
  | (with_reducible apply st_isiT; (with_unfolding_all exact rfl); (simp); (decide)) | (with_reducible apply st_isiF; (with_unfolding_all exact rfl); (simp); (decide))
  | (with_reducible apply st_rgK1; (omega); (omega)) | (with_reducible apply st_rgK2; (omega); (omega); (omega); (omega))
  | (with_reducible apply st_sum; (first | (with_unfolding_all exact rfl) | exact res_ptr (by assumption) | exact res_ptr uG_same); (first | exact intsD_map _ | with_unfolding_all exact rfl))
  | (with_reducible apply st_bools; (first | (with_unfolding_all exact rfl) | exact res_ptr (by assumption) | exact res_ptr uG_same); (first | exact boolsD_map _ | with_unfolding_all exact rfl))
  | (with_reducible apply st_tupL; (first | exact res_ptr (by assumption) | exact res_ptr uG_same)) | (with_reducible apply st_lenL; (first | exact res_ptr (by assumption) | exact res_ptr uG_same)) | (with_reducible apply st_slL; (first | exact res_ptr (by assumption) | exact res_ptr uG_same)) | (with_reducible apply st_lsKL; (first | exact res_ptr (by assumption) | exact res_ptr uG_same))
  | (with_reducible apply st_sqP; (first | assumption | exact uG_same))))

theorem sem__law_deck : ∀ ds G R X, spx__law_deck ds G R X → ds.length = 1 ∧ t__law_deck { nx := fun _ G' => RetOk R .non G', rt := RetOk R } (dstart N__law_deck ds) G := by
  rintro ds G R X ⟨ns, rfl, hl, h⟩
  refine ⟨rfl, ?_⟩
  simp only [t__law_deck, ds__law_deck]
  walk_at "st"
  intro l hG
  walk_at "st"
  refine ⟨by show 4 ≤ 15; decide, fun p hp => ?_⟩
  have nd4 : ([.inr "cells", .inr "at", .inr "rest", .inr "seed"] : List Key).Nodup := by decide +kernel
  have em : ∀ x y z : Int, mergeD [] [(.inr "cells", .ptr l), (.inr "at", .int x), (.inr "rest", .int y), (.inr "seed", .int z)] = [(.inr "cells", .ptr l), (.inr "at", .int x), (.inr "rest", .int y), (.inr "seed", .int z)] := fun x y z => mergeD_nil nd4
  rw [em]
  have hne : p ≠ l := fun z => by subst z; rw [uG_same] at hp; cases hp
  rw [uG_ne hne] at hp
  exact .same (h p l [_, _, _] _ hp hG hne ((dki3 rfl).mpr ⟨by first | omega | exact Int.ediv_nonneg (by omega) (by omega), by first | omega | exact Int.ediv_nonneg (by omega) (by omega), by first | omega | exact Int.ediv_nonneg (by omega) (by omega)⟩))
theorem fn__law_deck (T : Mods K mg) : FnD P w K mg base CX0 1 "_law_deck" sp__law_deck := FnD.shift (sp := spx__law_deck) (fnd_mk T.d__law_deck sc__law_deck (fun _ _ _ _ _ _ us hl => match us, hl with | [_], _ => rfl) (body__law_deck T) sem__law_deck) deck_shift
/-! ### _law_draw -/
abbrev sp__law_draw : DSp := spDraw dks
abbrev spx__law_draw : DSp := spDrawX dks
-- parts
abbrev N__law_draw : List Str := ["_law_deck_here", "_law_many", "_law_digit", "_law_cell", "_law_seed", "_law_number"]
theorem sc__law_draw : FnScope N__law_draw ["_law_deck_here", "_law_many"] (defScope s__law_draw) := ⟨rfl, rfl, rfl, by decide +kernel, rfl, by decide +kernel, by decide +kernel⟩
def t__law_draw : DT := dSeq (dIfS (dTest (dBin oGt (dBin dIx (dVar 0) (dC (.str "rest"))) (dC (.int 0)))) (dSeq (dAsg (dBin oMod (dBin dIx (dVar 0) (dC (.str "rest"))) (dVar 1)) (gN 2))
    (dSeq (dAsg (dBin oFdiv (dBin dIx (dVar 0) (dC (.str "rest"))) (dVar 1)) (gS (dVar 0) (dC (.str "rest"))))
    (dRet (dVar 2)))) (dNext))
    (dSeq (dAsg (dC (.int 0)) (gN 3))
    (dSeq (dIfS (dTest (dBin oLt (dBin dIx (dVar 0) (dC (.str "at"))) (dCall cLen (aCons (dBin dIx (dVar 0) (dC (.str "cells"))) (aNil))))) (dAsg (dBin dIx (dBin dIx (dVar 0) (dC (.str "cells"))) (dBin dIx (dVar 0) (dC (.str "at")))) (gN 3)) (dNext))
    (dSeq (dAsg (dBin oAdd (dBin dIx (dVar 0) (dC (.str "at"))) (dC (.int 1))) (gS (dVar 0) (dC (.str "at"))))
    (dSeq (dAsg (dBin oAdd (dBin oMul (dBin dIx (dVar 0) (dC (.str "seed"))) (dC (.int 48271))) (dBin oMul (dC (.int 7919)) (dBin dIx (dVar 0) (dC (.str "at"))))) (gN 4))
    (dSeq (dAsg (dBin oMod (dBin oAdd (dVar 4) (dBin oMod (dVar 3) (dC (.int 2147483629)))) (dC (.int 2147483587))) (gS (dVar 0) (dC (.str "seed"))))
    (dSeq (dIfS (dTest (dBin oGe (dVar 3) (dBin oPow (dC (.int 10)) (dC (.int 18))))) (dSeq (dAsg (dBin oFdiv (dVar 3) (dVar 1)) (gS (dVar 0) (dC (.str "rest"))))
    (dRet (dBin oMod (dVar 3) (dVar 1)))) (dNext))
    (dSeq (dAsg (dBin oMod (dBin oMul (dBin dIx (dVar 0) (dC (.str "seed"))) (dBin oAdd (dBin oFdiv (dBin dIx (dVar 0) (dC (.str "seed"))) (dC (.int 7))) (dC (.int 39373)))) (dC (.int 2147483563))) (gN 5))
    (dRet (dBin oMod (dBin oFdiv (dBin oMod (dBin oMul (dVar 5) (dBin oAdd (dBin oFdiv (dVar 5) (dC (.int 5))) (dC (.int 69621)))) (dC (.int 2147483399))) (dC (.int 64))) (dVar 1))))))))))
theorem body__law_draw (T : Mods K mg) (f : Addr) (cdv : Value) (A : Around) (outer : List Env) (s : Shared) (H : Hp) (E : XK) (hr : Room 0 (A.deeper (envOfC "_law_draw" (defScope s__law_draw) s.heap.objs.size f cdv))) : PSsD (cxOf CX0 P w K mg base N__law_draw "_law_draw" (defScope s__law_draw) f cdv A outer s H E).nox (defBody s__law_draw) t__law_draw :=
  pssd_cons (psd_if (ptd_cmp odGt (ped_ix (ixd (hu_of hr)) (dv 0) (ped_str)) (ped_int)) (pssd_cons (psd_set (i := 2) sc__law_draw.nd rfl (Or.inl rfl) (ped_op odMod (ped_ix (ixd (hu_of hr)) (dv 0) (ped_str)) (dv 1)))
      (pssd_cons (psd_asg (vs := []) (ped_op odFdiv (ped_ix (ixd (hu_of hr)) (dv 0) (ped_str)) (dv 1)) (pgd_sub (hu_of hr) (dv 0) (ped_str)))
      (pssd_one (psd_ret (dv 2))))) (pssd_nil))
      (pssd_cons (psd_set (i := 3) sc__law_draw.nd rfl (Or.inl rfl) (ped_int))
      (pssd_cons (psd_if (ptd_cmp odLt (ped_ix (ixd (hu_of hr)) (dv 0) (ped_str)) (ped_callB cdLen rfl T.b_len (by decide +kernel) (pad_cons (ped_ix (ixd (hu_of hr)) (dv 0) (ped_str)) (pad_nil)))) (pssd_one (psd_set (i := 3) sc__law_draw.nd rfl (Or.inl rfl) (ped_ix (ixd (hu_of hr)) (ped_ix (ixd (hu_of hr)) (dv 0) (ped_str)) (ped_ix (ixd (hu_of hr)) (dv 0) (ped_str))))) (pssd_nil))
      (pssd_cons (psd_asg (vs := []) (ped_op odAdd (ped_ix (ixd (hu_of hr)) (dv 0) (ped_str)) (ped_int)) (pgd_sub (hu_of hr) (dv 0) (ped_str)))
      (pssd_cons (psd_set (i := 4) sc__law_draw.nd rfl (Or.inl rfl) (ped_op odAdd (ped_op odMul (ped_ix (ixd (hu_of hr)) (dv 0) (ped_str)) (ped_int)) (ped_op odMul (ped_int) (ped_ix (ixd (hu_of hr)) (dv 0) (ped_str)))))
      (pssd_cons (psd_asg (vs := []) (ped_op odMod (ped_op odAdd (dv 4) (ped_op odMod (dv 3) (ped_int))) (ped_int)) (pgd_sub (hu_of hr) (dv 0) (ped_str)))
      (pssd_cons (psd_if (ptd_cmp odGe (dv 3) (ped_op odPow (ped_int) (ped_int))) (pssd_cons (psd_asg (vs := []) (ped_op odFdiv (dv 3) (dv 1)) (pgd_sub (hu_of hr) (dv 0) (ped_str)))
      (pssd_one (psd_ret (ped_op odMod (dv 3) (dv 1))))) (pssd_nil))
      (pssd_cons (psd_set (i := 5) sc__law_draw.nd rfl (Or.inl rfl) (ped_op odMod (ped_op odMul (ped_ix (ixd (hu_of hr)) (dv 0) (ped_str)) (ped_op odAdd (ped_op odFdiv (ped_ix (ixd (hu_of hr)) (dv 0) (ped_str)) (ped_int)) (ped_int))) (ped_int)))
      (pssd_one (psd_ret (ped_op odMod (ped_op odFdiv (ped_op odMod (ped_op odMul (dv 5) (ped_op odAdd (ped_op odFdiv (dv 5) (ped_int)) (ped_int))) (ped_int)) (ped_int)) (dv 1)))))))))))
theorem ds__law_draw (d0 : D) (d1 : D) : dstart N__law_draw [d0, d1] = [some d0, some d1, none, none, none, none] := rfl
section
variable {l : Addr} {i0 i1 i2 v : Int}
theorem dp0 : putD (deckD l dkl [i0, i1, i2]) (.inr "at") (.int v) = deckD l dkl [v, i1, i2] := rfl
theorem dp1 : putD (deckD l dkl [i0, i1, i2]) (.inr "rest") (.int v) = deckD l dkl [i0, v, i2] := rfl
theorem dp2 : putD (deckD l dkl [i0, i1, i2]) (.inr "seed") (.int v) = deckD l dkl [i0, i1, v] := rfl
theorem dp3 : (deckD l dkl [i0, i1, i2]).length ≤ 100000 := by show 4 ≤ 100000; decide
end
set_option hygiene false in
local macro_rules | `(tactic| walk_at "st") => `(tactic| repeat (first
  | (refine Stp.out ?_)
  | (with_reducible apply st_var; (with_unfolding_all exact rfl))
  | (with_reducible apply st_ixT; (with_unfolding_all exact rfl))
  | (with_reducible apply st_len5; (with_unfolding_all exact Nat.le_of_ble_eq_true rfl))
  | (with_reducible apply st_len; (with_unfolding_all exact Nat.le_of_ble_eq_true rfl))
  | (with_reducible apply st_mulI; (first | (left; constructor <;> omega) | (right; constructor <;> omega)))
  | (with_reducible apply st_ixL; (first | (with_unfolding_all exact rfl) | exact res_ptr (by assumption) | exact res_ptr uG_same); (with_unfolding_all exact rfl))
  | (with_reducible apply st_fdiv; (first | omega | decide); (first | omega | decide)) | (with_reducible apply st_mod; (first | omega | decide))
  | (with_reducible first | refine st_p3 ?_ | refine st_p5 ?_ | refine st_p6 ?_ | refine st_p7 ?_ | refine st_p8 ?_ | refine st_p9 ?_ | refine st_p10 ?_ | refine st_p12 ?_ | refine st_p15 ?_ | refine st_p18 ?_)
  | (with_reducible apply st_gU; (with_unfolding_all exact rfl)) | (with_reducible apply st_gUL; (first | (with_unfolding_all exact rfl) | exact res_ptr (by assumption) | exact res_ptr uG_same); (with_unfolding_all exact rfl))
  | (with_reducible apply st_is; (with_unfolding_all exact rfl)) | (with_reducible apply st_isNot; (with_unfolding_all exact rfl))
  | (with_reducible apply st_isiT; (with_unfolding_all exact rfl); (simp); (decide)) | (with_reducible apply st_isiF; (with_unfolding_all exact rfl); (simp); (decide))
  | (with_reducible apply st_rgK1; (omega); (omega)) | (with_reducible apply st_rgK2; (omega); (omega); (omega); (omega))
  | (with_reducible apply st_sum; (first | (with_unfolding_all exact rfl) | exact res_ptr (by assumption) | exact res_ptr uG_same); (first | exact intsD_map _ | with_unfolding_all exact rfl))
  | (with_reducible apply st_bools; (first | (with_unfolding_all exact rfl) | exact res_ptr (by assumption) | exact res_ptr uG_same); (first | exact boolsD_map _ | with_unfolding_all exact rfl))
  | (with_reducible apply st_tupL; (first | exact res_ptr (by assumption) | exact res_ptr uG_same)) | (with_reducible apply st_lenL; (first | exact res_ptr (by assumption) | exact res_ptr uG_same)) | (with_reducible apply st_slL; (first | exact res_ptr (by assumption) | exact res_ptr uG_same)) | (with_reducible apply st_lsKL; (first | exact res_ptr (by assumption) | exact res_ptr uG_same))
  | (with_reducible apply st_sqP; (first | assumption | exact uG_same))))

theorem sem__law_draw : ∀ ds G R X, spx__law_draw ds G R X → ds.length = 2 ∧ t__law_draw { nx := fun _ G' => RetOk R .non G', rt := RetOk R } (dstart N__law_draw ds) G := by
  rintro ds G R X ⟨a, l, m, is, cs, rfl, ha, hl, hne, hlen, h0, h1, h⟩
  refine ⟨rfl, ?_⟩
  obtain ⟨i0, i1, i2, rfl, p0, p1, p2⟩ := dki3_of hlen rfl
  have hG := og_self ha hl
  have key : ∀ G, (∀ (r : Int) (is' cs' : List Int), 0 ≤ r → r < m → DkI dks is' → R (.int r) (openG G a l dks is' cs')) →
      t__law_draw { nx := fun _ G' => RetOk R .non G', rt := RetOk R } (dstart N__law_draw [.ptr a, .int m]) (openG G a l dks [i0, i1, i2] cs) := by
    clear hG h ha hl
    intro G h
    simp only [t__law_draw, ds__law_draw]
    walk_at "st"
    refine st_ixK (v := .int i1) og_a rfl rfl ?_
    walk_at "st"
    refine iteD (fun c => ?_) (fun c => ?_)
    · walk_at "st"
      refine st_ixK (v := .int i1) og_a rfl rfl ?_
      walk_at "st"
      refine st_ixK (v := .int i1) og_a rfl rfl ?_
      walk_at "st"
      refine st_gsK (setV_dk og_a dp3 rfl) ?_
      rw [og_put dp1]
      walk_at "st"
      exact .same (h _ _ _ (Int.emod_nonneg _ (by omega)) (Int.emod_lt_of_pos _ h0) ((dki3 rfl).mpr ⟨by first | omega | exact Int.ediv_nonneg (by omega) (by omega), by first | omega | exact Int.ediv_nonneg (by omega) (by omega), by first | omega | exact Int.ediv_nonneg (by omega) (by omega)⟩))
    · walk_at "st"
      refine st_ixK (v := .int i0) og_a rfl rfl ?_
      walk_at "st"
      refine st_ixK (v := .ptr l) og_a rfl rfl ?_
      walk_at "st"
      refine st_lenL (res_ptr (og_l hne)) ?_
      rw [List.length_map]
      walk_at "st"
      refine iteD (fun c2 => ?_) (fun c2 => ?_)
      walk_at "st"
      refine st_ixK (v := .ptr l) og_a rfl rfl ?_
      walk_at "st"
      refine st_ixK (v := .int i0) og_a rfl rfl ?_
      have ei : atI (cs.map D.int) i0 = some (.int (cs.getD i0.toNat 0)) := by
        have hlt : i0.toNat < cs.length := by omega
        have e0 : i0 = ((i0.toNat : Nat) : Int) := by omega
        generalize i0.toNat = n at hlt e0
        subst e0
        rw [atI_nat (v := .int (cs.getD n 0))]
        simp [hlt]
      refine st_ixL (res_ptr (og_l hne)) ei ?_
      all_goals
        walk_at "st"
        refine st_ixK (v := .int i0) og_a rfl rfl ?_
        walk_at "st"
        refine st_gsK (setV_dk og_a dp3 rfl) ?_
        rw [og_put dp0]
        walk_at "st"
        refine st_ixK (v := .int i2) og_a rfl rfl ?_
        walk_at "st"
        refine st_ixK (v := .int (i0 + 1)) og_a rfl rfl ?_
        walk_at "st"
        refine st_gsK (setV_dk og_a dp3 rfl) ?_
        rw [og_put dp2]
        walk_at "st"
        refine iteD (fun c => ?_) (fun c => ?_)
        · walk_at "st"
          refine st_gsK (setV_dk og_a dp3 rfl) ?_
          rw [og_put dp1]
          walk_at "st"
          exact .same (h _ _ _ (Int.emod_nonneg _ (by omega)) (Int.emod_lt_of_pos _ h0) ((dki3 rfl).mpr ⟨by first | omega | exact Int.ediv_nonneg (by omega) (by omega), by first | omega | exact Int.ediv_nonneg (by omega) (by omega), by first | omega | exact Int.ediv_nonneg (by omega) (by omega)⟩))
        · walk_at "st"
          refine st_ixK og_a rfl rfl ?_
          walk_at "st"
          refine st_ixK og_a rfl rfl ?_
          walk_at "st"
          exact .same (h _ _ _ (Int.emod_nonneg _ (by omega)) (Int.emod_lt_of_pos _ h0) ((dki3 rfl).mpr ⟨by first | omega | exact Int.ediv_nonneg (by omega) (by omega), by first | omega | exact Int.ediv_nonneg (by omega) (by omega), by first | omega | exact Int.ediv_nonneg (by omega) (by omega)⟩))
  have := key G h
  rwa [hG] at this
theorem fn__law_draw (T : Mods K mg) : FnD P w K mg base CX0 1 "_law_draw" sp__law_draw := FnD.shift (sp := spx__law_draw) (fnd_mk T.d__law_draw sc__law_draw (fun _ _ _ _ _ _ us hl => match us, hl with | [_, _], _ => rfl) (body__law_draw T) sem__law_draw) draw_shift
/-! ### _law_ends -/
/-- a small end -/
def smE (e : End) : Prop := (0 ≤ e.x ∧ e.x ≤ 3) ∧ (0 ≤ e.y ∧ e.y ≤ 3) ∧ (0 ≤ e.s ∧ e.s ≤ 3) ∧ (0 ≤ e.l ∧ e.l ≤ 10)
theorem smE.ok {e : End} (h : smE e) : okE e := by
  obtain ⟨⟨a, b⟩, ⟨c, d⟩, ⟨i, j⟩, ⟨k, l⟩⟩ := h
  unfold okE inB
  refine ⟨⟨?_, ?_⟩, ⟨?_, ?_⟩, ⟨?_, ?_⟩, ⟨?_, ?_⟩⟩ <;> omega
theorem small_mul {w s : Int} (w0 : 0 ≤ w) (w1 : w < 2) (s0 : 0 ≤ s) (s1 : s ≤ 3) : 0 ≤ w * s ∧ w * s ≤ 3 := by
  have : w = 0 ∨ w = 1 := by omega
  rcases this with rfl | rfl
  · rw [Int.zero_mul]; omega
  · rw [Int.one_mul]; omega
def sp__law_ends : DSp := fun ds G R _ => ∃ a l, ds = [.ptr a] ∧ (G a = some (.deck l dks)) ∧ (∀ es : List End, 1 ≤ es.length → es.length ≤ 4 → (∀ e ∈ es, smE e) → R (.tup (es.map eD)) G)
theorem st__law_ends {G : DH} {R : DK} {X : XD} {a l} (zh0 : G a = some (.deck l dks)) (zq : ∀ es : List End, 1 ≤ es.length → es.length ≤ 4 → (∀ e ∈ es, smE e) → R (.tup (es.map eD)) G) : sp__law_ends [.ptr a] G R X := ⟨a, l, rfl, zh0, zq⟩
abbrev N__law_ends : List Str := ["_law_deck_here", "_law_many", "_law_way", "_law_ends_here", "_law_k", "_law_again", "_law_place"]
theorem sc__law_ends : FnScope N__law_ends ["_law_deck_here"] (defScope s__law_ends) := ⟨rfl, rfl, rfl, by decide +kernel, rfl, by decide +kernel, by decide +kernel⟩
def t__law_ends : DT := dSeq (dAsg (dBin oAdd (dC (.int 1)) (dFn sp__law_draw (aCons (dVar 0) (aCons (dC (.int 4)) (aNil))))) (gN 1))
    (dSeq (dAsg (dFn sp__law_draw (aCons (dVar 0) (aCons (dC (.int 2)) (aNil)))) (gN 2))
    (dSeq (dAsg (dAd (fLst (aNil))) (gN 3))
    (dSeq (dFor (iRange1 (aCons (dVar 1) (aNil))) (gN 4) (dSeq (dAsg (dBin oEq (dFn sp__law_draw (aCons (dVar 0) (aCons (dC (.int 4)) (aNil)))) (dC (.int 1))) (gN 5))
    (dSeq (dAsg (dTup (aCons (dFn sp__law_draw (aCons (dVar 0) (aCons (dC (.int 3)) (aNil)))) (aCons (dFn sp__law_draw (aCons (dVar 0) (aCons (dC (.int 3)) (aNil)))) (aNil)))) (gN 6))
    (dSeq (dIfS (dAnd (dTest (dVar 5)) (dTest (dBin oNe (dVar 3) (dLv (fLst (aNil)))))) (dAsg (dSlice rSl (dBin dIx (dVar 3) (dFn sp__law_draw (aCons (dVar 0) (aCons (dCall cLen (aCons (dVar 3) (aNil))) (aNil))))) (oNo) (oPart (dC (.int 2)))) (gN 6)) (dNext))
    (dDrop (dAppend (dVar 3) (dBin oAdd (dVar 6) (dTup (aCons (dBin oMul (dVar 2) (dFn sp__law_draw (aCons (dVar 0) (aCons (dC (.int 3)) (aNil))))) (aCons (dFn sp__law_draw (aCons (dVar 0) (aCons (dC (.int 9)) (aNil)))) (aNil)))))))))))
    (dRet (dCall cTuple (aCons (dVar 3) (aNil)))))))
theorem body__law_ends (T : Mods K mg) (f : Addr) (cdv : Value) (A : Around) (outer : List Env) (s : Shared) (H : Hp) (E : XK) (hr : Room 1 (A.deeper (envOfC "_law_ends" (defScope s__law_ends) s.heap.objs.size f cdv))) : PSsD (cxOf CX0 P w K mg base N__law_ends "_law_ends" (defScope s__law_ends) f cdv A outer s H E).nox (defBody s__law_ends) t__law_ends :=
  pssd_cons (psd_set (i := 1) sc__law_ends.nd rfl (Or.inl rfl) (ped_op odAdd (ped_int) (ped_call (fn__law_draw T) (hr.mono (by decide)) rfl (pad_cons (dv 0) (pad_cons (ped_int) (pad_nil))))))
      (pssd_cons (psd_set (i := 2) sc__law_ends.nd rfl (Or.inl rfl) (ped_call (fn__law_draw T) (hr.mono (by decide)) rfl (pad_cons (dv 0) (pad_cons (ped_int) (pad_nil)))))
      (pssd_cons (psd_set (i := 3) sc__law_ends.nd rfl (Or.inl rfl) (ped_ad (pef_lst (pad_nil))))
      (pssd_cons (psd_for (vs := [4]) PassesOwn.never rfl (pid_range1 rfl T.b_range (pad_cons (dv 1) (pad_nil))) (pgd_name (i := 4) sc__law_ends.nd rfl (Or.inl rfl)) (pssd_cons (psd_set (i := 5) sc__law_ends.nd rfl (Or.inl rfl) (ped_cmp (odEq hr.units) (ped_call (fn__law_draw T) (hr.mono (by decide)) rfl (pad_cons (dv 0) (pad_cons (ped_int) (pad_nil)))) (ped_int)))
      (pssd_cons (psd_set (i := 6) sc__law_ends.nd rfl (Or.inl rfl) (ped_tup (pad_cons (ped_call (fn__law_draw T) (hr.mono (by decide)) rfl (pad_cons (dv 0) (pad_cons (ped_int) (pad_nil)))) (pad_cons (ped_call (fn__law_draw T) (hr.mono (by decide)) rfl (pad_cons (dv 0) (pad_cons (ped_int) (pad_nil)))) (pad_nil)))))
      (pssd_cons (psd_if (PTD.pw (pwd_and (ptd_val (dv 5)) (pwd_and1 (ptd_cmp (odNe hr.units) (dv 3) (ped_of (pef_lst (pad_nil))))))) (pssd_one (psd_set (i := 6) sc__law_ends.nd rfl (Or.inl rfl) (ped_slice (ped_ix (ixd (hu_of hr)) (dv 3) (ped_call (fn__law_draw T) (hr.mono (by decide)) rfl (pad_cons (dv 0) (pad_cons (ped_callB cdLen rfl T.b_len (by decide +kernel) (pad_cons (dv 3) (pad_nil))) (pad_nil))))) (pod_none) (pod_some (ped_int))))) (pssd_nil))
      (pssd_one (psd_drop (ped_append (dv 3) (ped_op odAdd (dv 6) (ped_tup (pad_cons (ped_op odMul (dv 2) (ped_call (fn__law_draw T) (hr.mono (by decide)) rfl (pad_cons (dv 0) (pad_cons (ped_int) (pad_nil))))) (pad_cons (ped_call (fn__law_draw T) (hr.mono (by decide)) rfl (pad_cons (dv 0) (pad_cons (ped_int) (pad_nil)))) (pad_nil))))))))))))
      (pssd_one (psd_ret (ped_callTy cdTuple rfl T.b_tuple (by decide +kernel) (pad_cons (dv 3) (pad_nil))))))))
theorem ds__law_ends (d0 : D) : dstart N__law_ends [d0] = [some d0, none, none, none, none, none, none] := rfl
set_option hygiene false in
local macro_rules | `(tactic| walk_at "go") => `(tactic| repeat' ((fail_if_success (with_reducible refine isLoop ?_)); (fail_if_success (with_reducible refine isComp ?_)); first
  | (refine Stp.out ?_)
  | (with_reducible apply st_var; (with_unfolding_all exact rfl))
  | (with_reducible apply st_len5U; (walk_at "sd")) | (with_reducible apply st_len5M; (walk_at "sd"))
  | (with_reducible apply st_len5; (with_unfolding_all exact Nat.le_of_ble_eq_true rfl))
  | (with_reducible apply st_len; (with_unfolding_all exact Nat.le_of_ble_eq_true rfl))
  | (with_reducible apply st_ixT; (with_unfolding_all exact rfl))
  | (with_reducible apply st_ixRow; (with_unfolding_all exact rfl)) | (with_reducible apply st_ixE; (with_unfolding_all exact rfl)) | (with_reducible apply st_ixP; (with_unfolding_all exact rfl))
  | (with_reducible apply st_ixL; (with_unfolding_all exact rfl); (with_unfolding_all exact rfl))
  | (with_reducible apply st_ixMT; (walk_at "sd"); (walk_at "sd"))
  | (with_reducible apply st_ixML; (walk_at "sd"); (walk_at "sd"))
  | (with_reducible apply st_ixIA; (assumption); (walk_at "sd"); (walk_at "sd"))
  | (with_reducible apply st_ixR; (walk_at "lg"))
  | (with_reducible apply st_ixlT; (walk_at "sd")) | (with_reducible apply st_ixlL; (walk_at "sd"))
  | (with_reducible refine st_selV ?_) | (with_reducible refine st_selVB ?_)
  | (with_reducible apply st_mulI; (first | (left; constructor <;> omega) | (right; constructor <;> omega)))
  | (with_reducible apply st_fdiv; (first | omega | decide); (first | omega | decide)) | (with_reducible apply st_mod; (first | omega | decide))
  | (with_reducible first | refine st_p3 ?_ | refine st_p5 ?_ | refine st_p6 ?_ | refine st_p7 ?_ | refine st_p8 ?_ | refine st_p9 ?_ | refine st_p10 ?_ | refine st_p12 ?_ | refine st_p15 ?_ | refine st_p18 ?_)
  | (with_reducible apply st_gU; (with_unfolding_all exact rfl)) | (with_reducible apply st_gUL; (walk_at "ls"); (with_unfolding_all exact rfl))
  | (with_reducible apply st_is; (with_unfolding_all exact rfl)) | (with_reducible apply st_isNot; (with_unfolding_all exact rfl))
  | (with_reducible apply st_isiT; (with_unfolding_all exact rfl); (simp); (decide)) | (with_reducible apply st_isiF; (with_unfolding_all exact rfl); (simp); (decide))
  | (with_reducible apply st_rg1; (omega); (omega)) | (with_reducible apply st_rgK2; (omega); (omega); (omega); (omega)) | (with_reducible apply st_rgK3; (omega); (omega); (omega); (omega)) | (with_reducible apply st_rvK; (omega); (omega))
  | (with_reducible apply st_lrK; (omega); (omega))
  | (with_reducible first | refine st_sumM ?_ | refine st_allM ?_ | refine st_anyM ?_ | refine st_inIT ?_ | refine st_inIL ?_ | apply st_inIP; (walk_at "lg"))
  | (with_reducible apply st_sum; (walk_at "ls"); (first | exact intsD_map _ | with_unfolding_all exact rfl))
  | (with_reducible apply st_bools; (walk_at "ls"); (first | exact boolsD_map _ | with_unfolding_all exact rfl))
  | (with_reducible apply st_lenMP; (walk_at "lg"))
  | (with_reducible apply st_tupL; (first | exact res_ptr (by assumption) | exact res_ptr uG_same)) | (with_reducible apply st_lenL; (first | exact res_ptr (by assumption) | exact res_ptr uG_same)) | (with_reducible apply st_slL; (first | exact res_ptr (by assumption) | exact res_ptr uG_same)) | (with_reducible apply st_lsKL; (first | exact res_ptr (by assumption) | exact res_ptr uG_same))
  | (with_reducible apply st_sqP; (walk_at "lg"))
  | (with_reducible apply st_neNilM; (walk_at "pl")) | (with_reducible apply st_neNilP; (walk_at "lg"); (walk_at "pl")) | (with_reducible apply st_eqNilL; (walk_at "pl")) | (with_reducible apply st_eqNilP; (walk_at "lg"); (walk_at "pl"))
  | (with_reducible refine st_inKV rfl ?_) | (with_reducible apply st_neNilT; (walk_at "pl"))
  | (with_reducible apply st_enP; (walk_at "lg"))
  | (with_reducible first | refine st_ninIT ?_ | refine st_ninIL ?_ | apply st_ninIP; (walk_at "lg"))
  | (with_reducible apply st_addTS; (with_unfolding_all exact Nat.le_of_ble_eq_true rfl))
  | (with_reducible apply st_mulT1; (walk_at "sd"); (walk_at "sd"))
  | (with_reducible apply st_ml1; (walk_at "sd"); (walk_at "sd"))
  | (with_reducible apply st_ex1; (walk_at "lg")) | (with_reducible apply st_ex2P; (walk_at "sd"))
  | (with_reducible apply st_ap1; (walk_at "lg")) | (with_reducible apply st_ap2U; (walk_at "sd")) | (with_reducible apply st_ap2; (walk_at "lg"); (walk_at "sd"))
  | (with_reducible apply st_revP; (walk_at "lg"))
  | (with_reducible apply st_rm1; (walk_at "lg")) | (with_reducible apply st_rm2U; (assumption)) | (with_reducible apply st_rm2; (walk_at "lg"); (assumption))
  | (with_reducible apply st_gsT; (walk_at "lg"); (omega)) | (with_reducible apply st_ixT2; (walk_at "lg"); (assumption))
  | (with_reducible apply st_addLM; (walk_at "sl")) | (with_reducible apply st_addTM; (walk_at "sl"))
  | (with_reducible apply ogL_ix; (with_unfolding_all exact rfl)) | (with_reducible apply ogL_set; (with_unfolding_all exact rfl); (with_unfolding_all exact rfl)) | (with_reducible apply st_rlP; (walk_at "lg"))
  | (with_reducible apply og_neNil; (assumption)) | (with_reducible apply og_popLast; (assumption); (walk_at "sd"); intro cc cs')
  | (with_reducible apply st_pa1; (walk_at "lg")) | (with_reducible apply st_pa2U; (walk_at "sd"); (walk_at "sd"); (walk_at "sd"); intro x ys tk) | (with_reducible apply st_pa2; (walk_at "lg"); (walk_at "sd"); (walk_at "sd"); (walk_at "sd"); intro x ys tk)
  | (with_reducible apply st_ins1; (walk_at "lg"))
  | (with_reducible apply st_cat; (first | decide | omega))
  | (with_reducible apply st_draw; (walk_at "dk"); (walk_at "sd"); (walk_at "sd"); intro r r0 r1)
  | (with_reducible refine iteD ?_ ?_ <;> intro c <;> try omega)
  | (with_reducible refine iteND ?_ ?_ <;> intro c <;> try omega)
  | (with_reducible refine iteB ?_ ?_ <;> intro c) | (with_reducible refine iteNB ?_ ?_ <;> intro c)
  | (with_reducible apply st_pickI2; (walk_at "sd"); (walk_at "sd"); intro v hv) | (with_reducible apply st_pickI3; (walk_at "sd"); (walk_at "sd"); intro v hv) | (with_reducible apply st_pickI4; (walk_at "sd"); (walk_at "sd"); intro v hv) | (with_reducible apply st_pickI5; (walk_at "sd"); (walk_at "sd"); intro v hv) | (with_reducible apply st_pickI6; (walk_at "sd"); (walk_at "sd"); intro v hv)
  | (with_reducible refine st_sel ?_ ?_ <;> intro c)
  | (with_reducible apply st_pickD2; (walk_at "sd"); (walk_at "sd"))
  | (with_reducible intro p hp)
))

theorem sem__law_ends : ∀ ds G R X, sp__law_ends ds G R X → ds.length = 1 ∧ t__law_ends { nx := fun _ G' => RetOk R .non G', rt := RetOk R } (dstart N__law_ends ds) G := by
  rintro ds G R X ⟨a, l, rfl, ha, h⟩
  refine ⟨rfl, ?_⟩
  simp only [t__law_ends, ds__law_ends]
  walk_at "go"
  rename_i rA rA0 rA1
  obtain ⟨w, w0, w1, ew⟩ : ∃ w, 0 ≤ w ∧ w < 2 ∧ r = w := ⟨r, r0, r1, rfl⟩
  subst ew
  refine loop_fm [4, 5, 6] (fun i vs G' => (∃ x4 x5 x6, vs = [x4, x5, x6]) ∧ ∃ es : List End, G' = uG G p (.lst (es.map eD)) ∧ es.length = i ∧ ∀ e ∈ es, smE e) ⟨⟨_, _, _, rfl⟩, [], rfl, rfl, fun _ h => nomatch h⟩ (fun _ _ _ _ _ => trivial) ?_ ?_
  · rintro i x vs G' E hi hx ⟨⟨x4, x5, x6, rfl⟩, es, rfl, hes, hok⟩ hnx - - -
    rw [upto_len] at hi
    walk_at "ps"
    walk_at "go"
    all_goals
      refine hnx [_, _, _] _ ⟨⟨_, _, _, rfl⟩, _, snocE, len_snoc hes, all_snoc hok ⟨?_, ?_, small_mul w0 w1 (by assumption) (by omega), ⟨r0, by show r ≤ 10; omega⟩⟩⟩ <;> first | exact (hok _ (nth_mem (by assumption) (by assumption))).1 | exact (hok _ (nth_mem (by assumption) (by assumption))).2.1 | exact ⟨by assumption, Int.le_of_lt (by assumption)⟩
  rintro vs G' ⟨⟨x4, x5, x6, rfl⟩, es, rfl, hes, hok⟩
  rw [upto_len] at hes
  walk_at "ps"
  walk_at "go"
  exact .drop (Sub.refl.new hp) (h es (by omega) (by omega) hok)
theorem fn__law_ends (T : Mods K mg) : FnD P w K mg base CX0 2 "_law_ends" sp__law_ends := fnd_mk T.d__law_ends sc__law_ends (fun _ _ _ _ _ _ us hl => match us, hl with | [_], _ => rfl) (body__law_ends T) sem__law_ends
/-! ### _law_joining -/
def sp__law_joining : DSp := fun ds G R _ => ∃ a l, ∃ (n : Int), ds = [.ptr a, .int n] ∧ (G a = some (.deck l dks)) ∧ (1 ≤ n) ∧ (n ≤ 24) ∧ (∀ js : Jn, JoinOk n.toNat js → R (.tup (js.map pD)) G)
theorem st__law_joining {G : DH} {R : DK} {X : XD} {a} {l} {n : Int} (zh0 : G a = some (.deck l dks))  (zh1 : 1 ≤ n)  (zh2 : n ≤ 24) (zq : ∀ js : Jn, JoinOk n.toNat js → R (.tup (js.map pD)) G) : sp__law_joining [.ptr a, .int n] G R X := ⟨a, l, n, rfl, zh0, zh1, zh2, zq⟩
abbrev N__law_joining : List Str := ["_law_deck_here", "_law_many", "_law_is_chain", "_law_waiting", "_law_joining_here", "_law_k", "_law_turn", "_law_one", "_law_other"]
theorem sc__law_joining : FnScope N__law_joining ["_law_deck_here", "_law_many"] (defScope s__law_joining) := ⟨rfl, rfl, rfl, by decide +kernel, rfl, by decide +kernel, by decide +kernel⟩
def t__law_joining : DT := dSeq (dAsg (dBin oEq (dFn sp__law_draw (aCons (dVar 0) (aCons (dC (.int 8)) (aNil)))) (dC (.int 3))) (gN 2))
    (dSeq (dAsg (dAd (fListRange (dVar 1))) (gN 3))
    (dSeq (dAsg (dAd (fLst (aNil))) (gN 4))
    (dSeq (dFor (iRange1 (aCons (dBin oSub (dVar 1) (dC (.int 1))) (aNil))) (gN 5) (dSeq (dAsg (dFn sp__law_draw (aCons (dVar 0) (aCons (dC (.int 2)) (aNil)))) (gN 6))
    (dSeq (dAsg (dPopAt (dVar 3) (dBin dIx (dLv (fLst (aCons (dC (.int 0)) (aCons (dFn sp__law_draw (aCons (dVar 0) (aCons (dCall cLen (aCons (dVar 3) (aNil))) (aNil)))) (aNil))))) (dCall cInt (aCons (dNotV (dVar 2)) (aNil))))) (gN 7))
    (dSeq (dAsg (dPopAt (dVar 3) (dBin dIx (dLv (fLst (aCons (dC (.int 0)) (aCons (dFn sp__law_draw (aCons (dVar 0) (aCons (dCall cLen (aCons (dVar 3) (aNil))) (aNil)))) (aNil))))) (dCall cInt (aCons (dNotV (dVar 2)) (aNil))))) (gN 8))
    (dSeq (dDrop (dAppend (dVar 4) (dBin dIx (dLv (fLst (aCons (dTup (aCons (dVar 7) (aCons (dVar 8) (aNil)))) (aCons (dTup (aCons (dVar 8) (aCons (dVar 7) (aNil)))) (aNil))))) (dVar 6))))
    (dDrop (dInsert (dVar 3) (dC (.int 0)) (dBin oAdd (dVar 1) (dVar 5)))))))))
    (dRet (dCall cTuple (aCons (dVar 4) (aNil)))))))
theorem body__law_joining (T : Mods K mg) (f : Addr) (cdv : Value) (A : Around) (outer : List Env) (s : Shared) (H : Hp) (E : XK) (hr : Room 1 (A.deeper (envOfC "_law_joining" (defScope s__law_joining) s.heap.objs.size f cdv))) : PSsD (cxOf CX0 P w K mg base N__law_joining "_law_joining" (defScope s__law_joining) f cdv A outer s H E).nox (defBody s__law_joining) t__law_joining :=
  pssd_cons (psd_set (i := 2) sc__law_joining.nd rfl (Or.inl rfl) (ped_cmp (odEq hr.units) (ped_call (fn__law_draw T) (hr.mono (by decide)) rfl (pad_cons (dv 0) (pad_cons (ped_int) (pad_nil)))) (ped_int)))
      (pssd_cons (psd_set (i := 3) sc__law_joining.nd rfl (Or.inl rfl) (ped_ad (pef_listRange rfl T.b_list rfl T.b_range (dv 1))))
      (pssd_cons (psd_set (i := 4) sc__law_joining.nd rfl (Or.inl rfl) (ped_ad (pef_lst (pad_nil))))
      (pssd_cons (psd_for (vs := [5]) PassesOwn.never rfl (pid_range1 rfl T.b_range (pad_cons (ped_op odSub (dv 1) (ped_int)) (pad_nil))) (pgd_name (i := 5) sc__law_joining.nd rfl (Or.inl rfl)) (pssd_cons (psd_set (i := 6) sc__law_joining.nd rfl (Or.inl rfl) (ped_call (fn__law_draw T) (hr.mono (by decide)) rfl (pad_cons (dv 0) (pad_cons (ped_int) (pad_nil)))))
      (pssd_cons (psd_set (i := 7) sc__law_joining.nd rfl (Or.inl rfl) (ped_popAt (dv 3) (ped_ix (ixd (hu_of hr)) (ped_of (pef_lst (pad_cons (ped_int) (pad_cons (ped_call (fn__law_draw T) (hr.mono (by decide)) rfl (pad_cons (dv 0) (pad_cons (ped_callB cdLen rfl T.b_len (by decide +kernel) (pad_cons (dv 3) (pad_nil))) (pad_nil)))) (pad_nil))))) (ped_callTy cdInt rfl T.b_int (by decide +kernel) (pad_cons (ped_not (dv 2)) (pad_nil))))))
      (pssd_cons (psd_set (i := 8) sc__law_joining.nd rfl (Or.inl rfl) (ped_popAt (dv 3) (ped_ix (ixd (hu_of hr)) (ped_of (pef_lst (pad_cons (ped_int) (pad_cons (ped_call (fn__law_draw T) (hr.mono (by decide)) rfl (pad_cons (dv 0) (pad_cons (ped_callB cdLen rfl T.b_len (by decide +kernel) (pad_cons (dv 3) (pad_nil))) (pad_nil)))) (pad_nil))))) (ped_callTy cdInt rfl T.b_int (by decide +kernel) (pad_cons (ped_not (dv 2)) (pad_nil))))))
      (pssd_cons (psd_drop (ped_append (dv 4) (ped_ix (ixd (hu_of hr)) (ped_of (pef_lst (pad_cons (ped_tup (pad_cons (dv 7) (pad_cons (dv 8) (pad_nil)))) (pad_cons (ped_tup (pad_cons (dv 8) (pad_cons (dv 7) (pad_nil)))) (pad_nil))))) (dv 6))))
      (pssd_one (psd_drop (ped_insert (dv 3) (ped_int) (ped_op odAdd (dv 1) (dv 5))))))))))
      (pssd_one (psd_ret (ped_callTy cdTuple rfl T.b_tuple (by decide +kernel) (pad_cons (dv 4) (pad_nil))))))))
theorem ds__law_joining (d0 : D) (d1 : D) : dstart N__law_joining [d0, d1] = [some d0, some d1, none, none, none, none, none, none, none] := rfl
set_option hygiene false in
local macro_rules | `(tactic| walk_at "wk") => `(tactic| repeat ((fail_if_success (with_reducible refine isLoop ?_)); (fail_if_success (with_reducible refine isComp ?_)); first
  | (refine Stp.out ?_)
  | (with_reducible apply st_var; (with_unfolding_all exact rfl))
  | (with_reducible apply st_len5U; (walk_at "sd")) | (with_reducible apply st_len5M; (walk_at "sd"))
  | (with_reducible apply st_len5; (with_unfolding_all exact Nat.le_of_ble_eq_true rfl))
  | (with_reducible apply st_len; (with_unfolding_all exact Nat.le_of_ble_eq_true rfl))
  | (with_reducible apply st_ixT; (with_unfolding_all exact rfl))
  | (with_reducible apply st_ixRow; (with_unfolding_all exact rfl)) | (with_reducible apply st_ixE; (with_unfolding_all exact rfl)) | (with_reducible apply st_ixP; (with_unfolding_all exact rfl))
  | (with_reducible apply st_ixL; (with_unfolding_all exact rfl); (with_unfolding_all exact rfl))
  | (with_reducible apply st_ixMT; (walk_at "sd"); (walk_at "sd"))
  | (with_reducible apply st_ixML; (walk_at "sd"); (walk_at "sd"))
  | (with_reducible apply st_ixIA; (assumption); (walk_at "sd"); (walk_at "sd"))
  | (with_reducible apply st_ixR; (walk_at "lg"))
  | (with_reducible apply st_ixlT; (walk_at "sd")) | (with_reducible apply st_ixlL; (walk_at "sd"))
  | (with_reducible refine st_selV ?_) | (with_reducible refine st_selVB ?_)
  | (with_reducible apply st_mulI; (first | (left; constructor <;> omega) | (right; constructor <;> omega)))
  | (with_reducible apply st_fdiv; (first | omega | decide); (first | omega | decide)) | (with_reducible apply st_mod; (first | omega | decide))
  | (with_reducible first | refine st_p3 ?_ | refine st_p5 ?_ | refine st_p6 ?_ | refine st_p7 ?_ | refine st_p8 ?_ | refine st_p9 ?_ | refine st_p10 ?_ | refine st_p12 ?_ | refine st_p15 ?_ | refine st_p18 ?_)
  | (with_reducible apply st_gU; (with_unfolding_all exact rfl)) | (with_reducible apply st_gUL; (walk_at "ls"); (with_unfolding_all exact rfl))
  | (with_reducible apply st_is; (with_unfolding_all exact rfl)) | (with_reducible apply st_isNot; (with_unfolding_all exact rfl))
  | (with_reducible apply st_isiT; (with_unfolding_all exact rfl); (simp); (decide)) | (with_reducible apply st_isiF; (with_unfolding_all exact rfl); (simp); (decide))
  | (with_reducible apply st_rg1; (omega); (omega)) | (with_reducible apply st_rgK2; (omega); (omega); (omega); (omega)) | (with_reducible apply st_rgK3; (omega); (omega); (omega); (omega)) | (with_reducible apply st_rvK; (omega); (omega))
  | (with_reducible apply st_lrK; (omega); (omega))
  | (with_reducible first | refine st_sumM ?_ | refine st_allM ?_ | refine st_anyM ?_ | refine st_inIT ?_ | refine st_inIL ?_ | apply st_inIP; (walk_at "lg"))
  | (with_reducible apply st_sum; (walk_at "ls"); (first | exact intsD_map _ | with_unfolding_all exact rfl))
  | (with_reducible apply st_bools; (walk_at "ls"); (first | exact boolsD_map _ | with_unfolding_all exact rfl))
  | (with_reducible apply st_lenMP; (walk_at "lg"))
  | (with_reducible apply st_tupL; (first | exact res_ptr (by assumption) | exact res_ptr uG_same)) | (with_reducible apply st_lenL; (first | exact res_ptr (by assumption) | exact res_ptr uG_same)) | (with_reducible apply st_slL; (first | exact res_ptr (by assumption) | exact res_ptr uG_same)) | (with_reducible apply st_lsKL; (first | exact res_ptr (by assumption) | exact res_ptr uG_same))
  | (with_reducible apply st_sqP; (walk_at "lg"))
  | (with_reducible apply st_neNilM; (walk_at "pl")) | (with_reducible apply st_neNilP; (walk_at "lg"); (walk_at "pl")) | (with_reducible apply st_eqNilL; (walk_at "pl")) | (with_reducible apply st_eqNilP; (walk_at "lg"); (walk_at "pl"))
  | (with_reducible refine st_inKV rfl ?_) | (with_reducible apply st_neNilT; (walk_at "pl"))
  | (with_reducible apply st_enP; (walk_at "lg"))
  | (with_reducible first | refine st_ninIT ?_ | refine st_ninIL ?_ | apply st_ninIP; (walk_at "lg"))
  | (with_reducible apply st_addTS; (with_unfolding_all exact Nat.le_of_ble_eq_true rfl))
  | (with_reducible apply st_mulT1; (walk_at "sd"); (walk_at "sd"))
  | (with_reducible apply st_ml1; (walk_at "sd"); (walk_at "sd"))
  | (with_reducible apply st_ex1; (walk_at "lg")) | (with_reducible apply st_ex2P; (walk_at "sd"))
  | (with_reducible apply st_ap1; (walk_at "lg")) | (with_reducible apply st_ap2U; (walk_at "sd")) | (with_reducible apply st_ap2; (walk_at "lg"); (walk_at "sd"))
  | (with_reducible apply st_revP; (walk_at "lg"))
  | (with_reducible apply st_rm1; (walk_at "lg")) | (with_reducible apply st_rm2U; (assumption)) | (with_reducible apply st_rm2; (walk_at "lg"); (assumption))
  | (with_reducible apply st_gsT; (walk_at "lg"); (omega)) | (with_reducible apply st_ixT2; (walk_at "lg"); (assumption))
  | (with_reducible apply st_addLM; (walk_at "sl")) | (with_reducible apply st_addTM; (walk_at "sl"))
  | (with_reducible apply ogL_ix; (with_unfolding_all exact rfl)) | (with_reducible apply ogL_set; (with_unfolding_all exact rfl); (with_unfolding_all exact rfl)) | (with_reducible apply st_rlP; (walk_at "lg"))
  | (with_reducible apply og_neNil; (assumption)) | (with_reducible apply og_popLast; (assumption); (walk_at "sd"); intro cc cs')
  | (with_reducible apply st_pa1; (walk_at "lg")) | (with_reducible apply st_pa2U; (walk_at "sd"); (walk_at "sd"); (walk_at "sd"); intro x ys tk) | (with_reducible apply st_pa2; (walk_at "lg"); (walk_at "sd"); (walk_at "sd"); (walk_at "sd"); intro x ys tk)
  | (with_reducible apply st_ins1; (walk_at "lg"))
  | (with_reducible apply st_cat; (first | decide | omega))
  | (with_reducible apply st_draw; (walk_at "dk"); (walk_at "sd"); (walk_at "sd"); intro r r0 r1)))

set_option hygiene false in
local macro_rules | `(tactic| walk_at "go") => `(tactic| repeat' ((fail_if_success (with_reducible refine isLoop ?_)); (fail_if_success (with_reducible refine isComp ?_)); first
  | (refine Stp.out ?_)
  | (with_reducible apply st_var; (with_unfolding_all exact rfl))
  | (with_reducible apply st_len5U; (walk_at "sd")) | (with_reducible apply st_len5M; (walk_at "sd"))
  | (with_reducible apply st_len5; (with_unfolding_all exact Nat.le_of_ble_eq_true rfl))
  | (with_reducible apply st_len; (with_unfolding_all exact Nat.le_of_ble_eq_true rfl))
  | (with_reducible apply st_ixT; (with_unfolding_all exact rfl))
  | (with_reducible apply st_ixRow; (with_unfolding_all exact rfl)) | (with_reducible apply st_ixE; (with_unfolding_all exact rfl)) | (with_reducible apply st_ixP; (with_unfolding_all exact rfl))
  | (with_reducible apply st_ixL; (with_unfolding_all exact rfl); (with_unfolding_all exact rfl))
  | (with_reducible apply st_ixMT; (walk_at "sd"); (walk_at "sd"))
  | (with_reducible apply st_ixML; (walk_at "sd"); (walk_at "sd"))
  | (with_reducible apply st_ixIA; (assumption); (walk_at "sd"); (walk_at "sd"))
  | (with_reducible apply st_ixR; (walk_at "lg"))
  | (with_reducible apply st_ixlT; (walk_at "sd")) | (with_reducible apply st_ixlL; (walk_at "sd"))
  | (with_reducible refine st_selV ?_) | (with_reducible refine st_selVB ?_)
  | (with_reducible apply st_mulI; (first | (left; constructor <;> omega) | (right; constructor <;> omega)))
  | (with_reducible apply st_fdiv; (first | omega | decide); (first | omega | decide)) | (with_reducible apply st_mod; (first | omega | decide))
  | (with_reducible first | refine st_p3 ?_ | refine st_p5 ?_ | refine st_p6 ?_ | refine st_p7 ?_ | refine st_p8 ?_ | refine st_p9 ?_ | refine st_p10 ?_ | refine st_p12 ?_ | refine st_p15 ?_ | refine st_p18 ?_)
  | (with_reducible apply st_gU; (with_unfolding_all exact rfl)) | (with_reducible apply st_gUL; (walk_at "ls"); (with_unfolding_all exact rfl))
  | (with_reducible apply st_is; (with_unfolding_all exact rfl)) | (with_reducible apply st_isNot; (with_unfolding_all exact rfl))
  | (with_reducible apply st_isiT; (with_unfolding_all exact rfl); (simp); (decide)) | (with_reducible apply st_isiF; (with_unfolding_all exact rfl); (simp); (decide))
  | (with_reducible apply st_rg1; (omega); (omega)) | (with_reducible apply st_rgK2; (omega); (omega); (omega); (omega)) | (with_reducible apply st_rgK3; (omega); (omega); (omega); (omega)) | (with_reducible apply st_rvK; (omega); (omega))
  | (with_reducible apply st_lrK; (omega); (omega))
  | (with_reducible first | refine st_sumM ?_ | refine st_allM ?_ | refine st_anyM ?_ | refine st_inIT ?_ | refine st_inIL ?_ | apply st_inIP; (walk_at "lg"))
  | (with_reducible apply st_sum; (walk_at "ls"); (first | exact intsD_map _ | with_unfolding_all exact rfl))
  | (with_reducible apply st_bools; (walk_at "ls"); (first | exact boolsD_map _ | with_unfolding_all exact rfl))
  | (with_reducible apply st_lenMP; (walk_at "lg"))
  | (with_reducible apply st_tupL; (first | exact res_ptr (by assumption) | exact res_ptr uG_same)) | (with_reducible apply st_lenL; (first | exact res_ptr (by assumption) | exact res_ptr uG_same)) | (with_reducible apply st_slL; (first | exact res_ptr (by assumption) | exact res_ptr uG_same)) | (with_reducible apply st_lsKL; (first | exact res_ptr (by assumption) | exact res_ptr uG_same))
  | (with_reducible apply st_sqP; (walk_at "lg"))
  | (with_reducible apply st_neNilM; (walk_at "pl")) | (with_reducible apply st_neNilP; (walk_at "lg"); (walk_at "pl")) | (with_reducible apply st_eqNilL; (walk_at "pl")) | (with_reducible apply st_eqNilP; (walk_at "lg"); (walk_at "pl"))
  | (with_reducible refine st_inKV rfl ?_) | (with_reducible apply st_neNilT; (walk_at "pl"))
  | (with_reducible apply st_enP; (walk_at "lg"))
  | (with_reducible first | refine st_ninIT ?_ | refine st_ninIL ?_ | apply st_ninIP; (walk_at "lg"))
  | (with_reducible apply st_addTS; (with_unfolding_all exact Nat.le_of_ble_eq_true rfl))
  | (with_reducible apply st_mulT1; (walk_at "sd"); (walk_at "sd"))
  | (with_reducible apply st_ml1; (walk_at "sd"); (walk_at "sd"))
  | (with_reducible apply st_ex1; (walk_at "lg")) | (with_reducible apply st_ex2P; (walk_at "sd"))
  | (with_reducible apply st_ap1; (walk_at "lg")) | (with_reducible apply st_ap2U; (walk_at "sd")) | (with_reducible apply st_ap2; (walk_at "lg"); (walk_at "sd"))
  | (with_reducible apply st_revP; (walk_at "lg"))
  | (with_reducible apply st_rm1; (walk_at "lg")) | (with_reducible apply st_rm2U; (assumption)) | (with_reducible apply st_rm2; (walk_at "lg"); (assumption))
  | (with_reducible apply st_gsT; (walk_at "lg"); (omega)) | (with_reducible apply st_ixT2; (walk_at "lg"); (assumption))
  | (with_reducible apply st_addLM; (walk_at "sl")) | (with_reducible apply st_addTM; (walk_at "sl"))
  | (with_reducible apply ogL_ix; (with_unfolding_all exact rfl)) | (with_reducible apply ogL_set; (with_unfolding_all exact rfl); (with_unfolding_all exact rfl)) | (with_reducible apply st_rlP; (walk_at "lg"))
  | (with_reducible apply og_neNil; (assumption)) | (with_reducible apply og_popLast; (assumption); (walk_at "sd"); intro cc cs')
  | (with_reducible apply st_pa1; (walk_at "lg")) | (with_reducible apply st_pa2U; (walk_at "sd"); (walk_at "sd"); (walk_at "sd"); intro x ys tk) | (with_reducible apply st_pa2; (walk_at "lg"); (walk_at "sd"); (walk_at "sd"); (walk_at "sd"); intro x ys tk)
  | (with_reducible apply st_ins1; (walk_at "lg"))
  | (with_reducible apply st_cat; (first | decide | omega))
  | (with_reducible apply st_draw; (walk_at "dk"); (walk_at "sd"); (walk_at "sd"); intro r r0 r1)
  | (with_reducible refine iteD ?_ ?_ <;> intro c <;> try omega)
  | (with_reducible refine iteND ?_ ?_ <;> intro c <;> try omega)
  | (with_reducible refine iteB ?_ ?_ <;> intro c) | (with_reducible refine iteNB ?_ ?_ <;> intro c)
  | (with_reducible apply st_pickI2; (walk_at "sd"); (walk_at "sd"); intro v hv) | (with_reducible apply st_pickI3; (walk_at "sd"); (walk_at "sd"); intro v hv) | (with_reducible apply st_pickI4; (walk_at "sd"); (walk_at "sd"); intro v hv) | (with_reducible apply st_pickI5; (walk_at "sd"); (walk_at "sd"); intro v hv) | (with_reducible apply st_pickI6; (walk_at "sd"); (walk_at "sd"); intro v hv)
  | (with_reducible refine st_sel ?_ ?_ <;> intro c)
  | (with_reducible apply st_pickD2; (walk_at "sd"); (walk_at "sd"))
  | (with_reducible intro p hp)
))

theorem sem__law_joining : ∀ ds G R X, sp__law_joining ds G R X → ds.length = 2 ∧ t__law_joining { nx := fun _ G' => RetOk R .non G', rt := RetOk R } (dstart N__law_joining ds) G := by
  rintro ds G R X ⟨a, l, n, rfl, ha, n0, n1, h⟩
  refine ⟨rfl, ?_⟩
  simp only [t__law_joining, ds__law_joining]
  walk_at "wk"
  intro p0 hp0
  walk_at "wk"
  intro p hp
  walk_at "wk"
  refine loop_fm [5, 6, 7, 8] (fun i vs G' => (∃ x5 x6 x7 x8, vs = [x5, x6, x7, x8]) ∧ ∃ (js : Jn) (left : List Int), G' = uG (uG G p0 (.lst (left.map D.int))) p (.lst (js.map pD)) ∧ js.length = i ∧ JAll n.toNat js left) ⟨⟨_, _, _, _, rfl⟩, [], upto n, rfl, rfl, ?_⟩ (fun _ _ _ _ _ => trivial) ?_ ?_
  · have := JAll.start n.toNat
    rwa [show ((n.toNat : Nat) : Int) = n from by omega] at this
  · rintro i k0 vs G' E hi hx ⟨⟨x5, x6, x7, x8, rfl⟩, js, left, rfl, hjs, hJ⟩ hnx - - -
    rw [upto_len] at hi
    rw [upto_get (by omega)] at hx
    have hx := Option.some.inj hx
    have hll := hJ.cur.len
    have hne : p ≠ p0 := fun z => by subst z; rw [uG_same] at hp; cases hp
    have hap0 : a ≠ p0 := fun z => by subst z; rw [ha] at hp0; cases hp0
    have hG0 : ∀ L J, uG (uG G p0 L) p J p0 = some L := fun L J => by rw [uG_ne (Ne.symm hne)]; exact uG_same
    have hd : ∀ L J, uG (uG G p0 L) p J a = some (.deck l dks) := fun L J => uG_keep (by rw [uG_ne hne]; rw [uG_ne hne] at hp; exact hp) (uG_keep hp0 ha)
    have hg := hG0 (.lst (left.map D.int)) (.lst (js.map pD))
    have hd1 := hd (.lst (left.map D.int)) (.lst (js.map pD))
    walk_at "ps"
    walk_at "go"
    rw [norm3 hne]
    have hl1 := tk.len
    have hd1 := hd (.lst (ys.map D.int)) (.lst (js.map pD))
    have hg := hG0 (.lst (ys.map D.int)) (.lst (js.map pD))
    walk_at "go"
    rename_i y zs tk1
    rw [norm3 hne]
    have hl2 := tk.len
    walk_at "go"
    all_goals
      refine st_ins1 (hG0 _ _) ?_
      walk_at "go"
      refine st_ins0 (hG0 _ _) (by omega) ?_
      rw [norm3 hne]
    · exact hnx [_, _, _, _] _ ⟨⟨_, _, _, _, rfl⟩, js ++ [(y, x)], (n + k0) :: ys, by rw [List.map_append]; rfl, len_snoc hjs, hJ.more tk1 tk (.inl rfl) (by rw [show n + k0 = ((n.toNat : Nat) : Int) + js.length from by omega]; exact (List.perm_append_singleton _ _).symm)⟩
    · exact hnx [_, _, _, _] _ ⟨⟨_, _, _, _, rfl⟩, js ++ [(x, y)], (n + k0) :: ys, by rw [List.map_append]; rfl, len_snoc hjs, hJ.more tk1 tk (.inr rfl) (by rw [show n + k0 = ((n.toNat : Nat) : Int) + js.length from by omega]; exact (List.perm_append_singleton _ _).symm)⟩
  rintro vs G' ⟨⟨x5, x6, x7, x8, rfl⟩, js, left, rfl, hjs, hJ⟩
  rw [upto_len] at hjs
  have hne : p ≠ p0 := fun z => by subst z; rw [uG_same] at hp; cases hp
  walk_at "ps"
  walk_at "go"
  exact .drop2 hp0 (by rw [uG_ne hne]; rw [uG_ne hne] at hp; exact hp) (h js (hJ.done (by omega)))
theorem fn__law_joining (T : Mods K mg) : FnD P w K mg base CX0 2 "_law_joining" sp__law_joining := fnd_mk T.d__law_joining sc__law_joining (fun _ _ _ _ _ _ us hl => match us, hl with | [_, _], _ => rfl) (body__law_joining T) sem__law_joining
/-! ### _law_beneath -/
/-- the same, but for order -/
def Same2 (a b : List (List Int)) : Prop := a.length = b.length ∧ ∀ k (_ : k < a.length) (_ : k < b.length), a[k].Perm b[k]
theorem Same2.at {a b : List (List Int)} (h : Same2 a b) {i : Int} (h0 : 0 ≤ i) (h1 : i < b.length) : i < a.length ∧ (nth a i).Perm (nth b i) := by
  have hl := h.1
  refine ⟨by omega, ?_⟩
  have := h.2 i.toNat (by omega) (by omega)
  have e : i = ((i.toNat : Nat) : Int) := by omega
  rw [e, nth_nat (by omega), nth_nat (by omega)]
  simpa using this
theorem Same2.more {a b : List (List Int)} (h : Same2 a b) {x y : List Int} (hr : x.Perm y) : Same2 (a ++ [x]) (b ++ [y]) := by
  refine ⟨by rw [List.length_append, List.length_append, h.1]; rfl, fun k h1 h2 => ?_⟩
  have hl := h.1
  by_cases c : k < a.length
  · rw [List.getElem_append_left c, List.getElem_append_left (by omega)]
    exact h.2 k c (by omega)
  · have : k = a.length := by simp at h1; omega
    subst this
    rw [List.getElem_append_right (by omega), List.getElem_append_right (by omega)]
    simp only [hl, Nat.sub_self, List.getElem_cons_zero]
    exact hr
def sp__law_beneath : DSp := fun ds G R _ => ∃ (n : Int) (js : Jn), ds = [.int n, .tup (js.map pD)] ∧ (0 < n) ∧ (n ≤ 1000) ∧ (JoinOk n.toNat js) ∧ (∀ bl : List (List Int), Same2 bl (below n.toNat js) → R (.lst (bl.map lI)) G)
theorem st__law_beneath {G : DH} {R : DK} {X : XD}  {n : Int} {js : Jn} (zh0 : 0 < n)  (zh1 : n ≤ 1000)  (zh2 : JoinOk n.toNat js) (zq : ∀ bl : List (List Int), Same2 bl (below n.toNat js) → R (.lst (bl.map lI)) G) : sp__law_beneath [.int n, .tup (js.map pD)] G R X := ⟨n, js, rfl, zh0, zh1, zh2, zq⟩
abbrev N__law_beneath : List Str := ["_law_many", "_law_joining_here", "_law_below", "_law_one", "_law_other", "_law_end"]
theorem sc__law_beneath : FnScope N__law_beneath ["_law_many", "_law_joining_here"] (defScope s__law_beneath) := ⟨rfl, rfl, rfl, by decide +kernel, rfl, by decide +kernel, by decide +kernel⟩
def t__law_beneath : DT := dSeq (dAsgL (fComp (iRange1 (aCons (dVar 0) (aNil))) (gN 5) dYes (dLv (fLst (aCons (dVar 5) (aNil)))) [5]) 2)
    (dSeq (dFor (iSeq (dVar 1)) (gU 2 (gNc (gN 3) (gNc (gN 4) (gN0)))) (dDrop (dAppend (dVar 2) (dCall cSorted (aCons (dBin oAdd (dBin dIx (dVar 2) (dVar 3)) (dBin dIx (dVar 2) (dVar 4))) (aNil))))))
    (dRet (dVar 2)))
theorem body__law_beneath (T : Mods K mg) (f : Addr) (cdv : Value) (A : Around) (outer : List Env) (s : Shared) (H : Hp) (E : XK) (hr : Room 0 (A.deeper (envOfC "_law_beneath" (defScope s__law_beneath) s.heap.objs.size f cdv))) : PSsD (cxOf CX0 P w K mg base N__law_beneath "_law_beneath" (defScope s__law_beneath) f cdv A outer s H E).nox (defBody s__law_beneath) t__law_beneath :=
  pssd_cons (psd_setLcL (i := 2) (own := [("_law_end", 5)]) rfl sc__law_beneath.nd rfl rfl (sw_true rfl rfl rfl (by decide +kernel)) (pid_range1 rfl T.b_range (pad_cons (dv 0) (pad_nil))) (blkOk_by (N := N__law_beneath) (sc := defScope s__law_beneath) (by decide +kernel)) (fun _ _ _ _ _ => pgd_name (i := 5) sc__law_beneath.nd rfl (Or.inl rfl)) (fun _ _ _ _ _ => ptsd_nil) (fun _ _ _ _ _ => ped_of (pef_lst (pad_cons (dv 5) (pad_nil)))))
      (pssd_cons (psd_for (vs := [3, 4]) PassesOwn.never rfl (pid_seq (dv 1)) (pgd_seq (n := 2) rfl (pgsd_cons (pgd_name (i := 3) sc__law_beneath.nd rfl (Or.inl rfl)) (pgsd_cons (pgd_name (i := 4) sc__law_beneath.nd rfl (Or.inl rfl)) (pgsd_nil)))) (pssd_one (psd_drop (ped_append (dv 2) (ped_callB cdSorted rfl T.b_sorted (by decide +kernel) (pad_cons (ped_op odAdd (ped_ix (ixd (hu_of hr)) (dv 2) (dv 3)) (ped_ix (ixd (hu_of hr)) (dv 2) (dv 4))) (pad_nil)))))))
      (pssd_one (psd_ret (dv 2))))
theorem ds__law_beneath (d0 : D) (d1 : D) : dstart N__law_beneath [d0, d1] = [some d0, some d1, none, none, none, none] := rfl
set_option hygiene false in
local macro_rules | `(tactic| walk_at "go") => `(tactic| repeat' ((fail_if_success (with_reducible refine isLoop ?_)); (fail_if_success (with_reducible refine isComp ?_)); first
  | (refine Stp.out ?_)
  | (with_reducible apply st_var; (with_unfolding_all exact rfl))
  | (with_reducible apply st_len5U; (walk_at "sd")) | (with_reducible apply st_len5M; (walk_at "sd"))
  | (with_reducible apply st_len5; (with_unfolding_all exact Nat.le_of_ble_eq_true rfl))
  | (with_reducible apply st_len; (with_unfolding_all exact Nat.le_of_ble_eq_true rfl))
  | (with_reducible apply st_ixT; (with_unfolding_all exact rfl))
  | (with_reducible apply st_ixRow; (with_unfolding_all exact rfl)) | (with_reducible apply st_ixE; (with_unfolding_all exact rfl)) | (with_reducible apply st_ixP; (with_unfolding_all exact rfl))
  | (with_reducible apply st_ixL; (with_unfolding_all exact rfl); (with_unfolding_all exact rfl))
  | (with_reducible apply st_ixMT; (walk_at "sd"); (walk_at "sd"))
  | (with_reducible apply st_ixML; (walk_at "sd"); (walk_at "sd"))
  | (with_reducible apply st_ixIA; (assumption); (walk_at "sd"); (walk_at "sd"))
  | (with_reducible apply st_ixR; (walk_at "lg"))
  | (with_reducible apply st_ixlT; (walk_at "sd")) | (with_reducible apply st_ixlL; (walk_at "sd"))
  | (with_reducible refine st_selV ?_) | (with_reducible refine st_selVB ?_)
  | (with_reducible apply st_mulI; (first | (left; constructor <;> omega) | (right; constructor <;> omega)))
  | (with_reducible apply st_fdiv; (first | omega | decide); (first | omega | decide)) | (with_reducible apply st_mod; (first | omega | decide))
  | (with_reducible first | refine st_p3 ?_ | refine st_p5 ?_ | refine st_p6 ?_ | refine st_p7 ?_ | refine st_p8 ?_ | refine st_p9 ?_ | refine st_p10 ?_ | refine st_p12 ?_ | refine st_p15 ?_ | refine st_p18 ?_)
  | (with_reducible apply st_gU; (with_unfolding_all exact rfl)) | (with_reducible apply st_gUL; (walk_at "ls"); (with_unfolding_all exact rfl))
  | (with_reducible apply st_is; (with_unfolding_all exact rfl)) | (with_reducible apply st_isNot; (with_unfolding_all exact rfl))
  | (with_reducible apply st_isiT; (with_unfolding_all exact rfl); (simp); (decide)) | (with_reducible apply st_isiF; (with_unfolding_all exact rfl); (simp); (decide))
  | (with_reducible apply st_rg1; (omega); (omega)) | (with_reducible apply st_rgK2; (omega); (omega); (omega); (omega)) | (with_reducible apply st_rgK3; (omega); (omega); (omega); (omega)) | (with_reducible apply st_rvK; (omega); (omega))
  | (with_reducible apply st_lrK; (omega); (omega))
  | (with_reducible first | refine st_sumM ?_ | refine st_allM ?_ | refine st_anyM ?_ | refine st_inIT ?_ | refine st_inIL ?_ | apply st_inIP; (walk_at "lg"))
  | (with_reducible apply st_sum; (walk_at "ls"); (first | exact intsD_map _ | with_unfolding_all exact rfl))
  | (with_reducible apply st_bools; (walk_at "ls"); (first | exact boolsD_map _ | with_unfolding_all exact rfl))
  | (with_reducible apply st_lenMP; (walk_at "lg"))
  | (with_reducible apply st_tupL; (first | exact res_ptr (by assumption) | exact res_ptr uG_same)) | (with_reducible apply st_lenL; (first | exact res_ptr (by assumption) | exact res_ptr uG_same)) | (with_reducible apply st_slL; (first | exact res_ptr (by assumption) | exact res_ptr uG_same)) | (with_reducible apply st_lsKL; (first | exact res_ptr (by assumption) | exact res_ptr uG_same))
  | (with_reducible apply st_sqP; (walk_at "lg"))
  | (with_reducible apply st_neNilM; (walk_at "pl")) | (with_reducible apply st_neNilP; (walk_at "lg"); (walk_at "pl")) | (with_reducible apply st_eqNilL; (walk_at "pl")) | (with_reducible apply st_eqNilP; (walk_at "lg"); (walk_at "pl"))
  | (with_reducible refine st_inKV rfl ?_) | (with_reducible apply st_neNilT; (walk_at "pl"))
  | (with_reducible apply st_enP; (walk_at "lg"))
  | (with_reducible first | refine st_ninIT ?_ | refine st_ninIL ?_ | apply st_ninIP; (walk_at "lg"))
  | (with_reducible apply st_addTS; (with_unfolding_all exact Nat.le_of_ble_eq_true rfl))
  | (with_reducible apply st_mulT1; (walk_at "sd"); (walk_at "sd"))
  | (with_reducible apply st_ml1; (walk_at "sd"); (walk_at "sd"))
  | (with_reducible apply st_ex1; (walk_at "lg")) | (with_reducible apply st_ex2P; (walk_at "sd"))
  | (with_reducible apply st_ap1; (walk_at "lg")) | (with_reducible apply st_ap2U; (walk_at "sd")) | (with_reducible apply st_ap2; (walk_at "lg"); (walk_at "sd"))
  | (with_reducible apply st_revP; (walk_at "lg"))
  | (with_reducible apply st_rm1; (walk_at "lg")) | (with_reducible apply st_rm2U; (assumption)) | (with_reducible apply st_rm2; (walk_at "lg"); (assumption))
  | (with_reducible apply st_gsT; (walk_at "lg"); (omega)) | (with_reducible apply st_ixT2; (walk_at "lg"); (assumption))
  | (with_reducible apply st_addLM; (walk_at "sl")) | (with_reducible apply st_addTM; (walk_at "sl"))
  | (with_reducible apply ogL_ix; (with_unfolding_all exact rfl)) | (with_reducible apply ogL_set; (with_unfolding_all exact rfl); (with_unfolding_all exact rfl)) | (with_reducible apply st_rlP; (walk_at "lg"))
  | (with_reducible apply og_neNil; (assumption)) | (with_reducible apply og_popLast; (assumption); (walk_at "sd"); intro cc cs')
  | (with_reducible apply st_pa1; (walk_at "lg")) | (with_reducible apply st_pa2U; (walk_at "sd"); (walk_at "sd"); (walk_at "sd"); intro x ys tk) | (with_reducible apply st_pa2; (walk_at "lg"); (walk_at "sd"); (walk_at "sd"); (walk_at "sd"); intro x ys tk)
  | (with_reducible apply st_ins1; (walk_at "lg"))
  | (with_reducible apply st_cat; (first | decide | omega))

  | (with_reducible refine iteD ?_ ?_ <;> intro c <;> try omega)
  | (with_reducible refine iteND ?_ ?_ <;> intro c <;> try omega)
  | (with_reducible refine iteB ?_ ?_ <;> intro c) | (with_reducible refine iteNB ?_ ?_ <;> intro c)
  | (with_reducible apply st_pickI2; (walk_at "sd"); (walk_at "sd"); intro v hv) | (with_reducible apply st_pickI3; (walk_at "sd"); (walk_at "sd"); intro v hv) | (with_reducible apply st_pickI4; (walk_at "sd"); (walk_at "sd"); intro v hv) | (with_reducible apply st_pickI5; (walk_at "sd"); (walk_at "sd"); intro v hv) | (with_reducible apply st_pickI6; (walk_at "sd"); (walk_at "sd"); intro v hv)
  | (with_reducible refine st_sel ?_ ?_ <;> intro c)
  | (with_reducible apply st_pickD2; (walk_at "sd"); (walk_at "sd"))
  | (with_reducible intro p hp)
))

theorem sem__law_beneath : ∀ ds G R X, sp__law_beneath ds G R X → ds.length = 2 ∧ t__law_beneath { nx := fun _ G' => RetOk R .non G', rt := RetOk R } (dstart N__law_beneath ds) G := by
  rintro ds G R X ⟨n, js, rfl, h0, h1, J, h⟩
  have hj := J.rows
  have hjl := J.len
  refine ⟨rfl, ?_⟩
  simp only [t__law_beneath, ds__law_beneath]
  walk_at "go"
  refine comp_map (fun i => lI [i]) trivial (fun x hx acc K hK => by walk_at "go"; exact hK) ?_
  intro p hp
  walk_at "go"
  refine loop_fm [3, 4] (fun i vs G' => (∃ x3 x4, vs = [x3, x4]) ∧ ∃ bl : List (List Int), G' = uG G p (.lst (bl.map lI)) ∧ Same2 bl (below n.toNat (js.take i))) ⟨⟨_, _, rfl⟩, (upto n).map fun i => [i], ?_, ?_⟩ (fun _ _ _ _ _ => trivial) ?_ ?_
  · rw [List.map_map]; rfl
  · have e : below n.toNat (js.take 0) = (upto n).map fun i => [i] := by
      unfold below
      rw [show ((n.toNat : Nat) : Int) = n from by omega]
      rfl
    rw [e]
    exact ⟨rfl, fun k _ _ => .refl _⟩
  · rintro i q vs G' E hi hx ⟨⟨x3, x4, rfl⟩, bl, rfl, hbl⟩ hnx - - -
    obtain ⟨⟨a0, a1⟩, ⟨b0, b1⟩, hne⟩ := hj i q hx
    have hb := below_len n.toNat (js.take i)
    rw [List.length_take] at hb
    obtain ⟨a2, ra⟩ := hbl.at a0 (by rw [hb]; omega)
    obtain ⟨b2, rb⟩ := hbl.at b0 (by rw [hb]; omega)
    obtain ⟨l, hl, m1, m2⟩ := J.sides hx
    have few := hl.few m1 m2 hne
    have la := ra.length_eq
    have hb1 := hbl.1
    have lb := rb.length_eq
    walk_at "ps"
    walk_at "go"
    refine st_sortL fun ns' hp1 _ => ?_
    walk_at "go"
    have e : js.take (i + 1) = js.take i ++ [q] := by
      rw [List.take_succ, hx]; rfl
    refine hnx [_, _] _ ⟨⟨_, _, rfl⟩, _, snocU lI bl ns', ?_⟩
    rw [e, below_snoc]
    exact hbl.more (hp1.trans (ra.append rb))
  rintro vs G' ⟨⟨x3, x4, rfl⟩, bl, rfl, hbl⟩
  rw [List.take_length] at hbl
  walk_at "ps"
  walk_at "go"
  exact .frz hp (h bl hbl)
theorem fn__law_beneath (T : Mods K mg) : FnD P w K mg base CX0 1 "_law_beneath" sp__law_beneath := fnd_mk T.d__law_beneath sc__law_beneath (fun _ _ _ _ _ _ us hl => match us, hl with | [_, _], _ => rfl) (body__law_beneath T) sem__law_beneath
/-! ### _law_radius -/
theorem bxE_in (e : End) (h u v : Int) (m : Int) (h1 : m ∈ [uE e - u, u - uE e, vE e - v, v - vE e]) (h2 : ∀ y, y ∈ [uE e - u, u - uE e, vE e - v, v - vE e] → y ≤ m) : 2 * e.s + m ≤ h ↔ insB (bxE e h) u v := by
  simp only [List.mem_cons, List.not_mem_nil, or_false, forall_eq_or_imp, forall_eq] at h1 h2
  unfold insB bxE grB
  dsimp only
  omega
def sp__law_radius : DSp := fun ds G R _ => ∃ (e : End) (u v : Int), ds = [eD e, .tup [.int u, .int v]] ∧ (∀ m : Int, (∀ h, m ≤ h ↔ insB (bxE e h) u v) → R (.int m) G)
theorem st__law_radius {G : DH} {R : DK} {X : XD}  {e : End} {u v : Int}  (zq : ∀ m : Int, (∀ h, m ≤ h ↔ insB (bxE e h) u v) → R (.int m) G) : sp__law_radius [eD e, .tup [.int u, .int v]] G R X := ⟨e, u, v, rfl, zq⟩
abbrev N__law_radius : List Str := ["_law_end", "_law_spot", "_law_u", "_law_v"]
theorem sc__law_radius : FnScope N__law_radius ["_law_end", "_law_spot"] (defScope s__law_radius) := ⟨rfl, rfl, rfl, by decide +kernel, rfl, by decide +kernel, by decide +kernel⟩
def t__law_radius : DT := dSeq (dAsg (dBin oAdd (dBin oMul (dC (.int 2)) (dBin dIx (dVar 0) (dC (.int 0)))) (dBin oMul (dC (.int 2)) (dBin dIx (dVar 0) (dC (.int 1))))) (gN 2))
    (dSeq (dAsg (dBin oSub (dBin oMul (dC (.int 2)) (dBin dIx (dVar 0) (dC (.int 0)))) (dBin oMul (dC (.int 2)) (dBin dIx (dVar 0) (dC (.int 1))))) (gN 3))
    (dRet (dBin oAdd (dBin oMul (dC (.int 2)) (dBin dIx (dVar 0) (dC (.int 2)))) (dCall cMaxN (aCons (dBin oSub (dVar 2) (dBin dIx (dVar 1) (dC (.int 0)))) (aCons (dBin oSub (dBin dIx (dVar 1) (dC (.int 0))) (dVar 2)) (aCons (dBin oSub (dVar 3) (dBin dIx (dVar 1) (dC (.int 1)))) (aCons (dBin oSub (dBin dIx (dVar 1) (dC (.int 1))) (dVar 3)) (aNil)))))))))
theorem body__law_radius (T : Mods K mg) (f : Addr) (cdv : Value) (A : Around) (outer : List Env) (s : Shared) (H : Hp) (E : XK) (hr : Room 0 (A.deeper (envOfC "_law_radius" (defScope s__law_radius) s.heap.objs.size f cdv))) : PSsD (cxOf CX0 P w K mg base N__law_radius "_law_radius" (defScope s__law_radius) f cdv A outer s H E).nox (defBody s__law_radius) t__law_radius :=
  pssd_cons (psd_set (i := 2) sc__law_radius.nd rfl (Or.inl rfl) (ped_op odAdd (ped_op odMul (ped_int) (ped_ix (ixd (hu_of hr)) (dv 0) (ped_int))) (ped_op odMul (ped_int) (ped_ix (ixd (hu_of hr)) (dv 0) (ped_int)))))
      (pssd_cons (psd_set (i := 3) sc__law_radius.nd rfl (Or.inl rfl) (ped_op odSub (ped_op odMul (ped_int) (ped_ix (ixd (hu_of hr)) (dv 0) (ped_int))) (ped_op odMul (ped_int) (ped_ix (ixd (hu_of hr)) (dv 0) (ped_int)))))
      (pssd_one (psd_ret (ped_op odAdd (ped_op odMul (ped_int) (ped_ix (ixd (hu_of hr)) (dv 0) (ped_int))) (ped_callB (cdMaxN rfl) rfl T.b_max (by decide +kernel) (pad_cons (ped_op odSub (dv 2) (ped_ix (ixd (hu_of hr)) (dv 1) (ped_int))) (pad_cons (ped_op odSub (ped_ix (ixd (hu_of hr)) (dv 1) (ped_int)) (dv 2)) (pad_cons (ped_op odSub (dv 3) (ped_ix (ixd (hu_of hr)) (dv 1) (ped_int))) (pad_cons (ped_op odSub (ped_ix (ixd (hu_of hr)) (dv 1) (ped_int)) (dv 3)) (pad_nil))))))))))
theorem ds__law_radius (d0 : D) (d1 : D) : dstart N__law_radius [d0, d1] = [some d0, some d1, none, none] := rfl
set_option hygiene false in
local macro_rules | `(tactic| walk_at "go") => `(tactic| repeat' ((fail_if_success (with_reducible refine isLoop ?_)); (fail_if_success (with_reducible refine isComp ?_)); first
  | (refine Stp.out ?_)
  | (with_reducible apply st_var; (with_unfolding_all exact rfl))
  | (with_reducible apply st_len5U; (walk_at "sd")) | (with_reducible apply st_len5M; (walk_at "sd"))
  | (with_reducible apply st_len5; (with_unfolding_all exact Nat.le_of_ble_eq_true rfl))
  | (with_reducible apply st_len; (with_unfolding_all exact Nat.le_of_ble_eq_true rfl))
  | (with_reducible apply st_ixT; (with_unfolding_all exact rfl))
  | (with_reducible apply st_ixRow; (with_unfolding_all exact rfl)) | (with_reducible apply st_ixE; (with_unfolding_all exact rfl)) | (with_reducible apply st_ixP; (with_unfolding_all exact rfl))
  | (with_reducible apply st_ixL; (with_unfolding_all exact rfl); (with_unfolding_all exact rfl))
  | (with_reducible apply st_ixMT; (walk_at "sd"); (walk_at "sd"))
  | (with_reducible apply st_ixML; (walk_at "sd"); (walk_at "sd"))
  | (with_reducible apply st_ixIA; (assumption); (walk_at "sd"); (walk_at "sd"))
  | (with_reducible apply st_ixR; (walk_at "lg"))
  | (with_reducible apply st_ixlT; (walk_at "sd")) | (with_reducible apply st_ixlL; (walk_at "sd"))
  | (with_reducible refine st_selV ?_) | (with_reducible refine st_selVB ?_)
  | (with_reducible apply st_mulI; (first | (left; constructor <;> omega) | (right; constructor <;> omega)))
  | (with_reducible apply st_fdiv; (first | omega | decide); (first | omega | decide)) | (with_reducible apply st_mod; (first | omega | decide))
  | (with_reducible first | refine st_p3 ?_ | refine st_p5 ?_ | refine st_p6 ?_ | refine st_p7 ?_ | refine st_p8 ?_ | refine st_p9 ?_ | refine st_p10 ?_ | refine st_p12 ?_ | refine st_p15 ?_ | refine st_p18 ?_)
  | (with_reducible apply st_gU; (with_unfolding_all exact rfl)) | (with_reducible apply st_gUL; (walk_at "ls"); (with_unfolding_all exact rfl))
  | (with_reducible apply st_is; (with_unfolding_all exact rfl)) | (with_reducible apply st_isNot; (with_unfolding_all exact rfl))
  | (with_reducible apply st_isiT; (with_unfolding_all exact rfl); (simp); (decide)) | (with_reducible apply st_isiF; (with_unfolding_all exact rfl); (simp); (decide))
  | (with_reducible apply st_rg1; (omega); (omega)) | (with_reducible apply st_rgK2; (omega); (omega); (omega); (omega)) | (with_reducible apply st_rgK3; (omega); (omega); (omega); (omega)) | (with_reducible apply st_rvK; (omega); (omega))
  | (with_reducible apply st_lrK; (omega); (omega))
  | (with_reducible first | refine st_sumM ?_ | refine st_allM ?_ | refine st_anyM ?_ | refine st_inIT ?_ | refine st_inIL ?_ | apply st_inIP; (walk_at "lg"))
  | (with_reducible apply st_sum; (walk_at "ls"); (first | exact intsD_map _ | with_unfolding_all exact rfl))
  | (with_reducible apply st_bools; (walk_at "ls"); (first | exact boolsD_map _ | with_unfolding_all exact rfl))
  | (with_reducible apply st_lenMP; (walk_at "lg"))
  | (with_reducible apply st_tupL; (first | exact res_ptr (by assumption) | exact res_ptr uG_same)) | (with_reducible apply st_lenL; (first | exact res_ptr (by assumption) | exact res_ptr uG_same)) | (with_reducible apply st_slL; (first | exact res_ptr (by assumption) | exact res_ptr uG_same)) | (with_reducible apply st_lsKL; (first | exact res_ptr (by assumption) | exact res_ptr uG_same))
  | (with_reducible apply st_sqP; (walk_at "lg"))
  | (with_reducible apply st_neNilM; (walk_at "pl")) | (with_reducible apply st_neNilP; (walk_at "lg"); (walk_at "pl")) | (with_reducible apply st_eqNilL; (walk_at "pl")) | (with_reducible apply st_eqNilP; (walk_at "lg"); (walk_at "pl"))
  | (with_reducible refine st_inKV rfl ?_) | (with_reducible apply st_neNilT; (walk_at "pl"))
  | (with_reducible apply st_enP; (walk_at "lg"))
  | (with_reducible first | refine st_ninIT ?_ | refine st_ninIL ?_ | apply st_ninIP; (walk_at "lg"))
  | (with_reducible apply st_addTS; (with_unfolding_all exact Nat.le_of_ble_eq_true rfl))
  | (with_reducible apply st_mulT1; (walk_at "sd"); (walk_at "sd"))
  | (with_reducible apply st_ml1; (walk_at "sd"); (walk_at "sd"))
  | (with_reducible apply st_ex1; (walk_at "lg")) | (with_reducible apply st_ex2P; (walk_at "sd"))
  | (with_reducible apply st_ap1; (walk_at "lg")) | (with_reducible apply st_ap2U; (walk_at "sd")) | (with_reducible apply st_ap2; (walk_at "lg"); (walk_at "sd"))
  | (with_reducible apply st_revP; (walk_at "lg"))
  | (with_reducible apply st_rm1; (walk_at "lg")) | (with_reducible apply st_rm2U; (assumption)) | (with_reducible apply st_rm2; (walk_at "lg"); (assumption))
  | (with_reducible apply st_gsT; (walk_at "lg"); (omega)) | (with_reducible apply st_ixT2; (walk_at "lg"); (assumption))
  | (with_reducible apply st_addLM; (walk_at "sl")) | (with_reducible apply st_addTM; (walk_at "sl"))
  | (with_reducible apply ogL_ix; (with_unfolding_all exact rfl)) | (with_reducible apply ogL_set; (with_unfolding_all exact rfl); (with_unfolding_all exact rfl)) | (with_reducible apply st_rlP; (walk_at "lg"))
  | (with_reducible apply og_neNil; (assumption)) | (with_reducible apply og_popLast; (assumption); (walk_at "sd"); intro cc cs')
  | (with_reducible apply st_pa1; (walk_at "lg")) | (with_reducible apply st_pa2U; (walk_at "sd"); (walk_at "sd"); (walk_at "sd"); intro x ys tk) | (with_reducible apply st_pa2; (walk_at "lg"); (walk_at "sd"); (walk_at "sd"); (walk_at "sd"); intro x ys tk)
  | (with_reducible apply st_ins1; (walk_at "lg"))
  | (with_reducible apply st_cat; (first | decide | omega))

  | (with_reducible refine iteD ?_ ?_ <;> intro c <;> try omega)
  | (with_reducible refine iteND ?_ ?_ <;> intro c <;> try omega)
  | (with_reducible refine iteB ?_ ?_ <;> intro c) | (with_reducible refine iteNB ?_ ?_ <;> intro c)
  | (with_reducible apply st_pickI2; (walk_at "sd"); (walk_at "sd"); intro v hv) | (with_reducible apply st_pickI3; (walk_at "sd"); (walk_at "sd"); intro v hv) | (with_reducible apply st_pickI4; (walk_at "sd"); (walk_at "sd"); intro v hv) | (with_reducible apply st_pickI5; (walk_at "sd"); (walk_at "sd"); intro v hv) | (with_reducible apply st_pickI6; (walk_at "sd"); (walk_at "sd"); intro v hv)
  | (with_reducible refine st_sel ?_ ?_ <;> intro c)
  | (with_reducible apply st_pickD2; (walk_at "sd"); (walk_at "sd"))
  | (with_reducible intro p hp)
))

theorem sem__law_radius : ∀ ds G R X, sp__law_radius ds G R X → ds.length = 2 ∧ t__law_radius { nx := fun _ G' => RetOk R .non G', rt := RetOk R } (dstart N__law_radius ds) G := by
  rintro ds G R X ⟨e, u, v, rfl, h⟩
  refine ⟨rfl, ?_⟩
  simp only [t__law_radius, ds__law_radius]
  walk_at "go"
  refine st_maxN (ns := [_, _, _, _]) (Nat.le_of_ble_eq_true rfl) (Nat.le_of_ble_eq_true rfl) fun m h1 h2 => ?_
  walk_at "go"
  refine .same (h _ fun k => bxE_in e k u v m ?_ ?_)
  · rw [show uE e = 2 * e.x + 2 * e.y from by unfold uE; omega, show vE e = 2 * e.x - 2 * e.y from by unfold vE; omega]; exact h1
  · rw [show uE e = 2 * e.x + 2 * e.y from by unfold uE; omega, show vE e = 2 * e.x - 2 * e.y from by unfold vE; omega]; exact h2
theorem fn__law_radius (T : Mods K mg) : FnD P w K mg base CX0 1 "_law_radius" sp__law_radius := fnd_mk T.d__law_radius sc__law_radius (fun _ _ _ _ _ _ us hl => match us, hl with | [_, _], _ => rfl) (body__law_radius T) sem__law_radius
/-! ### _law_want -/
def sp__law_want : DSp := fun ds G R _ => ∃ (e f : End), ds = [eD e, eD f] ∧ (R (.int (wantI e f)) G)
theorem st__law_want {G : DH} {R : DK} {X : XD}  {e f : End}  (zq : R (.int (wantI e f)) G) : sp__law_want [eD e, eD f] G R X := ⟨e, f, rfl, zq⟩
abbrev N__law_want : List Str := ["_law_one", "_law_other"]
theorem sc__law_want : FnScope N__law_want ["_law_one", "_law_other"] (defScope s__law_want) := ⟨rfl, rfl, rfl, by decide +kernel, rfl, by decide +kernel, by decide +kernel⟩
def t__law_want : DT := dRet (dBin oAdd (dBin oAdd (dBin oAdd (dBin dIx (dVar 0) (dC (.int 2))) (dBin dIx (dVar 1) (dC (.int 2)))) (dCall cAbs (aCons (dBin oSub (dBin dIx (dVar 0) (dC (.int 0))) (dBin dIx (dVar 1) (dC (.int 0)))) (aNil)))) (dCall cAbs (aCons (dBin oSub (dBin dIx (dVar 0) (dC (.int 1))) (dBin dIx (dVar 1) (dC (.int 1)))) (aNil))))
theorem body__law_want (T : Mods K mg) (f : Addr) (cdv : Value) (A : Around) (outer : List Env) (s : Shared) (H : Hp) (E : XK) (hr : Room 0 (A.deeper (envOfC "_law_want" (defScope s__law_want) s.heap.objs.size f cdv))) : PSsD (cxOf CX0 P w K mg base N__law_want "_law_want" (defScope s__law_want) f cdv A outer s H E).nox (defBody s__law_want) t__law_want :=
  pssd_one (psd_ret (ped_op odAdd (ped_op odAdd (ped_op odAdd (ped_ix (ixd (hu_of hr)) (dv 0) (ped_int)) (ped_ix (ixd (hu_of hr)) (dv 1) (ped_int))) (ped_callB cdAbs rfl T.b_abs (by decide +kernel) (pad_cons (ped_op odSub (ped_ix (ixd (hu_of hr)) (dv 0) (ped_int)) (ped_ix (ixd (hu_of hr)) (dv 1) (ped_int))) (pad_nil)))) (ped_callB cdAbs rfl T.b_abs (by decide +kernel) (pad_cons (ped_op odSub (ped_ix (ixd (hu_of hr)) (dv 0) (ped_int)) (ped_ix (ixd (hu_of hr)) (dv 1) (ped_int))) (pad_nil)))))
theorem ds__law_want (d0 : D) (d1 : D) : dstart N__law_want [d0, d1] = [some d0, some d1] := rfl
set_option hygiene false in
local macro_rules | `(tactic| walk_at "go") => `(tactic| repeat' ((fail_if_success (with_reducible refine isLoop ?_)); (fail_if_success (with_reducible refine isComp ?_)); first
  | (refine Stp.out ?_)
  | (with_reducible apply st_var; (with_unfolding_all exact rfl))
  | (with_reducible apply st_len5U; (walk_at "sd")) | (with_reducible apply st_len5M; (walk_at "sd"))
  | (with_reducible apply st_len5; (with_unfolding_all exact Nat.le_of_ble_eq_true rfl))
  | (with_reducible apply st_len; (with_unfolding_all exact Nat.le_of_ble_eq_true rfl))
  | (with_reducible apply st_ixT; (with_unfolding_all exact rfl))
  | (with_reducible apply st_ixRow; (with_unfolding_all exact rfl)) | (with_reducible apply st_ixE; (with_unfolding_all exact rfl)) | (with_reducible apply st_ixP; (with_unfolding_all exact rfl))
  | (with_reducible apply st_ixL; (with_unfolding_all exact rfl); (with_unfolding_all exact rfl))
  | (with_reducible apply st_ixMT; (walk_at "sd"); (walk_at "sd"))
  | (with_reducible apply st_ixML; (walk_at "sd"); (walk_at "sd"))
  | (with_reducible apply st_ixIA; (assumption); (walk_at "sd"); (walk_at "sd"))
  | (with_reducible apply st_ixR; (walk_at "lg"))
  | (with_reducible apply st_ixlT; (walk_at "sd")) | (with_reducible apply st_ixlL; (walk_at "sd"))
  | (with_reducible refine st_selV ?_) | (with_reducible refine st_selVB ?_)
  | (with_reducible apply st_mulI; (first | (left; constructor <;> omega) | (right; constructor <;> omega)))
  | (with_reducible apply st_fdiv; (first | omega | decide); (first | omega | decide)) | (with_reducible apply st_mod; (first | omega | decide))
  | (with_reducible first | refine st_p3 ?_ | refine st_p5 ?_ | refine st_p6 ?_ | refine st_p7 ?_ | refine st_p8 ?_ | refine st_p9 ?_ | refine st_p10 ?_ | refine st_p12 ?_ | refine st_p15 ?_ | refine st_p18 ?_)
  | (with_reducible apply st_gU; (with_unfolding_all exact rfl)) | (with_reducible apply st_gUL; (walk_at "ls"); (with_unfolding_all exact rfl))
  | (with_reducible apply st_is; (with_unfolding_all exact rfl)) | (with_reducible apply st_isNot; (with_unfolding_all exact rfl))
  | (with_reducible apply st_isiT; (with_unfolding_all exact rfl); (simp); (decide)) | (with_reducible apply st_isiF; (with_unfolding_all exact rfl); (simp); (decide))
  | (with_reducible apply st_rg1; (omega); (omega)) | (with_reducible apply st_rgK2; (omega); (omega); (omega); (omega)) | (with_reducible apply st_rgK3; (omega); (omega); (omega); (omega)) | (with_reducible apply st_rvK; (omega); (omega))
  | (with_reducible apply st_lrK; (omega); (omega))
  | (with_reducible first | refine st_sumM ?_ | refine st_allM ?_ | refine st_anyM ?_ | refine st_inIT ?_ | refine st_inIL ?_ | apply st_inIP; (walk_at "lg"))
  | (with_reducible apply st_sum; (walk_at "ls"); (first | exact intsD_map _ | with_unfolding_all exact rfl))
  | (with_reducible apply st_bools; (walk_at "ls"); (first | exact boolsD_map _ | with_unfolding_all exact rfl))
  | (with_reducible apply st_lenMP; (walk_at "lg"))
  | (with_reducible apply st_tupL; (first | exact res_ptr (by assumption) | exact res_ptr uG_same)) | (with_reducible apply st_lenL; (first | exact res_ptr (by assumption) | exact res_ptr uG_same)) | (with_reducible apply st_slL; (first | exact res_ptr (by assumption) | exact res_ptr uG_same)) | (with_reducible apply st_lsKL; (first | exact res_ptr (by assumption) | exact res_ptr uG_same))
  | (with_reducible apply st_sqP; (walk_at "lg"))
  | (with_reducible apply st_neNilM; (walk_at "pl")) | (with_reducible apply st_neNilP; (walk_at "lg"); (walk_at "pl")) | (with_reducible apply st_eqNilL; (walk_at "pl")) | (with_reducible apply st_eqNilP; (walk_at "lg"); (walk_at "pl"))
  | (with_reducible refine st_inKV rfl ?_) | (with_reducible apply st_neNilT; (walk_at "pl"))
  | (with_reducible apply st_enP; (walk_at "lg"))
  | (with_reducible first | refine st_ninIT ?_ | refine st_ninIL ?_ | apply st_ninIP; (walk_at "lg"))
  | (with_reducible apply st_addTS; (with_unfolding_all exact Nat.le_of_ble_eq_true rfl))
  | (with_reducible apply st_mulT1; (walk_at "sd"); (walk_at "sd"))
  | (with_reducible apply st_ml1; (walk_at "sd"); (walk_at "sd"))
  | (with_reducible apply st_ex1; (walk_at "lg")) | (with_reducible apply st_ex2P; (walk_at "sd"))
  | (with_reducible apply st_ap1; (walk_at "lg")) | (with_reducible apply st_ap2U; (walk_at "sd")) | (with_reducible apply st_ap2; (walk_at "lg"); (walk_at "sd"))
  | (with_reducible apply st_revP; (walk_at "lg"))
  | (with_reducible apply st_rm1; (walk_at "lg")) | (with_reducible apply st_rm2U; (assumption)) | (with_reducible apply st_rm2; (walk_at "lg"); (assumption))
  | (with_reducible apply st_gsT; (walk_at "lg"); (omega)) | (with_reducible apply st_ixT2; (walk_at "lg"); (assumption))
  | (with_reducible apply st_addLM; (walk_at "sl")) | (with_reducible apply st_addTM; (walk_at "sl"))
  | (with_reducible apply ogL_ix; (with_unfolding_all exact rfl)) | (with_reducible apply ogL_set; (with_unfolding_all exact rfl); (with_unfolding_all exact rfl)) | (with_reducible apply st_rlP; (walk_at "lg"))
  | (with_reducible apply og_neNil; (assumption)) | (with_reducible apply og_popLast; (assumption); (walk_at "sd"); intro cc cs')
  | (with_reducible apply st_pa1; (walk_at "lg")) | (with_reducible apply st_pa2U; (walk_at "sd"); (walk_at "sd"); (walk_at "sd"); intro x ys tk) | (with_reducible apply st_pa2; (walk_at "lg"); (walk_at "sd"); (walk_at "sd"); (walk_at "sd"); intro x ys tk)
  | (with_reducible apply st_ins1; (walk_at "lg"))
  | (with_reducible apply st_cat; (first | decide | omega))

  | (with_reducible refine iteD ?_ ?_ <;> intro c <;> try omega)
  | (with_reducible refine iteND ?_ ?_ <;> intro c <;> try omega)
  | (with_reducible refine iteB ?_ ?_ <;> intro c) | (with_reducible refine iteNB ?_ ?_ <;> intro c)
  | (with_reducible apply st_pickI2; (walk_at "sd"); (walk_at "sd"); intro v hv) | (with_reducible apply st_pickI3; (walk_at "sd"); (walk_at "sd"); intro v hv) | (with_reducible apply st_pickI4; (walk_at "sd"); (walk_at "sd"); intro v hv) | (with_reducible apply st_pickI5; (walk_at "sd"); (walk_at "sd"); intro v hv) | (with_reducible apply st_pickI6; (walk_at "sd"); (walk_at "sd"); intro v hv)
  | (with_reducible refine st_sel ?_ ?_ <;> intro c)
  | (with_reducible apply st_pickD2; (walk_at "sd"); (walk_at "sd"))
  | (with_reducible intro p hp)
))

theorem sem__law_want : ∀ ds G R X, sp__law_want ds G R X → ds.length = 2 ∧ t__law_want { nx := fun _ G' => RetOk R .non G', rt := RetOk R } (dstart N__law_want ds) G := by
  rintro ds G R X ⟨e, f, rfl, h⟩
  refine ⟨rfl, ?_⟩
  simp only [t__law_want, ds__law_want]
  walk_at "go"
  refine .same ?_
  rw [show wantI e f = e.s + f.s + absI (e.x - f.x) + absI (e.y - f.y) from by unfold wantI stepsI; omega] at h
  exact h
theorem fn__law_want (T : Mods K mg) : FnD P w K mg base CX0 1 "_law_want" sp__law_want := fnd_mk T.d__law_want sc__law_want (fun _ _ _ _ _ _ us hl => match us, hl with | [_, _], _ => rfl) (body__law_want T) sem__law_want
/-! ### _law_heights -/
/-- the most of the radii of some ends -/
def MxR (l : List End) (u v m : Int) : Prop := ∀ h, m ≤ h ↔ ∀ e ∈ l, insB (bxE e h) u v
theorem MxR.uniq {l : List End} {u v m n : Int} (a : MxR l u v m) (b : MxR l u v n) : m = n :=
  Int.le_antisymm ((a n).mpr ((b n).mp (Int.le_refl _))) ((b m).mpr ((a m).mp (Int.le_refl _)))
theorem MxR.of {l : List End} {u v m : Int} {f : End → Int} (hf : ∀ e h, f e ≤ h ↔ insB (bxE e h) u v) (h1 : ∃ e ∈ l, f e = m) (h2 : ∀ e ∈ l, f e ≤ m) : MxR l u v m := fun h => by
  constructor
  · intro hm e he
    exact (hf e h).mp (Int.le_trans (h2 e he) hm)
  · intro H
    obtain ⟨e, he, rfl⟩ := h1
    exact (hf e h).mpr (H e he)
/-- a dict by places -/
def spK (sps : List (Int × Int × Int)) : List (List Key × D) := sps.map fun p => ([Sum.inl p.1, Sum.inl p.2.1], .int p.2.2)
theorem putP_new {sps : List (Int × Int × Int)} {x y m : Int} (h : ∀ p ∈ sps, ¬ (p.1 = x ∧ p.2.1 = y)) : putP (spK sps) x y (.int m) = spK (sps ++ [(x, y, m)]) := by
  unfold putP putD
  rw [if_neg]
  · unfold spK; rw [List.map_append]; rfl
  · intro z
    obtain ⟨k, hk, e⟩ := List.any_eq_true.mp z
    obtain ⟨p, hp, rfl⟩ := List.mem_map.mp hk
    have e := of_decide_eq_true e
    simp only [List.cons.injEq, Sum.inl.injEq, and_true] at e
    exact h p hp e
theorem valP_spK {x y m : Int} : ∀ {sps : List (Int × Int × Int)}, (x, y, m) ∈ sps → (∀ p ∈ sps, p.1 = x → p.2.1 = y → p.2.2 = m) → valP (spK sps) x y = some (.int m)
  | [], h, _ => nomatch h
  | p :: l, h, hf => by
    unfold valP valD spK
    rw [List.map_cons, List.find?_cons]
    by_cases c : p.1 = x ∧ p.2.1 = y
    · have e : decide (([Sum.inl p.1, Sum.inl p.2.1] : List Key) = [Sum.inl x, Sum.inl y]) = true := decide_eq_true (by rw [c.1, c.2])
      simp only [e]
      show some (D.int p.2.2) = _
      rw [hf p (List.mem_cons_self ..) c.1 c.2]
    · have e : decide (([Sum.inl p.1, Sum.inl p.2.1] : List Key) = [Sum.inl x, Sum.inl y]) = false := decide_eq_false (fun z => c (by simpa using z))
      simp only [e]
      have hm : (x, y, m) ∈ l := by
        rcases List.mem_cons.mp h with z | z
        · exact absurd ⟨by rw [← z], by rw [← z]⟩ c
        · exact z
      have := valP_spK hm fun q hq => hf q (List.mem_cons_of_mem _ hq)
      unfold valP valD spK at this
      exact this
/-- the radius of an end at a place -/
def radI (e : End) (u v : Int) : Int := 2 * e.s + mxL [uE e - u, u - uE e, vE e - v, v - vE e]
theorem radI_in (e : End) (u v h : Int) : radI e u v ≤ h ↔ insB (bxE e h) u v := by
  obtain ⟨h1, h2⟩ := mxL_is (l := [uE e - u, u - uE e, vE e - v, v - vE e]) (fun z => nomatch z)
  exact bxE_in e h u v _ h1 h2
theorem radI_eq {e : End} {u v m : Int} (h : ∀ h, m ≤ h ↔ insB (bxE e h) u v) : m = radI e u v :=
  Int.le_antisymm ((h _).mpr ((radI_in e u v _).mp (Int.le_refl _))) ((radI_in e u v _).mpr ((h m).mp (Int.le_refl _)))
/-- all places about some ends, with the most of their radii -/
structure GridOk (l : List End) (sps : List (Int × Int × Int)) : Prop where
  ok : ∀ p ∈ sps, MxR l p.1 p.2.1 p.2.2
  all : ∀ h b, Hgt l h → BoxOf l h b → ∀ u v, insB b u v → ∃ m, (u, v, m) ∈ sps
  few : sps.length ≤ 2000
theorem GridOk.val {l : List End} {sps : List (Int × Int × Int)} (g : GridOk l sps) {p : Int × Int × Int} (h : p ∈ sps) : valP (spK sps) p.1 p.2.1 = some (.int p.2.2) :=
  valP_spK h fun q hq e1 e2 => by
    have a := g.ok q hq
    rw [e1, e2] at a
    exact a.uniq (g.ok p h)
theorem hgt_max {l : List End} {f : End → Int} {m : Int} (hf : ∀ e ∈ l, (∃ x ∈ l, wantI e x = f e) ∧ ∀ x ∈ l, wantI e x ≤ f e) (h1 : ∃ e ∈ l, f e = m) (h2 : ∀ e ∈ l, f e ≤ m) : Hgt l m := by
  obtain ⟨e, he, rfl⟩ := h1
  obtain ⟨x, hx, e1⟩ := (hf e he).1
  exact ⟨⟨e, he, x, hx, e1⟩, fun a ha b hb => Int.le_trans ((hf a ha).2 b hb) (h2 a ha)⟩
def sp__law_heights : DSp := fun ds G R _ => ∃ (es : List End), ds = [.lst (es.map eD)] ∧ (0 < es.length) ∧ (es.length ≤ 4) ∧ (∀ e ∈ es, smE e) ∧ (∀ (p : Addr) (sps : List (Int × Int × Int)), G p = none → GridOk es sps → R (.ptr p) (uG G p (.dT (spK sps))))
theorem st__law_heights {G : DH} {R : DK} {X : XD}  {es : List End} (zh0 : 0 < es.length)  (zh1 : es.length ≤ 4)  (zh2 : ∀ e ∈ es, smE e) (zq : ∀ (p : Addr) (sps : List (Int × Int × Int)), G p = none → GridOk es sps → R (.ptr p) (uG G p (.dT (spK sps)))) : sp__law_heights [.lst (es.map eD)] G R X := ⟨es, rfl, zh0, zh1, zh2, zq⟩
abbrev N__law_heights : List Str := ["_law_ends_here", "_law_heights_here", "_law_us", "_law_vs", "_law_beside", "_law_u", "_law_v", "_law_end", "_law_one", "_law_other"]
theorem sc__law_heights : FnScope N__law_heights ["_law_ends_here"] (defScope s__law_heights) := ⟨rfl, rfl, rfl, by decide +kernel, rfl, by decide +kernel, by decide +kernel⟩
def t__law_heights : DT := dSeq (dAsg (dDispT) (gN 1))
    (dSeq (dAsg (dLv (fComp (iSeq (dVar 0)) (gN 7) dYes (dBin oAdd (dBin oMul (dC (.int 2)) (dBin dIx (dVar 7) (dC (.int 0)))) (dBin oMul (dC (.int 2)) (dBin dIx (dVar 7) (dC (.int 1))))) [7])) (gN 2))
    (dSeq (dAsg (dLv (fComp (iSeq (dVar 0)) (gN 7) dYes (dBin oSub (dBin oMul (dC (.int 2)) (dBin dIx (dVar 7) (dC (.int 0)))) (dBin oMul (dC (.int 2)) (dBin dIx (dVar 7) (dC (.int 1))))) [7])) (gN 3))
    (dSeq (dAsg (dCall cMaxL (aCons (dLv (fComp (iSeq (dVar 0)) (gN 8) dYes (dCall cMaxL (aCons (dLv (fComp (iSeq (dVar 0)) (gN 9) dYes (dFn sp__law_want (aCons (dVar 8) (aCons (dVar 9) (aNil)))) [9])) (aNil))) [8])) (aNil))) (gN 4))
    (dSeq (dFor (iRange2 (aCons (dBin oSub (dCall cMinL (aCons (dVar 2) (aNil))) (dVar 4)) (aCons (dBin oAdd (dBin oAdd (dCall cMaxL (aCons (dVar 2) (aNil))) (dVar 4)) (dC (.int 1))) (aNil)))) (gN 5) (dFor (iRange2 (aCons (dBin oSub (dCall cMinL (aCons (dVar 3) (aNil))) (dVar 4)) (aCons (dBin oAdd (dBin oAdd (dCall cMaxL (aCons (dVar 3) (aNil))) (dVar 4)) (dC (.int 1))) (aNil)))) (gN 6) (dAsg (dCall cMaxL (aCons (dLv (fComp (iSeq (dVar 0)) (gN 7) dYes (dFn sp__law_radius (aCons (dVar 7) (aCons (dTup (aCons (dVar 5) (aCons (dVar 6) (aNil)))) (aNil)))) [7])) (aNil))) (gS (dVar 1) (dTup (aCons (dVar 5) (aCons (dVar 6) (aNil))))))))
    (dRet (dVar 1))))))
theorem body__law_heights (T : Mods K mg) (f : Addr) (cdv : Value) (A : Around) (outer : List Env) (s : Shared) (H : Hp) (E : XK) (hr : Room 1 (A.deeper (envOfC "_law_heights" (defScope s__law_heights) s.heap.objs.size f cdv))) : PSsD (cxOf CX0 P w K mg base N__law_heights "_law_heights" (defScope s__law_heights) f cdv A outer s H E).nox (defBody s__law_heights) t__law_heights :=
  pssd_cons (psd_set (i := 1) sc__law_heights.nd rfl (Or.inl rfl) (ped_dispT))
      (pssd_cons (psd_setLc (i := 2) (own := [("_law_end", 7)]) rfl sc__law_heights.nd rfl rfl (sw_true rfl rfl rfl (by decide +kernel)) (pid_seq (dv 0)) (blkOk_by (N := N__law_heights) (sc := defScope s__law_heights) (by decide +kernel)) (fun _ _ _ _ _ => pgd_name (i := 7) sc__law_heights.nd rfl (Or.inl rfl)) (fun _ _ _ _ _ => ptsd_nil) (fun _ _ _ _ _ => ped_op odAdd (ped_op odMul (ped_int) (ped_ix (ixd (hu_of hr)) (dv 7) (ped_int))) (ped_op odMul (ped_int) (ped_ix (ixd (hu_of hr)) (dv 7) (ped_int)))))
      (pssd_cons (psd_setLc (i := 3) (own := [("_law_end", 7)]) rfl sc__law_heights.nd rfl rfl (sw_true rfl rfl rfl (by decide +kernel)) (pid_seq (dv 0)) (blkOk_by (N := N__law_heights) (sc := defScope s__law_heights) (by decide +kernel)) (fun _ _ _ _ _ => pgd_name (i := 7) sc__law_heights.nd rfl (Or.inl rfl)) (fun _ _ _ _ _ => ptsd_nil) (fun _ _ _ _ _ => ped_op odSub (ped_op odMul (ped_int) (ped_ix (ixd (hu_of hr)) (dv 7) (ped_int))) (ped_op odMul (ped_int) (ped_ix (ixd (hu_of hr)) (dv 7) (ped_int)))))
      (pssd_cons (psd_set (i := 4) sc__law_heights.nd rfl (Or.inl rfl) (ped_callB (cdMaxL rfl) rfl T.b_max (by decide +kernel) (pad_cons (ped_of (pef_lc (own := [("_law_one", 8)]) rfl sc__law_heights.nd (pid_seq (dv 0)) (blkOk_by (N := N__law_heights) (sc := defScope s__law_heights) (by decide +kernel)) (fun _ _ _ _ _ => pgd_name (i := 8) sc__law_heights.nd rfl (Or.inr rfl)) (fun _ _ _ _ _ => ptsd_nil) (fun _ _ _ _ _ => ped_callB (cdMaxL rfl) rfl T.b_max (by decide +kernel) (pad_cons (ped_of (pef_lc (own := [("_law_other", 9)]) rfl sc__law_heights.nd (pid_seq (dv 0)) (blkOk_by (N := N__law_heights) (sc := { kind := .function, names := [(".0", .local), ("_law_one", .cell), ("max", .globalImplicit), ("_law_ends_here", .cell)], isGenerator := false, isCoroutine := false, more := [] }) (by decide +kernel)) (fun _ _ _ _ _ => pgd_name (i := 9) sc__law_heights.nd rfl (Or.inl rfl)) (fun _ _ _ _ _ => ptsd_nil) (fun _ _ _ _ _ => ped_call (fn__law_want T) (hr.mono (by decide)) rfl (pad_cons (dv 8) (pad_cons (dv 9) (pad_nil)))))) (pad_nil))))) (pad_nil))))
      (pssd_cons (psd_for (vs := [5]) PassesOwn.never rfl (pid_range2 rfl T.b_range (pad_cons (ped_op odSub (ped_callB (cdMinL rfl) rfl T.b_min (by decide +kernel) (pad_cons (dv 2) (pad_nil))) (dv 4)) (pad_cons (ped_op odAdd (ped_op odAdd (ped_callB (cdMaxL rfl) rfl T.b_max (by decide +kernel) (pad_cons (dv 2) (pad_nil))) (dv 4)) (ped_int)) (pad_nil)))) (pgd_name (i := 5) sc__law_heights.nd rfl (Or.inr rfl)) (pssd_one (psd_for (vs := [6]) PassesOwn.never rfl (pid_range2 rfl T.b_range (pad_cons (ped_op odSub (ped_callB (cdMinL rfl) rfl T.b_min (by decide +kernel) (pad_cons (dv 3) (pad_nil))) (dv 4)) (pad_cons (ped_op odAdd (ped_op odAdd (ped_callB (cdMaxL rfl) rfl T.b_max (by decide +kernel) (pad_cons (dv 3) (pad_nil))) (dv 4)) (ped_int)) (pad_nil)))) (pgd_name (i := 6) sc__law_heights.nd rfl (Or.inr rfl)) (pssd_one (psd_asg (vs := []) (ped_callB (cdMaxL rfl) rfl T.b_max (by decide +kernel) (pad_cons (ped_of (pef_lc (own := [("_law_end", 7)]) rfl sc__law_heights.nd (pid_seq (dv 0)) (blkOk_by (N := N__law_heights) (sc := defScope s__law_heights) (by decide +kernel)) (fun _ _ _ _ _ => pgd_name (i := 7) sc__law_heights.nd rfl (Or.inl rfl)) (fun _ _ _ _ _ => ptsd_nil) (fun _ _ _ _ _ => ped_call (fn__law_radius T) (hr.mono (by decide)) rfl (pad_cons (dv 7) (pad_cons (ped_tup (pad_cons (dv 5) (pad_cons (dv 6) (pad_nil)))) (pad_nil)))))) (pad_nil))) (pgd_sub (hu_of hr) (dv 1) (ped_tup (pad_cons (dv 5) (pad_cons (dv 6) (pad_nil))))))))))
      (pssd_one (psd_ret (dv 1)))))))
theorem ds__law_heights (d0 : D) : dstart N__law_heights [d0] = [some d0, none, none, none, none, none, none, none, none, none] := rfl
set_option hygiene false in
local macro_rules | `(tactic| walk_at "go") => `(tactic| repeat' ((fail_if_success (with_reducible refine isLoop ?_)); (fail_if_success (with_reducible refine isComp ?_)); first
  | (refine Stp.out ?_)
  | (with_reducible apply st_var; (with_unfolding_all exact rfl))
  | (with_reducible apply st_len5U; (walk_at "sd")) | (with_reducible apply st_len5M; (walk_at "sd"))
  | (with_reducible apply st_len5; (with_unfolding_all exact Nat.le_of_ble_eq_true rfl))
  | (with_reducible apply st_len; (with_unfolding_all exact Nat.le_of_ble_eq_true rfl))
  | (with_reducible apply st_ixT; (with_unfolding_all exact rfl))
  | (with_reducible apply st_ixRow; (with_unfolding_all exact rfl)) | (with_reducible apply st_ixE; (with_unfolding_all exact rfl)) | (with_reducible apply st_ixP; (with_unfolding_all exact rfl))
  | (with_reducible apply st_ixL; (with_unfolding_all exact rfl); (with_unfolding_all exact rfl))
  | (with_reducible apply st_ixMT; (walk_at "sd"); (walk_at "sd"))
  | (with_reducible apply st_ixML; (walk_at "sd"); (walk_at "sd"))
  | (with_reducible apply st_ixIA; (assumption); (walk_at "sd"); (walk_at "sd"))
  | (with_reducible apply st_ixR; (walk_at "lg"))
  | (with_reducible apply st_ixlT; (walk_at "sd")) | (with_reducible apply st_ixlL; (walk_at "sd"))
  | (with_reducible refine st_selV ?_) | (with_reducible refine st_selVB ?_)
  | (with_reducible apply st_mulI; (first | (left; constructor <;> omega) | (right; constructor <;> omega)))
  | (with_reducible apply st_fdiv; (first | omega | decide); (first | omega | decide)) | (with_reducible apply st_mod; (first | omega | decide))
  | (with_reducible first | refine st_p3 ?_ | refine st_p5 ?_ | refine st_p6 ?_ | refine st_p7 ?_ | refine st_p8 ?_ | refine st_p9 ?_ | refine st_p10 ?_ | refine st_p12 ?_ | refine st_p15 ?_ | refine st_p18 ?_)
  | (with_reducible apply st_gU; (with_unfolding_all exact rfl)) | (with_reducible apply st_gUL; (walk_at "ls"); (with_unfolding_all exact rfl))
  | (with_reducible apply st_is; (with_unfolding_all exact rfl)) | (with_reducible apply st_isNot; (with_unfolding_all exact rfl))
  | (with_reducible apply st_isiT; (with_unfolding_all exact rfl); (simp); (decide)) | (with_reducible apply st_isiF; (with_unfolding_all exact rfl); (simp); (decide))
  | (with_reducible apply st_rg1; (omega); (omega)) | (with_reducible apply st_rgK2; (omega); (omega); (omega); (omega)) | (with_reducible apply st_rgK3; (omega); (omega); (omega); (omega)) | (with_reducible apply st_rvK; (omega); (omega))
  | (with_reducible apply st_lrK; (omega); (omega))
  | (with_reducible first | refine st_sumM ?_ | refine st_allM ?_ | refine st_anyM ?_ | refine st_inIT ?_ | refine st_inIL ?_ | apply st_inIP; (walk_at "lg"))
  | (with_reducible apply st_sum; (walk_at "ls"); (first | exact intsD_map _ | with_unfolding_all exact rfl))
  | (with_reducible apply st_bools; (walk_at "ls"); (first | exact boolsD_map _ | with_unfolding_all exact rfl))
  | (with_reducible apply st_lenMP; (walk_at "lg"))
  | (with_reducible apply st_tupL; (first | exact res_ptr (by assumption) | exact res_ptr uG_same)) | (with_reducible apply st_lenL; (first | exact res_ptr (by assumption) | exact res_ptr uG_same)) | (with_reducible apply st_slL; (first | exact res_ptr (by assumption) | exact res_ptr uG_same)) | (with_reducible apply st_lsKL; (first | exact res_ptr (by assumption) | exact res_ptr uG_same))
  | (with_reducible apply st_sqP; (walk_at "lg"))
  | (with_reducible apply st_neNilM; (walk_at "pl")) | (with_reducible apply st_neNilP; (walk_at "lg"); (walk_at "pl")) | (with_reducible apply st_eqNilL; (walk_at "pl")) | (with_reducible apply st_eqNilP; (walk_at "lg"); (walk_at "pl"))
  | (with_reducible refine st_inKV rfl ?_) | (with_reducible apply st_neNilT; (walk_at "pl"))
  | (with_reducible apply st_enP; (walk_at "lg"))
  | (with_reducible first | refine st_ninIT ?_ | refine st_ninIL ?_ | apply st_ninIP; (walk_at "lg"))
  | (with_reducible apply st_addTS; (with_unfolding_all exact Nat.le_of_ble_eq_true rfl))
  | (with_reducible apply st_mulT1; (walk_at "sd"); (walk_at "sd"))
  | (with_reducible apply st_ml1; (walk_at "sd"); (walk_at "sd"))
  | (with_reducible apply st_ex1; (walk_at "lg")) | (with_reducible apply st_ex2P; (walk_at "sd"))
  | (with_reducible apply st_ap1; (walk_at "lg")) | (with_reducible apply st_ap2U; (walk_at "sd")) | (with_reducible apply st_ap2; (walk_at "lg"); (walk_at "sd"))
  | (with_reducible apply st_revP; (walk_at "lg"))
  | (with_reducible apply st_rm1; (walk_at "lg")) | (with_reducible apply st_rm2U; (assumption)) | (with_reducible apply st_rm2; (walk_at "lg"); (assumption))
  | (with_reducible apply st_gsT; (walk_at "lg"); (omega)) | (with_reducible apply st_ixT2; (walk_at "lg"); (assumption))
  | (with_reducible apply st_addLM; (walk_at "sl")) | (with_reducible apply st_addTM; (walk_at "sl"))
  | (with_reducible apply ogL_ix; (with_unfolding_all exact rfl)) | (with_reducible apply ogL_set; (with_unfolding_all exact rfl); (with_unfolding_all exact rfl)) | (with_reducible apply st_rlP; (walk_at "lg"))
  | (with_reducible apply og_neNil; (assumption)) | (with_reducible apply og_popLast; (assumption); (walk_at "sd"); intro cc cs')
  | (with_reducible apply st_pa1; (walk_at "lg")) | (with_reducible apply st_pa2U; (walk_at "sd"); (walk_at "sd"); (walk_at "sd"); intro x ys tk) | (with_reducible apply st_pa2; (walk_at "lg"); (walk_at "sd"); (walk_at "sd"); (walk_at "sd"); intro x ys tk)
  | (with_reducible apply st_ins1; (walk_at "lg"))
  | (with_reducible apply st_cat; (first | decide | omega))
  | (with_reducible refine st__law_radius ?_; intro m q0)
  | (with_reducible refine st__law_want ?_)
  | (with_reducible refine iteD ?_ ?_ <;> intro c <;> try omega)
  | (with_reducible refine iteND ?_ ?_ <;> intro c <;> try omega)
  | (with_reducible refine iteB ?_ ?_ <;> intro c) | (with_reducible refine iteNB ?_ ?_ <;> intro c)
  | (with_reducible apply st_pickI2; (walk_at "sd"); (walk_at "sd"); intro v hv) | (with_reducible apply st_pickI3; (walk_at "sd"); (walk_at "sd"); intro v hv) | (with_reducible apply st_pickI4; (walk_at "sd"); (walk_at "sd"); intro v hv) | (with_reducible apply st_pickI5; (walk_at "sd"); (walk_at "sd"); intro v hv) | (with_reducible apply st_pickI6; (walk_at "sd"); (walk_at "sd"); intro v hv)
  | (with_reducible refine st_sel ?_ ?_ <;> intro c)
  | (with_reducible apply st_pickD2; (walk_at "sd"); (walk_at "sd"))
  | (with_reducible intro p hp)
))

theorem sem__law_heights : ∀ ds G R X, sp__law_heights ds G R X → ds.length = 1 ∧ t__law_heights { nx := fun _ G' => RetOk R .non G', rt := RetOk R } (dstart N__law_heights ds) G := by
  rintro ds G R X ⟨es, rfl, h0, h4, hs, h⟩
  refine ⟨rfl, ?_⟩
  simp only [t__law_heights, ds__law_heights]
  have h5 : es.length ≤ 100000 := by omega
  walk_at "go"
  refine comp_map (fun e => .int (2 * e.x + 2 * e.y)) trivial (fun x hx acc K hK => by walk_at "go"; exact hK) ?_
  walk_at "go"
  refine comp_map (fun e => .int (2 * e.x - 2 * e.y)) trivial (fun x hx acc K hK => by walk_at "go"; exact hK) ?_
  walk_at "go"
  refine comp_map (fun e => .int (mxL (es.map (wantI e)))) trivial (fun x hx acc K hK => ?_) ?_
  · walk_at "go"
    refine comp_map (fun e => .int (wantI x e)) trivial (fun y hy acc K hK => by walk_at "go"; exact hK) ?_
    walk_at "go"
    refine st_maxM h0 fun m m1 m2 => ?_
    rw [mx_eq m1 m2]
    walk_at "go"
    exact hK
  walk_at "go"
  refine st_maxM h0 fun B b1 b2 => ?_
  have HB : Hgt es B := hgt_max (f := fun e => mxL (es.map (wantI e))) (fun e _ => by
    obtain ⟨q1, q2⟩ := mxL_is (l := es.map (wantI e)) (fun z => by have z2 := congrArg List.length z; rw [List.length_map] at z2; exact absurd z2 (by show es.length ≠ 0; omega))
    obtain ⟨x, hx, e1⟩ := List.mem_map.mp q1
    exact ⟨⟨x, hx, e1⟩, fun y hy => q2 _ (List.mem_map_of_mem hy)⟩) b1 b2
  have B8 : 0 ≤ B ∧ B ≤ 12 := by
    obtain ⟨e, he, f, hf, e1⟩ := HB.is
    obtain ⟨⟨a0, a1⟩, ⟨a2, a3⟩, ⟨a4, a5⟩, _⟩ := hs e he
    obtain ⟨⟨c0, c1⟩, ⟨c2, c3⟩, ⟨c4, c5⟩, _⟩ := hs f hf
    rw [← e1]
    unfold wantI stepsI absI
    (repeat' split) <;> omega
  clear b1 b2
  walk_at "go"
  refine st_minM h0 fun u0 ⟨eu0, hu0, du0⟩ lu0 => ?_
  walk_at "go"
  refine st_maxM h0 fun u1 ⟨eu1, hu1, du1⟩ lu1 => ?_
  walk_at "go"
  have bd : ∀ e ∈ es, (0 ≤ uE e ∧ uE e ≤ 12) ∧ (-6 ≤ vE e ∧ vE e ≤ 6) := fun e he => by
    obtain ⟨⟨a0, a1⟩, ⟨a2, a3⟩, _⟩ := hs e he
    unfold uE vE
    omega
  have uu : ∀ e : End, 2 * e.x + 2 * e.y = uE e := fun e => by unfold uE; omega
  have vv : ∀ e : End, 2 * e.x - 2 * e.y = vE e := fun e => by unfold vE; omega
  have b0 := (bd _ hu0).1
  have b1 := (bd _ hu1).1
  rw [uu] at du0 du1
  subst du0 du1
  simp only [uu, vv] at lu0 lu1
  obtain ⟨V0, eV0⟩ : ∃ V0, V0 = mnL (es.map fun e => 2 * e.x - 2 * e.y) - B := ⟨_, rfl⟩
  obtain ⟨V1, eV1⟩ : ∃ V1, V1 = mxL (es.map fun e => 2 * e.x - 2 * e.y) + B + 1 := ⟨_, rfl⟩
  have V0b : ∀ e ∈ es, V0 + B ≤ vE e := fun e he => by
    have := (mnL_is (l := es.map fun e => 2 * e.x - 2 * e.y) (fun z => by have z2 := congrArg List.length z; rw [List.length_map] at z2; exact absurd z2 (by show es.length ≠ 0; omega))).2 _ (List.mem_map_of_mem he)
    rw [← vv]; omega
  have V1b : ∀ e ∈ es, vE e + B + 1 ≤ V1 := fun e he => by
    have := (mxL_is (l := es.map fun e => 2 * e.x - 2 * e.y) (fun z => by have z2 := congrArg List.length z; rw [List.length_map] at z2; exact absurd z2 (by show es.length ≠ 0; omega))).2 _ (List.mem_map_of_mem he)
    rw [← vv]; omega
  have V0c : -18 ≤ V0 := by
    obtain ⟨e, he, e1⟩ := List.mem_map.mp (mnL_is (l := es.map fun e => 2 * e.x - 2 * e.y) (fun z => by have z2 := congrArg List.length z; rw [List.length_map] at z2; exact absurd z2 (by show es.length ≠ 0; omega))).1
    have := (bd e he).2
    rw [vv] at e1
    omega
  have V1c : V1 ≤ 19 := by
    obtain ⟨e, he, e1⟩ := List.mem_map.mp (mxL_is (l := es.map fun e => 2 * e.x - 2 * e.y) (fun z => by have z2 := congrArg List.length z; rw [List.length_map] at z2; exact absurd z2 (by show es.length ≠ 0; omega))).1
    have := (bd e he).2
    rw [vv] at e1
    omega
  have V01 : V0 < V1 := by
    have a := V0b _ hu0
    have b := V1b _ hu0
    omega
  refine ⟨by omega, by omega, by omega, by omega, ?_⟩
  unfold rangeD
  refine loop_fm [5, 6] (fun i vs G' => (∃ x5 x6, vs = [x5, x6]) ∧ ∃ sps : List (Int × Int × Int), G' = uG G p (.dT (spK sps)) ∧ (∀ q ∈ sps, MxR es q.1 q.2.1 q.2.2) ∧ (∀ q ∈ sps, q.1 < uE eu0 - B + i) ∧
    (∀ u v, uE eu0 - B ≤ u → u < uE eu0 - B + i → V0 ≤ v → v < V1 → ∃ m, (u, v, m) ∈ sps) ∧ sps.length ≤ 40 * i) ⟨⟨_, _, rfl⟩, [], rfl, (fun _ z => nomatch z), (fun _ z => nomatch z), (fun u v a b => by omega), Nat.le_refl _⟩ (fun _ _ _ _ _ => trivial) ?_ ?_
  · rintro i k vs G' E hi hx ⟨⟨x5, x6, rfl⟩, sps, rfl, ok, old, all, few⟩ hnx - - -
    rw [List.length_range] at hi
    rw [List.getElem?_range hi] at hx
    cases hx
    have i40 : i < 40 := by omega
    obtain ⟨u, eu⟩ : ∃ u, u = uE eu0 - B + (i : Int) := ⟨_, rfl⟩
    rw [← eu] at old all ⊢
    walk_at "ps"
    walk_at "go"
    refine st_minM h0 fun v0 m1 m2 => ?_
    have ev0 := mn_eq m1 m2
    clear m1 m2
    walk_at "go"
    refine st_maxM h0 fun v1 m1 m2 => ?_
    have ev1 := mx_eq m1 m2
    clear m1 m2
    walk_at "go"
    rw [show v0 - B = V0 from by omega, show v1 + B + 1 = V1 from by omega]
    unfold rangeD
    refine loop_fm [6] (fun j vs G' => (∃ x6, vs = [x6]) ∧ ∃ sps : List (Int × Int × Int), G' = uG G p (.dT (spK sps)) ∧ (∀ q ∈ sps, MxR es q.1 q.2.1 q.2.2) ∧ (∀ q ∈ sps, q.1 < u ∨ (q.1 = u ∧ q.2.1 < V0 + j)) ∧
      (∀ u' v, uE eu0 - B ≤ u' → u' < u → V0 ≤ v → v < V1 → ∃ m, (u', v, m) ∈ sps) ∧ (∀ v, V0 ≤ v → v < V0 + j → ∃ m, (u, v, m) ∈ sps) ∧ sps.length ≤ 40 * i + j)
      ⟨⟨_, rfl⟩, sps, rfl, ok, fun q hq => .inl (old q hq), all, (fun v a b => by omega), few⟩ (fun _ _ _ _ _ => trivial) ?_ ?_
    · rintro j k vs G' E2 hj hx ⟨⟨x6, rfl⟩, sps, rfl, ok, old, all, row, few⟩ hnx2 - - -
      rw [List.length_range] at hj
      rw [List.getElem?_range hj] at hx
      cases hx
      obtain ⟨v, ev⟩ : ∃ v, v = V0 + (j : Int) := ⟨_, rfl⟩
      rw [← ev] at old row ⊢
      walk_at "ps"
      walk_at "go"
      refine comp_map (fun e => .int (radI e u v)) trivial (fun y hy acc K hK => ?_) ?_
      · walk_at "go"
        rw [radI_eq q0]
        exact hK
      walk_at "go"
      refine st_maxM h0 fun m m1 m2 => ?_
      walk_at "go"
      refine st_gsT uG_same (by show (spK sps).length ≤ 100000; unfold spK; rw [List.length_map]; omega) ?_
      rw [uG_uG, putP_new (fun q hq z => by
        rcases old q hq with o | o
        · exact absurd z.1 (by omega)
        · exact absurd z.2 (by omega))]
      refine hnx2 [_] _ ⟨⟨_, rfl⟩, _, rfl, fun q hq => ?_, fun q hq => ?_, fun u' v' a b c d => ?_, fun v' a b => ?_, ?_⟩
      · rcases List.mem_append.mp hq with z | z
        · exact ok q z
        · rw [List.mem_singleton.mp z]
          exact .of (fun e h => radI_in e u v h) m1 m2
      · rcases List.mem_append.mp hq with z | z
        · rcases old q z with o | o
          · exact .inl o
          · exact .inr ⟨o.1, by have := o.2; omega⟩
        · rw [List.mem_singleton.mp z]
          exact .inr ⟨rfl, by show v < _; omega⟩
      · obtain ⟨m', z⟩ := all u' v' a b c d
        exact ⟨m', List.mem_append_left _ z⟩
      · by_cases c : v' < v
        · obtain ⟨m', z⟩ := row v' a c
          exact ⟨m', List.mem_append_left _ z⟩
        · have : v' = v := by omega
          subst this
          exact ⟨m, List.mem_append_right _ (List.mem_singleton.mpr rfl)⟩
      · rw [List.length_append]
        show sps.length + 1 ≤ _
        omega
    rintro vs G' ⟨⟨x6, rfl⟩, sps, rfl, ok, old, all, row, few⟩
    rw [List.length_range] at old row few
    walk_at "ps"
    refine hnx [_, _] _ ⟨⟨_, _, rfl⟩, sps, rfl, ok, fun q hq => ?_, fun u' v' a b c d => ?_, by omega⟩
    · rcases old q hq with o | o
      · omega
      · omega
    · by_cases c2 : u' < u
      · exact all u' v' a c2 c d
      · have : u' = u := by omega
        subst this
        exact row v' c (by omega)
  rintro vs G' ⟨⟨x5, x6, rfl⟩, sps, rfl, ok, old, all, few⟩
  rw [List.length_range] at old all few
  walk_at "ps"
  walk_at "go"
  refine .same (h p sps hp ⟨ok, fun h' b H Bx u v hin => ?_, by omega⟩)
  have eh := H.uniq HB fun x => Iff.rfl
  subst eh
  obtain ⟨⟨⟨e1, i1, f1⟩, _⟩, ⟨⟨e2, i2, f2⟩, _⟩, ⟨⟨e3, i3, f3⟩, _⟩, ⟨⟨e4, i4, f4⟩, _⟩⟩ := Bx
  have s1 := (hs _ i1).2.2.1
  have s2 := (hs _ i2).2.2.1
  have s3 := (hs _ i3).2.2.1
  have s4 := (hs _ i4).2.2.1
  have l1 := lu0 _ i1
  have l2 := lu1 _ i2
  have l3 := V0b _ i3
  have l4 := V1b _ i4
  unfold bxE grB at f1 f2 f3 f4
  dsimp only at f1 f2 f3 f4
  unfold insB at hin
  exact all u v (by omega) (by omega) (by omega) (by omega)
theorem fn__law_heights (T : Mods K mg) : FnD P w K mg base CX0 2 "_law_heights" sp__law_heights := fnd_mk T.d__law_heights sc__law_heights (fun _ _ _ _ _ _ us hl => match us, hl with | [_], _ => rfl) (body__law_heights T) sem__law_heights
/-! ### _law_right -/
theorem want_of {e f : End} {m u v : Int} (a : insB (bxE e m) u v) (b : insB (bxE f m) u v) : wantI e f ≤ m := by
  unfold insB bxE grB uE vE at a b
  dsimp only at a b
  unfold wantI stepsI absI
  (repeat' split) <;> omega
/-- the places of the box are those where the height is enough -/
theorem spot_is {l : List End} {h u v m : Int} {b : Bx} (H : Hgt l h) (B : BoxOf l h b) (M : MxR l u v m) : h ≤ m ∧ (m = h ↔ insB b u v) := by
  have h1 : h ≤ m := by
    obtain ⟨e, he, f, hf, rfl⟩ := H.is
    have := (M m).mp (Int.le_refl _)
    exact want_of (this e he) (this f hf)
  have h2 : m ≤ h ↔ insB b u v := by
    rw [M h]
    obtain ⟨⟨⟨e1, i1, f1⟩, l1⟩, ⟨⟨e2, i2, f2⟩, l2⟩, ⟨⟨e3, i3, f3⟩, l3⟩, ⟨⟨e4, i4, f4⟩, l4⟩⟩ := B
    constructor
    · intro z
      have a1 := z e1 i1; have a2 := z e2 i2; have a3 := z e3 i3; have a4 := z e4 i4
      unfold insB at a1 a2 a3 a4 ⊢
      omega
    · intro z e he
      have a1 := l1 e he; have a2 := l2 e he; have a3 := l3 e he; have a4 := l4 e he
      unfold insB at z ⊢
      omega
  exact ⟨h1, fun e => h2.mp (Int.le_of_eq e), fun z => Int.le_antisymm (h2.mpr z) h1⟩
theorem spK_keys (sps : List (Int × Int × Int)) : ((spK sps).map fun kv => D.tup (kv.1.map keyV)) = sps.map fun p => .tup [.int p.1, .int p.2.1] := by
  unfold spK; rw [List.map_map]; rfl
theorem spK_vals (sps : List (Int × Int × Int)) : (spK sps).map Prod.snd = (sps.map fun p => p.2.2).map D.int := by
  unfold spK; rw [List.map_map, List.map_map]; rfl
def sp__law_right : DSp := fun ds G R _ => ∃ (es : List End) (h : Int) (b : Bx), ds = [.lst (es.map eD), .tup [.int h, bD b]] ∧ (0 < es.length) ∧ (es.length ≤ 4) ∧ (∀ e ∈ es, smE e) ∧ (Hgt es h) ∧ (BoxOf es h b) ∧ (R (.bl true) G)
theorem st__law_right {G : DH} {R : DK} {X : XD}  {es : List End} {h : Int} {b : Bx} (zh0 : 0 < es.length)  (zh1 : es.length ≤ 4)  (zh2 : ∀ e ∈ es, smE e)  (zh3 : Hgt es h)  (zh4 : BoxOf es h b) (zq : R (.bl true) G) : sp__law_right [.lst (es.map eD), .tup [.int h, bD b]] G R X := ⟨es, h, b, rfl, zh0, zh1, zh2, zh3, zh4, zq⟩
abbrev N__law_right : List Str := ["_law_ends_here", "_law_row", "_law_height", "_law_box", "_law_heights_here", "_law_spot", "_law_reached", "_law_us", "_law_vs"]
theorem sc__law_right : FnScope N__law_right ["_law_ends_here", "_law_row"] (defScope s__law_right) := ⟨rfl, rfl, rfl, by decide +kernel, rfl, by decide +kernel, by decide +kernel⟩
def t__law_right : DT := dSeq (dAsg (dVar 1) (gU 2 (gNc (gN 2) (gNc (gN 3) (gN0)))))
    (dSeq (dAsg (dFn sp__law_heights (aCons (dVar 0) (aNil))) (gN 4))
    (dSeq (dIfS (dTest (dBin oNe (dMinVT (dVar 4)) (dVar 2))) (dRet (dC (.bl false))) (dNext))
    (dSeq (dLock (dFor (iKeysD (dVar 4)) (gN 5) (dIfS (dTest (dBin oNe (dFn sp_has (aCons (dVar 3) (aCons (dVar 5) (aNil)))) (dBin oEq (dBin dIx (dVar 4) (dVar 5)) (dVar 2)))) (dRet (dC (.bl false))) (dNext))))
    (dSeq (dLock (dAsg (dLv (fComp (iKeysD (dVar 4)) (gN 5) (dTest (dBin oEq (dBin dIx (dVar 4) (dVar 5)) (dVar 2))) (dVar 5) [5])) (gN 6)))
    (dSeq (dAsg (dLv (fComp (iSeq (dVar 6)) (gN 5) dYes (dBin dIx (dVar 5) (dC (.int 0))) [5])) (gN 7))
    (dSeq (dAsg (dLv (fComp (iSeq (dVar 6)) (gN 5) dYes (dBin dIx (dVar 5) (dC (.int 1))) [5])) (gN 8))
    (dRet (dBin oEq (dVar 3) (dTup (aCons (dCall cMinL (aCons (dVar 7) (aNil))) (aCons (dCall cMaxL (aCons (dVar 7) (aNil))) (aCons (dCall cMinL (aCons (dVar 8) (aNil))) (aCons (dCall cMaxL (aCons (dVar 8) (aNil))) (aNil))))))))))))))
theorem body__law_right (T : Mods K mg) (f : Addr) (cdv : Value) (A : Around) (outer : List Env) (s : Shared) (H : Hp) (E : XK) (hr : Room 2 (A.deeper (envOfC "_law_right" (defScope s__law_right) s.heap.objs.size f cdv))) : PSsD (cxOf CX0 P w K mg base N__law_right "_law_right" (defScope s__law_right) f cdv A outer s H E).nox (defBody s__law_right) t__law_right :=
  pssd_cons (psd_asg (vs := [2, 3]) (dv 1) (pgd_seq (n := 2) rfl (pgsd_cons (pgd_name (i := 2) sc__law_right.nd rfl (Or.inr rfl)) (pgsd_cons (pgd_name (i := 3) sc__law_right.nd rfl (Or.inl rfl)) (pgsd_nil)))))
      (pssd_cons (psd_set (i := 4) sc__law_right.nd rfl (Or.inr rfl) (ped_call (fn__law_heights T) (hr.mono (by decide)) rfl (pad_cons (dv 0) (pad_nil))))
      (pssd_cons (psd_if (ptd_cmp (odNe hr.units) (ped_minVT rfl rfl T.b_min (dv 4)) (dv 2)) (pssd_one (psd_ret (ped_bl))) (pssd_nil))
      (pssd_cons (psd_lock (psd_for (vs := [5]) PassesOwn.never rfl (pid_keys (dv 4)) (pgd_name (i := 5) sc__law_right.nd rfl (Or.inl rfl)) (pssd_one (psd_if (ptd_cmp (odNe hr.units) (ped_call (fn_has T) (hr.mono (by decide)) rfl (pad_cons (dv 3) (pad_cons (dv 5) (pad_nil)))) (ped_cmp (odEq hr.units) (ped_ix (ixd (hu_of hr)) (dv 4) (dv 5)) (dv 2))) (pssd_one (psd_ret (ped_bl))) (pssd_nil)))))
      (pssd_cons (psd_lock (psd_setLc (i := 6) (own := [("_law_spot", 5)]) rfl sc__law_right.nd rfl rfl (sw_true rfl rfl rfl (by decide +kernel)) (pid_keys (dv 4)) (blkOk_by (N := N__law_right) (sc := defScope s__law_right) (by decide +kernel)) (fun _ _ _ _ _ => pgd_name (i := 5) sc__law_right.nd rfl (Or.inl rfl)) (fun _ _ _ _ _ => ptsd_one (ptd_cmp (odEq hr.units) (ped_ix (ixd (hu_of hr)) (dv 4) (dv 5)) (dv 2))) (fun _ _ _ _ _ => dv 5)))
      (pssd_cons (psd_setLc (i := 7) (own := [("_law_spot", 5)]) rfl sc__law_right.nd rfl rfl (sw_true rfl rfl rfl (by decide +kernel)) (pid_seq (dv 6)) (blkOk_by (N := N__law_right) (sc := defScope s__law_right) (by decide +kernel)) (fun _ _ _ _ _ => pgd_name (i := 5) sc__law_right.nd rfl (Or.inl rfl)) (fun _ _ _ _ _ => ptsd_nil) (fun _ _ _ _ _ => ped_ix (ixd (hu_of hr)) (dv 5) (ped_int)))
      (pssd_cons (psd_setLc (i := 8) (own := [("_law_spot", 5)]) rfl sc__law_right.nd rfl rfl (sw_true rfl rfl rfl (by decide +kernel)) (pid_seq (dv 6)) (blkOk_by (N := N__law_right) (sc := defScope s__law_right) (by decide +kernel)) (fun _ _ _ _ _ => pgd_name (i := 5) sc__law_right.nd rfl (Or.inl rfl)) (fun _ _ _ _ _ => ptsd_nil) (fun _ _ _ _ _ => ped_ix (ixd (hu_of hr)) (dv 5) (ped_int)))
      (pssd_one (psd_ret (ped_cmp (odEq hr.units) (dv 3) (ped_tup (pad_cons (ped_callB (cdMinL rfl) rfl T.b_min (by decide +kernel) (pad_cons (dv 7) (pad_nil))) (pad_cons (ped_callB (cdMaxL rfl) rfl T.b_max (by decide +kernel) (pad_cons (dv 7) (pad_nil))) (pad_cons (ped_callB (cdMinL rfl) rfl T.b_min (by decide +kernel) (pad_cons (dv 8) (pad_nil))) (pad_cons (ped_callB (cdMaxL rfl) rfl T.b_max (by decide +kernel) (pad_cons (dv 8) (pad_nil))) (pad_nil)))))))))))))))
theorem ds__law_right (d0 : D) (d1 : D) : dstart N__law_right [d0, d1] = [some d0, some d1, none, none, none, none, none, none, none] := rfl
set_option hygiene false in
local macro_rules | `(tactic| walk_at "go") => `(tactic| repeat' ((fail_if_success (with_reducible refine isLoop ?_)); (fail_if_success (with_reducible refine isComp ?_)); first
  | (refine Stp.out ?_)
  | (with_reducible apply st_var; (with_unfolding_all exact rfl))
  | (with_reducible apply st_len5U; (walk_at "sd")) | (with_reducible apply st_len5M; (walk_at "sd"))
  | (with_reducible apply st_len5; (with_unfolding_all exact Nat.le_of_ble_eq_true rfl))
  | (with_reducible apply st_len; (with_unfolding_all exact Nat.le_of_ble_eq_true rfl))
  | (with_reducible apply st_ixT; (with_unfolding_all exact rfl))
  | (with_reducible apply st_ixRow; (with_unfolding_all exact rfl)) | (with_reducible apply st_ixE; (with_unfolding_all exact rfl)) | (with_reducible apply st_ixP; (with_unfolding_all exact rfl))
  | (with_reducible apply st_ixL; (with_unfolding_all exact rfl); (with_unfolding_all exact rfl))
  | (with_reducible apply st_ixMT; (walk_at "sd"); (walk_at "sd"))
  | (with_reducible apply st_ixML; (walk_at "sd"); (walk_at "sd"))
  | (with_reducible apply st_ixIA; (assumption); (walk_at "sd"); (walk_at "sd"))
  | (with_reducible apply st_ixR; (walk_at "lg"))
  | (with_reducible apply st_ixlT; (walk_at "sd")) | (with_reducible apply st_ixlL; (walk_at "sd"))
  | (with_reducible refine st_selV ?_) | (with_reducible refine st_selVB ?_)
  | (with_reducible apply st_mulI; (first | (left; constructor <;> omega) | (right; constructor <;> omega)))
  | (with_reducible apply st_fdiv; (first | omega | decide); (first | omega | decide)) | (with_reducible apply st_mod; (first | omega | decide))
  | (with_reducible first | refine st_p3 ?_ | refine st_p5 ?_ | refine st_p6 ?_ | refine st_p7 ?_ | refine st_p8 ?_ | refine st_p9 ?_ | refine st_p10 ?_ | refine st_p12 ?_ | refine st_p15 ?_ | refine st_p18 ?_)
  | (with_reducible apply st_gU; (with_unfolding_all exact rfl)) | (with_reducible apply st_gUL; (walk_at "ls"); (with_unfolding_all exact rfl))
  | (with_reducible apply st_is; (with_unfolding_all exact rfl)) | (with_reducible apply st_isNot; (with_unfolding_all exact rfl))
  | (with_reducible apply st_isiT; (with_unfolding_all exact rfl); (simp); (decide)) | (with_reducible apply st_isiF; (with_unfolding_all exact rfl); (simp); (decide))
  | (with_reducible apply st_rg1; (omega); (omega)) | (with_reducible apply st_rgK2; (omega); (omega); (omega); (omega)) | (with_reducible apply st_rgK3; (omega); (omega); (omega); (omega)) | (with_reducible apply st_rvK; (omega); (omega))
  | (with_reducible apply st_lrK; (omega); (omega))
  | (with_reducible first | refine st_sumM ?_ | refine st_allM ?_ | refine st_anyM ?_ | refine st_inIT ?_ | refine st_inIL ?_ | apply st_inIP; (walk_at "lg"))
  | (with_reducible apply st_sum; (walk_at "ls"); (first | exact intsD_map _ | with_unfolding_all exact rfl))
  | (with_reducible apply st_bools; (walk_at "ls"); (first | exact boolsD_map _ | with_unfolding_all exact rfl))
  | (with_reducible apply st_lenMP; (walk_at "lg"))
  | (with_reducible apply st_tupL; (first | exact res_ptr (by assumption) | exact res_ptr uG_same)) | (with_reducible apply st_lenL; (first | exact res_ptr (by assumption) | exact res_ptr uG_same)) | (with_reducible apply st_slL; (first | exact res_ptr (by assumption) | exact res_ptr uG_same)) | (with_reducible apply st_lsKL; (first | exact res_ptr (by assumption) | exact res_ptr uG_same))
  | (with_reducible apply st_sqP; (walk_at "lg"))
  | (with_reducible apply st_neNilM; (walk_at "pl")) | (with_reducible apply st_neNilP; (walk_at "lg"); (walk_at "pl")) | (with_reducible apply st_eqNilL; (walk_at "pl")) | (with_reducible apply st_eqNilP; (walk_at "lg"); (walk_at "pl"))
  | (with_reducible refine st_inKV rfl ?_) | (with_reducible apply st_neNilT; (walk_at "pl"))
  | (with_reducible apply st_enP; (walk_at "lg"))
  | (with_reducible first | refine st_ninIT ?_ | refine st_ninIL ?_ | apply st_ninIP; (walk_at "lg"))
  | (with_reducible apply st_addTS; (with_unfolding_all exact Nat.le_of_ble_eq_true rfl))
  | (with_reducible apply st_mulT1; (walk_at "sd"); (walk_at "sd"))
  | (with_reducible apply st_ml1; (walk_at "sd"); (walk_at "sd"))
  | (with_reducible apply st_ex1; (walk_at "lg")) | (with_reducible apply st_ex2P; (walk_at "sd"))
  | (with_reducible apply st_ap1; (walk_at "lg")) | (with_reducible apply st_ap2U; (walk_at "sd")) | (with_reducible apply st_ap2; (walk_at "lg"); (walk_at "sd"))
  | (with_reducible apply st_revP; (walk_at "lg"))
  | (with_reducible apply st_rm1; (walk_at "lg")) | (with_reducible apply st_rm2U; (assumption)) | (with_reducible apply st_rm2; (walk_at "lg"); (assumption))
  | (with_reducible apply st_gsT; (walk_at "lg"); (omega)) | (with_reducible apply st_ixT2; (walk_at "lg"); (assumption))
  | (with_reducible apply st_addLM; (walk_at "sl")) | (with_reducible apply st_addTM; (walk_at "sl"))
  | (with_reducible apply ogL_ix; (with_unfolding_all exact rfl)) | (with_reducible apply ogL_set; (with_unfolding_all exact rfl); (with_unfolding_all exact rfl)) | (with_reducible apply st_rlP; (walk_at "lg"))
  | (with_reducible apply og_neNil; (assumption)) | (with_reducible apply og_popLast; (assumption); (walk_at "sd"); intro cc cs')
  | (with_reducible apply st_pa1; (walk_at "lg")) | (with_reducible apply st_pa2U; (walk_at "sd"); (walk_at "sd"); (walk_at "sd"); intro x ys tk) | (with_reducible apply st_pa2; (walk_at "lg"); (walk_at "sd"); (walk_at "sd"); (walk_at "sd"); intro x ys tk)
  | (with_reducible apply st_ins1; (walk_at "lg"))
  | (with_reducible apply st_cat; (first | decide | omega))
  | (with_reducible apply st__law_heights; (walk_at "sc"); (walk_at "sc"); (walk_at "sc"); intro gp sps hgp hgo)
  | (with_reducible refine st_has ?_)
  | (with_reducible refine iteD ?_ ?_ <;> intro c <;> try omega)
  | (with_reducible refine iteND ?_ ?_ <;> intro c <;> try omega)
  | (with_reducible refine iteB ?_ ?_ <;> intro c) | (with_reducible refine iteNB ?_ ?_ <;> intro c)
  | (with_reducible apply st_pickI2; (walk_at "sd"); (walk_at "sd"); intro v hv) | (with_reducible apply st_pickI3; (walk_at "sd"); (walk_at "sd"); intro v hv) | (with_reducible apply st_pickI4; (walk_at "sd"); (walk_at "sd"); intro v hv) | (with_reducible apply st_pickI5; (walk_at "sd"); (walk_at "sd"); intro v hv) | (with_reducible apply st_pickI6; (walk_at "sd"); (walk_at "sd"); intro v hv)
  | (with_reducible refine st_sel ?_ ?_ <;> intro c)
  | (with_reducible apply st_pickD2; (walk_at "sd"); (walk_at "sd"))
  | (with_reducible intro p hp)
))

theorem sem__law_right : ∀ ds G R X, sp__law_right ds G R X → ds.length = 2 ∧ t__law_right { nx := fun _ G' => RetOk R .non G', rt := RetOk R } (dstart N__law_right ds) G := by
  rintro ds G R X ⟨es, hh, b, rfl, h0, h4, hs, H, B, h⟩
  refine ⟨rfl, ?_⟩
  simp only [t__law_right, ds__law_right]
  walk_at "go"
  have okb := B.ok H.le
  have cor : ∀ u v, insB b u v → ∃ m, (u, v, m) ∈ sps ∧ m = hh := fun u v z => by
    obtain ⟨m, hm⟩ := hgo.all hh b H B u v z
    exact ⟨m, hm, (spot_is H B (hgo.ok _ hm)).2.mpr z⟩
  obtain ⟨ca, cb, cc, cd⟩ : insB b b.a b.c ∧ insB b b.b b.d ∧ insB b b.a b.d ∧ insB b b.b b.c := by
    unfold okB at okb
    unfold insB
    omega
  obtain ⟨m0, hm0, e0⟩ := cor _ _ ca
  refine st_minVT uG_same (spK_vals sps) (fun z => by have := List.mem_map_of_mem (f := fun p : Int × Int × Int => p.2.2) hm0; rw [z] at this; cases this) fun m hm hle => ?_
  have em : m = hh := by
    obtain ⟨q, hq, rfl⟩ := List.mem_map.mp hm
    have a := hle _ (List.mem_map_of_mem hm0)
    have b := (spot_is H B (hgo.ok q hq)).1
    dsimp only at a b ⊢
    omega
  subst em
  walk_at "go"
  refine st_lockT gp uG_same fun ob ws => ?_
  rw [uG_uG]
  walk_at "go"
  refine st_keysT uG_same ?_
  rw [spK_keys]
  refine loop_fm [5] (fun i vs G' => (∃ x5, vs = [x5]) ∧ G' = uG G gp (.fT ob ws (spK sps))) ⟨⟨_, rfl⟩, rfl⟩ (fun i vs G' _ z => by rw [z.2]; exact uG_same) ?_ ?_
  · rintro i ⟨u, v, k⟩ vs G' E hi hx ⟨⟨x5, rfl⟩, rfl⟩ hnx - - -
    have hq := List.mem_of_getElem? hx
    have sp := (spot_is H B (hgo.ok _ hq)).2
    dsimp only at sp
    walk_at "ps"
    walk_at "go"
    refine st_ixFT uG_same (hgo.val hq) ?_
    walk_at "go"
    dsimp only
    rw [show decide (k = m) = decide (insB b u v) from decide_eq_decide.mpr sp]
    walk_at "go"
    exact hnx [_] _ ⟨⟨_, rfl⟩, rfl⟩
  rintro vs G' ⟨⟨x5, rfl⟩, rfl⟩
  refine ⟨uG_same, ?_⟩
  rw [uG_uG]
  walk_at "ps"
  walk_at "go"
  refine st_lockT gp uG_same fun ob ws => ?_
  rw [uG_uG]
  walk_at "go"
  refine st_keysT uG_same ?_
  rw [spK_keys]
  refine ⟨by rw [List.length_map]; have := hgo.few; omega, ?_⟩
  refine comp_filter (en := fun p : Int × Int × Int => D.tup [.int p.1, .int p.2.1]) (fun q => decide (q.2.2 = m)) (fun q => .tup [.int q.1, .int q.2.1]) uG_same (fun q hq acc K hK => ?_) ?_
  · obtain ⟨u, v, k⟩ := q
    walk_at "go"
    refine st_ixFT uG_same (hgo.val hq) ?_
    walk_at "go"
    all_goals
      simp_all
  walk_at "go"
  refine ⟨uG_same, ?_⟩
  rw [uG_uG]
  obtain ⟨rs, ers⟩ : ∃ rs, rs = sps.filter fun q => decide (q.2.2 = m) := ⟨_, rfl⟩
  rw [← ers]
  have inb : ∀ q ∈ rs, insB b q.1 q.2.1 := fun q hq => by
    rw [ers] at hq
    obtain ⟨q1, q2⟩ := List.mem_filter.mp hq
    exact (spot_is H B (hgo.ok _ q1)).2.mp (of_decide_eq_true q2)
  have has_ : ∀ u v, insB b u v → ∃ k, (u, v, k) ∈ rs := fun u v z => by
    obtain ⟨k, h1, h2⟩ := cor u v z
    exact ⟨k, by rw [ers]; exact List.mem_filter.mpr ⟨h1, decide_eq_true h2⟩⟩
  have rl : rs.length ≤ 100000 := by
    have := List.length_filter_le (fun q : Int × Int × Int => decide (q.2.2 = m)) sps
    rw [← ers] at this
    have := hgo.few
    omega
  have r0 : 0 < rs.length := by
    obtain ⟨k, hk⟩ := has_ _ _ ca
    exact List.length_pos_of_mem hk
  clear ers
  walk_at "go"
  refine comp_map (fun q : Int × Int × Int => .int q.1) trivial (fun x hx acc K hK => by walk_at "go"; exact hK) ?_
  walk_at "go"
  refine comp_map (fun q : Int × Int × Int => .int q.2.1) trivial (fun x hx acc K hK => by walk_at "go"; exact hK) ?_
  walk_at "go"
  obtain ⟨ka, ha⟩ := has_ _ _ ca
  obtain ⟨kb, hb⟩ := has_ _ _ cb
  refine st_minM r0 fun n1 ⟨x1, i1, d1⟩ l1 => ?_
  rw [show n1 = b.a from by have := l1 _ ha; have := (inb _ i1); unfold insB at this; dsimp only at *; omega]
  walk_at "go"
  refine st_maxM r0 fun n2 ⟨x2, i2, d2⟩ l2 => ?_
  rw [show n2 = b.b from by have := l2 _ hb; have := (inb _ i2); unfold insB at this; dsimp only at *; omega]
  walk_at "go"
  refine st_minM r0 fun n3 ⟨x3, i3, d3⟩ l3 => ?_
  rw [show n3 = b.c from by have := l3 _ ha; have := (inb _ i3); unfold insB at this; dsimp only at *; omega]
  walk_at "go"
  refine st_maxM r0 fun n4 ⟨x4, i4, d4⟩ l4 => ?_
  rw [show n4 = b.d from by have := l4 _ hb; have := (inb _ i4); unfold insB at this; dsimp only at *; omega]
  walk_at "go"
  unfold bD
  refine st_eq (v := .tup [.int b.a, .int b.b, .int b.c, .int b.d]) (w := .tup [.int b.a, .int b.b, .int b.c, .int b.d]) rfl rfl ⟨rfl, rfl, Nat.le_trans (Nat.min_le_left _ _) (Nat.le_of_ble_eq_true rfl)⟩ ?_
  rw [eqD_self rfl]
  exact .drop (Sub.refl.new hgp) h
theorem fn__law_right (T : Mods K mg) : FnD P w K mg base CX0 3 "_law_right" sp__law_right := fnd_mk T.d__law_right sc__law_right (fun _ _ _ _ _ _ us hl => match us, hl with | [_, _], _ => rfl) (body__law_right T) sem__law_right
/-! ### law -/
theorem RowOf.of_mem {l m : List End} {r : Int × Bx} (a : RowOf l r) (e : ∀ x, x ∈ m ↔ x ∈ l) : RowOf m r := by
  refine ⟨⟨?_, fun x hx y hy => a.h.le x ((e x).mp hx) y ((e y).mp hy)⟩, ⟨⟨?_, fun x hx => a.b.fa.2 x ((e x).mp hx)⟩, ⟨?_, fun x hx => a.b.fb.2 x ((e x).mp hx)⟩, ⟨?_, fun x hx => a.b.fc.2 x ((e x).mp hx)⟩, ⟨?_, fun x hx => a.b.fd.2 x ((e x).mp hx)⟩⟩⟩
  · obtain ⟨x, hx, y, hy, w⟩ := a.h.is; exact ⟨x, (e x).mpr hx, y, (e y).mpr hy, w⟩
  · obtain ⟨x, hx, w⟩ := a.b.fa.1; exact ⟨x, (e x).mpr hx, w⟩
  · obtain ⟨x, hx, w⟩ := a.b.fb.1; exact ⟨x, (e x).mpr hx, w⟩
  · obtain ⟨x, hx, w⟩ := a.b.fc.1; exact ⟨x, (e x).mpr hx, w⟩
  · obtain ⟨x, hx, w⟩ := a.b.fd.1; exact ⟨x, (e x).mpr hx, w⟩
theorem pick_map (es : List End) (sm : List Int) : (sm.map fun k => eD (nth es k)) = (pick es sm).map eD := by unfold pick; rw [List.map_map]; rfl
theorem pick_sm {es : List End} {sm : List Int} (hs : ∀ e ∈ es, smE e) (hr : ∀ i ∈ sm, 0 ≤ i ∧ i < es.length) : ∀ e ∈ pick es sm, smE e := fun e he => by
  obtain ⟨i, hi, rfl⟩ := List.mem_map.mp he
  exact hs _ (nth_mem (hr i hi).1 (hr i hi).2)
theorem pick_len (es : List End) (sm : List Int) : (pick es sm).length = sm.length := List.length_map ..
abbrev sp_law : DSp := spLawD
abbrev N_law : List Str := ["_law_script", "_law_deck_here", "_law_one", "_law_knot", "_law_ends_here", "_law_many", "_law_some", "_law_joining_here", "_law_rows", "_law_here", "_law_k"]
theorem sc_law : FnScope N_law ["_law_script"] (defScope s_law) := ⟨rfl, rfl, rfl, by decide +kernel, rfl, by decide +kernel, by decide +kernel⟩
def t_law : DT := dSeq (dAsg (dFn sp__law_deck (aCons (dVar 0) (aNil))) (gN 1))
    (dSeq (dAsg (dFn sp__law_draw (aCons (dVar 1) (aCons (dC (.int 4)) (aNil)))) (gN 2))
    (dSeq (dAsg (dFn sp__law_draw (aCons (dVar 1) (aCons (dC (.int 7)) (aNil)))) (gN 3))
    (dSeq (dAsg (dFn sp__law_ends (aCons (dVar 1) (aNil))) (gN 4))
    (dSeq (dAsg (dCall cLen (aCons (dVar 4) (aNil))) (gN 5))
    (dSeq (dAsg (dCall cTuple (aCons (dLv (fComp (iRange1 (aCons (dVar 5) (aNil))) (gN 10) (dOr (dTest (dBin oEq (dFn sp__law_draw (aCons (dVar 1) (aCons (dC (.int 2)) (aNil)))) (dC (.int 1)))) (dTest (dBin oEq (dVar 10) (dBin oMod (dVar 2) (dVar 5))))) (dVar 10) [10])) (aNil))) (gN 6))
    (dSeq (dIfS (dNot (dTest (dFn sp__law_right (aCons (dLv (fComp (iSeq (dVar 6)) (gN 10) dYes (dBin dIx (dVar 4) (dVar 10)) [10])) (aCons (dFn sp_row_of (aCons (dVar 4) (aCons (dVar 6) (aNil)))) (aNil)))))) (dRet (dC (.bl false))) (dNext))
    (dSeq (dAsg (dFn sp__law_joining (aCons (dVar 1) (aCons (dVar 5) (aNil)))) (gN 7))
    (dSeq (dAsg (dFn sp_rows_of (aCons (dVar 4) (aCons (dVar 7) (aNil)))) (gN 8))
    (dSeq (dAsg (dBin oMod (dVar 3) (dCall cLen (aCons (dVar 8) (aNil)))) (gN 3))
    (dSeq (dFor (iSeq (dLv (fLst (aCons (dVar 3) (aCons (dBin oSub (dCall cLen (aCons (dVar 8) (aNil))) (dC (.int 1))) (aNil)))))) (gN 9) (dIfS (dNot (dTest (dFn sp__law_right (aCons (dLv (fComp (iSeq (dBin dIx (dFn sp__law_beneath (aCons (dVar 5) (aCons (dVar 7) (aNil)))) (dVar 9))) (gN 10) dYes (dBin dIx (dVar 4) (dVar 10)) [10])) (aCons (dBin dIx (dVar 8) (dVar 9)) (aNil)))))) (dRet (dC (.bl false))) (dNext)))
    (dRet (dC (.bl true)))))))))))))
theorem body_law (T : Mods K mg) (f : Addr) (cdv : Value) (A : Around) (outer : List Env) (s : Shared) (H : Hp) (E : XK) (hr : Room 4 (A.deeper (envOfC "law" (defScope s_law) s.heap.objs.size f cdv))) : PSsD (cxOf CX0 P w K mg base N_law "law" (defScope s_law) f cdv A outer s H E).nox (defBody s_law) t_law :=
  pssd_cons (psd_set (i := 1) sc_law.nd rfl (Or.inr rfl) (ped_call (fn__law_deck T) (hr.mono (by decide)) rfl (pad_cons (dv 0) (pad_nil))))
      (pssd_cons (psd_set (i := 2) sc_law.nd rfl (Or.inr rfl) (ped_call (fn__law_draw T) (hr.mono (by decide)) rfl (pad_cons (dv 1) (pad_cons (ped_int) (pad_nil)))))
      (pssd_cons (psd_set (i := 3) sc_law.nd rfl (Or.inl rfl) (ped_call (fn__law_draw T) (hr.mono (by decide)) rfl (pad_cons (dv 1) (pad_cons (ped_int) (pad_nil)))))
      (pssd_cons (psd_set (i := 4) sc_law.nd rfl (Or.inr rfl) (ped_call (fn__law_ends T) (hr.mono (by decide)) rfl (pad_cons (dv 1) (pad_nil))))
      (pssd_cons (psd_set (i := 5) sc_law.nd rfl (Or.inr rfl) (ped_callB cdLen rfl T.b_len (by decide +kernel) (pad_cons (dv 4) (pad_nil))))
      (pssd_cons (psd_set (i := 6) sc_law.nd rfl (Or.inl rfl) (ped_callTy cdTuple rfl T.b_tuple (by decide +kernel) (pad_cons (ped_of (pef_lc (own := [("_law_k", 10)]) rfl sc_law.nd (pid_range1 rfl T.b_range (pad_cons (dv 5) (pad_nil))) (blkOk_by (N := N_law) (sc := defScope s_law) (by decide +kernel)) (fun _ _ _ _ _ => pgd_name (i := 10) sc_law.nd rfl (Or.inl rfl)) (fun _ _ _ _ _ => ptsd_one (PTD.pw (pwd_or (ptd_cmp (odEq hr.units) (ped_call (fn__law_draw T) (hr.mono (by decide)) rfl (pad_cons (dv 1) (pad_cons (ped_int) (pad_nil)))) (ped_int)) (pwd_or1 (ptd_cmp (odEq hr.units) (dv 10) (ped_op odMod (dv 2) (dv 5))))))) (fun _ _ _ _ _ => dv 10))) (pad_nil))))
      (pssd_cons (psd_if (ptd_not (ptd_val (ped_call (fn__law_right T) (hr.mono (by decide)) rfl (pad_cons (ped_of (pef_lc (own := [("_law_k", 10)]) rfl sc_law.nd (pid_seq (dv 6)) (blkOk_by (N := N_law) (sc := defScope s_law) (by decide +kernel)) (fun _ _ _ _ _ => pgd_name (i := 10) sc_law.nd rfl (Or.inl rfl)) (fun _ _ _ _ _ => ptsd_nil) (fun _ _ _ _ _ => ped_ix (ixd (hu_of hr)) (dv 4) (dv 10)))) (pad_cons (ped_call (fn_row_of T) (hr.mono (by decide)) rfl (pad_cons (dv 4) (pad_cons (dv 6) (pad_nil)))) (pad_nil)))))) (pssd_one (psd_ret (ped_bl))) (pssd_nil))
      (pssd_cons (psd_set (i := 7) sc_law.nd rfl (Or.inl rfl) (ped_call (fn__law_joining T) (hr.mono (by decide)) rfl (pad_cons (dv 1) (pad_cons (dv 5) (pad_nil)))))
      (pssd_cons (psd_set (i := 8) sc_law.nd rfl (Or.inl rfl) (ped_call (fn_rows_of T) (hr.mono (by decide)) rfl (pad_cons (dv 4) (pad_cons (dv 7) (pad_nil)))))
      (pssd_cons (psd_set (i := 3) sc_law.nd rfl (Or.inl rfl) (ped_op odMod (dv 3) (ped_callB cdLen rfl T.b_len (by decide +kernel) (pad_cons (dv 8) (pad_nil)))))
      (pssd_cons (psd_for (vs := [9]) PassesOwn.never rfl (pid_seq (ped_of (pef_lst (pad_cons (dv 3) (pad_cons (ped_op odSub (ped_callB cdLen rfl T.b_len (by decide +kernel) (pad_cons (dv 8) (pad_nil))) (ped_int)) (pad_nil)))))) (pgd_name (i := 9) sc_law.nd rfl (Or.inl rfl)) (pssd_one (psd_if (ptd_not (ptd_val (ped_call (fn__law_right T) (hr.mono (by decide)) rfl (pad_cons (ped_of (pef_lc (own := [("_law_k", 10)]) rfl sc_law.nd (pid_seq (ped_ix (ixd (hu_of hr)) (ped_call (fn__law_beneath T) (hr.mono (by decide)) rfl (pad_cons (dv 5) (pad_cons (dv 7) (pad_nil)))) (dv 9))) (blkOk_by (N := N_law) (sc := defScope s_law) (by decide +kernel)) (fun _ _ _ _ _ => pgd_name (i := 10) sc_law.nd rfl (Or.inl rfl)) (fun _ _ _ _ _ => ptsd_nil) (fun _ _ _ _ _ => ped_ix (ixd (hu_of hr)) (dv 4) (dv 10)))) (pad_cons (ped_ix (ixd (hu_of hr)) (dv 8) (dv 9)) (pad_nil)))))) (pssd_one (psd_ret (ped_bl))) (pssd_nil))))
      (pssd_one (psd_ret (ped_bl)))))))))))))
theorem ds_law (d0 : D) : dstart N_law [d0] = [some d0, none, none, none, none, none, none, none, none, none, none] := rfl
set_option hygiene false in
local macro_rules | `(tactic| walk_at "go") => `(tactic| repeat' ((fail_if_success (with_reducible refine isLoop ?_)); (fail_if_success (with_reducible refine isComp ?_)); first
  | (refine Stp.out ?_)
  | (with_reducible apply st_var; (with_unfolding_all exact rfl))
  | (with_reducible apply st_len5U; (walk_at "sd")) | (with_reducible apply st_len5M; (walk_at "sd"))
  | (with_reducible apply st_len5; (with_unfolding_all exact Nat.le_of_ble_eq_true rfl))
  | (with_reducible apply st_len; (with_unfolding_all exact Nat.le_of_ble_eq_true rfl))
  | (with_reducible apply st_ixT; (with_unfolding_all exact rfl))
  | (with_reducible apply st_ixRow; (with_unfolding_all exact rfl)) | (with_reducible apply st_ixE; (with_unfolding_all exact rfl)) | (with_reducible apply st_ixP; (with_unfolding_all exact rfl))
  | (with_reducible apply st_ixL; (with_unfolding_all exact rfl); (with_unfolding_all exact rfl))
  | (with_reducible apply st_ixMT; (walk_at "sd"); (walk_at "sd"))
  | (with_reducible apply st_ixML; (walk_at "sd"); (walk_at "sd"))
  | (with_reducible apply st_ixIA; (assumption); (walk_at "sd"); (walk_at "sd"))
  | (with_reducible apply st_ixR; (walk_at "lg"))
  | (with_reducible apply st_ixlT; (walk_at "sd")) | (with_reducible apply st_ixlL; (walk_at "sd"))
  | (with_reducible refine st_selV ?_) | (with_reducible refine st_selVB ?_)
  | (with_reducible apply st_mulI; (first | (left; constructor <;> omega) | (right; constructor <;> omega)))
  | (with_reducible apply st_fdiv; (first | omega | decide); (first | omega | decide)) | (with_reducible apply st_mod; (first | omega | decide))
  | (with_reducible first | refine st_p3 ?_ | refine st_p5 ?_ | refine st_p6 ?_ | refine st_p7 ?_ | refine st_p8 ?_ | refine st_p9 ?_ | refine st_p10 ?_ | refine st_p12 ?_ | refine st_p15 ?_ | refine st_p18 ?_)
  | (with_reducible apply st_gU; (with_unfolding_all exact rfl)) | (with_reducible apply st_gUL; (walk_at "ls"); (with_unfolding_all exact rfl))
  | (with_reducible apply st_is; (with_unfolding_all exact rfl)) | (with_reducible apply st_isNot; (with_unfolding_all exact rfl))
  | (with_reducible apply st_isiT; (with_unfolding_all exact rfl); (simp); (decide)) | (with_reducible apply st_isiF; (with_unfolding_all exact rfl); (simp); (decide))
  | (with_reducible apply st_rg1; (omega); (omega)) | (with_reducible apply st_rgK2; (omega); (omega); (omega); (omega)) | (with_reducible apply st_rgK3; (omega); (omega); (omega); (omega)) | (with_reducible apply st_rvK; (omega); (omega))
  | (with_reducible apply st_lrK; (omega); (omega))
  | (with_reducible first | refine st_sumM ?_ | refine st_allM ?_ | refine st_anyM ?_ | refine st_inIT ?_ | refine st_inIL ?_ | apply st_inIP; (walk_at "lg"))
  | (with_reducible apply st_sum; (walk_at "ls"); (first | exact intsD_map _ | with_unfolding_all exact rfl))
  | (with_reducible apply st_bools; (walk_at "ls"); (first | exact boolsD_map _ | with_unfolding_all exact rfl))
  | (with_reducible apply st_lenMP; (walk_at "lg"))
  | (with_reducible apply st_tupL; (first | exact res_ptr (by assumption) | exact res_ptr uG_same)) | (with_reducible apply st_lenL; (first | exact res_ptr (by assumption) | exact res_ptr uG_same)) | (with_reducible apply st_slL; (first | exact res_ptr (by assumption) | exact res_ptr uG_same)) | (with_reducible apply st_lsKL; (first | exact res_ptr (by assumption) | exact res_ptr uG_same))
  | (with_reducible apply st_sqP; (walk_at "lg"))
  | (with_reducible apply st_neNilM; (walk_at "pl")) | (with_reducible apply st_neNilP; (walk_at "lg"); (walk_at "pl")) | (with_reducible apply st_eqNilL; (walk_at "pl")) | (with_reducible apply st_eqNilP; (walk_at "lg"); (walk_at "pl"))
  | (with_reducible refine st_inKV rfl ?_) | (with_reducible apply st_neNilT; (walk_at "pl"))
  | (with_reducible apply st_enP; (walk_at "lg"))
  | (with_reducible first | refine st_ninIT ?_ | refine st_ninIL ?_ | apply st_ninIP; (walk_at "lg"))
  | (with_reducible apply st_addTS; (with_unfolding_all exact Nat.le_of_ble_eq_true rfl))
  | (with_reducible apply st_mulT1; (walk_at "sd"); (walk_at "sd"))
  | (with_reducible apply st_ml1; (walk_at "sd"); (walk_at "sd"))
  | (with_reducible apply st_ex1; (walk_at "lg")) | (with_reducible apply st_ex2P; (walk_at "sd"))
  | (with_reducible apply st_ap1; (walk_at "lg")) | (with_reducible apply st_ap2U; (walk_at "sd")) | (with_reducible apply st_ap2; (walk_at "lg"); (walk_at "sd"))
  | (with_reducible apply st_revP; (walk_at "lg"))
  | (with_reducible apply st_rm1; (walk_at "lg")) | (with_reducible apply st_rm2U; (assumption)) | (with_reducible apply st_rm2; (walk_at "lg"); (assumption))
  | (with_reducible apply st_gsT; (walk_at "lg"); (omega)) | (with_reducible apply st_ixT2; (walk_at "lg"); (assumption))
  | (with_reducible apply st_addLM; (walk_at "sl")) | (with_reducible apply st_addTM; (walk_at "sl"))
  | (with_reducible apply ogL_ix; (with_unfolding_all exact rfl)) | (with_reducible apply ogL_set; (with_unfolding_all exact rfl); (with_unfolding_all exact rfl)) | (with_reducible apply st_rlP; (walk_at "lg"))
  | (with_reducible apply og_neNil; (assumption)) | (with_reducible apply og_popLast; (assumption); (walk_at "sd"); intro cc cs')
  | (with_reducible apply st_pa1; (walk_at "lg")) | (with_reducible apply st_pa2U; (walk_at "sd"); (walk_at "sd"); (walk_at "sd"); intro x ys tk) | (with_reducible apply st_pa2; (walk_at "lg"); (walk_at "sd"); (walk_at "sd"); (walk_at "sd"); intro x ys tk)
  | (with_reducible apply st_ins1; (walk_at "lg"))
  | (with_reducible apply st_cat; (first | decide | omega))
  | (with_reducible apply st__law_beneath; (walk_at "sc"); (walk_at "sc"); (walk_at "sc"); intro bl hbl_)
  | (with_reducible apply st_deckG; (walk_at "sd"); intro da dl GD hD)
  | (with_reducible apply st_draw; (walk_at "dk"); (walk_at "sd"); (walk_at "sd"); intro r r0 r1)
  | (with_reducible apply st__law_ends; (walk_at "sc"); intro es q0 q1 q2)
  | (with_reducible apply st__law_joining; (walk_at "sc"); (walk_at "sc"); (walk_at "sc"); intro js hj)
  | (with_reducible apply st__law_right; (walk_at "sc"); (walk_at "sc"); (walk_at "sc"); (walk_at "sc"); (walk_at "sc"))
  | (with_reducible apply st_row_of; (walk_at "sc"); (walk_at "sc"); (walk_at "sc"); intro h b q0 q1)
  | (with_reducible apply st_rows_of; (walk_at "sc"); (walk_at "sc"); (walk_at "sc"); (walk_at "sc"); (walk_at "sc"); intro rs hrs)
  | (with_reducible refine iteD ?_ ?_ <;> intro c <;> try omega)
  | (with_reducible refine iteND ?_ ?_ <;> intro c <;> try omega)
  | (with_reducible refine iteB ?_ ?_ <;> intro c) | (with_reducible refine iteNB ?_ ?_ <;> intro c)
  | (with_reducible apply st_pickI2; (walk_at "sd"); (walk_at "sd"); intro v hv) | (with_reducible apply st_pickI3; (walk_at "sd"); (walk_at "sd"); intro v hv) | (with_reducible apply st_pickI4; (walk_at "sd"); (walk_at "sd"); intro v hv) | (with_reducible apply st_pickI5; (walk_at "sd"); (walk_at "sd"); intro v hv) | (with_reducible apply st_pickI6; (walk_at "sd"); (walk_at "sd"); intro v hv)
  | (with_reducible refine st_sel ?_ ?_ <;> intro c)
  | (with_reducible apply st_pickD2; (walk_at "sd"); (walk_at "sd"))
  | (with_reducible intro p hp)
))

theorem sem_law : ∀ ds G R X, sp_law ds G R X → ds.length = 1 ∧ t_law { nx := fun _ G' => RetOk R .non G', rt := RetOk R } (dstart N_law ds) G := by
  rintro ds G R X ⟨ns, rfl, hlen, hG, h⟩
  refine ⟨rfl, ?_⟩
  simp only [t_law, ds_law]
  have hR := h
  walk_at "go"
  rename_i rA rA0 rA1
  have e1 : 1 ≤ es.length := q0
  have e4 : es.length ≤ 4 := q1
  clear q0 q1
  have en : (0 : Int) < es.length := by omega
  obtain ⟨w, hw⟩ : ∃ w, w = rA % (es.length : Int) := ⟨_, rfl⟩
  have w0 : 0 ≤ w := by rw [hw]; exact Int.emod_nonneg _ (by omega)
  have w1 : w < es.length := by rw [hw]; exact Int.emod_lt_of_pos _ en
  refine comp_inv (fun i acc => ∃ sm : List Int, acc = sm.map D.int ∧ sm.length ≤ i ∧ (∀ x ∈ sm, 0 ≤ x ∧ x < es.length) ∧ (w < i → w ∈ sm)) ⟨[], rfl, Nat.le_refl _, (fun _ z => nomatch z), fun z => by omega⟩ trivial ?_ ?_
  · rintro i d acc K hi hx ⟨sm, rfl, h1, h2, h3⟩ hK
    rw [List.length_map, upto_len] at hi
    rw [List.getElem?_map] at hx
    obtain ⟨x, hx', rfl⟩ := Option.map_eq_some_iff.mp hx
    obtain ⟨x0, x1⟩ := mem_upto.mp (List.mem_of_getElem? hx')
    have exi : x = (i : Int) := by rw [upto_get (by omega)] at hx'; exact (Option.some.inj hx').symm
    have yes : K (sm.map D.int ++ [.int x]) GD := hK _ ⟨sm ++ [x], by rw [List.map_append]; rfl, by rw [List.length_append]; show sm.length + 1 ≤ _; omega, all_snoc h2 ⟨x0, x1⟩, fun z => by
      by_cases c : w < i
      · exact List.mem_append_left _ (h3 c)
      · exact List.mem_append_right _ (List.mem_singleton.mpr (by omega))⟩
    walk_at "go"
    all_goals first
      | exact yes
      | skip
    rename_i c
    rw [← hw] at c
    exact hK _ ⟨sm, rfl, by omega, h2, fun z => h3 (by omega)⟩
  rintro acc ⟨sm, rfl, h1, h2, h3⟩
  rw [List.length_map, upto_len] at h1 h3
  have hwm : w ∈ sm := h3 (by omega)
  have sl : 0 < sm.length := List.length_pos_of_mem hwm
  have hss : ∀ e ∈ es, 0 ≤ e.s := fun e he => (q2 e he).2.2.1.1
  have sl5 : sm.length ≤ 100000 := by omega
  walk_at "go"
  refine comp_map (fun k => eD (nth es k)) trivial (fun x hx acc K hK => ?_) ?_
  · obtain ⟨x0, x1⟩ := h2 x hx
    walk_at "go"
    exact hK
  rw [pick_map]
  have p0 : 0 < (pick es sm).length := by rw [pick_len]; exact sl
  have p4 : (pick es sm).length ≤ 4 := by rw [pick_len]; omega
  have ps := pick_sm q2 h2
  walk_at "go"
  clear q0 q1
  have n1 : ((es.length : Int)).toNat = es.length := Int.toNat_natCast _
  have hJ : JoinOk es.length js := by rw [n1] at hj; exact hj
  have hlA := hJ.len
  have hrA := hJ.rows
  have hok : ∀ e ∈ es, okE e := fun e he => (q2 e he).ok
  have e0 : 0 < es.length := e1
  have e5 : es.length ≤ 1000 := by omega
  have j5 : js.length ≤ 1000 := by omega
  walk_at "go"
  have hblA := below_len es.length js
  have hrl := hrs.1
  have rlen : (rs.length : Int) = (es.length : Int) + js.length := by omega
  have rpos : (0 : Int) < rs.length := by omega
  have r30 : (rs.length : Int) < 1073741824 := by omega
  walk_at "go"
  refine loop_fm (en := D.int) (xs := [r % (rs.length : Int), (rs.length : Int) - 1]) [9] (fun i vs G' => (∃ x9, vs = [x9]) ∧ G' = GD) ⟨⟨_, rfl⟩, rfl⟩ (fun _ _ _ _ _ => trivial) ?_ ?_
  · rintro i x vs G' E hi hx ⟨⟨x9, rfl⟩, rfl⟩ hnx - - -
    have hx2 := List.mem_of_getElem? hx
    have x01 : 0 ≤ x ∧ x < rs.length := by
      simp only [List.mem_cons, List.not_mem_nil, or_false] at hx2
      have a := Int.emod_nonneg r (show (rs.length : Int) ≠ 0 by omega)
      have b := Int.emod_lt_of_pos r rpos
      rcases hx2 with rfl | rfl
      · exact ⟨a, b⟩
      · omega
    obtain ⟨x0, x1⟩ := x01
    clear hx hx2
    walk_at "ps"
    walk_at "go"
    rw [n1] at hbl_
    have hbs := hbl_.1
    obtain ⟨xb, pm⟩ := hbl_.at x0 (by rw [hblA]; omega)
    obtain ⟨_, ro⟩ := hrs.at x0 (by rw [hblA]; omega)
    obtain ⟨g1, g2, g3⟩ : 0 < (nth bl x).length ∧ (nth bl x).length ≤ es.length ∧ ∀ y ∈ nth bl x, 0 ≤ y ∧ y < (es.length : Int) := by
      have ek : x = ((x.toNat : Nat) : Int) := by omega
      have kl : x.toNat < (below es.length js).length := by omega
      obtain ⟨p1, p2, p3⟩ := hJ.posAll x.toNat kl
      rw [ek, nth_nat kl] at pm
      rw [ek]
      exact ⟨by rw [pm.length_eq]; exact p1, by rw [pm.length_eq]; exact p2, fun y hy => p3 y (pm.mem_iff.mp hy)⟩
    have ro2 : RowOf (pick es (nth bl x)) (nth rs x) := ro.of_mem fun y => (pm.map (nth es)).mem_iff
    have xbi : x < (bl.length : Int) := by omega
    have g5 : (nth bl x).length ≤ 100000 := by omega
    walk_at "go"
    refine comp_map (fun k => eD (nth es k)) trivial (fun y hy acc K hK => ?_) ?_
    · obtain ⟨y0, y1⟩ := g3 y hy
      walk_at "go"
      exact hK
    rw [pick_map]
    have p0 : 0 < (pick es (nth bl x)).length := by rw [pick_len]; exact g1
    have p4 : (pick es (nth bl x)).length ≤ 4 := by rw [pick_len]; omega
    have ps := pick_sm q2 g3
    have hh := ro2.h
    have hb := ro2.b
    walk_at "go"
    refine st__law_right (es := pick es (nth bl x)) (h := (nth rs x).1) (b := (nth rs x).2) p0 p4 ps hh hb ?_
    walk_at "go"
    exact hnx [_] _ ⟨⟨_, rfl⟩, rfl⟩
  rintro vs G' ⟨⟨x9, rfl⟩, rfl⟩
  walk_at "ps"
  walk_at "go"
  exact .law hG hR
theorem fn_law (T : Mods K mg) : FnD P w K mg base CX0 5 "law" sp_law := fnd_mk T.d_law sc_law (fun _ _ _ _ _ _ us hl => match us, hl with | [_], _ => rfl) (body_law T) sem_law
end
theorem all_mk {l : PySem.W.OpenLaw} {w : World} {K : PySem.W.Frag} {h : Heap} {mg : Str → Option Value} {fa : Addr} (X : K.In h) (G : h.Ns mainGlobals mg) (hfa : mg "law" = some (.ref fa))
    {f0 : Addr} {od0 an0 : Option Addr} {sl0 : Array (Option Value)} {oc0 kV0 dc0 pm0 cd0 ct0 : Value}
    (a0 : PySem.W.nsIn K mainGlobals "spot_of" = some (some (.ref f0))) (l0 : K.lookup f0 = some ⟨oc0, od0, .func (PySem.W.fnOf "spot_of" "spot_of" (defArgs s_spot_of) (defBody s_spot_of) (defScope s_spot_of) .none kV0 dc0 pm0 an0 cd0 ct0), sl0⟩) (c0 : PySem.W.codeIn K cd0 "spot_of" = true) (k0 : PySem.W.keepIn K (.ref f0) = true)
    {f1 : Addr} {od1 an1 : Option Addr} {sl1 : Array (Option Value)} {oc1 kV1 dc1 pm1 cd1 ct1 : Value}
    (a1 : PySem.W.nsIn K mainGlobals "grown" = some (some (.ref f1))) (l1 : K.lookup f1 = some ⟨oc1, od1, .func (PySem.W.fnOf "grown" "grown" (defArgs s_grown) (defBody s_grown) (defScope s_grown) .none kV1 dc1 pm1 an1 cd1 ct1), sl1⟩) (c1 : PySem.W.codeIn K cd1 "grown" = true) (k1 : PySem.W.keepIn K (.ref f1) = true)
    {f2 : Addr} {od2 an2 : Option Addr} {sl2 : Array (Option Value)} {oc2 kV2 dc2 pm2 cd2 ct2 : Value}
    (a2 : PySem.W.nsIn K mainGlobals "met" = some (some (.ref f2))) (l2 : K.lookup f2 = some ⟨oc2, od2, .func (PySem.W.fnOf "met" "met" (defArgs s_met) (defBody s_met) (defScope s_met) .none kV2 dc2 pm2 an2 cd2 ct2), sl2⟩) (c2 : PySem.W.codeIn K cd2 "met" = true) (k2 : PySem.W.keepIn K (.ref f2) = true)
    {f3 : Addr} {od3 an3 : Option Addr} {sl3 : Array (Option Value)} {oc3 kV3 dc3 pm3 cd3 ct3 : Value}
    (a3 : PySem.W.nsIn K mainGlobals "apart" = some (some (.ref f3))) (l3 : K.lookup f3 = some ⟨oc3, od3, .func (PySem.W.fnOf "apart" "apart" (defArgs s_apart) (defBody s_apart) (defScope s_apart) .none kV3 dc3 pm3 an3 cd3 ct3), sl3⟩) (c3 : PySem.W.codeIn K cd3 "apart" = true) (k3 : PySem.W.keepIn K (.ref f3) = true)
    {f4 : Addr} {od4 an4 : Option Addr} {sl4 : Array (Option Value)} {oc4 kV4 dc4 pm4 cd4 ct4 : Value}
    (a4 : PySem.W.nsIn K mainGlobals "has" = some (some (.ref f4))) (l4 : K.lookup f4 = some ⟨oc4, od4, .func (PySem.W.fnOf "has" "has" (defArgs s_has) (defBody s_has) (defScope s_has) .none kV4 dc4 pm4 an4 cd4 ct4), sl4⟩) (c4 : PySem.W.codeIn K cd4 "has" = true) (k4 : PySem.W.keepIn K (.ref f4) = true)
    {f5 : Addr} {od5 an5 : Option Addr} {sl5 : Array (Option Value)} {oc5 kV5 dc5 pm5 cd5 ct5 : Value}
    (a5 : PySem.W.nsIn K mainGlobals "steps" = some (some (.ref f5))) (l5 : K.lookup f5 = some ⟨oc5, od5, .func (PySem.W.fnOf "steps" "steps" (defArgs s_steps) (defBody s_steps) (defScope s_steps) .none kV5 dc5 pm5 an5 cd5 ct5), sl5⟩) (c5 : PySem.W.codeIn K cd5 "steps" = true) (k5 : PySem.W.keepIn K (.ref f5) = true)
    {f6 : Addr} {od6 an6 : Option Addr} {sl6 : Array (Option Value)} {oc6 kV6 dc6 pm6 cd6 ct6 : Value}
    (a6 : PySem.W.nsIn K mainGlobals "wanted" = some (some (.ref f6))) (l6 : K.lookup f6 = some ⟨oc6, od6, .func (PySem.W.fnOf "wanted" "wanted" (defArgs s_wanted) (defBody s_wanted) (defScope s_wanted) .none kV6 dc6 pm6 an6 cd6 ct6), sl6⟩) (c6 : PySem.W.codeIn K cd6 "wanted" = true) (k6 : PySem.W.keepIn K (.ref f6) = true)
    {f7 : Addr} {od7 an7 : Option Addr} {sl7 : Array (Option Value)} {oc7 kV7 dc7 pm7 cd7 ct7 : Value}
    (a7 : PySem.W.nsIn K mainGlobals "box_of_end" = some (some (.ref f7))) (l7 : K.lookup f7 = some ⟨oc7, od7, .func (PySem.W.fnOf "box_of_end" "box_of_end" (defArgs s_box_of_end) (defBody s_box_of_end) (defScope s_box_of_end) .none kV7 dc7 pm7 an7 cd7 ct7), sl7⟩) (c7 : PySem.W.codeIn K cd7 "box_of_end" = true) (k7 : PySem.W.keepIn K (.ref f7) = true)
    {f8 : Addr} {od8 an8 : Option Addr} {sl8 : Array (Option Value)} {oc8 kV8 dc8 pm8 cd8 ct8 : Value}
    (a8 : PySem.W.nsIn K mainGlobals "row_of" = some (some (.ref f8))) (l8 : K.lookup f8 = some ⟨oc8, od8, .func (PySem.W.fnOf "row_of" "row_of" (defArgs s_row_of) (defBody s_row_of) (defScope s_row_of) .none kV8 dc8 pm8 an8 cd8 ct8), sl8⟩) (c8 : PySem.W.codeIn K cd8 "row_of" = true) (k8 : PySem.W.keepIn K (.ref f8) = true)
    {f9 : Addr} {od9 an9 : Option Addr} {sl9 : Array (Option Value)} {oc9 kV9 dc9 pm9 cd9 ct9 : Value}
    (a9 : PySem.W.nsIn K mainGlobals "joined" = some (some (.ref f9))) (l9 : K.lookup f9 = some ⟨oc9, od9, .func (PySem.W.fnOf "joined" "joined" (defArgs s_joined) (defBody s_joined) (defScope s_joined) .none kV9 dc9 pm9 an9 cd9 ct9), sl9⟩) (c9 : PySem.W.codeIn K cd9 "joined" = true) (k9 : PySem.W.keepIn K (.ref f9) = true)
    {f10 : Addr} {od10 an10 : Option Addr} {sl10 : Array (Option Value)} {oc10 kV10 dc10 pm10 cd10 ct10 : Value}
    (a10 : PySem.W.nsIn K mainGlobals "rows_of" = some (some (.ref f10))) (l10 : K.lookup f10 = some ⟨oc10, od10, .func (PySem.W.fnOf "rows_of" "rows_of" (defArgs s_rows_of) (defBody s_rows_of) (defScope s_rows_of) .none kV10 dc10 pm10 an10 cd10 ct10), sl10⟩) (c10 : PySem.W.codeIn K cd10 "rows_of" = true) (k10 : PySem.W.keepIn K (.ref f10) = true)
    {f11 : Addr} {od11 an11 : Option Addr} {sl11 : Array (Option Value)} {oc11 kV11 dc11 pm11 cd11 ct11 : Value}
    (a11 : PySem.W.nsIn K mainGlobals "_law_deck" = some (some (.ref f11))) (l11 : K.lookup f11 = some ⟨oc11, od11, .func (PySem.W.fnOf "_law_deck" "_law_deck" (defArgs s__law_deck) (defBody s__law_deck) (defScope s__law_deck) .none kV11 dc11 pm11 an11 cd11 ct11), sl11⟩) (c11 : PySem.W.codeIn K cd11 "_law_deck" = true) (k11 : PySem.W.keepIn K (.ref f11) = true)
    {f12 : Addr} {od12 an12 : Option Addr} {sl12 : Array (Option Value)} {oc12 kV12 dc12 pm12 cd12 ct12 : Value}
    (a12 : PySem.W.nsIn K mainGlobals "_law_draw" = some (some (.ref f12))) (l12 : K.lookup f12 = some ⟨oc12, od12, .func (PySem.W.fnOf "_law_draw" "_law_draw" (defArgs s__law_draw) (defBody s__law_draw) (defScope s__law_draw) .none kV12 dc12 pm12 an12 cd12 ct12), sl12⟩) (c12 : PySem.W.codeIn K cd12 "_law_draw" = true) (k12 : PySem.W.keepIn K (.ref f12) = true)
    {f13 : Addr} {od13 an13 : Option Addr} {sl13 : Array (Option Value)} {oc13 kV13 dc13 pm13 cd13 ct13 : Value}
    (a13 : PySem.W.nsIn K mainGlobals "_law_ends" = some (some (.ref f13))) (l13 : K.lookup f13 = some ⟨oc13, od13, .func (PySem.W.fnOf "_law_ends" "_law_ends" (defArgs s__law_ends) (defBody s__law_ends) (defScope s__law_ends) .none kV13 dc13 pm13 an13 cd13 ct13), sl13⟩) (c13 : PySem.W.codeIn K cd13 "_law_ends" = true) (k13 : PySem.W.keepIn K (.ref f13) = true)
    {f14 : Addr} {od14 an14 : Option Addr} {sl14 : Array (Option Value)} {oc14 kV14 dc14 pm14 cd14 ct14 : Value}
    (a14 : PySem.W.nsIn K mainGlobals "_law_joining" = some (some (.ref f14))) (l14 : K.lookup f14 = some ⟨oc14, od14, .func (PySem.W.fnOf "_law_joining" "_law_joining" (defArgs s__law_joining) (defBody s__law_joining) (defScope s__law_joining) .none kV14 dc14 pm14 an14 cd14 ct14), sl14⟩) (c14 : PySem.W.codeIn K cd14 "_law_joining" = true) (k14 : PySem.W.keepIn K (.ref f14) = true)
    {f15 : Addr} {od15 an15 : Option Addr} {sl15 : Array (Option Value)} {oc15 kV15 dc15 pm15 cd15 ct15 : Value}
    (a15 : PySem.W.nsIn K mainGlobals "_law_beneath" = some (some (.ref f15))) (l15 : K.lookup f15 = some ⟨oc15, od15, .func (PySem.W.fnOf "_law_beneath" "_law_beneath" (defArgs s__law_beneath) (defBody s__law_beneath) (defScope s__law_beneath) .none kV15 dc15 pm15 an15 cd15 ct15), sl15⟩) (c15 : PySem.W.codeIn K cd15 "_law_beneath" = true) (k15 : PySem.W.keepIn K (.ref f15) = true)
    {f16 : Addr} {od16 an16 : Option Addr} {sl16 : Array (Option Value)} {oc16 kV16 dc16 pm16 cd16 ct16 : Value}
    (a16 : PySem.W.nsIn K mainGlobals "_law_radius" = some (some (.ref f16))) (l16 : K.lookup f16 = some ⟨oc16, od16, .func (PySem.W.fnOf "_law_radius" "_law_radius" (defArgs s__law_radius) (defBody s__law_radius) (defScope s__law_radius) .none kV16 dc16 pm16 an16 cd16 ct16), sl16⟩) (c16 : PySem.W.codeIn K cd16 "_law_radius" = true) (k16 : PySem.W.keepIn K (.ref f16) = true)
    {f17 : Addr} {od17 an17 : Option Addr} {sl17 : Array (Option Value)} {oc17 kV17 dc17 pm17 cd17 ct17 : Value}
    (a17 : PySem.W.nsIn K mainGlobals "_law_want" = some (some (.ref f17))) (l17 : K.lookup f17 = some ⟨oc17, od17, .func (PySem.W.fnOf "_law_want" "_law_want" (defArgs s__law_want) (defBody s__law_want) (defScope s__law_want) .none kV17 dc17 pm17 an17 cd17 ct17), sl17⟩) (c17 : PySem.W.codeIn K cd17 "_law_want" = true) (k17 : PySem.W.keepIn K (.ref f17) = true)
    {f18 : Addr} {od18 an18 : Option Addr} {sl18 : Array (Option Value)} {oc18 kV18 dc18 pm18 cd18 ct18 : Value}
    (a18 : PySem.W.nsIn K mainGlobals "_law_heights" = some (some (.ref f18))) (l18 : K.lookup f18 = some ⟨oc18, od18, .func (PySem.W.fnOf "_law_heights" "_law_heights" (defArgs s__law_heights) (defBody s__law_heights) (defScope s__law_heights) .none kV18 dc18 pm18 an18 cd18 ct18), sl18⟩) (c18 : PySem.W.codeIn K cd18 "_law_heights" = true) (k18 : PySem.W.keepIn K (.ref f18) = true)
    {f19 : Addr} {od19 an19 : Option Addr} {sl19 : Array (Option Value)} {oc19 kV19 dc19 pm19 cd19 ct19 : Value}
    (a19 : PySem.W.nsIn K mainGlobals "_law_right" = some (some (.ref f19))) (l19 : K.lookup f19 = some ⟨oc19, od19, .func (PySem.W.fnOf "_law_right" "_law_right" (defArgs s__law_right) (defBody s__law_right) (defScope s__law_right) .none kV19 dc19 pm19 an19 cd19 ct19), sl19⟩) (c19 : PySem.W.codeIn K cd19 "_law_right" = true) (k19 : PySem.W.keepIn K (.ref f19) = true)
    {f20 : Addr} {od20 an20 : Option Addr} {sl20 : Array (Option Value)} {oc20 kV20 dc20 pm20 cd20 ct20 : Value}
    (a20 : PySem.W.nsIn K mainGlobals "law" = some (some (.ref f20))) (l20 : K.lookup f20 = some ⟨oc20, od20, .func (PySem.W.fnOf "law" "law" (defArgs s_law) (defBody s_law) (defScope s_law) .none kV20 dc20 pm20 an20 cd20 ct20), sl20⟩) (c20 : PySem.W.codeIn K cd20 "law" = true) (k20 : PySem.W.keepIn K (.ref f20) = true)
    (z_abs : PySem.W.nsIn K mainGlobals "abs" = some none)
    (z_enumerate : PySem.W.nsIn K mainGlobals "enumerate" = some none)
    (z_int : PySem.W.nsIn K mainGlobals "int" = some none)
    (z_len : PySem.W.nsIn K mainGlobals "len" = some none)
    (z_list : PySem.W.nsIn K mainGlobals "list" = some none)
    (z_max : PySem.W.nsIn K mainGlobals "max" = some none)
    (z_min : PySem.W.nsIn K mainGlobals "min" = some none)
    (z_range : PySem.W.nsIn K mainGlobals "range" = some none)
    (z_sorted : PySem.W.nsIn K mainGlobals "sorted" = some none)
    (z_tuple : PySem.W.nsIn K mainGlobals "tuple" = some none)
    {tk_HALF : Tok} (y_HALF : PySem.W.nsIn K mainGlobals "HALF" = some (some (.int 2 tk_HALF)))
    : ∃ fd : FuncData, (∀ (s : Shared) (v : Value), BindsTo s fd ⟨[v], []⟩ [("_law_script", v)]) ∧ ∀ base : Heap, K.In base → base.Ns mainGlobals mg → FnOk l.prog w K mg base CX0 5 fa fd ["_law_script"] (spLawV K) := by
  have e := hfa.symm.trans (PySem.W.mg_of X G a20)
  cases e
  have T : Mods K mg := {
    d_spot_of := def_mk (PySem.W.mg_of X G a0) l0 c0 k0
    d_grown := def_mk (PySem.W.mg_of X G a1) l1 c1 k1
    d_met := def_mk (PySem.W.mg_of X G a2) l2 c2 k2
    d_apart := def_mk (PySem.W.mg_of X G a3) l3 c3 k3
    d_has := def_mk (PySem.W.mg_of X G a4) l4 c4 k4
    d_steps := def_mk (PySem.W.mg_of X G a5) l5 c5 k5
    d_wanted := def_mk (PySem.W.mg_of X G a6) l6 c6 k6
    d_box_of_end := def_mk (PySem.W.mg_of X G a7) l7 c7 k7
    d_row_of := def_mk (PySem.W.mg_of X G a8) l8 c8 k8
    d_joined := def_mk (PySem.W.mg_of X G a9) l9 c9 k9
    d_rows_of := def_mk (PySem.W.mg_of X G a10) l10 c10 k10
    d__law_deck := def_mk (PySem.W.mg_of X G a11) l11 c11 k11
    d__law_draw := def_mk (PySem.W.mg_of X G a12) l12 c12 k12
    d__law_ends := def_mk (PySem.W.mg_of X G a13) l13 c13 k13
    d__law_joining := def_mk (PySem.W.mg_of X G a14) l14 c14 k14
    d__law_beneath := def_mk (PySem.W.mg_of X G a15) l15 c15 k15
    d__law_radius := def_mk (PySem.W.mg_of X G a16) l16 c16 k16
    d__law_want := def_mk (PySem.W.mg_of X G a17) l17 c17 k17
    d__law_heights := def_mk (PySem.W.mg_of X G a18) l18 c18 k18
    d__law_right := def_mk (PySem.W.mg_of X G a19) l19 c19 k19
    d_law := def_mk (PySem.W.mg_of X G a20) l20 c20 k20
    b_abs := PySem.W.mg_none_of X G z_abs
    b_enumerate := PySem.W.mg_none_of X G z_enumerate
    b_int := PySem.W.mg_none_of X G z_int
    b_len := PySem.W.mg_none_of X G z_len
    b_list := PySem.W.mg_none_of X G z_list
    b_max := PySem.W.mg_none_of X G z_max
    b_min := PySem.W.mg_none_of X G z_min
    b_range := PySem.W.mg_none_of X G z_range
    b_sorted := PySem.W.mg_none_of X G z_sorted
    b_tuple := PySem.W.mg_none_of X G z_tuple
    c_HALF := fun X0 e0 => ⟨.int (2), _, (by rw [e0]; exact PySem.W.mg_of X G y_HALF), ⟨_, rfl⟩, fun _ _ => .int _⟩ }
  refine ⟨PySem.W.fnOf "law" "law" (defArgs s_law) (defBody s_law) (defScope s_law) .none kV20 dc20 pm20 an20 cd20 ct20, fun s v => .of_eq rfl, fun base _ _ => ?_⟩
  exact law_ok (fun_mk (st := s_law) l20 c20 k20) sc_law (body_law T) sem_law
theorem walk {l : PySem.W.OpenLaw} {q : Program} {loose : List Str} {XP : (Str → Option Value) → Heap → Prop} {YP : World → Heap → Prop} {d : DefRec} {K : Params → PySem.W.Frag} (hn : l.most = some 63) (hdf : d.params.defaults = [])
    (hY : ∀ (w : World) (h : Heap), YP w h → (K w.params).In h)
    (F : ∀ (w : World) (mg : Str → Option Value) (fa : Addr) (h : Heap), (K w.params).In h → h.Ns mainGlobals mg → mg d.name = some (.ref fa) →
      ∃ fd : FuncData, (∀ (s : Shared) (u : Value), BindsTo s fd ⟨[u], []⟩ [("_law_script", u)]) ∧ ∀ base : Heap, (K w.params).In base → base.Ns mainGlobals mg → FnOk l.prog w (K w.params) mg base CX0 5 fa fd ["_law_script"] (spLawV (K w.params))) :
    PySem.W.WalkO q loose XP YP l.row.toRowW d [] (fun f vs => PySem.call f vs) :=
  L2.walk_of (n := 63) (k := 5) (x := "_law_script") (CX := fun _ => CX0) (sp := fun w => spLawV (K w.params)) hn (by decide) hdf ⟨rfl, by decide, by decide⟩ hY F (fun _ _ a ns hl _ hS => ⟨a, ns, rfl, hS, hl, fun _ => rfl⟩) fun _ _ _ _ _ z => z
end L2.Ew.Law
open PySem PySem.W PyProof.Rows in
set_option maxRecDepth 100000 in
set_option maxHeartbeats 0 in
theorem PySem.Challenge.cw_evenwires_k19_whole_rows_on_small_street_holds : PySem.Challenge.rw_evenwires_k19_whole_rows_on_small_street.Holds := by
  w_on; o_law; k_head; (case hw => w_witness2)
  k_fill
  refine L2.Ew.Law.walk (l := PySem.Challenge.rw_evenwires_k19_whole_rows_on_small_street) rfl rfl (fun w h Y => PySem.W.kIn_of Y) ?F
  case F =>
    intro w mg fa h KX G hmg
    refine' L2.Ew.Law.all_mk KX G hmg ?a0 ?l0 ?c0 ?k0 ?a1 ?l1 ?c1 ?k1 ?a2 ?l2 ?c2 ?k2 ?a3 ?l3 ?c3 ?k3 ?a4 ?l4 ?c4 ?k4 ?a5 ?l5 ?c5 ?k5 ?a6 ?l6 ?c6 ?k6 ?a7 ?l7 ?c7 ?k7 ?a8 ?l8 ?c8 ?k8 ?a9 ?l9 ?c9 ?k9 ?a10 ?l10 ?c10 ?k10 ?a11 ?l11 ?c11 ?k11 ?a12 ?l12 ?c12 ?k12 ?a13 ?l13 ?c13 ?k13 ?a14 ?l14 ?c14 ?k14 ?a15 ?l15 ?c15 ?k15 ?a16 ?l16 ?c16 ?k16 ?a17 ?l17 ?c17 ?k17 ?a18 ?l18 ?c18 ?k18 ?a19 ?l19 ?c19 ?k19 ?a20 ?l20 ?c20 ?k20 ?z_abs ?z_enumerate ?z_int ?z_len ?z_list ?z_max ?z_min ?z_range ?z_sorted ?z_tuple ?y_HALF
    (case a0 => k_is)
    (case l0 => k_is)
    (case c0 => k_is)
    (case k0 => k_is)
    (case a1 => k_is)
    (case l1 => k_is)
    (case c1 => k_is)
    (case k1 => k_is)
    (case a2 => k_is)
    (case l2 => k_is)
    (case c2 => k_is)
    (case k2 => k_is)
    (case a3 => k_is)
    (case l3 => k_is)
    (case c3 => k_is)
    (case k3 => k_is)
    (case a4 => k_is)
    (case l4 => k_is)
    (case c4 => k_is)
    (case k4 => k_is)
    (case a5 => k_is)
    (case l5 => k_is)
    (case c5 => k_is)
    (case k5 => k_is)
    (case a6 => k_is)
    (case l6 => k_is)
    (case c6 => k_is)
    (case k6 => k_is)
    (case a7 => k_is)
    (case l7 => k_is)
    (case c7 => k_is)
    (case k7 => k_is)
    (case a8 => k_is)
    (case l8 => k_is)
    (case c8 => k_is)
    (case k8 => k_is)
    (case a9 => k_is)
    (case l9 => k_is)
    (case c9 => k_is)
    (case k9 => k_is)
    (case a10 => k_is)
    (case l10 => k_is)
    (case c10 => k_is)
    (case k10 => k_is)
    (case a11 => k_is)
    (case l11 => k_is)
    (case c11 => k_is)
    (case k11 => k_is)
    (case a12 => k_is)
    (case l12 => k_is)
    (case c12 => k_is)
    (case k12 => k_is)
    (case a13 => k_is)
    (case l13 => k_is)
    (case c13 => k_is)
    (case k13 => k_is)
    (case a14 => k_is)
    (case l14 => k_is)
    (case c14 => k_is)
    (case k14 => k_is)
    (case a15 => k_is)
    (case l15 => k_is)
    (case c15 => k_is)
    (case k15 => k_is)
    (case a16 => k_is)
    (case l16 => k_is)
    (case c16 => k_is)
    (case k16 => k_is)
    (case a17 => k_is)
    (case l17 => k_is)
    (case c17 => k_is)
    (case k17 => k_is)
    (case a18 => k_is)
    (case l18 => k_is)
    (case c18 => k_is)
    (case k18 => k_is)
    (case a19 => k_is)
    (case l19 => k_is)
    (case c19 => k_is)
    (case k19 => k_is)
    (case a20 => k_is)
    (case l20 => k_is)
    (case c20 => k_is)
    (case k20 => k_is)
    (case z_abs => k_is)
    (case z_enumerate => k_is)
    (case z_int => k_is)
    (case z_len => k_is)
    (case z_list => k_is)
    (case z_max => k_is)
    (case z_min => k_is)
    (case z_range => k_is)
    (case z_sorted => k_is)
    (case z_tuple => k_is)
    (case y_HALF => k_is)
