import PyProof.Rows.All
import HandS.ForMost
import KE.KDictKeyed
import KE.KeyNested
import HandS.TupAny
import HandS.TupMul
import HandS.Deep
import HandS.IsInst
import HandS.Style
import HandS.Conv
import HandS.Zip
import HandS.Rev
import HandS.NoneIn
import KE.GoesDict
import KE.GoesNew
import PyProof.Rows.TupTab
import KE.KDictWalk
import HandS.Text
import PyProof.SumWalkG
import HandS.DictComp
import KE.SortData
import KE.DataMinMax
import HandS.SetFor
import HandS.WideBits
import KE.OsArith
import PySem.Challenge.RW_foldedflat_k02_whole_least_lays_of_ruler
set_option Elab.async false
set_option linter.all false
set_option maxRecDepth 100000
/-! PD: pure data over the hand layer. Base: data, the ghost heap of what is frozen, states, extension. -/
namespace PD
open PySem PySem.Spec PyProof.Rows L2

abbrev St := L2.St
/-- data -/
inductive D where
  | non | bl (b : Bool) | int (i : Int) | str (x : List Nat) | tup (xs : List D) | lst (xs : List D) | dct (kvs : List (D × D)) | st | scr (ns : List Int) | cv (v : V)
  deriving Inhabited

def sOf (l : List Nat) : Str := ⟨l.toArray⟩
/-- a text that is kept: not too long, plain signs -/
def StrG (l : List Nat) : Prop := l.length ≤ sizeLine ∧ ∀ c ∈ l, c < 128

/-! data as a key -/
mutual
def toNK : D → Option NestedKey
  | .non => some .none
  | .bl _ => none
  | .int i => some (.num i)
  | .str l => some (.text (sOf l))
  | .tup xs => (toNKs xs).map .tup
  | .lst _ => none
  | .dct _ => none
  | .st => none
  | .scr _ => none
  | .cv _ => none
def toNKs : List D → Option (List NestedKey)
  | [] => some []
  | x :: xs => match toNK x, toNKs xs with
    | some k, some ks => some (k :: ks)
    | _, _ => none
end
/-- a key by value (1), a tuple (2), none (0) -/
def kfam : D → Nat
  | .int _ => 1
  | .str _ => 1
  | .tup _ => 2
  | _ => 0

/-- a dict's object, entry by entry -/
def dxO (a : Addr) (es : Array DictEntry) (ep : Nat) : HO :=
  .ext fun h => h.get? a = some { cls := .type "dict", data := .dict es ep } ∧ (a == sysModules) = false ∧ es.size ≤ sizeLine

/-- what is known of a dict's entries: the hashes, one family of keys -/
structure DctOk (w : World) (es : List DictEntry) (kvs : List (D × D)) : Prop where
  len : es.length = kvs.length
  key : ∀ (i : Nat) (e : DictEntry) (p : D × D), es[i]? = some e → kvs[i]? = some p → ∃ nk, toNK p.1 = some nk ∧ nk.depth ≤ 8 ∧ e.hash = nk.hash w
  fam : (∀ p ∈ kvs, kfam p.1 = 1) ∨ (∀ p ∈ kvs, kfam p.1 = 2)
  nd : (kvs.map fun p => toNK p.1).Nodup

section
variable (w : World) (K : PySem.W.Frag) (st : Option (Addr × Addr))
mutual
/-- the value v, read in the frozen heap F, is the data d -/
inductive Rep (F : Hp) : V → D → Prop
  | non : Rep F .non .non
  | bl (b : Bool) : Rep F (.bl b) (.bl b)
  | int (i : Int) : Rep F (.int i) (.int i)
  | str {l : List Nat} : StrG l → Rep F (.str (sOf l)) (.str l)
  | tup {a : Addr} {vs : List V} {ds : List D} : SqT K F a vs → RepL F vs ds → Rep F (.ref a) (.tup ds)
  | lst {a : Addr} {vs : List V} {ds : List D} : F a = some (.lst vs) → RepL F vs ds → Rep F (.ref a) (.lst ds)
  | scr {a : Addr} {ns : List Int} : SqL K F a (ns.map V.int) → Rep F (.ref a) (.scr ns)
  | dct {a : Addr} {es : Array DictEntry} {ep : Nat} {kvs : List (D × D)} : F a = some (dxO a es ep) → DctOk w es.toList kvs → RepE F es.toList kvs → Rep F (.ref a) (.dct kvs)
  | st {sa ca : Addr} : st = some (sa, ca) → Rep F (.ref sa) .st
  | cv (v : V) : Rep F v (.cv v)
inductive RepL (F : Hp) : List V → List D → Prop
  | nil : RepL F [] []
  | cons {v : V} {vs : List V} {d : D} {ds : List D} : Rep F v d → RepL F vs ds → RepL F (v :: vs) (d :: ds)
inductive RepE (F : Hp) : List DictEntry → List (D × D) → Prop
  | nil : RepE F [] []
  | cons {e : DictEntry} {es : List DictEntry} {k v : V} {dk dv : D} {kvs : List (D × D)} : RelV k e.key → Rep F k dk → RelV v e.val → Rep F v dv → RepE F es kvs → RepE F (e :: es) ((dk, dv) :: kvs)
end
end

abbrev Sub (F H : Hp) : Prop := ∀ b o, F b = some o → H b = some o
theorem Sub.refl (F : Hp) : Sub F F := fun _ _ h => h
theorem Sub.trans {A B C : Hp} (a : Sub A B) (b : Sub B C) : Sub A C := fun c o h => b c o (a c o h)
theorem Sub.seq {K : PySem.W.Frag} {F H : Hp} {a : Addr} {xs : List V} (e : Sub F H) (h : SqL K F a xs) : SqL K H a xs := Same.seq e h
theorem Sub.seqT {K : PySem.W.Frag} {F H : Hp} {a : Addr} {xs : List V} (e : Sub F H) (h : SqT K F a xs) : SqT K H a xs := by
  rcases h with (h | ⟨o, h⟩) | h
  · exact .inl (.inl (e _ _ h))
  · exact .inl (.inr ⟨o, e _ _ h⟩)
  · exact .inr h

section
variable {w : World} {K : PySem.W.Frag} {st st' : Option (Addr × Addr)} {F F' : Hp}
def StLe (st st' : Option (Addr × Addr)) : Prop := ∀ p, st = some p → st' = some p
theorem StLe.refl (a : Option (Addr × Addr)) : StLe a a := fun _ h => h
mutual
theorem Rep.mono (hs : StLe st st') (h : Sub F F') : ∀ {v : V} {d : D}, Rep w K st F v d → Rep w K st' F' v d
  | _, _, .non => .non
  | _, _, .bl b => .bl b
  | _, _, .int i => .int i
  | _, _, .str h => .str h
  | _, _, .tup a b => .tup (h.seqT a) (RepL.mono hs h b)
  | _, _, .lst a b => .lst (h _ _ a) (RepL.mono hs h b)
  | _, _, .scr a => .scr (h.seq a)
  | _, _, .dct a b c => .dct (h _ _ a) b (RepE.mono hs h c)
  | _, _, .st e => .st (hs _ e)
  | _, _, .cv v => .cv v
theorem RepL.mono (hs : StLe st st') (h : Sub F F') : ∀ {v : List V} {d : List D}, RepL w K st F v d → RepL w K st' F' v d
  | _, _, .nil => .nil
  | _, _, .cons a b => .cons (Rep.mono hs h a) (RepL.mono hs h b)
theorem RepE.mono (hs : StLe st st') (h : Sub F F') : ∀ {v : List DictEntry} {d : List (D × D)}, RepE w K st F v d → RepE w K st' F' v d
  | _, _, .nil => .nil
  | _, _, .cons a b c d e => .cons a (Rep.mono hs h b) c (Rep.mono hs h d) (RepE.mono hs h e)
end
theorem RepL.length : ∀ {vs : List V} {ds : List D}, RepL w K st F vs ds → vs.length = ds.length
  | _, _, .nil => rfl
  | _, _, .cons _ t => by rw [List.length_cons, List.length_cons, RepL.length t]
theorem RepL.get : ∀ {vs : List V} {ds : List D} {i : Nat} {v : V}, RepL w K st F vs ds → vs[i]? = some v → ∃ d, ds[i]? = some d ∧ Rep w K st F v d
  | _, _, i, _, .nil, e => by simp at e
  | _, _, 0, _, .cons r _, e => by
    simp only [List.getElem?_cons_zero, Option.some.injEq] at e
    subst e
    exact ⟨_, rfl, r⟩
  | _, _, i + 1, _, .cons _ t, e => RepL.get (i := i) t (by simpa using e)
theorem RepL.get' : ∀ {vs : List V} {ds : List D} {i : Nat} {d : D}, RepL w K st F vs ds → ds[i]? = some d → ∃ v, vs[i]? = some v ∧ Rep w K st F v d
  | _, _, i, _, .nil, e => by simp at e
  | _, _, 0, _, .cons r _, e => by
    simp only [List.getElem?_cons_zero, Option.some.injEq] at e
    subst e
    exact ⟨_, rfl, r⟩
  | _, _, i + 1, _, .cons _ t, e => RepL.get' (i := i) t (by simpa using e)
theorem RepL.append : ∀ {vs ws : List V} {ds es : List D}, RepL w K st F vs ds → RepL w K st F ws es → RepL w K st F (vs ++ ws) (ds ++ es)
  | _, _, _, _, .nil, h => h
  | _, _, _, _, .cons r t, h => .cons r (RepL.append t h)
theorem RepL.one {v : V} {d : D} (h : Rep w K st F v d) : RepL w K st F [v] [d] := .cons h .nil
theorem RepL.take : ∀ {vs : List V} {ds : List D} (n : Nat), RepL w K st F vs ds → RepL w K st F (vs.take n) (ds.take n)
  | _, _, 0, _ => .nil
  | _, _, _ + 1, .nil => .nil
  | _, _, n + 1, .cons r t => .cons r (RepL.take n t)
theorem RepL.drop : ∀ {vs : List V} {ds : List D} (n : Nat), RepL w K st F vs ds → RepL w K st F (vs.drop n) (ds.drop n)
  | _, _, 0, h => h
  | _, _, _ + 1, .nil => .nil
  | _, _, n + 1, .cons _ t => RepL.drop n t
theorem RepL.set {v : V} {d : D} (h : Rep w K st F v d) : ∀ {vs : List V} {ds : List D} (n : Nat), RepL w K st F vs ds → RepL w K st F (vs.set n v) (ds.set n d)
  | _, _, _, .nil => .nil
  | _, _, 0, .cons _ t => .cons h t
  | _, _, n + 1, .cons r t => .cons r (RepL.set h n t)
theorem RepL.erase : ∀ {vs : List V} {ds : List D} (n : Nat), RepL w K st F vs ds → RepL w K st F (vs.eraseIdx n) (ds.eraseIdx n)
  | _, _, _, .nil => .nil
  | _, _, 0, .cons _ t => t
  | _, _, n + 1, .cons r t => .cons r (RepL.erase n t)
theorem RepL.reverse : ∀ {vs : List V} {ds : List D}, RepL w K st F vs ds → RepL w K st F vs.reverse ds.reverse
  | _, _, .nil => .nil
  | _, _, .cons r t => by
    rw [List.reverse_cons, List.reverse_cons]
    exact RepL.append (RepL.reverse t) (.one r)
theorem RepL.dropLast {vs : List V} {ds : List D} (h : RepL w K st F vs ds) : RepL w K st F vs.dropLast ds.dropLast := by
  rw [List.dropLast_eq_take, List.dropLast_eq_take, h.length]
  exact h.take _
end

/-! ### states -/
inductive Own where
  | l (xs : List D) | k (kvs : List (D × D))
def Own.toD : Own → D
  | .l xs => .lst xs
  | .k kvs => .dct kvs
/-- a slot: not set; frozen data; the only reference to a list or dict -/
inductive Sl where
  | no | d (x : D) | o (x : Own)
/-- a result: frozen data; a new object; the object of a slot -/
inductive R where
  | d (x : D) | t (o : Own) | b (i : Nat)
/-- the laws' draw state -/
structure DS where
  cells : List Int
  seed : Int
structure S where
  env : List Sl
  ds : Option DS
/-- the ghost: what is frozen; where the draw state stands -/
structure Gh where
  F : Hp
  st : Option (Addr × Addr)

section
variable (w : World) (K : PySem.W.Frag)
/-- one level: the object itself in H, what is in it frozen -/
def OwnAt (H : Hp) (g : Gh) (a : Addr) : Own → Prop
  | .l xs => ∃ vs, H a = some (.lst vs) ∧ RepL w K g.st g.F vs xs
  | .k kvs => ∃ es ep, H a = some (dxO a es ep) ∧ DctOk w es.toList kvs ∧ RepE w K g.st g.F es.toList kvs
/-- .. not frozen -/
structure OwnF (H : Hp) (g : Gh) (a : Addr) (o : Own) : Prop where
  at_ : OwnAt w K H g a o
  nf : g.F a = none
inductive SlRep (H : Hp) (g : Gh) : Sl → Option V → Prop
  | no {x : Option V} : SlRep H g .no x
  | d {v : V} {x : D} : Rep w K g.st g.F v x → SlRep H g (.d x) (some v)
  | o {a : Addr} {x : Own} : OwnF w K H g a x → SlRep H g (.o x) (some (.ref a))
end
def OwnA (env : List Sl) (σ : St) (a : Addr) : Prop := ∃ (i : Nat) (o : Own), env[i]? = some (.o o) ∧ σ[i]? = some (some (.ref a))
def StA (g : Gh) (a : Addr) : Prop := ∃ sa ca, g.st = some (sa, ca) ∧ (a = sa ∨ a = ca)
def DSRep (H : Hp) (g : Gh) : Option DS → Prop
  | none => g.st = none
  | some d => ∃ sa ca, g.st = some (sa, ca) ∧ sa ≠ ca ∧ H sa = some (.lst [.ref ca, .int d.seed]) ∧ H ca = some (.lst (d.cells.map V.int)) ∧ g.F sa = none ∧ g.F ca = none
/-- what the heap must be, without the slots -/
structure GoodH (g : Gh) (ds : Option DS) (H : Hp) : Prop where
  fr : Sub g.F H
  ds : DSRep H g ds
section
variable (w : World) (K : PySem.W.Frag)
structure Good (g : Gh) (s : S) (σ : St) (H : Hp) : Prop where
  fr : Sub g.F H
  ds : DSRep H g s.ds
  len : s.env.length = σ.length
  env : ∀ (i : Nat) (sl : Sl) (x : Option V), s.env[i]? = some sl → σ[i]? = some x → SlRep w K H g sl x
  uniq : ∀ (i j : Nat) (o o' : Own) (a : Addr), s.env[i]? = some (.o o) → s.env[j]? = some (.o o') → σ[i]? = some (some (.ref a)) → σ[j]? = some (some (.ref a)) → i = j
  apart : ∀ a, OwnA s.env σ a → ¬ StA g a
end
def W (g : Gh) (env : List Sl) (σ : St) (a : Addr) : Prop := OwnA env σ a ∨ StA g a

/-- from (W, g, H) to (W', g', H'): only W is written; what is new is new -/
structure Ext (W : Addr → Prop) (g : Gh) (H : Hp) (W' : Addr → Prop) (g' : Gh) (H' : Hp) : Prop where
  pr : ∀ b o, H b = some o → ¬ W b → H' b = some o
  dom : ∀ b, H' b = none → H b = none
  mono : Sub g.F g'.F
  newF : ∀ b o, g.F b = none → g'.F b = some o → H b = none ∨ W b ∨ ∃ xs, H b = some (.tup xs)
  wsub : ∀ b, W' b → W b ∨ H b = none
  st : StLe g.st g'.st
theorem Ext.refl (W : Addr → Prop) (g : Gh) (H : Hp) : Ext W g H W g H :=
  ⟨fun _ _ h _ => h, fun _ h => h, Sub.refl _, fun b o h h' => (by rw [h] at h'; cases h'), fun _ h => .inl h, StLe.refl _⟩
theorem Ext.trans {W W1 W2 : Addr → Prop} {g g1 g2 : Gh} {H H1 H2 : Hp} (a : Ext W g H W1 g1 H1) (b : Ext W1 g1 H1 W2 g2 H2) : Ext W g H W2 g2 H2 where
  pr := fun c o h n => b.pr c o (a.pr c o h n) fun n1 => by
    rcases a.wsub c n1 with z | z
    · exact n z
    · rw [h] at z; cases z
  dom := fun c h => a.dom c (b.dom c h)
  mono := a.mono.trans b.mono
  newF := fun c o h h2 => by
    cases q : g1.F c with
    | some o1 => exact a.newF c o1 h q
    | none =>
      rcases b.newF c o q h2 with z | z | ⟨xs, z⟩
      · exact .inl (a.dom c z)
      · rcases a.wsub c z with y | y
        · exact .inr (.inl y)
        · exact .inl y
      · cases e : H c with
        | none => exact .inl rfl
        | some o' =>
          by_cases hw : W c
          · exact .inr (.inl hw)
          · have := a.pr c o' e hw
            rw [z] at this
            cases this
            exact .inr (.inr ⟨xs, rfl⟩)
  wsub := fun c h => by
    rcases b.wsub c h with z | z
    · exact a.wsub c z
    · exact .inr (a.dom c z)
  st := fun p h => b.st p (a.st p h)
/-- fewer may be written behind -/
theorem Ext.less {W W1 W2 : Addr → Prop} {g g1 : Gh} {H H1 : Hp} (a : Ext W g H W1 g1 H1) (h : ∀ b, W2 b → W1 b ∨ H1 b = none) : Ext W g H W2 g1 H1 :=
  ⟨a.pr, a.dom, a.mono, a.newF, fun b h2 => (h b h2).elim (a.wsub b) fun z => .inr (a.dom b z), a.st⟩
/-- more may be written ahead -/
theorem Ext.more {W W0 W1 : Addr → Prop} {g g1 : Gh} {H H1 : Hp} (a : Ext W g H W1 g1 H1) (h : ∀ b, W b → W0 b) (h1 : ∀ b, W1 b → W0 b ∨ H b = none) : Ext W0 g H W1 g1 H1 :=
  ⟨fun b o e n => a.pr b o e fun z => n (h b z), a.dom, a.mono, fun b o e e' => (a.newF b o e e').elim .inl fun z => z.elim (fun y => .inr (.inl (h b y))) fun y => .inr (.inr y), h1, a.st⟩

section
variable {w : World} {K : PySem.W.Frag} {H H1 : Hp} {g g1 : Gh} {a : Addr}
theorem OwnAt.there {o : Own} (h : OwnAt w K H g a o) : ∃ x, H a = some x ∧ (∀ xs, x ≠ .tup xs) := by
  cases o with
  | l xs => obtain ⟨vs, e, _⟩ := h; exact ⟨_, e, fun _ z => by cases z⟩
  | k kvs => obtain ⟨es, ep, e, _⟩ := h; exact ⟨_, e, fun _ z => by cases z⟩
/-- an own object that nobody wrote -/
theorem OwnF.ext {W W1 : Addr → Prop} {o : Own} (h : OwnF w K H g a o) (e : Ext W g H W1 g1 H1) (n : ¬ W a) : OwnF w K H1 g1 a o := by
  obtain ⟨x, hx, nt⟩ := h.at_.there
  refine ⟨?_, ?_⟩
  · cases o with
    | l xs => obtain ⟨vs, e1, r⟩ := h.at_; exact ⟨vs, e.pr _ _ e1 n, r.mono e.st e.mono⟩
    | k kvs => obtain ⟨es, ep, e1, r, r2⟩ := h.at_; exact ⟨es, ep, e.pr _ _ e1 n, r, r2.mono e.st e.mono⟩
  · cases q : g1.F a with
    | none => rfl
    | some u =>
      rcases e.newF a u h.nf q with z | z | ⟨xs, z⟩
      · rw [hx] at z; cases z
      · exact absurd z n
      · rw [hx] at z; cases z; exact absurd rfl (nt xs)
theorem StA.mono {g g' : Gh} (h : StLe g.st g'.st) {a : Addr} (x : StA g a) : StA g' a := let ⟨sa, ca, e, y⟩ := x; ⟨sa, ca, h _ e, y⟩
end

/-! ### results and readings -/
section
variable (w : World) (K : PySem.W.Frag)
/-- the value v is the result r; H0: the heap at the start -/
inductive RR (H0 : Hp) (g : Gh) (H : Hp) (s : S) (σ : St) : V → R → Prop
  | d {v : V} {x : D} : Rep w K g.st g.F v x → RR H0 g H s σ v (.d x)
  | t {a : Addr} {o : Own} : H0 a = none → OwnF w K H g a o → ¬ W g s.env σ a → RR H0 g H s σ (.ref a) (.t o)
  | b {v : V} {i : Nat} : σ[i]? = some (some v) → RR H0 g H s σ v (.b i)
end
theorem RR.step {w : World} {K : PySem.W.Frag} {H0 H H1 : Hp} {g g1 : Gh} {s s1 : S} {σ : St} {v : V} {r : R} (h : RR w K H0 g H s σ v r) (e : Ext (PD.W g s.env σ) g H (PD.W g1 s1.env σ) g1 H1) : RR w K H0 g1 H1 s1 σ v r := by
  cases h with
  | d h => exact .d (h.mono e.st e.mono)
  | t h0 ho hn =>
    refine .t h0 (ho.ext e hn) fun z => ?_
    obtain ⟨x, hx, _⟩ := ho.at_.there
    rcases e.wsub _ z with z | z
    · exact hn z
    · rw [hx] at z; cases z
  | b h => exact .b h
theorem RR.sooner {w : World} {K : PySem.W.Frag} {H0 H0' H : Hp} {g : Gh} {s : S} {σ : St} {v : V} {r : R} (h : RR w K H0 g H s σ v r) (e : ∀ b, H0 b = none → H0' b = none) : RR w K H0' g H s σ v r := by
  cases h with
  | d h => exact .d h
  | t h0 ho hn => exact .t (e _ h0) ho hn
  | b h => exact .b h

abbrev M (α : Type) := S → Option (α × S)
/-- an expression's reading by its meaning -/
def LE (w : World) (K : PySem.W.Frag) (m : M R) : TE := fun σ H Q => ∃ g s, Good w K g s σ H ∧ ∃ r s', m s = some (r, s') ∧
  ∀ v g' H', Good w K g' s' σ H' → Ext (PD.W g s.env σ) g H (PD.W g' s'.env σ) g' H' → RR w K H g' H' s' σ v r → Q v H'
def LT (w : World) (K : PySem.W.Frag) (m : M Bool) : TT := fun σ H Q => ∃ g s, Good w K g s σ H ∧ ∃ r s', m s = some (r, s') ∧
  ∀ g' H', Good w K g' s' σ H' → Ext (PD.W g s.env σ) g H (PD.W g' s'.env σ) g' H' → Q r H'
end PD
namespace PD
open PySem PySem.Spec PyProof.Rows L2

def Sl.peek : Sl → Option D
  | .d x => some x
  | .o y => some y.toD
  | .no => none
def R.peek (env : List Sl) : R → Option D
  | .d x => some x
  | .t o => some o.toD
  | .b i => (env[i]?).bind Sl.peek
def frzSl : Sl → Sl
  | .o o => .d o.toD
  | x => x
def frzAt (env : List Sl) (i : Nat) : List Sl := env.set i (frzSl (env.getD i .no))
/-- the heap F with the object at a taken in -/
def frzF (F H : Hp) (a : Addr) : Hp := fun b => if b = a then H a else F b
theorem frzF_same {F H : Hp} {a : Addr} : frzF F H a a = H a := by unfold frzF; rw [if_pos rfl]
theorem frzF_ne {F H : Hp} {a b : Addr} (h : b ≠ a) : frzF F H a b = F b := by unfold frzF; rw [if_neg h]
theorem frzF_sub {F H : Hp} {a : Addr} (h : Sub F H) : Sub (frzF F H a) H := fun b o e => by
  by_cases q : b = a
  · subst q; rw [frzF_same] at e; exact e
  · rw [frzF_ne q] at e; exact h b o e
theorem frzF_mono {F H : Hp} {a : Addr} (h : F a = none) : Sub F (frzF F H a) := fun b o e => by
  by_cases q : b = a
  · subst q; rw [h] at e; cases e
  · rw [frzF_ne q]; exact e

section
variable (w : World) (K : PySem.W.Frag)
/-- one level of the heap, the rest frozen -/
inductive Rep1 (H : Hp) (g : Gh) : V → D → Prop
  | non : Rep1 H g .non .non
  | bl (b : Bool) : Rep1 H g (.bl b) (.bl b)
  | int (i : Int) : Rep1 H g (.int i) (.int i)
  | str {l : List Nat} : StrG l → Rep1 H g (.str (sOf l)) (.str l)
  | tup {a : Addr} {vs : List V} {ds : List D} : SqT K g.F a vs → RepL w K g.st g.F vs ds → Rep1 H g (.ref a) (.tup ds)
  | lst {a : Addr} {vs : List V} {ds : List D} : H a = some (.lst vs) → RepL w K g.st g.F vs ds → Rep1 H g (.ref a) (.lst ds)
  | scr {a : Addr} {ns : List Int} : SqL K H a (ns.map V.int) → Rep1 H g (.ref a) (.scr ns)
  | dct {a : Addr} {es : Array DictEntry} {ep : Nat} {kvs : List (D × D)} : H a = some (dxO a es ep) → DctOk w es.toList kvs → RepE w K g.st g.F es.toList kvs → Rep1 H g (.ref a) (.dct kvs)
  | st {sa ca : Addr} : g.st = some (sa, ca) → Rep1 H g (.ref sa) .st
  | cv (v : V) : Rep1 H g v (.cv v)
inductive Rep1s (H : Hp) (g : Gh) : List V → List D → Prop
  | nil : Rep1s H g [] []
  | cons {v : V} {vs : List V} {d : D} {ds : List D} : Rep1 w K H g v d → Rep1s H g vs ds → Rep1s H g (v :: vs) (d :: ds)
/-- only new objects; the draw state stays -/
structure ExtP (g : Gh) (H : Hp) (g' : Gh) (H' : Hp) : Prop where
  same : Sub H H'
  mono : Sub g.F g'.F
  newF : ∀ b o, g.F b = none → g'.F b = some o → H b = none ∨ ∃ xs, H b = some (.tup xs)
  fr : Sub g'.F H'
  st : g'.st = g.st
/-- what a primitive gives -/
inductive RP (H : Hp) (g' : Gh) (H' : Hp) : V → R → Prop
  | d {v : V} {x : D} : Rep w K g'.st g'.F v x → RP H g' H' v (.d x)
  | t {a : Addr} {o : Own} : H a = none → OwnF w K H' g' a o → RP H g' H' (.ref a) (.t o)
end
section
variable {w : World} {K : PySem.W.Frag} {H H' : Hp} {g g' : Gh} {s : S} {σ : St}
theorem Rep.one1 (h : Sub g.F H) {v : V} {d : D} (r : Rep w K g.st g.F v d) : Rep1 w K H g v d := by
  cases r with
  | non => exact .non
  | bl b => exact .bl b
  | int i => exact .int i
  | str h => exact .str h
  | tup a b => exact .tup a b
  | lst a b => exact .lst (h _ _ a) b
  | scr a => exact .scr (h.seq a)
  | dct a b c => exact .dct (h _ _ a) b c
  | st e => exact .st e
  | cv v => exact .cv v
theorem OwnAt.rep1 {a : Addr} {o : Own} (h : OwnAt w K H g a o) : Rep1 w K H g (.ref a) o.toD := by
  cases o with
  | l xs => obtain ⟨vs, e, r⟩ := h; exact .lst e r
  | k kvs => obtain ⟨es, ep, e, r, r2⟩ := h; exact .dct e r r2
theorem SlRep.rep1 {sl : Sl} {x : Option V} {v : V} (h : SlRep w K H g sl x) (e : x = some v) (f : Sub g.F H) {d : D} (p : sl.peek = some d) : Rep1 w K H g v d := by
  cases h with
  | no => cases p
  | d r => cases e; cases p; exact r.one1 f
  | o r => cases e; cases p; exact r.at_.rep1
theorem RR.peek {H0 : Hp} {v : V} {r : R} {d : D} (G : Good w K g s σ H) (h : RR w K H0 g H s σ v r) (p : r.peek s.env = some d) : Rep1 w K H g v d := by
  cases h with
  | d h => cases p; exact h.one1 G.fr
  | t _ ho _ => cases p; exact ho.at_.rep1
  | b h =>
    rename_i i
    have p : (s.env[i]?).bind Sl.peek = some d := p
    cases q : s.env[i]? with
    | none => rw [q] at p; cases p
    | some sl =>
      rw [q] at p
      exact (G.env i sl (some v) q h).rep1 rfl G.fr p
theorem ExtP.refl (h : Sub g.F H) : ExtP g H g H := ⟨Sub.refl _, Sub.refl _, fun b o e e' => (by rw [e] at e'; cases e'), h, rfl⟩
theorem OwnF.pure {a : Addr} {o : Own} (h : OwnF w K H g a o) (e : ExtP g H g' H') : OwnF w K H' g' a o := by
  obtain ⟨x, hx, nt⟩ := h.at_.there
  have sl : StLe g.st g'.st := fun p q => by rw [e.st]; exact q
  refine ⟨?_, ?_⟩
  · cases o with
    | l xs => obtain ⟨vs, e1, r⟩ := h.at_; exact ⟨vs, e.same _ _ e1, r.mono sl e.mono⟩
    | k kvs => obtain ⟨es, ep, e1, r, r2⟩ := h.at_; exact ⟨es, ep, e.same _ _ e1, r, r2.mono sl e.mono⟩
  · cases q : g'.F a with
    | none => rfl
    | some u =>
      rcases e.newF a u h.nf q with z | ⟨xs, z⟩
      · rw [hx] at z; cases z
      · rw [hx] at z; cases z; exact absurd rfl (nt xs)
theorem SlRep.pure {sl : Sl} {x : Option V} (h : SlRep w K H g sl x) (e : ExtP g H g' H') : SlRep w K H' g' sl x := by
  have sl : StLe g.st g'.st := fun p q => by rw [e.st]; exact q
  cases h with
  | no => exact .no
  | d r => exact .d (r.mono sl e.mono)
  | o r => exact .o (r.pure e)
theorem W_tracked (G : Good w K g s σ H) {a : Addr} (h : PD.W g s.env σ a) : ∃ x, H a = some x ∧ ∀ xs, x ≠ .tup xs := by
  rcases h with ⟨i, o, e1, e2⟩ | ⟨sa, ca, e, hh⟩
  · have := G.env i _ _ e1 e2
    cases this with
    | o r => exact r.at_.there
  · have hd := G.ds
    cases q : s.ds with
    | none => rw [q] at hd; have hd : g.st = none := hd; rw [hd] at e; cases e
    | some d =>
      rw [q] at hd
      obtain ⟨sa', ca', e', _, h1, h2, _⟩ := hd
      rw [e] at e'; cases e'
      rcases hh with rfl | rfl
      · exact ⟨_, h1, fun _ z => by cases z⟩
      · exact ⟨_, h2, fun _ z => by cases z⟩
theorem W_ne (G : Good w K g s σ H) {a : Addr} (h : PD.W g s.env σ a) : H a ≠ none := by
  obtain ⟨x, e, _⟩ := W_tracked G h
  rw [e]; exact fun z => by cases z
theorem DSRep.pure {ds : Option DS} (h : DSRep H g ds) (e : ExtP g H g' H') : DSRep H' g' ds := by
  cases ds with
  | none => show g'.st = none; rw [e.st]; exact h
  | some d =>
    obtain ⟨sa, ca, e1, ne, h1, h2, f1, f2⟩ := h
    refine ⟨sa, ca, by rw [e.st]; exact e1, ne, e.same _ _ h1, e.same _ _ h2, ?_, ?_⟩
    · cases q : g'.F sa with
      | none => rfl
      | some u =>
        rcases e.newF sa u f1 q with z | ⟨xs, z⟩ <;> (rw [h1] at z; cases z)
    · cases q : g'.F ca with
      | none => rfl
      | some u =>
        rcases e.newF ca u f2 q with z | ⟨xs, z⟩ <;> (rw [h2] at z; cases z)
theorem StA_pure (e : ExtP g H g' H') {a : Addr} : StA g' a ↔ StA g a := by unfold StA; rw [e.st]
theorem Good.pure (G : Good w K g s σ H) (e : ExtP g H g' H') : Good w K g' s σ H' :=
  ⟨e.fr, G.ds.pure e, G.len, fun i sl x h1 h2 => (G.env i sl x h1 h2).pure e, G.uniq, fun a h n => G.apart a h ((StA_pure e).mp n)⟩
theorem Ext.ofP {env : List Sl} (e : ExtP g H g' H') : Ext (PD.W g env σ) g H (PD.W g' env σ) g' H' where
  pr := fun b o h _ => e.same b o h
  dom := fun b h => by
    cases q : H b with
    | none => rfl
    | some o => rw [e.same b o q] at h; cases h
  mono := e.mono
  newF := fun b o h h' => (e.newF b o h h').elim .inl fun z => .inr (.inr z)
  wsub := fun b h => .inl (h.elim .inl fun z => .inr ((StA_pure e).mp z))
  st := fun p q => by rw [e.st]; exact q
theorem RP.rr {v : V} {r : R} (G : Good w K g s σ H) (e : ExtP g H g' H') (h : RP w K H g' H' v r) : RR w K H g' H' s σ v r := by
  cases h with
  | d h => exact .d h
  | t h0 ho =>
    refine .t h0 ho fun z => ?_
    have z' : PD.W g s.env σ _ := z.elim .inl fun y => .inr ((StA_pure e).mp y)
    exact W_ne G z' h0
end

/-! ### primitives on values, lifted -/
section
variable (w : World) (K : PySem.W.Frag)
/-- a rule of two values does what f says -/
def Op2 (r : R2) (f : D → D → Option R) : Prop := ∀ (g : Gh) (H : Hp) (x y : V) (dx dy : D) (res : R) (Q : VK), Sub g.F H → Rep1 w K H g x dx → Rep1 w K H g y dy → f dx dy = some res →
  (∀ v g' H', ExtP g H g' H' → RP w K H g' H' v res → Q v H') → r x y H Q
def Op1 (r : V → Hp → VK → Prop) (f : D → Option R) : Prop := ∀ (g : Gh) (H : Hp) (x : V) (dx : D) (res : R) (Q : VK), Sub g.F H → Rep1 w K H g x dx → f dx = some res →
  (∀ v g' H', ExtP g H g' H' → RP w K H g' H' v res → Q v H') → r x H Q
def OpN (r : List V → Hp → VK → Prop) (f : List D → Option R) : Prop := ∀ (g : Gh) (H : Hp) (xs : List V) (ds : List D) (res : R) (Q : VK), Sub g.F H → Rep1s w K H g xs ds → f ds = some res →
  (∀ v g' H', ExtP g H g' H' → RP w K H g' H' v res → Q v H') → r xs H Q
/-- a method that reads -/
def OpM (r : V → List V → Hp → VK → Prop) (f : D → List D → Option R) : Prop := ∀ (g : Gh) (H : Hp) (x : V) (xs : List V) (dx : D) (ds : List D) (res : R) (Q : VK), Sub g.F H → Rep1 w K H g x dx → Rep1s w K H g xs ds → f dx ds = some res →
  (∀ v g' H', ExtP g H g' H' → RP w K H g' H' v res → Q v H') → r x xs H Q
end

def mRet {α : Type} (x : α) : M α := fun s => some (x, s)
def mBin (f : D → D → Option R) (a b : M R) : M R := fun s => (a s).bind fun p => (b p.2).bind fun q =>
  match p.1.peek q.2.env, q.1.peek q.2.env with
  | some x, some y => (f x y).map fun r => (r, q.2)
  | _, _ => none
def mUn (f : D → Option R) (a : M R) : M R := fun s => (a s).bind fun p => match p.1.peek p.2.env with
  | some x => (f x).map fun r => (r, p.2)
  | none => none
def mArgs : List (M R) → M (List R)
  | [] => fun s => some ([], s)
  | m :: ms => fun s => (m s).bind fun p => (mArgs ms p.2).bind fun q => some (p.1 :: q.1, q.2)
def peeks (env : List Sl) : List R → Option (List D)
  | [] => some []
  | r :: rs => match r.peek env, peeks env rs with
    | some x, some xs => some (x :: xs)
    | _, _ => none
def mPrim (f : List D → Option R) (as : M (List R)) : M R := fun s => (as s).bind fun p => match peeks p.2.env p.1 with
  | some xs => (f xs).map fun r => (r, p.2)
  | none => none
def mMeth (f : D → List D → Option R) (o : M R) (as : M (List R)) : M R := fun s => (o s).bind fun p => (as p.2).bind fun q =>
  match p.1.peek q.2.env, peeks q.2.env q.1 with
  | some x, some xs => (f x xs).map fun r => (r, q.2)
  | _, _ => none

section
variable (w : World) (K : PySem.W.Frag)
/-- several results; temporaries stand apart -/
inductive RRs (H0 : Hp) (g : Gh) (H : Hp) (s : S) (σ : St) : List V → List R → Prop
  | nil : RRs H0 g H s σ [] []
  | cons {v : V} {vs : List V} {r : R} {rs : List R} : RR w K H0 g H s σ v r → RRs H0 g H s σ vs rs →
      (∀ (a : Addr) (o : Own) (i : Nat) (o' : Own), v = .ref a → r = .t o → vs[i]? = some (.ref a) → rs[i]? = some (.t o') → False) → RRs H0 g H s σ (v :: vs) (r :: rs)
def LA (m : M (List R)) : TA := fun σ H Q => ∃ g s, Good w K g s σ H ∧ ∃ rs s', m s = some (rs, s') ∧
  ∀ vs g' H', Good w K g' s' σ H' → Ext (PD.W g s.env σ) g H (PD.W g' s'.env σ) g' H' → RRs w K H g' H' s' σ vs rs → Q vs H'
end
section
variable {w : World} {K : PySem.W.Frag}
theorem RRs.sooner {H0 H0' H : Hp} {g : Gh} {s : S} {σ : St} {vs : List V} {rs : List R} (h : RRs w K H0 g H s σ vs rs) (e : ∀ b, H0 b = none → H0' b = none) : RRs w K H0' g H s σ vs rs := by
  induction h with
  | nil => exact .nil
  | cons a _ c ih => exact .cons (a.sooner e) ih c
theorem RRs.get {H0 H : Hp} {g : Gh} {s : S} {σ : St} {vs : List V} {rs : List R} (h : RRs w K H0 g H s σ vs rs) : ∀ {i : Nat} {v : V} {r : R}, vs[i]? = some v → rs[i]? = some r → RR w K H0 g H s σ v r := by
  induction h with
  | nil => intro i v r e; simp at e
  | cons a _ c ih =>
    intro i v r e e2
    cases i with
    | zero =>
      simp only [List.getElem?_cons_zero, Option.some.injEq] at e e2
      subst e; subst e2; exact a
    | succ i =>
      simp only [List.getElem?_cons_succ] at e e2
      exact ih e e2
theorem RRs.length {H0 H : Hp} {g : Gh} {s : S} {σ : St} {vs : List V} {rs : List R} (h : RRs w K H0 g H s σ vs rs) : vs.length = rs.length := by
  induction h with
  | nil => rfl
  | cons _ _ _ ih => rw [List.length_cons, List.length_cons, ih]
theorem RRs.peeks {H0 H : Hp} {g : Gh} {s : S} {σ : St} {vs : List V} {rs : List R} (G : Good w K g s σ H) (h : RRs w K H0 g H s σ vs rs) : ∀ {ds : List D}, peeks s.env rs = some ds → Rep1s w K H g vs ds := by
  induction h with
  | nil => intro ds e; cases e; exact .nil
  | @cons v vs r rs a _ c ih =>
    intro ds e
    unfold PD.peeks at e
    split at e
    · rename_i x xs e1 e2
      cases e
      exact .cons (a.peek G e1) (ih e2)
    · cases e

theorem LE.use {m : M R} {σ : St} {H : Hp} {Q : VK} {g : Gh} {s : S} (G : Good w K g s σ H) {r : R} {s' : S} (e : m s = some (r, s'))
    (h : ∀ v g' H', Good w K g' s' σ H' → Ext (PD.W g s.env σ) g H (PD.W g' s'.env σ) g' H' → RR w K H g' H' s' σ v r → Q v H') : LE w K m σ H Q := ⟨g, s, G, r, s', e, h⟩

theorem tOp_LE {r : R2} {f : D → D → Option R} {a b : M R} (hr : Op2 w K r f) {σ : St} {H : Hp} {Q : VK} (h : LE w K (mBin f a b) σ H Q) : tOp r (LE w K a) (LE w K b) σ H Q := by
  obtain ⟨g, s, G, res, s', e, q⟩ := h
  unfold mBin at e
  cases ea : a s with
  | none => rw [ea] at e; cases e
  | some p =>
    obtain ⟨ra, s1⟩ := p
    rw [ea] at e
    simp only [Option.bind_some] at e
    cases eb : b s1 with
    | none => rw [eb] at e; cases e
    | some p2 =>
      obtain ⟨rb, s2⟩ := p2
      rw [eb] at e
      simp only [Option.bind_some] at e
      split at e
      · rename_i x y e1 e2
        cases ef : f x y with
        | none => rw [ef] at e; cases e
        | some res' =>
          rw [ef] at e
          simp only [Option.map_some, Option.some.injEq, Prod.mk.injEq] at e
          obtain ⟨rfl, rfl⟩ := e
          refine LE.use G ea fun v1 g1 H1 G1 E1 R1 => ?_
          refine LE.use G1 eb fun v2 g2 H2 G2 E2 R2 => ?_
          have R1' := R1.step E2
          refine hr g2 H2 v1 v2 x y _ Q G2.fr (R1'.peek G2 e1) (R2.peek G2 e2) ef fun v g3 H3 EP RPv => ?_
          refine q v g3 H3 (G2.pure EP) ((E1.trans E2).trans (Ext.ofP EP)) ?_
          exact (RPv.rr G2 EP).sooner fun b z => E1.dom b (E2.dom b z)
      · cases e
theorem tUn_LE {r : V → Hp → VK → Prop} {f : D → Option R} {a : M R} (hr : Op1 w K r f) {σ : St} {H : Hp} {Q : VK} (h : LE w K (mUn f a) σ H Q) : tUn r (LE w K a) σ H Q := by
  obtain ⟨g, s, G, res, s', e, q⟩ := h
  unfold mUn at e
  cases ea : a s with
  | none => rw [ea] at e; cases e
  | some p =>
    obtain ⟨ra, s1⟩ := p
    rw [ea] at e
    simp only [Option.bind_some] at e
    split at e
    · rename_i x e1
      cases ef : f x with
      | none => rw [ef] at e; cases e
      | some res' =>
        rw [ef] at e
        simp only [Option.map_some, Option.some.injEq, Prod.mk.injEq] at e
        obtain ⟨rfl, rfl⟩ := e
        refine LE.use G ea fun v1 g1 H1 G1 E1 R1 => ?_
        refine hr g1 H1 v1 x _ Q G1.fr (R1.peek G1 e1) ef fun v g3 H3 EP RPv => ?_
        exact q v g3 H3 (G1.pure EP) (E1.trans (Ext.ofP EP)) ((RPv.rr G1 EP).sooner fun b z => E1.dom b z)
    · cases e
theorem tPrim_LE {r : List V → Hp → VK → Prop} {f : List D → Option R} {as : M (List R)} (hr : OpN w K r f) {σ : St} {H : Hp} {Q : VK} (h : LE w K (mPrim f as) σ H Q) : LA w K as σ H fun vs H1 => r vs H1 Q := by
  obtain ⟨g, s, G, res, s', e, q⟩ := h
  unfold mPrim at e
  cases ea : as s with
  | none => rw [ea] at e; cases e
  | some p =>
    obtain ⟨ra, s1⟩ := p
    rw [ea] at e
    simp only [Option.bind_some] at e
    split at e
    · rename_i x e1
      cases ef : f x with
      | none => rw [ef] at e; cases e
      | some res' =>
        rw [ef] at e
        simp only [Option.map_some, Option.some.injEq, Prod.mk.injEq] at e
        obtain ⟨rfl, rfl⟩ := e
        refine ⟨g, s, G, ra, s1, ea, fun vs g1 H1 G1 E1 R1 => ?_⟩
        refine hr g1 H1 vs x _ Q G1.fr (R1.peeks G1 e1) ef fun v g3 H3 EP RPv => ?_
        exact q v g3 H3 (G1.pure EP) (E1.trans (Ext.ofP EP)) ((RPv.rr G1 EP).sooner fun b z => E1.dom b z)
    · cases e
theorem tMeth_LE {r : V → List V → Hp → VK → Prop} {f : D → List D → Option R} {o : M R} {as : M (List R)} (hr : OpM w K r f) {σ : St} {H : Hp} {Q : VK} (h : LE w K (mMeth f o as) σ H Q) : LE w K o σ H fun x H1 => LA w K as σ H1 fun vs H2 => r x vs H2 Q := by
  obtain ⟨g, s, G, res, s', e, q⟩ := h
  unfold mMeth at e
  cases ea : o s with
  | none => rw [ea] at e; cases e
  | some p =>
    obtain ⟨ra, s1⟩ := p
    rw [ea] at e
    simp only [Option.bind_some] at e
    cases eb : as s1 with
    | none => rw [eb] at e; cases e
    | some p2 =>
      obtain ⟨rb, s2⟩ := p2
      rw [eb] at e
      simp only [Option.bind_some] at e
      split at e
      · rename_i x xs e1 e2
        cases ef : f x xs with
        | none => rw [ef] at e; cases e
        | some res' =>
          rw [ef] at e
          simp only [Option.map_some, Option.some.injEq, Prod.mk.injEq] at e
          obtain ⟨rfl, rfl⟩ := e
          refine LE.use G ea fun v1 g1 H1 G1 E1 R1 => ?_
          refine ⟨g1, s1, G1, rb, s2, eb, fun vs g2 H2 G2 E2 R2 => ?_⟩
          have R1' := R1.step E2
          refine hr g2 H2 v1 vs x xs _ Q G2.fr (R1'.peek G2 e1) (R2.peeks G2 e2) ef fun v g3 H3 EP RPv => ?_
          refine q v g3 H3 (G2.pure EP) ((E1.trans E2).trans (Ext.ofP EP)) ?_
          exact (RPv.rr G2 EP).sooner fun b z => E1.dom b (E2.dom b z)
      · cases e
theorem LA_nil {σ : St} {H : Hp} {Q : List V → Hp → Prop} (h : LA w K (mArgs []) σ H Q) : tNil σ H Q := by
  obtain ⟨g, s, G, rs, s', e, q⟩ := h
  cases e
  exact q [] g H G (Ext.refl _ _ _) .nil
theorem LA_cons {m : M R} {ms : List (M R)} {σ : St} {H : Hp} {Q : List V → Hp → Prop} (h : LA w K (mArgs (m :: ms)) σ H Q) : tCons (LE w K m) (LA w K (mArgs ms)) σ H Q := by
  obtain ⟨g, s, G, rs, s', e, q⟩ := h
  unfold mArgs at e
  cases ea : m s with
  | none => rw [ea] at e; cases e
  | some p =>
    obtain ⟨ra, s1⟩ := p
    rw [ea] at e
    simp only [Option.bind_some] at e
    cases eb : mArgs ms s1 with
    | none => rw [eb] at e; cases e
    | some p2 =>
      obtain ⟨rb, s2⟩ := p2
      rw [eb] at e
      simp only [Option.bind_some, Option.some.injEq, Prod.mk.injEq] at e
      obtain ⟨rfl, rfl⟩ := e
      refine LE.use G ea fun v1 g1 H1 G1 E1 R1 => ?_
      refine ⟨g1, s1, G1, rb, s2, eb, fun vs g2 H2 G2 E2 R2 => ?_⟩
      refine q (v1 :: vs) g2 H2 G2 (E1.trans E2) (.cons (R1.step E2) (R2.sooner fun b z => E1.dom b z) fun a o i o' ev er e1 e2 => ?_)
      subst ev er
      have := R2.get e1 e2
      cases R1 with
      | t _ ho _ =>
        cases this with
        | t h0 _ _ =>
          obtain ⟨x, hx, _⟩ := ho.at_.there
          rw [hx] at h0; cases h0
end
end PD
namespace PD
open PySem PySem.Spec PyProof.Rows L2

/-! ### sharing -/
def mShare (r : R) : M D := fun s => match r with
  | .d x => some (x, s)
  | .t o => some (o.toD, s)
  | .b i => match s.env[i]? with
    | some (.d x) => some (x, s)
    | some (.o o) => some (o.toD, { s with env := s.env.set i (.d o.toD) })
    | _ => none
section
variable {w : World} {K : PySem.W.Frag} {H H' H0 : Hp} {g g' g0 : Gh} {s : S} {σ : St} {a : Addr} {o : Own}
abbrev frzG (g : Gh) (H : Hp) (a : Addr) : Gh := ⟨frzF g.F H a, g.st⟩
theorem OwnAt.mono (h : OwnAt w K H g a o) (hs : StLe g.st g'.st) (hm : Sub g.F g'.F) : OwnAt w K H g' a o := by
  cases o with
  | l xs => obtain ⟨vs, e1, r⟩ := h; exact ⟨vs, e1, r.mono hs hm⟩
  | k kvs => obtain ⟨es, ep, e1, r, r2⟩ := h; exact ⟨es, ep, e1, r, r2.mono hs hm⟩
theorem OwnF.rep (h : OwnF w K H g a o) : Rep w K (frzG g H a).st (frzG g H a).F (.ref a) o.toD := by
  have hm : Sub g.F (frzG g H a).F := frzF_mono h.nf
  cases o with
  | l xs =>
    obtain ⟨vs, e1, r⟩ := h.at_
    exact .lst (show frzF g.F H a a = _ by rw [frzF_same]; exact e1) (r.mono (StLe.refl _) hm)
  | k kvs =>
    obtain ⟨es, ep, e1, r, r2⟩ := h.at_
    exact .dct (show frzF g.F H a a = _ by rw [frzF_same]; exact e1) r (r2.mono (StLe.refl _) hm)
theorem OwnF.frz {b : Addr} {o' : Own} (h : OwnF w K H g b o') (hne : b ≠ a) (hn : g.F a = none) : OwnF w K H (frzG g H a) b o' :=
  ⟨h.at_.mono (StLe.refl _) (frzF_mono hn), by show frzF g.F H a b = none; rw [frzF_ne hne]; exact h.nf⟩
theorem DSRep.frz {ds : Option DS} (h : DSRep H g ds) (hs : ¬ StA g a) (hn : g.F a = none) : DSRep H (frzG g H a) ds := by
  cases ds with
  | none => exact h
  | some d =>
    obtain ⟨sa, ca, e1, ne, h1, h2, f1, f2⟩ := h
    refine ⟨sa, ca, e1, ne, h1, h2, ?_, ?_⟩
    · show frzF g.F H a sa = none
      rw [frzF_ne (fun e => hs ⟨sa, ca, e1, .inl e.symm⟩)]; exact f1
    · show frzF g.F H a ca = none
      rw [frzF_ne (fun e => hs ⟨sa, ca, e1, .inr e.symm⟩)]; exact f2
theorem Good.frz {env' : List Sl} (G : Good w K g s σ H) (ho : OwnF w K H g a o) (hs : ¬ StA g a) (hl : env'.length = s.env.length)
    (he : ∀ (i : Nat) (sl' : Sl), env'[i]? = some sl' → (s.env[i]? = some sl' ∧ (∀ x, sl' = .o x → σ[i]? ≠ some (some (.ref a)))) ∨ (sl' = .d o.toD ∧ σ[i]? = some (some (.ref a)))) :
    Good w K (frzG g H a) { s with env := env' } σ H where
  fr := frzF_sub G.fr
  ds := G.ds.frz hs ho.nf
  len := by rw [← G.len]; exact hl
  env := fun i sl' x h1 h2 => by
    have hm : Sub g.F (frzG g H a).F := frzF_mono ho.nf
    rcases he i sl' h1 with ⟨h3, h4⟩ | ⟨rfl, h4⟩
    · have := G.env i sl' x h3 h2
      cases this with
      | no => exact .no
      | d r => exact .d (r.mono (StLe.refl _) hm)
      | o r =>
        rename_i b y
        refine .o (r.frz (fun e => ?_) ho.nf)
        subst e
        exact h4 y rfl h2
    · rw [h2] at h4
      cases h4
      exact .d ho.rep
  uniq := fun i j o1 o2 b h1 h2 h3 h4 => by
    rcases he i _ h1 with ⟨h5, _⟩ | ⟨e, _⟩
    · rcases he j _ h2 with ⟨h6, _⟩ | ⟨e, _⟩
      · exact G.uniq i j o1 o2 b h5 h6 h3 h4
      · cases e
    · cases e
  apart := fun b ⟨i, x, h1, h2⟩ n => by
    rcases he i _ h1 with ⟨h5, _⟩ | ⟨e, _⟩
    · exact G.apart b ⟨i, x, h5, h2⟩ n
    · cases e
theorem Ext.frz {W0 W1 W2 : Addr → Prop} (E : Ext W0 g0 H0 W1 g H) (ha : H0 a = none ∨ W0 a) (hw : ∀ b, W2 b → W1 b) (hn : g.F a = none) : Ext W0 g0 H0 W2 (frzG g H a) H where
  pr := E.pr
  dom := E.dom
  mono := E.mono.trans (frzF_mono hn)
  newF := fun b o h h' => by
    by_cases q : b = a
    · subst q; exact ha.elim .inl fun z => .inr (.inl z)
    · have h' : frzF g.F H a b = some o := h'
      rw [frzF_ne q] at h'
      exact E.newF b o h h'
  wsub := fun b h => E.wsub b (hw b h)
  st := E.st
theorem share_ok {W0 : Addr → Prop} {v : V} {r : R} {d : D} {s' : S} (G : Good w K g s σ H) (h : RR w K H0 g H s σ v r) (E : Ext W0 g0 H0 (PD.W g s.env σ) g H) (e : mShare r s = some (d, s')) :
    ∃ g', Good w K g' s' σ H ∧ Ext W0 g0 H0 (PD.W g' s'.env σ) g' H ∧ Rep w K g'.st g'.F v d ∧ Sub g.F g'.F ∧ g'.st = g.st := by
  cases h with
  | d h => cases e; exact ⟨g, G, E, h, Sub.refl _, rfl⟩
  | t h0 ho hn =>
    cases e
    rename_i a o
    refine ⟨frzG g H a, ?_, E.frz (.inl h0) (fun b z => z) ho.nf, ho.rep, frzF_mono ho.nf, rfl⟩
    have := G.frz (env' := s.env) ho (fun z => hn (.inr z)) rfl (fun i sl' h1 => .inl ⟨h1, fun x ex h2 => hn (.inl ⟨i, x, by rw [← ex]; exact h1, h2⟩)⟩)
    exact this
  | b hσ =>
    rename_i i
    unfold mShare at e
    simp only at e
    split at e
    · rename_i x hx
      cases e
      have := G.env i _ _ hx hσ
      cases this with
      | d r => exact ⟨g, G, E, r, Sub.refl _, rfl⟩
    · rename_i o hx
      cases e
      have sr := G.env i _ _ hx hσ
      cases sr with
      | o ho =>
        rename_i a
        have hst : ¬ StA g a := G.apart a ⟨i, o, hx, hσ⟩
        have hW : W0 a ∨ H0 a = none := E.wsub a (.inl ⟨i, o, hx, hσ⟩)
        have hi : i < s.env.length := (List.getElem?_eq_some_iff.mp hx).1
        have key : ∀ (j : Nat) (sl' : Sl), (s.env.set i (.d o.toD))[j]? = some sl' → (s.env[j]? = some sl' ∧ (∀ x, sl' = .o x → σ[j]? ≠ some (some (.ref a)))) ∨ (sl' = .d o.toD ∧ σ[j]? = some (some (.ref a))) := fun j sl' h1 => by
          by_cases hj : i = j
          · subst hj
            rw [List.getElem?_set_self hi] at h1
            cases h1
            exact .inr ⟨rfl, hσ⟩
          · rw [List.getElem?_set_ne hj] at h1
            refine .inl ⟨h1, fun x ex h2 => ?_⟩
            subst ex
            exact hj (G.uniq i j o x a hx h1 hσ h2)
        refine ⟨frzG g H a, G.frz ho hst (by rw [List.length_set]) key, E.frz hW.symm (fun b z => ?_) ho.nf, ho.rep, frzF_mono ho.nf, rfl⟩
        rcases z with ⟨j, x, h1, h2⟩ | z
        · rcases key j _ h1 with ⟨h3, _⟩ | ⟨e, _⟩
          · exact .inl ⟨j, x, h3, h2⟩
          · cases e
        · exact .inr z
    · cases e
end

/-! ### lists of shared data: displays -/
def mShs : List (M R) → M (List D)
  | [] => fun s => some ([], s)
  | m :: ms => fun s => (m s).bind fun p => (mShare p.1 p.2).bind fun q => (mShs ms q.2).bind fun t => some (q.1 :: t.1, t.2)
section
variable (w : World) (K : PySem.W.Frag)
def LD (m : M (List D)) : TA := fun σ H Q => ∃ g s, Good w K g s σ H ∧ ∃ ds s', m s = some (ds, s') ∧
  ∀ vs g' H', Good w K g' s' σ H' → Ext (PD.W g s.env σ) g H (PD.W g' s'.env σ) g' H' → RepL w K g'.st g'.F vs ds → Q vs H'
end
def mTup (ms : List (M R)) : M R := fun s => (mShs ms s).bind fun p => if p.1.length ≤ sizeLine then some (.d (.tup p.1), p.2) else none
def mLst (ms : List (M R)) : M R := fun s => (mShs ms s).bind fun p => if p.1.length ≤ sizeLine then some (.t (.l p.1), p.2) else none
section
variable {w : World} {K : PySem.W.Frag}
theorem LD_nil {σ : St} {H : Hp} {Q : List V → Hp → Prop} (h : LD w K (mShs []) σ H Q) : tNil σ H Q := by
  obtain ⟨g, s, G, rs, s', e, q⟩ := h
  cases e
  exact q [] g H G (Ext.refl _ _ _) .nil
theorem LD_cons {m : M R} {ms : List (M R)} {σ : St} {H : Hp} {Q : List V → Hp → Prop} (h : LD w K (mShs (m :: ms)) σ H Q) : tCons (LE w K m) (LD w K (mShs ms)) σ H Q := by
  obtain ⟨g, s, G, rs, s', e, q⟩ := h
  unfold mShs at e
  cases ea : m s with
  | none => rw [ea] at e; cases e
  | some p =>
    obtain ⟨ra, s1⟩ := p
    rw [ea] at e
    simp only [Option.bind_some] at e
    cases eb : mShare ra s1 with
    | none => rw [eb] at e; cases e
    | some p2 =>
      obtain ⟨da, s2⟩ := p2
      rw [eb] at e
      simp only [Option.bind_some] at e
      cases ec : mShs ms s2 with
      | none => rw [ec] at e; cases e
      | some p3 =>
        obtain ⟨ds, s3⟩ := p3
        rw [ec] at e
        simp only [Option.bind_some, Option.some.injEq, Prod.mk.injEq] at e
        obtain ⟨rfl, rfl⟩ := e
        refine LE.use G ea fun v1 g1 H1 G1 E1 R1 => ?_
        obtain ⟨g2, G2, E2, rep, hm, hst⟩ := share_ok G1 R1 E1 eb
        refine ⟨g2, s2, G2, ds, s3, ec, fun vs g3 H3 G3 E3 R3 => ?_⟩
        exact q (v1 :: vs) g3 H3 G3 (E2.trans E3) (.cons (rep.mono E3.st E3.mono) R3)
/-- a new object -/
theorem ExtP.new {g : Gh} {H : Hp} {p : Addr} {o : HO} (hf : Sub g.F H) (hp : H p = none) : ExtP g H g (upd H p o) where
  same := fun b x e => by rw [upd_ne (ne_of_none e hp)]; exact e
  mono := Sub.refl _
  newF := fun b x e e' => by rw [e] at e'; cases e'
  fr := fun b x e => by rw [upd_ne (ne_of_none (hf b x e) hp)]; exact hf b x e
  st := rfl
theorem Sub.none {F H : Hp} (h : Sub F H) {p : Addr} (e : H p = none) : F p = none := by
  cases q : F p with
  | none => rfl
  | some o => rw [h p o q] at e; cases e
/-- .. frozen at once -/
theorem ExtP.newF' {g : Gh} {H : Hp} {p : Addr} {o : HO} (hf : Sub g.F H) (hp : H p = none) : ExtP g H (frzG g (upd H p o) p) (upd H p o) where
  same := (ExtP.new hf hp).same
  mono := frzF_mono (hf.none hp)
  newF := fun b x e e' => by
    by_cases q : b = p
    · subst q; exact .inl hp
    · have e' : frzF g.F (upd H p o) p b = some x := e'
      rw [frzF_ne q, e] at e'; cases e'
  fr := frzF_sub (ExtP.new hf hp).fr
  st := rfl
theorem tTup_LE {ms : List (M R)} {σ : St} {H : Hp} {Q : VK} (h : LE w K (mTup ms) σ H Q) : tTup (LD w K (mShs ms)) σ H Q := by
  obtain ⟨g, s, G, res, s', e, q⟩ := h
  unfold mTup at e
  cases ea : mShs ms s with
  | none => rw [ea] at e; cases e
  | some p =>
    obtain ⟨ds, s1⟩ := p
    rw [ea] at e
    simp only [Option.bind_some] at e
    split at e
    · rename_i hl
      simp only [Option.some.injEq, Prod.mk.injEq] at e
      obtain ⟨rfl, rfl⟩ := e
      refine ⟨g, s, G, ds, s1, ea, fun vs g1 H1 G1 E1 R1 => ⟨by rw [R1.length]; exact hl, fun p hp => ?_⟩⟩
      have EP : ExtP g1 H1 (frzG g1 (upd H1 p (.tup vs)) p) (upd H1 p (.tup vs)) := ExtP.newF' G1.fr hp
      have rp : Rep w K g1.st (frzF g1.F (upd H1 p (.tup vs)) p) (.ref p) (.tup ds) :=
        Rep.tup (SqT.of (show frzF g1.F (upd H1 p (.tup vs)) p p = some (.tup vs) by rw [frzF_same, upd_same])) (R1.mono (StLe.refl _) EP.mono)
      exact q (.ref p) _ _ (G1.pure EP) (E1.trans (Ext.ofP EP)) (.d rp)
    · cases e
theorem tLst_LE {ms : List (M R)} {σ : St} {H : Hp} {Q : VK} (h : LE w K (mLst ms) σ H Q) : tLst (LD w K (mShs ms)) σ H Q := by
  obtain ⟨g, s, G, res, s', e, q⟩ := h
  unfold mLst at e
  cases ea : mShs ms s with
  | none => rw [ea] at e; cases e
  | some p =>
    obtain ⟨ds, s1⟩ := p
    rw [ea] at e
    simp only [Option.bind_some] at e
    split at e
    · rename_i hl
      simp only [Option.some.injEq, Prod.mk.injEq] at e
      obtain ⟨rfl, rfl⟩ := e
      refine ⟨g, s, G, ds, s1, ea, fun vs g1 H1 G1 E1 R1 => ⟨by rw [R1.length]; exact hl, fun p hp => ?_⟩⟩
      have EP : ExtP g1 H1 g1 (upd H1 p (.lst vs)) := ExtP.new G1.fr hp
      have hr : RP w K H1 g1 (upd H1 p (.lst vs)) (.ref p) (.t (.l ds)) := .t hp ⟨⟨vs, upd_same, R1⟩, G1.fr.none hp⟩
      exact q (.ref p) _ _ (G1.pure EP) (E1.trans (Ext.ofP EP)) ((hr.rr G1 EP).sooner fun b z => E1.dom b z)
    · cases e

/-! ### names, constants, tests -/
end
def mVar (i : Nat) : M R := fun s => match s.env[i]? with
  | some (.d x) => some (.d x, s)
  | some (.o _) => some (.b i, s)
  | _ => none
def mC (d : D) : M R := fun s => some (.d d, s)
def mIf (t : M Bool) (a b : M R) : M R := fun s => (t s).bind fun p => if p.1 = true then a p.2 else b p.2
def R.bl? : R → Option Bool
  | .d (.bl k) => some k
  | _ => none
def mTest (m : M R) : M Bool := fun s => (m s).bind fun p => (p.1.bl?).map fun k => (k, p.2)
def truD : D → Option Bool
  | .non => some false
  | .bl b => some b
  | .int i => some (i != 0)
  | .str l => some (!l.isEmpty)
  | .tup l => some (!l.isEmpty)
  | .lst l => some (!l.isEmpty)
  | _ => none
def mTru (m : M R) : M Bool := fun s => (m s).bind fun p => ((p.1.peek p.2.env).bind truD).map fun k => (k, p.2)
def mAnd (a b : M Bool) : M Bool := fun s => (a s).bind fun p => if p.1 = true then b p.2 else some (false, p.2)
def mOr (a b : M Bool) : M Bool := fun s => (a s).bind fun p => if p.1 = true then some (true, p.2) else b p.2
def mNot (a : M Bool) : M Bool := fun s => (a s).bind fun p => some (!p.1, p.2)
/-- a test as a value -/
def mBl (a : M Bool) : M R := fun s => (a s).bind fun p => some (.d (.bl p.1), p.2)
section
variable {w : World} {K : PySem.W.Frag} {σ : St} {H : Hp}
theorem tVar_LE {i : Nat} {Q : VK} (h : LE w K (mVar i) σ H Q) : tVar i σ H Q := by
  obtain ⟨g, s, G, res, s', e, q⟩ := h
  unfold mVar at e
  split at e
  · rename_i x hx
    cases e
    have hi := (List.getElem?_eq_some_iff.mp hx).1
    rw [G.len] at hi
    have := G.env i _ _ hx (List.getElem?_eq_getElem hi)
    generalize he : σ[i] = sv at this
    cases this with
    | d r =>
      rename_i v
      refine ⟨v, by rw [List.getElem?_eq_getElem hi, he], q v g H G (Ext.refl _ _ _) (.d r)⟩
  · rename_i x hx
    cases e
    have hi := (List.getElem?_eq_some_iff.mp hx).1
    rw [G.len] at hi
    have := G.env i _ _ hx (List.getElem?_eq_getElem hi)
    generalize he : σ[i] = sv at this
    cases this with
    | o r =>
      rename_i a
      have e1 : σ[i]? = some (some (.ref a)) := by rw [List.getElem?_eq_getElem hi, he]
      exact ⟨.ref a, e1, q _ g H G (Ext.refl _ _ _) (.b e1)⟩
  · cases e
theorem tC_LE {v : V} {d : D} (hr : ∀ st F, Rep w K st F v d) {Q : VK} (h : LE w K (mC d) σ H Q) : tC v σ H Q := by
  obtain ⟨g, s, G, res, s', e, q⟩ := h
  cases e
  exact q v g H G (Ext.refl _ _ _) (.d (hr _ _))
theorem R.bl_eq {r : R} {k : Bool} (h : r.bl? = some k) : r = .d (.bl k) := by
  cases r with
  | d x => cases x <;> first | (cases h; rfl) | cases h
  | t o => cases h
  | b i => cases h
theorem tTest_LT {m : M R} {Q : Bool → Hp → Prop} (h : LT w K (mTest m) σ H Q) : tTest (LE w K m) σ H Q := by
  obtain ⟨g, s, G, res, s', e, q⟩ := h
  unfold mTest at e
  cases ea : m s with
  | none => rw [ea] at e; cases e
  | some p =>
    obtain ⟨r, s1⟩ := p
    rw [ea] at e
    simp only [Option.bind_some] at e
    cases er : r.bl? with
    | none => rw [er] at e; cases e
    | some k =>
      rw [er] at e
      simp only [Option.map_some, Option.some.injEq, Prod.mk.injEq] at e
      obtain ⟨rfl, rfl⟩ := e
      have er := R.bl_eq er
      subst er
      refine LE.use G ea fun v g1 H1 G1 E1 R1 => ?_
      cases R1 with
      | d h => cases h; exact ⟨_, rfl, q g1 H1 G1 E1⟩
theorem tru_ok {g : Gh} {v : V} {d : D} {k : Bool} (hf : Sub g.F H) (h : Rep1 w K H g v d) (e : truD d = some k) : TruV K v H k := by
  cases h with
  | non => cases e; rfl
  | bl b => cases e; rfl
  | int i => cases e; rfl
  | @str l hl =>
    cases e
    refine ⟨by show l.toArray.size ≤ _; simpa using hl.1, ?_⟩
    show (!l.isEmpty) = (((l.toArray.size : Nat) : Int) != 0)
    cases l with
    | nil => rfl
    | cons a b =>
      simp only [List.isEmpty_cons, Bool.not_false, List.size_toArray, List.length_cons]
      symm
      rw [bne_iff_ne]
      omega
  | tup hq hr => cases e; exact .inr (.inl ⟨_, hf.seqT hq, by cases hr <;> rfl⟩)
  | lst hq hr => cases e; exact .inl ⟨_, SqL.of hq, by cases hr <;> rfl⟩
  | scr _ => cases e
  | dct _ _ _ => cases e
  | st _ => cases e
  | cv _ => cases e
theorem mTru_LT {m : M R} {Q : Bool → Hp → Prop} (h : LT w K (mTru m) σ H Q) : LE w K m σ H fun x H' => ∃ k, TruV K x H' k ∧ Q k H' := by
  obtain ⟨g, s, G, res, s', e, q⟩ := h
  unfold mTru at e
  cases ea : m s with
  | none => rw [ea] at e; cases e
  | some p =>
    obtain ⟨r, s1⟩ := p
    rw [ea] at e
    simp only [Option.bind_some] at e
    cases er : r.peek s1.env with
    | none => rw [er] at e; cases e
    | some d =>
      rw [er] at e
      simp only [Option.bind_some] at e
      cases ed : truD d with
      | none => rw [ed] at e; cases e
      | some k =>
        rw [ed] at e
        simp only [Option.map_some, Option.some.injEq, Prod.mk.injEq] at e
        obtain ⟨rfl, rfl⟩ := e
        exact LE.use G ea fun v g1 H1 G1 E1 R1 => ⟨k, tru_ok G1.fr (R1.peek G1 er) ed, q g1 H1 G1 E1⟩
theorem LT.mono {m : M Bool} {Q Q' : Bool → Hp → Prop} (h : LT w K m σ H Q) (hq : ∀ b H, Q b H → Q' b H) : LT w K m σ H Q' :=
  let ⟨g, s, G, r, s', e, q⟩ := h
  ⟨g, s, G, r, s', e, fun g' H' a b => hq _ _ (q g' H' a b)⟩
theorem tIf_LE {t : M Bool} {a b : M R} {Q : VK} (h : LE w K (mIf t a b) σ H Q) : tIf (LT w K t) (LE w K a) (LE w K b) σ H Q := by
  obtain ⟨g, s, G, res, s', e, q⟩ := h
  unfold mIf at e
  cases ea : t s with
  | none => rw [ea] at e; cases e
  | some p =>
    obtain ⟨k, s1⟩ := p
    rw [ea] at e
    simp only [Option.bind_some] at e
    refine ⟨g, s, G, k, s1, ea, fun g1 H1 G1 E1 => ?_⟩
    cases k with
    | true =>
      rw [if_pos rfl] at e ⊢
      exact LE.use G1 e fun v g2 H2 G2 E2 R2 => q v g2 H2 G2 (E1.trans E2) (R2.sooner E1.dom)
    | false =>
      rw [if_neg Bool.false_ne_true] at e ⊢
      exact LE.use G1 e fun v g2 H2 G2 E2 R2 => q v g2 H2 G2 (E1.trans E2) (R2.sooner E1.dom)
theorem tAnd_LT {a b : M Bool} {Q : Bool → Hp → Prop} (h : LT w K (mAnd a b) σ H Q) : tAnd (LT w K a) (LT w K b) σ H Q := by
  obtain ⟨g, s, G, res, s', e, q⟩ := h
  unfold mAnd at e
  cases ea : a s with
  | none => rw [ea] at e; cases e
  | some p =>
    obtain ⟨k, s1⟩ := p
    rw [ea] at e
    simp only [Option.bind_some] at e
    refine ⟨g, s, G, k, s1, ea, fun g1 H1 G1 E1 => ?_⟩
    cases k with
    | true =>
      rw [if_pos rfl] at e ⊢
      exact ⟨g1, s1, G1, _, _, e, fun g2 H2 G2 E2 => q g2 H2 G2 (E1.trans E2)⟩
    | false =>
      rw [if_neg Bool.false_ne_true] at e ⊢
      cases e
      exact q g1 H1 G1 E1
theorem tOr_LT {a b : M Bool} {Q : Bool → Hp → Prop} (h : LT w K (mOr a b) σ H Q) : tOr (LT w K a) (LT w K b) σ H Q := by
  obtain ⟨g, s, G, res, s', e, q⟩ := h
  unfold mOr at e
  cases ea : a s with
  | none => rw [ea] at e; cases e
  | some p =>
    obtain ⟨k, s1⟩ := p
    rw [ea] at e
    simp only [Option.bind_some] at e
    refine ⟨g, s, G, k, s1, ea, fun g1 H1 G1 E1 => ?_⟩
    cases k with
    | false =>
      rw [if_neg Bool.false_ne_true] at e ⊢
      exact ⟨g1, s1, G1, _, _, e, fun g2 H2 G2 E2 => q g2 H2 G2 (E1.trans E2)⟩
    | true =>
      rw [if_pos rfl] at e ⊢
      cases e
      exact q g1 H1 G1 E1
theorem tNot_LT {a : M Bool} {Q : Bool → Hp → Prop} (h : LT w K (mNot a) σ H Q) : tNot (LT w K a) σ H Q := by
  obtain ⟨g, s, G, res, s', e, q⟩ := h
  unfold mNot at e
  cases ea : a s with
  | none => rw [ea] at e; cases e
  | some p =>
    obtain ⟨k, s1⟩ := p
    rw [ea] at e
    simp only [Option.bind_some, Option.some.injEq, Prod.mk.injEq] at e
    obtain ⟨rfl, rfl⟩ := e
    exact ⟨g, s, G, k, s1, ea, fun g1 H1 G1 E1 => q g1 H1 G1 E1⟩
end
end PD
namespace PD
open PySem PySem.Spec PyProof.Rows L2
open Classical in
/-- the heap F with the objects of P taken in -/
noncomputable def frzP (F H : Hp) (P : Addr → Prop) : Hp := fun b => if P b then H b else F b
theorem frzP_in {F H : Hp} {P : Addr → Prop} {a : Addr} (h : P a) : frzP F H P a = H a := by unfold frzP; rw [if_pos h]
theorem frzP_out {F H : Hp} {P : Addr → Prop} {a : Addr} (h : ¬ P a) : frzP F H P a = F a := by unfold frzP; rw [if_neg h]
theorem frzP_sub {F H : Hp} {P : Addr → Prop} (h : Sub F H) : Sub (frzP F H P) H := fun b o e => by
  by_cases q : P b
  · rw [frzP_in q] at e; exact e
  · rw [frzP_out q] at e; exact h b o e
theorem frzP_mono {F H : Hp} {P : Addr → Prop} (h : ∀ a, P a → F a = none) : Sub F (frzP F H P) := fun b o e => by
  by_cases q : P b
  · rw [h b q] at e; cases e
  · rw [frzP_out q]; exact e

abbrev Fn := List D → Option DS → Option (R × Option DS)
section
variable (w : World) (K : PySem.W.Frag)
/-- what a def hands back: W0 was writable, H0 the heap at its start -/
inductive RF (W0 : Addr → Prop) (H0 : Hp) (g : Gh) (H : Hp) : V → R → Prop
  | d {v : V} {x : D} : Rep w K g.st g.F v x → RF W0 H0 g H v (.d x)
  | t {a : Addr} {o : Own} : (H0 a = none ∨ W0 a) → OwnF w K H g a o → ¬ StA g a → RF W0 H0 g H (.ref a) (.t o)
/-- a def's promise: it does what fn says -/
def spF (fn : Fn) (n : Nat) : Sp := fun vs H Q _ => ∃ g ds xs, GoodH g ds H ∧ RepL w K g.st g.F vs xs ∧ vs.length = n ∧ ∃ r ds', fn xs ds = some (r, ds') ∧
  ∀ v g' H', Ext (StA g) g H (StA g') g' H' → GoodH g' ds' H' → RF w K (StA g) H g' H' v r → Q v H'
end
def frzR (env : List Sl) : R → List Sl
  | .b i => frzAt env i
  | .d _ => env
  | .t _ => env
def frzAll (env : List Sl) (rs : List R) : List Sl := rs.foldl frzR env
def scalD : D → Bool
  | .non => true
  | .bl _ => true
  | .int _ => true
  | .str _ => true
  | _ => false
def callR (env : List Sl) (rs : List R) (q : R × Option DS) : Option (R × S) := match q.1 with
  | .d x => if scalD x = true then some (.d x, ⟨env, q.2⟩) else some (.d x, ⟨frzAll env rs, q.2⟩)
  | .t o => some (.t o, ⟨frzAll env rs, q.2⟩)
  | .b _ => none
def mCall (fn : Fn) (as : M (List R)) : M R := fun s => (as s).bind fun p => (peeks p.2.env p.1).bind fun xs => (fn xs p.2.ds).bind fun q => callR p.2.env p.1 q
theorem frzAt_len (env : List Sl) (i : Nat) : (frzAt env i).length = env.length := by unfold frzAt; rw [List.length_set]
theorem frzAll_len : ∀ (rs : List R) (env : List Sl), (frzAll env rs).length = env.length
  | [], _ => rfl
  | r :: rs, env => by
    show (frzAll (frzR env r) rs).length = _
    rw [frzAll_len rs]
    cases r <;> first | rfl | exact frzAt_len _ _
theorem frzAt_at {env : List Sl} {i j : Nat} {sl : Sl} (h : (frzAt env i)[j]? = some sl) : (env[j]? = some sl ∧ (∀ o, sl = .o o → j ≠ i)) ∨ (∃ o, env[j]? = some (.o o) ∧ sl = .d o.toD ∧ j = i) := by
  unfold frzAt at h
  by_cases e : i = j
  · subst e
    have hi : i < env.length := by
      have := (List.getElem?_eq_some_iff.mp h).1
      simpa using this
    rw [List.getElem?_set_self hi] at h
    have eg : env.getD i .no = env[i] := by simp [List.getD, hi]
    rw [eg] at h
    cases q : env[i] with
    | no => rw [q] at h; cases h; exact .inl ⟨(by rw [List.getElem?_eq_getElem hi, q]; rfl), fun o z => by cases z⟩
    | d x => rw [q] at h; cases h; exact .inl ⟨(by rw [List.getElem?_eq_getElem hi, q]; rfl), fun o z => by cases z⟩
    | o x => rw [q] at h; cases h; exact .inr ⟨x, by rw [List.getElem?_eq_getElem hi, q], rfl, rfl⟩
  · rw [List.getElem?_set_ne e] at h
    exact .inl ⟨h, fun _ _ z => e z.symm⟩
theorem frzAll_at : ∀ {rs : List R} {env : List Sl} {j : Nat} {sl : Sl}, (frzAll env rs)[j]? = some sl → (env[j]? = some sl ∧ (∀ o, sl = .o o → R.b j ∉ rs)) ∨ (∃ o, env[j]? = some (.o o) ∧ sl = .d o.toD ∧ R.b j ∈ rs)
  | [], env, j, sl, h => .inl ⟨h, fun _ _ z => by cases z⟩
  | r :: rs, env, j, sl, h => by
    have h : (frzAll (frzR env r) rs)[j]? = some sl := h
    rcases frzAll_at h with ⟨h1, h2⟩ | ⟨o, h1, h2, h3⟩
    · cases r with
      | d x => exact .inl ⟨h1, fun o e z => by
          rcases List.mem_cons.mp z with z | z
          · cases z
          · exact h2 o e z⟩
      | t x => exact .inl ⟨h1, fun o e z => by
          rcases List.mem_cons.mp z with z | z
          · cases z
          · exact h2 o e z⟩
      | b i =>
        rcases frzAt_at h1 with ⟨h3, h4⟩ | ⟨o, h3, h4, h5⟩
        · exact .inl ⟨h3, fun o e z => by
            rcases List.mem_cons.mp z with z | z
            · cases z; exact h4 o e rfl
            · exact h2 o e z⟩
        · subst h5
          exact .inr ⟨o, h3, h4, List.mem_cons_self⟩
    · cases r with
      | d x => exact .inr ⟨o, h1, h2, List.mem_cons_of_mem _ h3⟩
      | t x => exact .inr ⟨o, h1, h2, List.mem_cons_of_mem _ h3⟩
      | b i =>
        rcases frzAt_at h1 with ⟨h4, _⟩ | ⟨o', h4, h5, h6⟩
        · exact .inr ⟨o, h4, h2, List.mem_cons_of_mem _ h3⟩
        · cases h5
section
variable {w : World} {K : PySem.W.Frag} {H H0 H1 : Hp} {g g1 : Gh} {s : S} {σ : St}
theorem Rep.scal {st st' : Option (Addr × Addr)} {F F' : Hp} {v : V} {d : D} (h : Rep w K st F v d) (e : scalD d = true) : Rep w K st' F' v d := by
  cases h <;> first
    | exact .non
    | exact .bl _
    | exact .int _
    | (rename_i h; exact .str h)
    | cases e
/-- the objects that are lent in a call -/
def Lent (env : List Sl) (vs : List V) (rs : List R) (a : Addr) : Prop := ∃ (i : Nat), vs[i]? = some (V.ref a) ∧ ((∃ (o : Own), rs[i]? = some (R.t o)) ∨ ∃ (j : Nat) (o : Own), rs[i]? = some (R.b j) ∧ env[j]? = some (Sl.o o))
theorem Lent.own {vs : List V} {rs : List R} (G : Good w K g s σ H) (R : RRs w K H0 g H s σ vs rs) {a : Addr} (h : Lent s.env vs rs a) :
    ∃ o, OwnF w K H g a o ∧ ¬ StA g a ∧ (H0 a = none ∨ PD.W g s.env σ a) := by
  obtain ⟨i, e1, ⟨o, e2⟩ | ⟨j, o, e2, e3⟩⟩ := h
  · have := R.get e1 e2
    cases this with
    | t h0 ho hn => exact ⟨_, ho, fun z => hn (.inr z), .inl h0⟩
  · have := R.get e1 e2
    cases this with
    | b hσ =>
      have sr := G.env j _ _ e3 hσ
      cases sr with
      | o ho => exact ⟨_, ho, G.apart a ⟨j, o, e3, hσ⟩, .inr (.inl ⟨j, o, e3, hσ⟩)⟩
theorem Rep_lent {vs : List V} {rs : List R} (G : Good w K g s σ H) (R : RRs w K H0 g H s σ vs rs) (P : Addr → Prop) (hP : ∀ a, Lent s.env vs rs a → P a) (hn : ∀ a, P a → g.F a = none) :
    ∀ {i : Nat} {v : V} {r : PD.R} {d : D}, vs[i]? = some v → rs[i]? = some r → r.peek s.env = some d → Rep w K g.st (frzP g.F H P) v d := by
  intro i v r d e1 e2 e3
  have hm : Sub g.F (frzP g.F H P) := frzP_mono hn
  have own : ∀ {a : Addr} {o : Own}, OwnF w K H g a o → P a → Rep w K g.st (frzP g.F H P) (.ref a) o.toD := fun {a o} ho hp => by
    cases o with
    | l xs =>
      obtain ⟨us, e1, r⟩ := ho.at_
      exact .lst (by rw [frzP_in hp]; exact e1) (r.mono (StLe.refl _) hm)
    | k kvs =>
      obtain ⟨es, ep, e1, r, r2⟩ := ho.at_
      exact .dct (by rw [frzP_in hp]; exact e1) r (r2.mono (StLe.refl _) hm)
  have := R.get e1 e2
  cases this with
  | d h => cases e3; exact h.mono (StLe.refl _) hm
  | t h0 ho _ => cases e3; exact own ho (hP _ ⟨i, e1, .inl ⟨_, e2⟩⟩)
  | b hσ =>
    rename_i j
    have e3 : (s.env[j]?).bind Sl.peek = some d := e3
    cases q : s.env[j]? with
    | none => rw [q] at e3; cases e3
    | some sl =>
      rw [q] at e3
      have sr := G.env j _ _ q hσ
      cases sr with
      | no => cases e3
      | d r => cases e3; exact r.mono (StLe.refl _) hm
      | o r => cases e3; exact own r (hP _ ⟨i, e1, .inr ⟨j, _, e2, q⟩⟩)
theorem peeks_at : ∀ {env : List Sl} {rs : List R} {ds : List D}, peeks env rs = some ds → rs.length = ds.length ∧ ∀ (i : Nat) (r : R), rs[i]? = some r → ∃ d, ds[i]? = some d ∧ r.peek env = some d
  | env, [], ds, h => by cases h; exact ⟨rfl, fun i r e => by simp at e⟩
  | env, r :: rs, ds, h => by
    unfold peeks at h
    split at h
    · rename_i x xs e1 e2
      cases h
      obtain ⟨h1, h2⟩ := peeks_at e2
      refine ⟨by rw [List.length_cons, List.length_cons, h1], fun i r' e => ?_⟩
      cases i with
      | zero =>
        simp only [List.getElem?_cons_zero, Option.some.injEq] at e
        subst e
        exact ⟨x, rfl, e1⟩
      | succ i =>
        simp only [List.getElem?_cons_succ] at e
        exact h2 i r' e
    · cases h
theorem RepL.of_at {st : Option (Addr × Addr)} {F : Hp} : ∀ {vs : List V} {ds : List D}, vs.length = ds.length → (∀ (i : Nat) (v : V) (d : D), vs[i]? = some v → ds[i]? = some d → Rep w K st F v d) → RepL w K st F vs ds
  | [], [], _, _ => .nil
  | v :: vs, d :: ds, hl, h => .cons (h 0 v d rfl rfl) (RepL.of_at (by simpa using hl) fun i v d e1 e2 => h (i + 1) v d (by simpa using e1) (by simpa using e2))
  | [], _ :: _, hl, _ => by cases hl
  | _ :: _, [], hl, _ => by cases hl
theorem stA_tracked {ds : Option DS} (G : DSRep H g ds) {a : Addr} (h : StA g a) : H a ≠ none ∧ g.F a = none := by
  obtain ⟨sa, ca, e, hh⟩ := h
  cases ds with
  | none => have G : g.st = none := G; rw [G] at e; cases e
  | some d =>
    obtain ⟨sa', ca', e', _, h1, h2, f1, f2⟩ := G
    rw [e] at e'; cases e'
    rcases hh with rfl | rfl
    · exact ⟨fun z => (by rw [h1] at z; cases z), f1⟩
    · exact ⟨fun z => (by rw [h2] at z; cases z), f2⟩
theorem Good.h (G : Good w K g s σ H) : GoodH g s.ds H := ⟨G.fr, G.ds⟩
theorem tCall_LE {fn : Fn} {n : Nat} {as : M (List R)} {E : XK} {Q : VK} (hn : ∀ s rs s', as s = some (rs, s') → rs.length = n) (h : LE w K (mCall fn as) σ H Q) : tCall (spF w K fn n) [] E (LA w K as) σ H Q := by
  obtain ⟨g, s, G, res, s', e, q⟩ := h
  unfold mCall at e
  cases ea : as s with
  | none => rw [ea] at e; cases e
  | some p =>
    obtain ⟨rs, s1⟩ := p
    rw [ea] at e
    simp only [Option.bind_some] at e
    cases ep : peeks s1.env rs with
    | none => rw [ep] at e; cases e
    | some xs =>
      rw [ep] at e
      simp only [Option.bind_some] at e
      cases ef : fn xs s1.ds with
      | none => rw [ef] at e; cases e
      | some qq =>
        obtain ⟨r, ds'⟩ := qq
        rw [ef] at e
        simp only [Option.bind_some] at e
        refine ⟨g, s, G, rs, s1, ea, fun vs g1 H1 G1 E1 R1 => ?_⟩
        have hlen := R1.length
        obtain ⟨pl, pa⟩ := peeks_at ep
        have own := fun a => Lent.own (a := a) G1 R1
        have nF : ∀ a, Lent s1.env vs rs a → g1.F a = none := fun a h => let ⟨o, ho, _⟩ := own a h; ho.nf
        let gc : Gh := ⟨frzP g1.F H1 (Lent s1.env vs rs), g1.st⟩
        have hm : Sub g1.F gc.F := frzP_mono nF
        have sub1 : Sub gc.F H1 := frzP_sub G1.fr
        have nst : ∀ a, Lent s1.env vs rs a → ¬ StA g1 a := fun a h => let ⟨o, _, hs, _⟩ := own a h; hs
        have dsc : DSRep H1 gc s1.ds := by
          have := G1.ds
          cases hd : s1.ds with
          | none => rw [hd] at this; exact this
          | some d =>
            rw [hd] at this
            obtain ⟨sa, ca, e1, ne, h1, h2, f1, f2⟩ := this
            refine ⟨sa, ca, e1, ne, h1, h2, ?_, ?_⟩
            · show frzP g1.F H1 _ sa = none
              rw [frzP_out (fun z => nst sa z ⟨sa, ca, e1, .inl rfl⟩)]; exact f1
            · show frzP g1.F H1 _ ca = none
              rw [frzP_out (fun z => nst ca z ⟨sa, ca, e1, .inr rfl⟩)]; exact f2
        have reps : RepL w K gc.st gc.F vs xs := RepL.of_at (by rw [hlen, pl]) fun i v d e1 e2 => by
          have hi : i < rs.length := by rw [← hlen]; exact (List.getElem?_eq_some_iff.mp e1).1
          obtain ⟨d', e3, e4⟩ := pa i _ (List.getElem?_eq_getElem hi)
          rw [e2] at e3; cases e3
          exact Rep_lent G1 R1 _ (fun _ h => h) nF e1 (List.getElem?_eq_getElem hi) e4
        show spF w K fn n (vs ++ []) H1 Q E
        rw [List.append_nil]
        refine ⟨gc, s1.ds, xs, ⟨sub1, dsc⟩, reps, by rw [hlen]; exact hn _ _ _ ea, r, ds', ef, fun v g2 H2 E2 GH2 RF2 => ?_⟩
        have stc : ∀ a, StA gc a ↔ StA g1 a := fun a => Iff.rfl
        have notLentSt : ∀ b, PD.W g1 s1.env σ b → g1.F b = none := fun b hb => by
          rcases hb with ⟨i, o, h1, h2⟩ | hb
          · have := G1.env i _ _ h1 h2
            cases this with
            | o r => exact r.nf
          · exact (stA_tracked G1.ds hb).2
        -- the way with nothing frozen
        have plain : ∀ {x : D}, Rep w K g2.st g2.F v x → scalD x = true → res = .d x → s' = ⟨s1.env, ds'⟩ → Q v H2 := fun {x} hx sx er es => by
          subst er es
          let g3 : Gh := ⟨g1.F, g2.st⟩
          have fr3 : Sub g1.F H2 := fun b o hb => E2.pr b o (G1.fr b o hb) fun z => by
            have := (stA_tracked G1.ds z).2
            rw [hb] at this; cases this
          have ds3 : DSRep H2 g3 ds' := by
            have := GH2.ds
            cases ds' with
            | none => exact this
            | some d =>
              obtain ⟨sa, ca, e1, ne, h1, h2, f1, f2⟩ := this
              have z : ∀ a, g2.F a = none → g1.F a = none := fun a ha => by
                cases qq : g1.F a with
                | none => rfl
                | some o => rw [E2.mono a o (hm a o qq)] at ha; cases ha
              exact ⟨sa, ca, e1, ne, h1, h2, z _ f1, z _ f2⟩
          have ow : ∀ {a : Addr} {o : Own}, OwnF w K H1 g1 a o → ¬ StA g1 a → OwnF w K H2 g3 a o := fun {a o} ho hs => by
            obtain ⟨y, hy, _⟩ := ho.at_.there
            refine ⟨?_, ho.nf⟩
            cases o with
            | l ys => obtain ⟨us, e1, r⟩ := ho.at_; exact ⟨us, E2.pr _ _ e1 hs, r.mono E2.st (Sub.refl _)⟩
            | k kvs => obtain ⟨es, ep, e1, r, r2⟩ := ho.at_; exact ⟨es, ep, E2.pr _ _ e1 hs, r, r2.mono E2.st (Sub.refl _)⟩
          have G3 : Good w K g3 ⟨s1.env, ds'⟩ σ H2 := by
            refine ⟨fr3, ds3, G1.len, fun i sl x h1 h2 => ?_, G1.uniq, fun a ha z => ?_⟩
            · have := G1.env i sl x h1 h2
              cases this with
              | no => exact .no
              | d r => exact .d (r.mono E2.st (Sub.refl _))
              | o r => exact .o (ow r (G1.apart _ ⟨i, _, h1, h2⟩))
            · rcases E2.wsub a z with y | y
              · exact G1.apart a ha y
              · exact W_ne G1 (.inl ha) y
          have E3 : Ext (PD.W g1 s1.env σ) g1 H1 (PD.W g3 s1.env σ) g3 H2 := by
            refine ⟨fun b o hb hn => E2.pr b o hb fun z => hn (.inr z), E2.dom, Sub.refl _, fun b o h1 h2 => ?_, fun b hb => ?_, E2.st⟩
            · have h2 : g1.F b = some o := h2
              rw [h1] at h2; cases h2
            · rcases hb with hb | hb
              · exact .inl (.inl hb)
              · exact (E2.wsub b hb).elim (fun z => .inl (.inr z)) .inr
          exact q v g3 H2 G3 (E1.trans E3) (.d (hx.scal sx))
        -- the way with what was lent frozen
        have frozen : s' = ⟨frzAll s1.env rs, ds'⟩ → res = r → (∀ i, r ≠ .b i) → Q v H2 := fun es er nb => by
          subst es er
          have G3 : Good w K g2 ⟨frzAll s1.env rs, ds'⟩ σ H2 := by
            refine ⟨GH2.fr, GH2.ds, by show (frzAll s1.env rs).length = _; rw [frzAll_len]; exact G1.len, fun i sl x h1 h2 => ?_, fun i j o o' a h1 h2 h3 h4 => ?_, fun a ⟨i, o, h1, h2⟩ z => ?_⟩
            · rcases frzAll_at h1 with ⟨h3, h4⟩ | ⟨o, h3, h4, h5⟩
              · have sr := G1.env i sl x h3 h2
                cases sr with
                | no => exact .no
                | d r => exact .d (r.mono E2.st (hm.trans E2.mono))
                | o r =>
                  rename_i a y
                  have nl : ¬ Lent s1.env vs rs a := fun ⟨k, k1, k2⟩ => by
                    rcases k2 with ⟨o', k2⟩ | ⟨j, o', k2, k3⟩
                    · have rr := R1.get k1 k2
                      cases rr with
                      | t _ _ hn => exact hn (.inl ⟨i, y, h3, h2⟩)
                    · have rr := R1.get k1 k2
                      cases rr with
                      | b hσ =>
                        have : i = j := G1.uniq i j y o' a h3 k3 h2 hσ
                        subst this
                        exact h4 y rfl (List.mem_of_getElem? k2)
                  have : OwnF w K H1 gc a y := ⟨r.at_.mono (StLe.refl _) hm, by show frzP g1.F H1 _ a = none; rw [frzP_out nl]; exact r.nf⟩
                  exact .o (this.ext E2 (G1.apart a ⟨i, y, h3, h2⟩))
              · subst h4
                have sr := G1.env i _ x h3 h2
                cases sr with
                | o r =>
                  rename_i a
                  obtain ⟨k, hk⟩ := List.mem_iff_getElem?.mp h5
                  have hk' : k < vs.length := by rw [hlen]; exact (List.getElem?_eq_some_iff.mp hk).1
                  have rr := R1.get (List.getElem?_eq_getElem hk') hk
                  generalize hv : vs[k] = vk at rr
                  cases rr with
                  | b hσ =>
                    rw [h2] at hσ
                    have hσ : V.ref a = vk := by simpa using hσ
                    have rp := Rep_lent G1 R1 (Lent s1.env vs rs) (fun _ h => h) nF (List.getElem?_eq_getElem hk') hk (d := o.toD) (by show (s1.env[i]?).bind Sl.peek = _; rw [h3]; rfl)
                    rw [hv, ← hσ] at rp
                    exact .d (rp.mono E2.st E2.mono)
            · rcases frzAll_at h1 with ⟨h5, _⟩ | ⟨_, _, z, _⟩
              · rcases frzAll_at h2 with ⟨h6, _⟩ | ⟨_, _, z, _⟩
                · exact G1.uniq i j o o' a h5 h6 h3 h4
                · cases z
              · cases z
            · rcases frzAll_at h1 with ⟨h5, _⟩ | ⟨_, _, y, _⟩
              · rcases E2.wsub a z with y | y
                · exact G1.apart a ⟨i, o, h5, h2⟩ y
                · exact W_ne G1 (.inl ⟨i, o, h5, h2⟩) y
              · cases y
          have wb : ∀ b, PD.W g2 (frzAll s1.env rs) σ b → PD.W g1 s1.env σ b ∨ H1 b = none := fun b hb => by
            rcases hb with ⟨i, o, h1, h2⟩ | hb
            · rcases frzAll_at h1 with ⟨h5, _⟩ | ⟨_, _, y, _⟩
              · exact .inl (.inl ⟨i, o, h5, h2⟩)
              · cases y
            · exact (E2.wsub b hb).elim (fun z => .inl (.inr z)) .inr
          have E3 : Ext (PD.W g s.env σ) g H (PD.W g2 (frzAll s1.env rs) σ) g2 H2 := by
            refine ⟨fun b o hb hn => ?_, fun b hb => E1.dom b (E2.dom b hb), E1.mono.trans (hm.trans E2.mono), fun b o h1 h2 => ?_, fun b hb => ?_, fun p hp => E2.st p (E1.st p hp)⟩
            · refine E2.pr b o (E1.pr b o hb hn) fun z => ?_
              rcases E1.wsub b (.inr z) with y | y
              · exact hn y
              · rw [hb] at y; cases y
            · by_cases hl : Lent s1.env vs rs b
              · obtain ⟨o', _, _, h5⟩ := own b hl
                rcases h5 with h5 | h5
                · exact .inl h5
                · exact (E1.wsub b h5).elim (fun z => .inr (.inl z)) .inl
              · cases h6 : g1.F b with
                | some o1 => exact E1.newF b o1 h1 h6
                | none =>
                  have h7 : gc.F b = none := by show frzP g1.F H1 _ b = none; rw [frzP_out hl]; exact h6
                  rcases E2.newF b o h7 h2 with z | z | ⟨ys, z⟩
                  · exact .inl (E1.dom b z)
                  · exact (E1.wsub b (.inr z)).elim (fun y => .inr (.inl y)) .inl
                  · cases h8 : H b with
                    | none => exact .inl rfl
                    | some o8 =>
                      by_cases hw : PD.W g s.env σ b
                      · exact .inr (.inl hw)
                      · have := E1.pr b o8 h8 hw
                        rw [z] at this; cases this
                        exact .inr (.inr ⟨ys, rfl⟩)
            · exact (wb b hb).elim (E1.wsub b) fun z => .inr (E1.dom b z)
          refine q v g2 H2 G3 E3 ?_
          cases RF2 with
          | d h => exact .d h
          | t h0 ho hs =>
            rename_i a o
            have hna : H1 a = none := h0.elim id fun z => absurd (StA.mono (g := gc) (g' := g2) E2.st z) hs
            refine .t (E1.dom a hna) ho fun z => ?_
            rcases z with ⟨i, o', h1, h2⟩ | z
            · rcases frzAll_at h1 with ⟨h5, _⟩ | ⟨_, _, y, _⟩
              · exact W_ne G1 (.inl ⟨i, o', h5, h2⟩) hna
              · cases y
            · exact hs z
        unfold callR at e
        cases r with
        | d x =>
          simp only at e
          split at e
          · rename_i sx
            simp only [Option.some.injEq, Prod.mk.injEq] at e
            obtain ⟨e1, e2⟩ := e
            cases RF2 with
            | d h => exact plain h sx e1.symm e2.symm
          · simp only [Option.some.injEq, Prod.mk.injEq] at e
            obtain ⟨e1, e2⟩ := e
            exact frozen e2.symm e1.symm (fun i z => by cases z)
        | t o =>
          simp only [Option.some.injEq, Prod.mk.injEq] at e
          obtain ⟨e1, e2⟩ := e
          exact frozen e2.symm e1.symm (fun i z => by cases z)
        | b i => cases e
theorem mArgs_len : ∀ {ms : List (M R)} {s : S} {rs : List R} {s' : S}, mArgs ms s = some (rs, s') → rs.length = ms.length
  | [], s, rs, s', h => by cases h; rfl
  | m :: ms, s, rs, s', h => by
    unfold mArgs at h
    cases ea : m s with
    | none => rw [ea] at h; cases h
    | some p =>
      rw [ea] at h
      simp only [Option.bind_some] at h
      cases eb : mArgs ms p.2 with
      | none => rw [eb] at h; cases h
      | some p2 =>
        rw [eb] at h
        simp only [Option.bind_some, Option.some.injEq, Prod.mk.injEq] at h
        obtain ⟨rfl, rfl⟩ := h
        rw [List.length_cons, List.length_cons, mArgs_len eb]
end
end PD
namespace PD
open PySem PySem.Spec PyProof.Rows L2

theorem PEi {X : Cx} {e : Expr} {t t' : TE} (h : PE X e t) (i : ∀ σ H Q, t' σ H Q → t σ H Q) : PE X e t' := ⟨fun p s σ H Q I q => h.run p s σ H Q I (i σ H Q q)⟩
theorem PTi {X : Cx} {e : Expr} {t t' : TT} (h : PT X e t) (i : ∀ σ H Q, t' σ H Q → t σ H Q) : PT X e t' := ⟨fun p s σ H Q I q => h.run p s σ H Q I (i σ H Q q)⟩
theorem PWi {X : Cx} {e : Expr} {t t' : TT} (h : PW X e t) (i : ∀ σ H Q, t' σ H Q → t σ H Q) : PW X e t' := ⟨fun wh p s σ H Q I q => h.run wh p s σ H Q I (i σ H Q q)⟩
theorem PAi {X : Cx} {e : List Expr} {t t' : TA} (h : PA X e t) (i : ∀ σ H Q, t' σ H Q → t σ H Q) : PA X e t' := ⟨fun p1 p s σ H Q I q => h.run p1 p s σ H Q I (i σ H Q q)⟩
theorem PSi {X : Cx} {e : Stmt} {t t' : TS} (h : PS X e t) (i : ∀ D σ H, t' D σ H → t D σ H) : PS X e t' := ⟨fun p s σ H D I q => h.run p s σ H D I (i D σ H q)⟩
theorem PSsi {X : Cx} {e : List Stmt} {t t' : TS} (h : PSs X e t) (i : ∀ D σ H, t' D σ H → t D σ H) : PSs X e t' := ⟨fun p s σ H D I q => h.run p s σ H D I (i D σ H q)⟩
theorem PGi {X : Cx} {e : Expr} {t t' : TG} (h : PG X e t) (i : ∀ v σ H Q, t' v σ H Q → t v σ H Q) : PG X e t' := ⟨fun p s σ H v u Q I r q => h.run p s σ H v u Q I r (i v σ H Q q)⟩
theorem PGsi {X : Cx} {e : List Expr} {t t' : TGs} (h : PGs X e t) (i : ∀ v σ H Q, t' v σ H Q → t v σ H Q) : PGs X e t' := ⟨fun p s σ H v u Q I r q => h.run p s σ H v u Q I r (i v σ H Q q)⟩
theorem PIi {X : Cx} {tg e : Expr} {t t' : TI} (h : PI X tg e t) (i : ∀ σ H R, t' σ H R → t σ H R) : PI X tg e t' := ⟨fun p s σ H R I q => h.run p s σ H R I (i σ H R q)⟩

/-! ### statements -/
inductive Fl where
  | nx | bk | ct | rt (r : R)
abbrev MS := S → Option (Fl × S)
section
variable (w : World) (K : PySem.W.Frag)
def EndOk (D : Ends) (g : Gh) (s : S) (σ : St) (H : Hp) (s' : S) : Fl → Prop
  | .nx => ∀ σ' g' H', Good w K g' s' σ' H' → Ext (PD.W g s.env σ) g H (PD.W g' s'.env σ') g' H' → D.nx σ' H'
  | .bk => ∀ σ' g' H', Good w K g' s' σ' H' → Ext (PD.W g s.env σ) g H (PD.W g' s'.env σ') g' H' → D.bk σ' H'
  | .ct => ∀ σ' g' H', Good w K g' s' σ' H' → Ext (PD.W g s.env σ) g H (PD.W g' s'.env σ') g' H' → D.ct σ' H'
  | .rt r => ∀ v g' H', GoodH g' s'.ds H' → Ext (PD.W g s.env σ) g H (StA g') g' H' → RF w K (PD.W g s.env σ) H g' H' v r → D.rt v H'
def LS (m : MS) : TS := fun D σ H => ∃ g s, Good w K g s σ H ∧ ∃ fl s', m s = some (fl, s') ∧ EndOk w K D g s σ H s' fl
/-- the slots outside ts are as they were -/
structure Off (ts : List Nat) (σ σ' : St) : Prop where
  len : σ'.length = σ.length
  at_ : ∀ j, j ∉ ts → σ'[j]? = σ[j]?
def LG (ts : List Nat) (t : D → S → Option S) : TG := fun v σ H Q => ∃ g s d, Good w K g s σ H ∧ Rep w K g.st g.F v d ∧ ∃ s', t d s = some s' ∧
  ∀ σ' g' H', Good w K g' s' σ' H' → Ext (PD.W g s.env σ) g H (PD.W g' s'.env σ') g' H' → Off ts σ σ' → Q σ' H'
def LGs (ts : List Nat) (t : List D → S → Option S) : TGs := fun vs σ H Q => ∃ g s ds, Good w K g s σ H ∧ RepL w K g.st g.F vs ds ∧ ∃ s', t ds s = some s' ∧
  ∀ σ' g' H', Good w K g' s' σ' H' → Ext (PD.W g s.env σ) g H (PD.W g' s'.env σ') g' H' → Off ts σ σ' → Q σ' H'
end
theorem Off.refl (ts : List Nat) (σ : St) : Off ts σ σ := ⟨rfl, fun _ _ => rfl⟩
theorem Off.trans {t1 t2 ts : List Nat} {σ σ1 σ2 : St} (a : Off t1 σ σ1) (b : Off t2 σ1 σ2) (h1 : ∀ i ∈ t1, i ∈ ts) (h2 : ∀ i ∈ t2, i ∈ ts) : Off ts σ σ2 :=
  ⟨b.len.trans a.len, fun j hj => (b.at_ j fun z => hj (h2 j z)).trans (a.at_ j fun z => hj (h1 j z))⟩
section
variable {w : World} {K : PySem.W.Frag} {D : Ends} {g g1 : Gh} {s s1 s' : S} {σ σ1 : St} {H H1 : Hp} {fl : Fl}
theorem RF.sooner {W0 W1 : Addr → Prop} {g' : Gh} {H' : Hp} {v : V} {r : R} (h : RF w K W1 H1 g' H' v r) (E : Ext W0 g H W1 g1 H1) : RF w K W0 H g' H' v r := by
  cases h with
  | d h => exact .d h
  | t h0 ho hs => exact .t (h0.elim (fun z => .inl (E.dom _ z)) fun z => (E.wsub _ z).symm) ho hs
theorem EndOk.step (h : EndOk w K D g s σ H s' fl) (E : Ext (PD.W g s.env σ) g H (PD.W g1 s1.env σ1) g1 H1) : EndOk w K D g1 s1 σ1 H1 s' fl := by
  cases fl with
  | nx => exact fun σ' g' H' G' E' => h σ' g' H' G' (E.trans E')
  | bk => exact fun σ' g' H' G' E' => h σ' g' H' G' (E.trans E')
  | ct => exact fun σ' g' H' G' E' => h σ' g' H' G' (E.trans E')
  | rt r => exact fun v g' H' G' E' R' => h v g' H' G' (E.trans E') (R'.sooner E)
end
def mSkip : MS := fun s => some (.nx, s)
def mBreak : MS := fun s => some (.bk, s)
def mCont : MS := fun s => some (.ct, s)
def contF (b : MS) : Fl → S → Option (Fl × S)
  | .nx, s => b s
  | .bk, s => some (.bk, s)
  | .ct, s => some (.ct, s)
  | .rt r, s => some (.rt r, s)
def mThen (a b : MS) : MS := fun s => (a s).bind fun p => contF b p.1 p.2
def mIfS (t : M Bool) (a b : MS) : MS := fun s => (t s).bind fun p => if p.1 = true then a p.2 else b p.2
def mDrop (m : M R) : MS := fun s => (m s).bind fun p => some (.nx, p.2)
def retR (env : List Sl) : R → Option R
  | .d x => some (.d x)
  | .t o => some (.t o)
  | .b i => match env[i]? with
    | some (.d x) => some (.d x)
    | some (.o o) => some (.t o)
    | _ => none
def mRetS (m : M R) : MS := fun s => (m s).bind fun p => (retR p.2.env p.1).bind fun r => some (.rt r, p.2)
def mRetN : MS := fun s => some (.rt (.d .non), s)
def setR (i : Nat) (r : R) (s : S) : Option S := match r with
  | .d x => some { s with env := s.env.set i (.d x) }
  | .t o => some { s with env := s.env.set i (.o o) }
  | .b j => (mShare (.b j) s).bind fun p => some { p.2 with env := p.2.env.set i (.d p.1) }
def mSet (i : Nat) (m : M R) : MS := fun s => (m s).bind fun p => (setR i p.1 p.2).bind fun s' => some (.nx, s')
def mAsg (t : D → S → Option S) (m : M R) : MS := fun s => (m s).bind fun p => (mShare p.1 p.2).bind fun q => (t q.1 q.2).bind fun s' => some (.nx, s')
/-- not a slot's object any more -/
def normR (r : R) (s : S) : Option (R × S) := match r with
  | .d x => some (.d x, s)
  | .t o => some (.t o, s)
  | .b j => (mShare (.b j) s).map fun p => (.d p.1, p.2)
def mPar (i j : Nat) (a b : M R) : MS := fun s => (a s).bind fun p => (b p.2).bind fun q => (normR p.1 q.2).bind fun p1 => (normR q.1 p1.2).bind fun q1 =>
  (setR i p1.1 q1.2).bind fun s1 => (setR j q1.1 s1).bind fun s2 => some (.nx, s2)
def mAug (i : Nat) (f : D → D → Option D) (m : M R) : MS := fun s => (s.env[i]?).bind fun sl => match sl with
  | .d x => (m s).bind fun p => (p.1.peek p.2.env).bind fun y => (f x y).bind fun z => some (.nx, { p.2 with env := p.2.env.set i (.d z) })
  | _ => none
def tgN (i : Nat) : D → S → Option S := fun d s => some { s with env := s.env.set i (.d d) }
def tgNil : List D → S → Option S
  | [], s => some s
  | _, _ => none
def tgCons (t : D → S → Option S) (u : List D → S → Option S) : List D → S → Option S
  | d :: ds, s => (t d s).bind fun s1 => u ds s1
  | [], _ => none
def tgT (t : List D → S → Option S) : D → S → Option S
  | .tup ds, s => t ds s
  | _, _ => none
section
variable {w : World} {K : PySem.W.Frag} {g g' : Gh} {s : S} {σ : St} {H H0 : Hp}
theorem Good.setD {i : Nat} {v : V} {d : D} (G : Good w K g s σ H) (r : Rep w K g.st g.F v d) : Good w K g { s with env := s.env.set i (.d d) } (σ.set i (some v)) H where
  fr := G.fr
  ds := G.ds
  len := by rw [List.length_set, List.length_set]; exact G.len
  env := fun j sl x h1 h2 => by
    by_cases e : i = j
    · subst e
      have hi : i < s.env.length := by have := (List.getElem?_eq_some_iff.mp h1).1; simpa using this
      rw [List.getElem?_set_self hi] at h1
      rw [List.getElem?_set_self (by rw [← G.len]; exact hi)] at h2
      cases h1; cases h2
      exact .d r
    · rw [List.getElem?_set_ne e] at h1 h2
      exact G.env j sl x h1 h2
  uniq := fun j k o o' a h1 h2 h3 h4 => by
    by_cases e : i = j
    · subst e
      have hi : i < s.env.length := by have := (List.getElem?_eq_some_iff.mp h1).1; simpa using this
      rw [List.getElem?_set_self hi] at h1
      cases h1
    · by_cases e' : i = k
      · subst e'
        have hi : i < s.env.length := by have := (List.getElem?_eq_some_iff.mp h2).1; simpa using this
        rw [List.getElem?_set_self hi] at h2
        cases h2
      · rw [List.getElem?_set_ne e] at h1 h3
        rw [List.getElem?_set_ne e'] at h2 h4
        exact G.uniq j k o o' a h1 h2 h3 h4
  apart := fun a ⟨j, o, h1, h2⟩ z => by
    by_cases e : i = j
    · subst e
      have hi : i < s.env.length := by have := (List.getElem?_eq_some_iff.mp h1).1; simpa using this
      rw [List.getElem?_set_self hi] at h1
      cases h1
    · rw [List.getElem?_set_ne e] at h1 h2
      exact G.apart a ⟨j, o, h1, h2⟩ z
theorem OwnA.setD {env : List Sl} {i : Nat} {v : V} {d : D} {a : Addr} (h : OwnA (env.set i (.d d)) (σ.set i (some v)) a) : OwnA env σ a := by
  obtain ⟨j, o, h1, h2⟩ := h
  by_cases e : i = j
  · subst e
    have hi : i < env.length := by have := (List.getElem?_eq_some_iff.mp h1).1; simpa using this
    rw [List.getElem?_set_self hi] at h1
    cases h1
  · rw [List.getElem?_set_ne e] at h1 h2
    exact ⟨j, o, h1, h2⟩
theorem Good.setO {i : Nat} {a : Addr} {o : Own} (G : Good w K g s σ H) (ho : OwnF w K H g a o) (hn : ¬ PD.W g s.env σ a) : Good w K g { s with env := s.env.set i (.o o) } (σ.set i (some (.ref a))) H where
  fr := G.fr
  ds := G.ds
  len := by rw [List.length_set, List.length_set]; exact G.len
  env := fun j sl x h1 h2 => by
    by_cases e : i = j
    · subst e
      have hi : i < s.env.length := by have := (List.getElem?_eq_some_iff.mp h1).1; simpa using this
      rw [List.getElem?_set_self hi] at h1
      rw [List.getElem?_set_self (by rw [← G.len]; exact hi)] at h2
      cases h1; cases h2
      exact .o ho
    · rw [List.getElem?_set_ne e] at h1 h2
      exact G.env j sl x h1 h2
  uniq := fun j k o1 o2 b h1 h2 h3 h4 => by
    have key : ∀ (m : Nat) (o' : Own), i ≠ m → (s.env.set i (.o o))[m]? = some (.o o') → (σ.set i (some (V.ref a)))[m]? = some (some (.ref a)) → False := fun m o' e h1 h2 => by
      rw [List.getElem?_set_ne e] at h1 h2
      exact hn (.inl ⟨m, o', h1, h2⟩)
    have at_i : ∀ (o' : Own), (s.env.set i (.o o))[i]? = some (.o o') → (σ.set i (some (V.ref a)))[i]? = some (some (.ref b)) → b = a := fun o' h1 h2 => by
      have hi : i < s.env.length := by have := (List.getElem?_eq_some_iff.mp h1).1; simpa using this
      rw [List.getElem?_set_self (by rw [← G.len]; exact hi)] at h2
      cases h2; rfl
    by_cases e : i = j
    · by_cases e' : i = k
      · rw [← e, ← e']
      · subst e
        have := at_i o1 h1 h3
        subst this
        exact (key k o2 e' h2 h4).elim
    · by_cases e' : i = k
      · subst e'
        have := at_i o2 h2 h4
        subst this
        exact (key j o1 e h1 h3).elim
      · rw [List.getElem?_set_ne e] at h1 h3
        rw [List.getElem?_set_ne e'] at h2 h4
        exact G.uniq j k o1 o2 b h1 h2 h3 h4
  apart := fun b ⟨j, o', h1, h2⟩ z => by
    by_cases e : i = j
    · subst e
      have hi : i < s.env.length := by have := (List.getElem?_eq_some_iff.mp h1).1; simpa using this
      rw [List.getElem?_set_self (by rw [← G.len]; exact hi)] at h2
      cases h2
      exact hn (.inr z)
    · rw [List.getElem?_set_ne e] at h1 h2
      exact G.apart b ⟨j, o', h1, h2⟩ z
theorem OwnA.setO {env : List Sl} {i : Nat} {a b : Addr} {o : Own} (h : OwnA (env.set i (.o o)) (σ.set i (some (.ref a))) b) : OwnA env σ b ∨ b = a := by
  obtain ⟨j, o', h1, h2⟩ := h
  by_cases e : i = j
  · subst e
    have hi : i < σ.length := by have := (List.getElem?_eq_some_iff.mp h2).1; simpa using this
    rw [List.getElem?_set_self hi] at h2
    cases h2; exact .inr rfl
  · rw [List.getElem?_set_ne e] at h1 h2
    exact .inl ⟨j, o', h1, h2⟩
/-- a result stored at a name -/
theorem setR_ok {W0 : Addr → Prop} {g0 : Gh} {i : Nat} {v : V} {r : R} {s' : S} (G : Good w K g s σ H) (h : RR w K H0 g H s σ v r) (E : Ext W0 g0 H0 (PD.W g s.env σ) g H) (e : setR i r s = some s') :
    ∃ g', Good w K g' s' (σ.set i (some v)) H ∧ Ext W0 g0 H0 (PD.W g' s'.env (σ.set i (some v))) g' H ∧ Sub g.F g'.F ∧ g'.st = g.st := by
  cases h with
  | d h =>
    cases e
    exact ⟨g, G.setD h, E.less fun b hb => .inl (hb.elim (fun z => .inl z.setD) .inr), Sub.refl _, rfl⟩
  | t h0 ho hn =>
    cases e
    refine ⟨g, G.setO ho hn, ⟨E.pr, E.dom, E.mono, E.newF, fun b hb => ?_, E.st⟩, Sub.refl _, rfl⟩
    rcases hb with hb | hb
    · rcases hb.setO with z | z
      · exact E.wsub b (.inl z)
      · subst z; exact .inr h0
    · exact E.wsub b (.inr hb)
  | b hσ =>
    rename_i j
    unfold setR at e
    simp only at e
    cases es : mShare (.b j) s with
    | none => rw [es] at e; cases e
    | some p =>
      obtain ⟨d, s1⟩ := p
      rw [es] at e
      simp only [Option.bind_some, Option.some.injEq] at e
      subst e
      obtain ⟨g1, G1, E1, rp, hm, hst⟩ := share_ok G (.b hσ) E es
      exact ⟨g1, G1.setD rp, E1.less fun b hb => .inl (hb.elim (fun z => .inl z.setD) .inr), hm, hst⟩
/-! blocks -/
theorem tNext_LS {D : Ends} (h : LS w K mSkip D σ H) : tNext D σ H := by
  obtain ⟨g, s, G, fl, s', e, q⟩ := h
  cases e
  exact q σ g H G (Ext.refl _ _ _)
theorem tSeq_LS {a b : MS} {D : Ends} (h : LS w K (mThen a b) D σ H) : tSeq (LS w K a) (LS w K b) D σ H := by
  obtain ⟨g, s, G, fl, s', e, q⟩ := h
  unfold mThen at e
  cases ea : a s with
  | none => rw [ea] at e; cases e
  | some p =>
    obtain ⟨f1, s1⟩ := p
    rw [ea] at e
    simp only [Option.bind_some] at e
    refine ⟨g, s, G, f1, s1, ea, ?_⟩
    cases f1 with
    | nx => exact fun σ1 g1 H1 G1 E1 => ⟨g1, s1, G1, fl, s', e, q.step E1⟩
    | bk => cases e; exact q
    | ct => cases e; exact q
    | rt r => cases e; exact q
theorem tDrop_LS {m : M R} {D : Ends} (h : LS w K (mDrop m) D σ H) : tDrop (LE w K m) D σ H := by
  obtain ⟨g, s, G, fl, s', e, q⟩ := h
  unfold mDrop at e
  cases ea : m s with
  | none => rw [ea] at e; cases e
  | some p =>
    rw [ea] at e
    simp only [Option.bind_some, Option.some.injEq, Prod.mk.injEq] at e
    obtain ⟨rfl, rfl⟩ := e
    exact LE.use G ea fun v g1 H1 G1 E1 R1 => q σ g1 H1 G1 E1
theorem tRet_LS {m : M R} {D : Ends} (h : LS w K (mRetS m) D σ H) : tRet (LE w K m) D σ H := by
  obtain ⟨g, s, G, fl, s', e, q⟩ := h
  unfold mRetS at e
  cases ea : m s with
  | none => rw [ea] at e; cases e
  | some p =>
    obtain ⟨r, s1⟩ := p
    rw [ea] at e
    simp only [Option.bind_some] at e
    cases er : retR s1.env r with
    | none => rw [er] at e; cases e
    | some r' =>
      rw [er] at e
      simp only [Option.bind_some, Option.some.injEq, Prod.mk.injEq] at e
      obtain ⟨rfl, rfl⟩ := e
      refine LE.use G ea fun v g1 H1 G1 E1 R1 => ?_
      have E1' : Ext (PD.W g s.env σ) g H (StA g1) g1 H1 := E1.less fun b hb => .inl (.inr hb)
      refine q v g1 H1 G1.h E1' ?_
      cases R1 with
      | d h => cases er; exact .d h
      | t h0 ho hn => cases er; exact .t (.inl h0) ho fun z => hn (.inr z)
      | b hσ =>
        rename_i i
        unfold retR at er
        simp only at er
        split at er
        · rename_i x hx
          cases er
          have := G1.env i _ _ hx hσ
          cases this with
          | d r => exact .d r
        · rename_i o hx
          cases er
          have sr := G1.env i _ _ hx hσ
          cases sr with
          | o ho => exact .t (E1.wsub _ (.inl ⟨i, o, hx, hσ⟩)).symm ho (G1.apart _ ⟨i, o, hx, hσ⟩)
        · cases er
theorem tRetN_LS {D : Ends} (h : LS w K mRetN D σ H) : tRetN D σ H := by
  obtain ⟨g, s, G, fl, s', e, q⟩ := h
  cases e
  exact q .non g H G.h ((Ext.refl (PD.W g s.env σ) g H).less fun b hb => .inl (.inr hb)) (.d .non)
theorem tIfS_LS {t : M Bool} {a b : MS} {D : Ends} (h : LS w K (mIfS t a b) D σ H) : tIfS (LT w K t) (LS w K a) (LS w K b) D σ H := by
  obtain ⟨g, s, G, fl, s', e, q⟩ := h
  unfold mIfS at e
  cases ea : t s with
  | none => rw [ea] at e; cases e
  | some p =>
    obtain ⟨k, s1⟩ := p
    rw [ea] at e
    simp only [Option.bind_some] at e
    refine ⟨g, s, G, k, s1, ea, fun g1 H1 G1 E1 => ?_⟩
    cases k with
    | true =>
      rw [if_pos rfl] at e ⊢
      exact ⟨g1, s1, G1, fl, s', e, q.step E1⟩
    | false =>
      rw [if_neg Bool.false_ne_true] at e ⊢
      exact ⟨g1, s1, G1, fl, s', e, q.step E1⟩
theorem tSet_LS {i : Nat} {m : M R} {D : Ends} (h : LS w K (mSet i m) D σ H) : tAsg (LE w K m) (gName i) D σ H := by
  obtain ⟨g, s, G, fl, s', e, q⟩ := h
  unfold mSet at e
  cases ea : m s with
  | none => rw [ea] at e; cases e
  | some p =>
    obtain ⟨r, s1⟩ := p
    rw [ea] at e
    simp only [Option.bind_some] at e
    cases er : setR i r s1 with
    | none => rw [er] at e; cases e
    | some s2 =>
      rw [er] at e
      simp only [Option.bind_some, Option.some.injEq, Prod.mk.injEq] at e
      obtain ⟨rfl, rfl⟩ := e
      refine LE.use G ea fun v g1 H1 G1 E1 R1 => ?_
      obtain ⟨g2, G2, E2, _, _⟩ := setR_ok G1 R1 E1 er
      exact q _ g2 H1 G2 E2
theorem tAsg_LS {ts : List Nat} {t : D → S → Option S} {m : M R} {D : Ends} (h : LS w K (mAsg t m) D σ H) : tAsg (LE w K m) (LG w K ts t) D σ H := by
  obtain ⟨g, s, G, fl, s', e, q⟩ := h
  unfold mAsg at e
  cases ea : m s with
  | none => rw [ea] at e; cases e
  | some p =>
    obtain ⟨r, s1⟩ := p
    rw [ea] at e
    simp only [Option.bind_some] at e
    cases eb : mShare r s1 with
    | none => rw [eb] at e; cases e
    | some p2 =>
      obtain ⟨d, s2⟩ := p2
      rw [eb] at e
      simp only [Option.bind_some] at e
      cases ec : t d s2 with
      | none => rw [ec] at e; cases e
      | some s3 =>
        rw [ec] at e
        simp only [Option.bind_some, Option.some.injEq, Prod.mk.injEq] at e
        obtain ⟨rfl, rfl⟩ := e
        refine LE.use G ea fun v g1 H1 G1 E1 R1 => ?_
        obtain ⟨g2, G2, E2, rp, _, _⟩ := share_ok G1 R1 E1 eb
        exact ⟨g2, s2, d, G2, rp, s3, ec, fun σ' g' H' G' E' _ => q σ' g' H' G' (E2.trans E')⟩
theorem norm_ok {W0 : Addr → Prop} {g0 : Gh} {v : V} {r r' : R} {s' : S} (G : Good w K g s σ H) (h : RR w K H0 g H s σ v r) (E : Ext W0 g0 H0 (PD.W g s.env σ) g H) (e : normR r s = some (r', s')) :
    ∃ g', Good w K g' s' σ H ∧ Ext W0 g0 H0 (PD.W g' s'.env σ) g' H ∧ RR w K H0 g' H s' σ v r' ∧ (∀ i, r' ≠ .b i) ∧
      (∀ (H2 : Hp) (v2 : V) (r2 : R), RR w K H2 g H s σ v2 r2 → RR w K H2 g' H s' σ v2 r2) ∧ (∀ o, r' = .t o → r = .t o) := by
  cases h with
  | d h => cases e; exact ⟨g, G, E, .d h, fun i z => (by cases z), fun _ _ _ h => h, fun _ z => (by cases z)⟩
  | t h0 ho hn => cases e; exact ⟨g, G, E, .t h0 ho hn, fun i z => (by cases z), fun _ _ _ h => h, fun _ z => z⟩
  | b hσ =>
    rename_i j
    unfold normR at e
    simp only at e
    cases es : mShare (.b j) s with
    | none => rw [es] at e; cases e
    | some p =>
      obtain ⟨d, s1⟩ := p
      rw [es] at e
      simp only [Option.map_some, Option.some.injEq, Prod.mk.injEq] at e
      obtain ⟨rfl, rfl⟩ := e
      unfold mShare at es
      simp only at es
      split at es
      · rename_i x hx
        cases es
        have sr := G.env j _ _ hx hσ
        cases sr with
        | d r => exact ⟨g, G, E, .d r, fun i z => (by cases z), fun _ _ _ h => h, fun _ z => (by cases z)⟩
      · rename_i o hx
        cases es
        have sr := G.env j _ _ hx hσ
        cases sr with
        | o ho =>
          rename_i a
          have es' : mShare (.b j) s = some (o.toD, { s with env := s.env.set j (.d o.toD) }) := by
            unfold mShare
            simp only [hx]
          obtain ⟨g1, G1, E1, rp, hm, hst⟩ := share_ok G (.b hσ) E es'
          have hi : j < s.env.length := (List.getElem?_eq_some_iff.mp hx).1
          have hst : ¬ StA g a := G.apart a ⟨j, o, hx, hσ⟩
          have key : ∀ (k : Nat) (sl' : Sl), (s.env.set j (.d o.toD))[k]? = some sl' → (s.env[k]? = some sl' ∧ (∀ x, sl' = .o x → σ[k]? ≠ some (some (.ref a)))) ∨ (sl' = .d o.toD ∧ σ[k]? = some (some (.ref a))) := fun k sl' h1 => by
            by_cases hk : j = k
            · subst hk
              rw [List.getElem?_set_self hi] at h1
              cases h1
              exact .inr ⟨rfl, hσ⟩
            · rw [List.getElem?_set_ne hk] at h1
              refine .inl ⟨h1, fun x ex h2 => ?_⟩
              subst ex
              exact hk (G.uniq j k o x a hx h1 hσ h2)
          have wsub : ∀ b, PD.W (frzG g H a) (s.env.set j (.d o.toD)) σ b → PD.W g s.env σ b := fun b z => by
            rcases z with ⟨k, x, h1, h2⟩ | z
            · rcases key k _ h1 with ⟨h3, _⟩ | ⟨e, _⟩
              · exact .inl ⟨k, x, h3, h2⟩
              · cases e
            · exact .inr z
          have hW : W0 a ∨ H0 a = none := E.wsub a (.inl ⟨j, o, hx, hσ⟩)
          refine ⟨frzG g H a, G.frz ho hst (by rw [List.length_set]) key, E.frz hW.symm wsub ho.nf, .d ho.rep, fun i z => (by cases z), fun H2 v2 r2 h2 => ?_, fun _ z => (by cases z)⟩
          cases h2 with
          | d h => exact .d (h.mono (StLe.refl _) (frzF_mono ho.nf))
          | t h0 ho2 hn2 => exact .t h0 (ho2.frz (fun e => hn2 (by rw [e]; exact .inl ⟨j, o, hx, hσ⟩)) ho.nf) fun z => hn2 (wsub _ z)
          | b h => exact .b h
      · cases es
theorem tPar_LS {i j : Nat} {a b : M R} {D : Ends} (h : LS w K (mPar i j a b) D σ H) : tPar i j (tCons (LE w K a) (tCons (LE w K b) tNil)) D σ H := by
  obtain ⟨g, s, G, fl, s', e, q⟩ := h
  unfold mPar at e
  cases ea : a s with
  | none => rw [ea] at e; cases e
  | some p =>
    obtain ⟨ra, s1⟩ := p
    rw [ea] at e
    simp only [Option.bind_some] at e
    cases eb : b s1 with
    | none => rw [eb] at e; cases e
    | some p2 =>
      obtain ⟨rb, s2⟩ := p2
      rw [eb] at e
      simp only [Option.bind_some] at e
      cases ec : normR ra s2 with
      | none => rw [ec] at e; cases e
      | some p3 =>
        obtain ⟨ra', s3⟩ := p3
        rw [ec] at e
        simp only [Option.bind_some] at e
        cases ed : normR rb s3 with
        | none => rw [ed] at e; cases e
        | some p4 =>
          obtain ⟨rb', s4⟩ := p4
          rw [ed] at e
          simp only [Option.bind_some] at e
          cases ee : setR i ra' s4 with
          | none => rw [ee] at e; cases e
          | some s5 =>
            rw [ee] at e
            simp only [Option.bind_some] at e
            cases ef : setR j rb' s5 with
            | none => rw [ef] at e; cases e
            | some s6 =>
              rw [ef] at e
              simp only [Option.bind_some, Option.some.injEq, Prod.mk.injEq] at e
              obtain ⟨rfl, rfl⟩ := e
              refine LE.use G ea fun v1 g1 H1 G1 E1 R1 => ?_
              refine LE.use G1 eb fun v2 g2 H2 G2 E2 R2 => ?_
              refine ⟨v1, v2, rfl, ?_⟩
              have far : ∀ o1 o2 b, ra = .t o1 → rb = .t o2 → v1 = .ref b → v2 = .ref b → False := fun o1 o2 b e1 e2 e3 e4 => by
                subst e1 e2 e3 e4
                cases R1 with
                | t _ ho _ =>
                  cases R2 with
                  | t h0 _ _ =>
                    obtain ⟨x, hx, _⟩ := ho.at_.there
                    rw [hx] at h0; cases h0
              obtain ⟨g3, G3, E3, R3, nb3, keep3, t3⟩ := norm_ok G2 (R1.step E2) (E1.trans E2) ec
              obtain ⟨g4, G4, E4, R4, nb4, keep4, t4⟩ := norm_ok G3 (keep3 _ _ _ (R2.sooner E1.dom)) E3 ed
              have R3' := keep4 _ _ _ R3
              have done : ∀ σ' s5 g5, Good w K g5 s5 σ' H2 → Ext (PD.W g s.env σ) g H (PD.W g5 s5.env σ') g5 H2 → RR w K H g5 H2 s5 σ' v2 rb' → setR j rb' s5 = some s6 → D.nx (σ'.set j (some v2)) H2 := fun σ' s5 g5 G5 E5 R5 ef => by
                obtain ⟨g6, G6, E6, _, _⟩ := setR_ok G5 R5 E5 ef
                exact q _ g6 H2 G6 E6
              cases R3' with
              | d h =>
                cases ee
                refine done _ _ g4 (G4.setD h) (E4.less fun b hb => .inl (hb.elim (fun z => .inl z.setD) .inr)) ?_ ef
                cases R4 with
                | d h => exact .d h
                | t h0 ho hn => exact .t h0 ho fun z => hn (z.elim (fun y => .inl y.setD) .inr)
                | b _ => exact absurd rfl (nb4 _)
              | t h0 ho hn =>
                cases ee
                rename_i a1 o1
                have hW : ∀ b, PD.W g4 (s4.env.set i (.o o1)) (σ.set i (some (.ref a1))) b → PD.W g4 s4.env σ b ∨ b = a1 := fun b hb => by
                  rcases hb with hb | hb
                  · exact hb.setO.elim (fun z => .inl (.inl z)) .inr
                  · exact .inl (.inr hb)
                refine done _ _ g4 (G4.setO ho hn) ⟨E4.pr, E4.dom, E4.mono, E4.newF, fun b hb => (hW b hb).elim (E4.wsub b) fun z => .inr (by rw [z]; exact h0), E4.st⟩ ?_ ef
                cases R4 with
                | d h => exact .d h
                | t h02 ho2 hn2 =>
                  refine .t h02 ho2 fun z => ?_
                  rcases hW _ z with y | y
                  · exact hn2 y
                  · exact far _ _ _ (t3 _ rfl) (t4 _ rfl) rfl (by rw [y])
                | b _ => exact absurd rfl (nb4 _)
              | b _ => exact absurd rfl (nb3 _)
theorem tAug_LS {i : Nat} {f : D → D → Option D} {ti : TIp} {m : M R} {D : Ends} (hf : ∀ (g : Gh) (H : Hp) (x y : V) (dx dy dz : PD.D) (Q : VK), Sub g.F H → Rep w K g.st g.F x dx → Rep1 w K H g y dy → f dx dy = some dz → (∀ v, Rep w K g.st g.F v dz → Q v H) → ti x y H Q)
    (h : LS w K (mAug i f m) D σ H) : tAug i (LE w K m) ti D σ H := by
  obtain ⟨g, s, G, fl, s', e, q⟩ := h
  unfold mAug at e
  cases hs : s.env[i]? with
  | none => rw [hs] at e; cases e
  | some sl =>
    rw [hs] at e
    simp only [Option.bind_some] at e
    cases sl with
    | no => cases e
    | o _ => cases e
    | d x =>
      simp only at e
      cases ea : m s with
      | none => rw [ea] at e; cases e
      | some p =>
        obtain ⟨r, s1⟩ := p
        rw [ea] at e
        simp only [Option.bind_some] at e
        cases er : r.peek s1.env with
        | none => rw [er] at e; cases e
        | some y =>
          rw [er] at e
          simp only [Option.bind_some] at e
          cases ef : f x y with
          | none => rw [ef] at e; cases e
          | some z =>
            rw [ef] at e
            simp only [Option.bind_some, Option.some.injEq, Prod.mk.injEq] at e
            obtain ⟨rfl, rfl⟩ := e
            have hi := (List.getElem?_eq_some_iff.mp hs).1
            rw [G.len] at hi
            have sr := G.env i _ _ hs (List.getElem?_eq_getElem hi)
            generalize he : σ[i] = sv at sr
            cases sr with
            | d rx =>
              rename_i v
              refine ⟨v, by rw [List.getElem?_eq_getElem hi, he], ?_⟩
              refine LE.use G ea fun v1 g1 H1 G1 E1 R1 => ?_
              refine hf g1 H1 v v1 x y z _ G1.fr (rx.mono E1.st E1.mono) (R1.peek G1 er) ef fun u ru => ?_
              exact q _ g1 H1 (G1.setD ru) (E1.less fun b hb => .inl (hb.elim (fun z => .inl z.setD) .inr))
/-! targets -/
theorem gName_LG {i : Nat} {ts : List Nat} (hi : i ∈ ts) {v : V} {Q : St → Hp → Prop} (h : LG w K ts (tgN i) v σ H Q) : gName i v σ H Q := by
  obtain ⟨g, s, d, G, r, s', e, q⟩ := h
  cases e
  refine q _ g H (G.setD r) ((Ext.refl (PD.W g s.env σ) g H).less fun b hb => .inl (hb.elim (fun z => .inl z.setD) .inr)) ⟨by rw [List.length_set], fun j hj => ?_⟩
  rw [List.getElem?_set_ne (show i ≠ j from fun z => hj (by rw [← z]; exact hi))]
theorem gNil_LG {ts : List Nat} {vs : List V} {Q : St → Hp → Prop} (h : LGs w K ts tgNil vs σ H Q) : gNil vs σ H Q := by
  obtain ⟨g, s, d, G, r, s', e, q⟩ := h
  cases r with
  | nil => cases e; exact ⟨rfl, q σ g H G (Ext.refl _ _ _) (.refl _ _)⟩
  | cons _ _ => cases e
theorem gCons_LG {ts : List Nat} {t : D → S → Option S} {u : List D → S → Option S} {vs : List V} {Q : St → Hp → Prop} (h : LGs w K ts (tgCons t u) vs σ H Q) : gCons (LG w K ts t) (LGs w K ts u) vs σ H Q := by
  obtain ⟨g, s, d, G, r, s', e, q⟩ := h
  cases r with
  | nil => cases e
  | cons r1 r2 =>
    rename_i v vs d ds
    have e : ((t d s).bind fun s1 => u ds s1) = some s' := e
    cases ea : t d s with
    | none => rw [ea] at e; cases e
    | some s1 =>
      rw [ea] at e
      simp only [Option.bind_some] at e
      refine ⟨v, vs, rfl, g, s, d, G, r1, s1, ea, fun σ1 g1 H1 G1 E1 O1 => ?_⟩
      exact ⟨g1, s1, ds, G1, r2.mono E1.st E1.mono, s', e, fun σ2 g2 H2 G2 E2 O2 => q σ2 g2 H2 G2 (E1.trans E2) (O1.trans O2 (fun _ h => h) fun _ h => h)⟩
theorem tgT_eq {t : List D → S → Option S} {d : D} {s s' : S} (h : tgT t d s = some s') : ∃ ds, d = .tup ds ∧ t ds s = some s' := by
  cases d <;> first | exact ⟨_, rfl, h⟩ | cases h
theorem gTup_LG {ts : List Nat} {n : Nat} {t : List D → S → Option S} {v : V} {Q : St → Hp → Prop} (hn : ∀ ds s s', t ds s = some s' → ds.length = n) (h : LG w K ts (tgT t) v σ H Q) : gTup K n (LGs w K ts t) v σ H Q := by
  obtain ⟨g, s, d, G, r, s', e, q⟩ := h
  obtain ⟨ds, rfl, e⟩ := tgT_eq e
  cases r with
  | tup hq hr => exact ⟨_, _, rfl, G.fr.seqT hq, by rw [hr.length]; exact hn _ _ _ e, g, s, ds, G, hr, s', e, q⟩
theorem tgNil_len {ds : List D} {s s' : S} (h : tgNil ds s = some s') : ds.length = 0 := by
  cases ds with
  | nil => rfl
  | cons _ _ => cases h
theorem tgCons_len {t : D → S → Option S} {u : List D → S → Option S} {n : Nat} (hu : ∀ ds s s', u ds s = some s' → ds.length = n) : ∀ ds s s', tgCons t u ds s = some s' → ds.length = n + 1 := fun ds s s' h => by
  cases ds with
  | nil => cases h
  | cons d ds =>
    have h : ((t d s).bind fun s1 => u ds s1) = some s' := h
    cases ea : t d s with
    | none => rw [ea] at h; cases h
    | some s1 =>
      rw [ea] at h
      rw [List.length_cons, hu _ _ _ h]
end
end PD
namespace PD
open PySem PySem.Spec PyProof.Rows L2

section
variable (w : World) (K : PySem.W.Frag)
/-- the iterator J walks the items -/
structure ItOk (J : It) (g : Gh) (items : List D) : Prop where
  go : ∀ (i : Nat) (g1 : Gh) (H1 : Hp), Sub g.F g1.F → StLe g.st g1.st → Sub g1.F H1 → i < items.length → J.go i H1 ∧ ∀ x H2, J.yld i H1 x H2 → ∃ g2, ExtP g1 H1 g2 H2 ∧ ∃ d, items[i]? = some d ∧ Rep w K g2.st g2.F x d
  stop : ∀ (i : Nat) (g1 : Gh) (H1 : Hp), Sub g.F g1.F → StLe g.st g1.st → Sub g1.F H1 → i = items.length → J.stop i H1
def LI (mi : M (List D)) : TI := fun σ H R => ∃ g s, Good w K g s σ H ∧ ∃ items s', mi s = some (items, s') ∧
  ∀ J g' H', Good w K g' s' σ H' → Ext (PD.W g s.env σ) g H (PD.W g' s'.env σ) g' H' → ItOk w K J g' items → R J H'
end
def bodyF (k : MS) : Fl → S → Option (Fl × S)
  | .nx, s => k s
  | .ct, s => k s
  | .bk, s => some (.nx, s)
  | .rt r, s => some (.rt r, s)
def mLoop (t : D → S → Option S) (body : MS) : List D → MS
  | [] => mSkip
  | d :: ds => fun s => (t d s).bind fun s1 => (body s1).bind fun p => bodyF (mLoop t body ds) p.1 p.2
def mFor (mi : M (List D)) (t : D → S → Option S) (body : MS) : MS := fun s => (mi s).bind fun p => mLoop t body p.1 p.2
def whileN (t : M Bool) (b : MS) : Nat → MS
  | 0 => fun _ => none
  | n + 1 => fun s => (t s).bind fun p => if p.1 = true then (b p.2).bind fun q => bodyF (whileN t b n) q.1 q.2 else some (.nx, p.2)
open Classical in
noncomputable def mWhile (t : M Bool) (b : MS) : MS := fun s => if h : ∃ r, ∃ n, whileN t b n s = some r then some (choose h) else none
theorem whileN_more {t : M Bool} {b : MS} : ∀ {n : Nat} {s : S} {r : Fl × S}, whileN t b n s = some r → whileN t b (n + 1) s = some r
  | 0, s, r, h => by cases h
  | n + 1, s, r, h => by
    unfold whileN at h ⊢
    cases ea : t s with
    | none => rw [ea] at h; cases h
    | some p =>
      rw [ea] at h
      simp only [Option.bind_some] at h ⊢
      split at h
      · rename_i hp
        rw [if_pos hp]
        cases eb : b p.2 with
        | none => rw [eb] at h; cases h
        | some q =>
          rw [eb] at h
          simp only [Option.bind_some] at h ⊢
          obtain ⟨f, s2⟩ := q
          cases f with
          | nx => exact whileN_more (n := n) h
          | ct => exact whileN_more (n := n) h
          | bk => exact h
          | rt r => exact h
      · rename_i hp
        rw [if_neg hp]; exact h
theorem whileN_le {t : M Bool} {b : MS} {n m : Nat} {s : S} {r : Fl × S} (h : whileN t b n s = some r) (hm : n ≤ m) : whileN t b m s = some r := by
  induction hm with
  | refl => exact h
  | step _ ih => exact whileN_more ih
theorem mWhile_of {t : M Bool} {b : MS} {n : Nat} {s : S} {r : Fl × S} (h : whileN t b n s = some r) : mWhile t b s = some r := by
  have ex : ∃ r, ∃ n, whileN t b n s = some r := ⟨r, n, h⟩
  unfold mWhile
  rw [dif_pos ex]
  obtain ⟨m, hm⟩ := Classical.choose_spec ex
  have h1 := whileN_le h (Nat.le_max_left n m)
  have h2 := whileN_le hm (Nat.le_max_right n m)
  rw [h1] at h2
  exact h2.symm
theorem mWhile_some {t : M Bool} {b : MS} {s : S} {r : Fl × S} (h : mWhile t b s = some r) : ∃ n, whileN t b n s = some r := by
  unfold mWhile at h
  split at h
  · rename_i ex
    cases h
    exact Classical.choose_spec ex
  · cases h
/-- the first turn -/
theorem mWhile_eq {t : M Bool} {b : MS} {s : S} : mWhile t b s = (t s).bind fun p => if p.1 = true then (b p.2).bind fun q => bodyF (mWhile t b) q.1 q.2 else some (.nx, p.2) := by
  have fwd : ∀ r, mWhile t b s = some r → ((t s).bind fun p => if p.1 = true then (b p.2).bind fun q => bodyF (mWhile t b) q.1 q.2 else some (.nx, p.2)) = some r := fun r h => by
    obtain ⟨n, h⟩ := mWhile_some h
    cases n with
    | zero => cases h
    | succ n =>
      unfold whileN at h
      cases ea : t s with
      | none => rw [ea] at h; cases h
      | some p =>
        rw [ea] at h
        simp only [Option.bind_some] at h ⊢
        split at h
        · rename_i hp
          rw [if_pos hp]
          cases eb : b p.2 with
          | none => rw [eb] at h; cases h
          | some q =>
            rw [eb] at h
            simp only [Option.bind_some] at h ⊢
            obtain ⟨f, s2⟩ := q
            cases f with
            | nx => exact mWhile_of h
            | ct => exact mWhile_of h
            | bk => exact h
            | rt r => exact h
        · rename_i hp
          rw [if_neg hp]; exact h
  have bwd : ∀ r, ((t s).bind fun p => if p.1 = true then (b p.2).bind fun q => bodyF (mWhile t b) q.1 q.2 else some (.nx, p.2)) = some r → mWhile t b s = some r := fun r h => by
    have : ∃ n, whileN t b n s = some r := by
      cases ea : t s with
      | none => rw [ea] at h; cases h
      | some p =>
        rw [ea] at h
        simp only [Option.bind_some] at h
        split at h
        · rename_i hp
          cases eb : b p.2 with
          | none => rw [eb] at h; cases h
          | some q =>
            rw [eb] at h
            simp only [Option.bind_some] at h
            obtain ⟨f, s2⟩ := q
            have go : ∀ n, bodyF (whileN t b n) f s2 = some r → ∃ n, whileN t b n s = some r := fun n hn => ⟨n + 1, by
              unfold whileN
              rw [ea]
              simp only [Option.bind_some]
              rw [if_pos hp, eb]
              exact hn⟩
            cases f with
            | nx => obtain ⟨n, hn⟩ := mWhile_some h; exact go n hn
            | ct => obtain ⟨n, hn⟩ := mWhile_some h; exact go n hn
            | bk => exact go 0 h
            | rt r => exact go 0 h
        · rename_i hp
          exact ⟨1, by unfold whileN; rw [ea]; simp only [Option.bind_some]; rw [if_neg hp]; exact h⟩
    obtain ⟨n, hn⟩ := this
    exact mWhile_of hn
  cases h1 : mWhile t b s with
  | some r => exact (fwd r h1).symm
  | none =>
    cases h2 : ((t s).bind fun p => if p.1 = true then (b p.2).bind fun q => bodyF (mWhile t b) q.1 q.2 else some (.nx, p.2)) with
    | none => rfl
    | some r => rw [bwd r h2] at h1; cases h1

section
variable {w : World} {K : PySem.W.Frag} {g g' : Gh} {s : S} {σ : St} {H H0 : Hp}
theorem tFor_LS {mi : M (List D)} {ts : List Nat} {t : D → S → Option S} {body : MS} {D : Ends} (h : LS w K (mFor mi t body) D σ H) : tFor (LI w K mi) (LG w K ts t) (LS w K body) D σ H := by
  obtain ⟨g, s, G, fl, s', e, q⟩ := h
  unfold mFor at e
  cases ea : mi s with
  | none => rw [ea] at e; cases e
  | some p =>
    obtain ⟨items, s1⟩ := p
    rw [ea] at e
    simp only [Option.bind_some] at e
    refine ⟨g, s, G, items, s1, ea, fun J g1 H1 G1 E1 IT => ?_⟩
    let Inv (i : Nat) (σx : St) (Hx : Hp) : Prop := ∃ gx sx, Good w K gx sx σx Hx ∧ Sub g1.F gx.F ∧ StLe g1.st gx.st ∧ ∃ fl s', mLoop t body (items.drop i) sx = some (fl, s') ∧ EndOk w K D gx sx σx Hx s' fl
    refine ⟨fun i m σx Hx => m = items.length - i ∧ i ≤ items.length ∧ Inv i σx Hx, ⟨_, rfl, Nat.zero_le _, g1, s1, G1, Sub.refl _, StLe.refl _, fl, s', by rw [List.drop_zero]; exact e, q.step E1⟩, ?_⟩
    rintro i m σx Hx ⟨rfl, hi, gx, sx, Gx, hF, hS, fl, s', e, q⟩
    by_cases hlt : i < items.length
    · have hd : items.drop i = items[i] :: items.drop (i + 1) := List.drop_eq_getElem_cons hlt
      rw [hd] at e
      unfold mLoop at e
      cases et : t items[i] sx with
      | none => rw [et] at e; cases e
      | some s2 =>
        rw [et] at e
        simp only [Option.bind_some] at e
        cases eb : body s2 with
        | none => rw [eb] at e; cases e
        | some p2 =>
          obtain ⟨f1, s3⟩ := p2
          rw [eb] at e
          simp only [Option.bind_some] at e
          obtain ⟨hgo, hy⟩ := IT.go i gx Hx hF hS Gx.fr hlt
          refine .inr ⟨hgo, fun σ' H' => Inv (i + 1) σ' H', fun σ' H' h => ⟨items.length - (i + 1), by omega, rfl, hlt, h⟩, fun x H2 hx => ?_⟩
          obtain ⟨g2, EP, d, hd2, rp⟩ := hy x H2 hx
          rw [List.getElem?_eq_getElem hlt] at hd2
          cases hd2
          have G2 := Gx.pure EP
          have E2 := Ext.ofP (env := sx.env) (σ := σx) EP
          refine ⟨g2, sx, _, G2, rp, s2, et, fun σ3 g3 H3 G3 E3 O3 => ?_⟩
          refine ⟨g3, s2, G3, f1, s3, eb, ?_⟩
          have again : ∀ σ4 g4 H4, Good w K g4 s3 σ4 H4 → Ext (PD.W g3 s2.env σ3) g3 H3 (PD.W g4 s3.env σ4) g4 H4 → mLoop t body (items.drop (i + 1)) s3 = some (fl, s') → Inv (i + 1) σ4 H4 := fun σ4 g4 H4 G4 E4 e =>
            ⟨g4, s3, G4, hF.trans (E2.mono.trans (E3.mono.trans E4.mono)), fun p hp => E4.st p (E3.st p (E2.st p (hS p hp))), fl, s', e, q.step ((E2.trans E3).trans E4)⟩
          cases f1 with
          | nx => exact fun σ4 g4 H4 G4 E4 => again σ4 g4 H4 G4 E4 e
          | ct => exact fun σ4 g4 H4 G4 E4 => again σ4 g4 H4 G4 E4 e
          | bk => cases e; exact (q.step (E2.trans E3))
          | rt r => cases e; exact (q.step (E2.trans E3))
    · have : i = items.length := by omega
      subst this
      rw [List.drop_length] at e
      cases e
      exact .inl ⟨IT.stop _ gx Hx hF hS Gx.fr rfl, q σx gx Hx Gx (Ext.refl _ _ _)⟩
theorem tWhile_LS {t : M Bool} {body : MS} {D : Ends} (h : LS w K (mWhile t body) D σ H) : tWhile (LT w K t) (LS w K body) D σ H := by
  obtain ⟨g, s, G, fl, s', e, q⟩ := h
  obtain ⟨n, e⟩ := mWhile_some e
  refine ⟨fun m σx Hx => ∃ gx sx, Good w K gx sx σx Hx ∧ ∃ fl s', whileN t body m sx = some (fl, s') ∧ EndOk w K D gx sx σx Hx s' fl, ⟨n, g, s, G, fl, s', e, q⟩, ?_⟩
  rintro m σx Hx ⟨gx, sx, Gx, fl, s', e, q⟩
  cases m with
  | zero => cases e
  | succ m =>
    unfold whileN at e
    cases ea : t sx with
    | none => rw [ea] at e; cases e
    | some p =>
      obtain ⟨k, s1⟩ := p
      rw [ea] at e
      simp only [Option.bind_some] at e
      refine ⟨gx, sx, Gx, k, s1, ea, fun g1 H1 G1 E1 => ?_⟩
      cases k with
      | false =>
        rw [if_neg Bool.false_ne_true] at e ⊢
        cases e
        exact q σx g1 H1 G1 E1
      | true =>
        rw [if_pos rfl] at e ⊢
        cases eb : body s1 with
        | none => rw [eb] at e; cases e
        | some p2 =>
          obtain ⟨f1, s2⟩ := p2
          rw [eb] at e
          simp only [Option.bind_some] at e
          refine ⟨fun σ' H' => ∃ gy sy, Good w K gy sy σ' H' ∧ ∃ fl s', whileN t body m sy = some (fl, s') ∧ EndOk w K D gy sy σ' H' s' fl, fun σ' H' h => ⟨m, Nat.lt_succ_self m, h⟩, g1, s1, G1, f1, s2, eb, ?_⟩
          cases f1 with
          | nx => exact fun σ4 g4 H4 G4 E4 => ⟨g4, s2, G4, fl, s', e, q.step (E1.trans E4)⟩
          | ct => exact fun σ4 g4 H4 G4 E4 => ⟨g4, s2, G4, fl, s', e, q.step (E1.trans E4)⟩
          | bk => cases e; exact q.step E1
          | rt r => cases e; exact q.step E1
end

/-! ### list comprehensions -/
def wipeE (vs : List Nat) (env : List Sl) : List Sl := vs.foldr (fun v e => e.set v .no) env
def wipeS (vs : List Nat) (s : S) : S := ⟨wipeE vs s.env, s.ds⟩
/-- the names vs as they were -/
def restE (old : List Sl) (vs : List Nat) (new : List Sl) : List Sl := vs.foldr (fun v e => e.set v (old.getD v .no)) new
def lcLoop (t : D → S → Option S) (tt : M Bool) (te : M R) (vs : List Nat) : List D → M (List D)
  | [] => fun s => some ([], s)
  | d :: ds => fun s => (t d s).bind fun s1 => (tt s1).bind fun p => if p.1 = true then
      (te p.2).bind fun r => (mShare r.1 r.2).bind fun q => (lcLoop t tt te vs ds (wipeS vs q.2)).bind fun z => some (q.1 :: z.1, z.2)
    else lcLoop t tt te vs ds (wipeS vs p.2)
def mLc (mi : M (List D)) (t : D → S → Option S) (tt : M Bool) (te : M R) (vs : List Nat) : M R := fun s => (mi s).bind fun p =>
  (lcLoop t tt te vs p.1 (wipeS vs p.2)).bind fun q => if q.1.length ≤ sizeLine then some (.t (.l q.1), ⟨restE p.2.env vs q.2.env, q.2.ds⟩) else none
def mYes : M Bool := fun s => some (true, s)
theorem wipeE_at : ∀ {vs : List Nat} {env : List Sl} {j : Nat} {sl : Sl}, (wipeE vs env)[j]? = some sl → (j ∉ vs ∧ env[j]? = some sl) ∨ (j ∈ vs ∧ sl = .no)
  | [], env, j, sl, h => .inl ⟨by simp, h⟩
  | v :: vs, env, j, sl, h => by
    have h : ((wipeE vs env).set v .no)[j]? = some sl := h
    by_cases e : v = j
    · subst e
      have hv : v < (wipeE vs env).length := by have := (List.getElem?_eq_some_iff.mp h).1; simpa using this
      rw [List.getElem?_set_self hv] at h
      cases h
      exact .inr ⟨List.mem_cons_self, rfl⟩
    · rw [List.getElem?_set_ne e] at h
      rcases wipeE_at h with ⟨h1, h2⟩ | ⟨h1, h2⟩
      · exact .inl ⟨by simp only [List.mem_cons, not_or]; exact ⟨fun z => e z.symm, h1⟩, h2⟩
      · exact .inr ⟨List.mem_cons_of_mem _ h1, h2⟩
theorem wipeE_len (vs : List Nat) (env : List Sl) : (wipeE vs env).length = env.length := by
  induction vs with
  | nil => rfl
  | cons v vs ih => show ((wipeE vs env).set v .no).length = _; rw [List.length_set, ih]
theorem restE_len (old : List Sl) (vs : List Nat) (env : List Sl) : (restE old vs env).length = env.length := by
  induction vs with
  | nil => rfl
  | cons v vs ih => show ((restE old vs env).set v _).length = _; rw [List.length_set, ih]
theorem restE_at {old : List Sl} : ∀ {vs : List Nat} {env : List Sl} {j : Nat} {sl : Sl}, old.length = env.length → (restE old vs env)[j]? = some sl → (j ∉ vs ∧ env[j]? = some sl) ∨ (j ∈ vs ∧ old[j]? = some sl)
  | [], env, j, sl, _, h => .inl ⟨by simp, h⟩
  | v :: vs, env, j, sl, hl, h => by
    have h : ((restE old vs env).set v (old.getD v .no))[j]? = some sl := h
    by_cases e : v = j
    · subst e
      have hv : v < (restE old vs env).length := by have := (List.getElem?_eq_some_iff.mp h).1; simpa using this
      rw [List.getElem?_set_self hv] at h
      rw [restE_len, ← hl] at hv
      cases h
      exact .inr ⟨List.mem_cons_self, by rw [List.getElem?_eq_getElem hv]; simp [List.getD, hv]⟩
    · rw [List.getElem?_set_ne e] at h
      rcases restE_at hl h with ⟨h1, h2⟩ | ⟨h1, h2⟩
      · exact .inl ⟨by simp only [List.mem_cons, not_or]; exact ⟨fun z => e z.symm, h1⟩, h2⟩
      · exact .inr ⟨List.mem_cons_of_mem _ h1, h2⟩
theorem wipe_in {σ : St} : ∀ {vs : List Nat} {j : Nat} {x : Option V}, (wipe σ vs)[j]? = some x → (j ∉ vs ∧ σ[j]? = some x) ∨ (j ∈ vs ∧ x = none)
  | [], j, x, h => .inl ⟨by simp, h⟩
  | v :: vs, j, x, h => by
    have h : ((wipe σ vs).set v none)[j]? = some x := h
    by_cases e : v = j
    · subst e
      have hv : v < (wipe σ vs).length := by have := (List.getElem?_eq_some_iff.mp h).1; simpa using this
      rw [List.getElem?_set_self hv] at h
      cases h
      exact .inr ⟨List.mem_cons_self, rfl⟩
    · rw [List.getElem?_set_ne e] at h
      rcases wipe_in h with ⟨h1, h2⟩ | ⟨h1, h2⟩
      · exact .inl ⟨by simp only [List.mem_cons, not_or]; exact ⟨fun z => e z.symm, h1⟩, h2⟩
      · exact .inr ⟨List.mem_cons_of_mem _ h1, h2⟩
theorem wipe_get {σ : St} {vs : List Nat} {j : Nat} (hj : j < σ.length) : (wipe σ vs)[j]? = if j ∈ vs then some none else σ[j]? := by
  have hl : j < (wipe σ vs).length := by rw [wipe_length]; exact hj
  have := wipe_in (List.getElem?_eq_getElem hl)
  rcases this with ⟨h1, h2⟩ | ⟨h1, h2⟩
  · rw [if_neg h1, h2, List.getElem?_eq_getElem hl]
  · rw [if_pos h1, List.getElem?_eq_getElem hl, h2]
theorem wipe_off {σ σ' : St} {ts vs : List Nat} (h : Off ts σ σ') (hs : ∀ i ∈ ts, i ∈ vs) : wipe σ' vs = wipe σ vs := by
  refine List.ext_getElem? fun j => ?_
  by_cases hj : j < σ.length
  · rw [wipe_get (by rw [h.len]; exact hj), wipe_get hj]
    split
    · rfl
    · rename_i hn
      exact h.at_ j fun z => hn (hs j z)
  · rw [List.getElem?_eq_none (by rw [wipe_length, h.len]; omega), List.getElem?_eq_none (by rw [wipe_length]; omega)]
theorem wipe_idem (σ : St) (vs : List Nat) : wipe (wipe σ vs) vs = wipe σ vs := by
  refine List.ext_getElem? fun j => ?_
  by_cases hj : j < σ.length
  · rw [wipe_get (by rw [wipe_length]; exact hj), wipe_get hj]
    split <;> rfl
  · rw [List.getElem?_eq_none (by rw [wipe_length, wipe_length]; omega), List.getElem?_eq_none (by rw [wipe_length]; omega)]
section
variable {w : World} {K : PySem.W.Frag} {g g' : Gh} {s : S} {σ : St} {H H0 : Hp}
theorem OwnA.wipe {vs : List Nat} {env : List Sl} {a : Addr} (h : OwnA (wipeE vs env) (L2.wipe σ vs) a) : ∃ (i : Nat) (o : Own), i ∉ vs ∧ env[i]? = some (.o o) ∧ σ[i]? = some (some (.ref a)) := by
  obtain ⟨i, o, h1, h2⟩ := h
  rcases wipeE_at h1 with ⟨h3, h4⟩ | ⟨_, h4⟩
  · rcases wipe_in h2 with ⟨_, h6⟩ | ⟨h5, _⟩
    · exact ⟨i, o, h3, h4, h6⟩
    · exact absurd h5 h3
  · cases h4
theorem Good.wipe (vs : List Nat) (G : Good w K g s σ H) : Good w K g (wipeS vs s) (L2.wipe σ vs) H where
  fr := G.fr
  ds := G.ds
  len := by show (wipeE vs s.env).length = _; rw [wipeE_len, wipe_length]; exact G.len
  env := fun j sl x h1 h2 => by
    rcases wipeE_at h1 with ⟨h3, h4⟩ | ⟨_, h4⟩
    · rcases wipe_in h2 with ⟨_, h6⟩ | ⟨h5, _⟩
      · exact G.env j sl x h4 h6
      · exact absurd h5 h3
    · subst h4; exact .no
  uniq := fun i j o o' a h1 h2 h3 h4 => by
    rcases wipeE_at h1 with ⟨_, h5⟩ | ⟨_, h5⟩
    · rcases wipeE_at h2 with ⟨_, h6⟩ | ⟨_, h6⟩
      · rcases wipe_in h3 with ⟨_, h7⟩ | ⟨_, h7⟩
        · rcases wipe_in h4 with ⟨_, h8⟩ | ⟨_, h8⟩
          · exact G.uniq i j o o' a h5 h6 h7 h8
          · cases h8
        · cases h7
      · cases h6
    · cases h5
  apart := fun a h z => by
    obtain ⟨i, o, _, h1, h2⟩ := h.wipe
    exact G.apart a ⟨i, o, h1, h2⟩ z
/-- behind a block: its own names as they were -/
theorem Good.back {vs : List Nat} {g1 gx : Gh} {s1 sx : S} {H1 Hx : Hp} (G1 : Good w K g1 s1 σ H1) (Gx : Good w K gx sx (L2.wipe σ vs) Hx) (E : Ext (PD.W g1 (wipeE vs s1.env) (L2.wipe σ vs)) g1 H1 (PD.W gx sx.env (L2.wipe σ vs)) gx Hx) :
    Good w K gx ⟨restE s1.env vs sx.env, sx.ds⟩ σ Hx ∧ (∀ b, PD.W gx (restE s1.env vs sx.env) σ b → PD.W g1 s1.env σ b ∨ H1 b = none) := by
  have hl : s1.env.length = sx.env.length := by rw [G1.len, Gx.len, wipe_length]
  -- a hidden own object is not written
  have hid : ∀ {i : Nat} {o : Own} {a : Addr}, i ∈ vs → s1.env[i]? = some (.o o) → σ[i]? = some (some (.ref a)) → ¬ PD.W g1 (wipeE vs s1.env) (L2.wipe σ vs) a := fun {i o a} hi h1 h2 z => by
    rcases z with z | z
    · obtain ⟨j, o', h3, h4, h5⟩ := z.wipe
      have := G1.uniq i j o o' a h1 h4 h2 h5
      subst this
      exact h3 hi
    · exact G1.apart a ⟨i, o, h1, h2⟩ z
  have tr : ∀ {i : Nat} {o : Own} {a : Addr}, s1.env[i]? = some (.o o) → σ[i]? = some (some (.ref a)) → H1 a ≠ none := fun {i o a} h1 h2 => W_ne G1 (.inl ⟨i, o, h1, h2⟩)
  have shown : ∀ {j : Nat} {x : Option V}, j ∉ vs → σ[j]? = some x → (L2.wipe σ vs)[j]? = some x := fun {j x} hj h => by
    rw [wipe_get (List.getElem?_eq_some_iff.mp h).1, if_neg hj]; exact h
  refine ⟨⟨Gx.fr, Gx.ds, by show (restE s1.env vs sx.env).length = _; rw [restE_len, ← hl]; exact G1.len, fun j sl x h1 h2 => ?_, fun i j o o' a h1 h2 h3 h4 => ?_, fun a ⟨i, o, h1, h2⟩ z => ?_⟩, fun b hb => ?_⟩
  · rcases restE_at hl h1 with ⟨h3, h4⟩ | ⟨h3, h4⟩
    · exact Gx.env j sl x h4 (shown h3 h2)
    · have sr := G1.env j sl x h4 h2
      cases sr with
      | no => exact .no
      | d r => exact .d (r.mono E.st E.mono)
      | o r => exact .o (r.ext E (hid h3 h4 h2))
  · rcases restE_at hl h1 with ⟨h5, h6⟩ | ⟨h5, h6⟩
    · rcases restE_at hl h2 with ⟨h7, h8⟩ | ⟨h7, h8⟩
      · exact Gx.uniq i j o o' a h6 h8 (shown h5 h3) (shown h7 h4)
      · rcases E.wsub a (.inl ⟨i, o, h6, shown h5 h3⟩) with z | z
        · exact (hid h7 h8 h4 z).elim
        · exact (tr h8 h4 z).elim
    · rcases restE_at hl h2 with ⟨h7, h8⟩ | ⟨h7, h8⟩
      · rcases E.wsub a (.inl ⟨j, o', h8, shown h7 h4⟩) with z | z
        · exact (hid h5 h6 h3 z).elim
        · exact (tr h6 h3 z).elim
      · exact G1.uniq i j o o' a h6 h8 h3 h4
  · rcases restE_at hl h1 with ⟨h5, h6⟩ | ⟨h5, h6⟩
    · exact Gx.apart a ⟨i, o, h6, shown h5 h2⟩ z
    · rcases E.wsub a (.inr z) with y | y
      · exact hid h5 h6 h2 y
      · exact tr h6 h2 y
  · rcases hb with ⟨i, o, h1, h2⟩ | hb
    · rcases restE_at hl h1 with ⟨h5, h6⟩ | ⟨h5, h6⟩
      · rcases E.wsub b (.inl ⟨i, o, h6, shown h5 h2⟩) with z | z
        · refine .inl (z.elim (fun y => ?_) .inr)
          obtain ⟨j, o', _, y1, y2⟩ := y.wipe
          exact .inl ⟨j, o', y1, y2⟩
        · exact .inr z
      · exact .inl (.inl ⟨i, o, h6, h2⟩)
    · rcases E.wsub b (.inr hb) with z | z
      · refine .inl (z.elim (fun y => ?_) .inr)
        obtain ⟨j, o', _, y1, y2⟩ := y.wipe
        exact .inl ⟨j, o', y1, y2⟩
      · exact .inr z
theorem W_wipe {vs : List Nat} {g : Gh} {env : List Sl} {b : Addr} (h : PD.W g (wipeE vs env) (L2.wipe σ vs) b) : PD.W g env σ b := by
  rcases h with h | h
  · obtain ⟨j, o', _, y1, y2⟩ := h.wipe
    exact .inl ⟨j, o', y1, y2⟩
  · exact .inr h
/-- appending to a list of ours that is no slot's -/
theorem acc_app {g : Gh} {s : S} {σ : St} {H : Hp} {A : Addr} {xs : List V} {acc : List D} {y : V} {d : D} (G : Good w K g s σ H) (hA : H A = some (.lst xs)) (nF : g.F A = none) (nW : ¬ PD.W g s.env σ A) (ra : RepL w K g.st g.F xs acc) (ry : Rep w K g.st g.F y d) :
    Good w K g s σ (upd H A (.lst (xs ++ [y]))) ∧ RepL w K g.st g.F (xs ++ [y]) (acc ++ [d]) := by
  have keep : ∀ b, b ≠ A → upd H A (.lst (xs ++ [y])) b = H b := fun b hb => upd_ne hb
  refine ⟨⟨fun b o e => ?_, ?_, G.len, fun i sl x h1 h2 => ?_, G.uniq, G.apart⟩, ra.append (.one ry)⟩
  · rw [keep b (fun z => by rw [z, nF] at e; cases e)]; exact G.fr b o e
  · have := G.ds
    cases hd : s.ds with
    | none => rw [hd] at this; exact this
    | some d =>
      rw [hd] at this
      obtain ⟨sa, ca, e1, ne, h1, h2, f1, f2⟩ := this
      refine ⟨sa, ca, e1, ne, ?_, ?_, f1, f2⟩
      · rw [keep sa (fun z => nW (by rw [← z]; exact .inr ⟨sa, ca, e1, .inl rfl⟩))]; exact h1
      · rw [keep ca (fun z => nW (by rw [← z]; exact .inr ⟨sa, ca, e1, .inr rfl⟩))]; exact h2
  · have sr := G.env i sl x h1 h2
    cases sr with
    | no => exact .no
    | d r => exact .d r
    | o r =>
      rename_i a o
      have hne : a ≠ A := fun z => nW (by rw [← z]; exact .inl ⟨i, o, h1, h2⟩)
      refine .o ⟨?_, r.nf⟩
      cases o with
      | l ys => obtain ⟨us, e1, r1⟩ := r.at_; exact ⟨us, by rw [keep a hne]; exact e1, r1⟩
      | k kvs => obtain ⟨es, ep, e1, r1, r2⟩ := r.at_; exact ⟨es, ep, by rw [keep a hne]; exact e1, r1, r2⟩
theorem tLc_LE {mi : M (List D)} {ts vs : List Nat} {t : D → S → Option S} {tt : M Bool} {te : M R} {Q : VK} (hts : ∀ i ∈ ts, i ∈ vs) (h : LE w K (mLc mi t tt te vs) σ H Q) :
    tLc (LI w K mi) (LG w K ts t) (LT w K tt) (LE w K te) vs σ H Q := by
  obtain ⟨g, s, G, res, s', e, q⟩ := h
  unfold mLc at e
  cases ea : mi s with
  | none => rw [ea] at e; cases e
  | some p =>
    obtain ⟨items, s1⟩ := p
    rw [ea] at e
    simp only [Option.bind_some] at e
    cases el : lcLoop t tt te vs items (wipeS vs s1) with
    | none => rw [el] at e; cases e
    | some p2 =>
      obtain ⟨fin, sf⟩ := p2
      rw [el] at e
      simp only [Option.bind_some] at e
      split at e
      · rename_i hfin
        simp only [Option.some.injEq, Prod.mk.injEq] at e
        obtain ⟨rfl, rfl⟩ := e
        refine ⟨g, s, G, items, s1, ea, fun J g1 H1 G1 E1 IT A hA => ?_⟩
        have Gb : Good w K g1 (wipeS vs s1) (L2.wipe σ vs) H1 := G1.wipe vs
        have EP0 : ExtP g1 H1 g1 (upd H1 A (.lst [])) := ExtP.new G1.fr hA
        let σb := L2.wipe σ vs
        let Inv (i : Nat) (Hx : Hp) : Prop := ∃ gx sx xs acc rest, Good w K gx sx σb Hx ∧ Sub g1.F gx.F ∧ StLe g1.st gx.st ∧ Hx A = some (.lst xs) ∧ gx.F A = none ∧ ¬ PD.W gx sx.env σb A ∧ RepL w K gx.st gx.F xs acc ∧
          lcLoop t tt te vs (items.drop i) sx = some (rest, sf) ∧ acc ++ rest = fin ∧ Ext (PD.W g1 (wipeE vs s1.env) σb) g1 H1 (PD.W gx sx.env σb) gx Hx
        refine ⟨fun i m Hx => m = items.length - i ∧ i ≤ items.length ∧ Inv i Hx, ⟨_, rfl, Nat.zero_le _, g1, wipeS vs s1, [], [], fin, Gb.pure EP0, Sub.refl _, StLe.refl _, upd_same, G1.fr.none hA, fun z => W_ne Gb z hA, .nil, by rw [List.drop_zero]; exact el, rfl, Ext.ofP EP0⟩, ?_⟩
        rintro i m Hx ⟨rfl, hi, gx, sx, xs, acc, rest, Gx, hF, hS, hAx, nF, nW, ra, e, hfe, Ex⟩
        by_cases hlt : i < items.length
        · have hd : items.drop i = items[i] :: items.drop (i + 1) := List.drop_eq_getElem_cons hlt
          rw [hd] at e
          unfold lcLoop at e
          cases et : t items[i] sx with
          | none => rw [et] at e; cases e
          | some s2 =>
            rw [et] at e
            simp only [Option.bind_some] at e
            cases ett : tt s2 with
            | none => rw [ett] at e; cases e
            | some p3 =>
              obtain ⟨k, s3⟩ := p3
              rw [ett] at e
              simp only [Option.bind_some] at e
              obtain ⟨hgo, hy⟩ := IT.go i gx Hx hF hS Gx.fr hlt
              refine .inr ⟨hgo, fun H' => Inv (i + 1) H', fun H' h => ⟨items.length - (i + 1), by omega, rfl, hlt, h⟩, fun x H2 hx => ?_⟩
              obtain ⟨g2, EP, d, hd2, rp⟩ := hy x H2 hx
              rw [List.getElem?_eq_getElem hlt] at hd2
              cases hd2
              have G2 := Gx.pure EP
              have E2 := Ext.ofP (env := sx.env) (σ := σb) EP
              refine ⟨g2, sx, _, G2, rp, s2, et, fun σ3 g3 H3 G3 E3 O3 => ?_⟩
              have hw : L2.wipe σ3 vs = σb := by rw [wipe_off O3 hts]; exact wipe_idem σ vs
              refine ⟨hw, g3, s2, G3, k, s3, ett, fun g4 H4 G4 E4 => ?_⟩
              have E24 : Ext (PD.W gx sx.env σb) gx Hx (PD.W g4 s3.env σ3) g4 H4 := (E2.trans E3).trans E4
              -- the list stays ours
              have stays : ∀ {g5 : Gh} {s5 : S} {H5 : Hp}, Ext (PD.W gx sx.env σb) gx Hx (PD.W g5 s5.env σ3) g5 H5 → H5 A = some (.lst xs) ∧ g5.F A = none ∧ ¬ PD.W g5 s5.env σ3 A := fun {g5 s5 H5} E5 => by
                refine ⟨E5.pr A _ hAx nW, ?_, fun z => ?_⟩
                · cases qq : g5.F A with
                  | none => rfl
                  | some u =>
                    rcases E5.newF A u nF qq with z | z | ⟨ys, z⟩
                    · rw [hAx] at z; cases z
                    · exact absurd z nW
                    · rw [hAx] at z; cases z
                · rcases E5.wsub A z with y | y
                  · exact nW y
                  · rw [hAx] at y; cases y
              cases k with
              | false =>
                rw [if_neg Bool.false_ne_true] at e
                refine iteF ?_
                obtain ⟨a1, a2, a3⟩ := stays E24
                have Gw := G4.wipe vs
                rw [hw] at Gw
                have wsub : ∀ b, PD.W g4 (wipeE vs s3.env) σb b → PD.W g4 s3.env σ3 b := fun b hb => by
                  rw [← hw] at hb; exact W_wipe hb
                exact ⟨g4, wipeS vs s3, xs, acc, rest, Gw, hF.trans E24.mono, fun p hp => E24.st p (hS p hp), a1, a2, fun z => a3 (wsub _ z), ra.mono E24.st E24.mono, e, hfe, (Ex.trans E24).less fun b hb => .inl (wsub b hb)⟩
              | true =>
                rw [if_pos rfl] at e
                refine iteT ?_
                cases ete : te s3 with
                | none => rw [ete] at e; cases e
                | some p5 =>
                  obtain ⟨r5, s5⟩ := p5
                  rw [ete] at e
                  simp only [Option.bind_some] at e
                  cases esh : mShare r5 s5 with
                  | none => rw [esh] at e; cases e
                  | some p6 =>
                    obtain ⟨d6, s6⟩ := p6
                    rw [esh] at e
                    simp only [Option.bind_some] at e
                    cases erest : lcLoop t tt te vs (items.drop (i + 1)) (wipeS vs s6) with
                    | none => rw [erest] at e; cases e
                    | some p7 =>
                      obtain ⟨rest', s7⟩ := p7
                      rw [erest] at e
                      simp only [Option.bind_some, Option.some.injEq, Prod.mk.injEq] at e
                      obtain ⟨rfl, rfl⟩ := e
                      refine LE.use G4 ete fun y g5 H5 G5 E5 R5 => ?_
                      obtain ⟨g6, G6, E6, rp6, _, _⟩ := share_ok G5 R5 E5 esh
                      have E26 := E24.trans E6
                      obtain ⟨a1, a2, a3⟩ := stays E26
                      have ra6 := ra.mono E26.st E26.mono
                      have hlen : acc.length < sizeLine := by
                        have h1 : (acc ++ d6 :: rest').length = fin.length := by rw [hfe]
                        rw [List.length_append, List.length_cons] at h1
                        omega
                      refine ⟨xs, a1, by rw [ra.length]; exact hlen, ?_⟩
                      obtain ⟨G8, r8⟩ := acc_app G6 a1 a2 a3 ra6 rp6
                      have Gw := G8.wipe vs
                      rw [hw] at Gw
                      have wsub : ∀ b, PD.W g6 (wipeE vs s6.env) σb b → PD.W g6 s6.env σ3 b := fun b hb => by
                        rw [← hw] at hb; exact W_wipe hb
                      refine ⟨g6, wipeS vs s6, xs ++ [y], acc ++ [d6], rest', Gw, hF.trans E26.mono, fun p hp => E26.st p (hS p hp), upd_same, a2, fun z => a3 (wsub _ z), r8, erest, by rw [List.append_assoc]; exact hfe, ?_⟩
                      have E7 := Ex.trans E26
                      refine ⟨fun b o hb hn => ?_, fun b hb => ?_, E7.mono, E7.newF, fun b hb => E7.wsub b (wsub b hb), E7.st⟩
                      · rw [upd_ne (show b ≠ A from fun z => by rw [z, hA] at hb; cases hb)]
                        exact E7.pr b o hb hn
                      · by_cases z : b = A
                        · rw [z]; exact hA
                        · rw [upd_ne z] at hb; exact E7.dom b hb
        · have : i = items.length := by omega
          subst this
          rw [List.drop_length] at e
          have e : some (([] : List D), sx) = some (rest, sf) := e
          simp only [Option.some.injEq, Prod.mk.injEq] at e
          obtain ⟨rfl, rfl⟩ := e
          rw [List.append_nil] at hfe
          subst hfe
          refine .inl ⟨IT.stop _ gx Hx hF hS Gx.fr rfl, ?_⟩
          obtain ⟨GB, WB⟩ := Good.back (vs := vs) G1 Gx Ex
          have EB : Ext (PD.W g1 s1.env σ) g1 H1 (PD.W gx (restE s1.env vs sx.env) σ) gx Hx :=
            ⟨fun b o hb hn => Ex.pr b o hb fun z => hn (W_wipe z), Ex.dom, Ex.mono, fun b o h1 h2 => (Ex.newF b o h1 h2).elim .inl fun z => z.elim (fun y => .inr (.inl (W_wipe y))) fun y => .inr (.inr y), WB, Ex.st⟩
          refine q (.ref A) gx Hx GB (E1.trans EB) (.t (E1.dom A hA) ⟨⟨xs, hAx, ra⟩, nF⟩ fun z => ?_)
          have hl : s1.env.length = sx.env.length := by rw [G1.len, Gx.len, wipe_length]
          rcases z with ⟨i, o, h1, h2⟩ | z
          · rcases restE_at hl h1 with ⟨h5, h6⟩ | ⟨h5, h6⟩
            · exact nW (.inl ⟨i, o, h6, by rw [wipe_get (List.getElem?_eq_some_iff.mp h2).1, if_neg h5]; exact h2⟩)
            · exact W_ne G1 (.inl ⟨i, o, h6, h2⟩) hA
          · exact nW (.inr z)
      · cases e
end
end PD
namespace PD
open PySem PySem.Spec PyProof.Rows L2

section
variable {w : World} {K : PySem.W.Frag} {g : Gh} {H : Hp} {Q : VK}
abbrev Kont (w : World) (K : PySem.W.Frag) (g : Gh) (H : Hp) (Q : VK) (res : R) : Prop := ∀ v g' H', ExtP g H g' H' → RP w K H g' H' v res → Q v H'
theorem k_int {i : Int} (hf : Sub g.F H) (q : Kont w K g H Q (.d (.int i))) : Q (.int i) H := q _ g H (ExtP.refl hf) (.d (.int _))
theorem k_bl {i : Bool} (hf : Sub g.F H) (q : Kont w K g H Q (.d (.bl i))) : Q (.bl i) H := q _ g H (ExtP.refl hf) (.d (.bl _))
theorem k_non (hf : Sub g.F H) (q : Kont w K g H Q (.d .non)) : Q .non H := q _ g H (ExtP.refl hf) (.d .non)
theorem k_str {l : List Nat} (hl : StrG l) (hf : Sub g.F H) (q : Kont w K g H Q (.d (.str l))) : Q (.str (sOf l)) H := q _ g H (ExtP.refl hf) (.d (.str hl))
theorem k_rep {v : V} {d : D} (r : Rep w K g.st g.F v d) (hf : Sub g.F H) (q : Kont w K g H Q (.d d)) : Q v H := q _ g H (ExtP.refl hf) (.d r)
theorem k_lst {vs : List V} {ds : List D} (r : RepL w K g.st g.F vs ds) (hf : Sub g.F H) (q : Kont w K g H Q (.t (.l ds))) : ∀ p, H p = none → Q (.ref p) (upd H p (.lst vs)) :=
  fun p hp => q (.ref p) g _ (ExtP.new hf hp) (.t hp ⟨⟨vs, upd_same, r⟩, hf.none hp⟩)
theorem k_tup {vs : List V} {ds : List D} (r : RepL w K g.st g.F vs ds) (hf : Sub g.F H) (q : Kont w K g H Q (.d (.tup ds))) : ∀ p, H p = none → Q (.ref p) (upd H p (.tup vs)) :=
  fun p hp => q (.ref p) (frzG g (upd H p (.tup vs)) p) _ (ExtP.newF' hf hp)
    (.d (Rep.tup (SqT.of (show frzF g.F (upd H p (.tup vs)) p p = some (.tup vs) by rw [frzF_same, upd_same])) (r.mono (StLe.refl _) (ExtP.newF' hf hp).mono)))
theorem sOf_len (l : List Nat) : (sOf l).length = l.length := by show l.toArray.size = _; simp
theorem sOf_app (a b : List Nat) : sOf a ++ sOf b = sOf (a ++ b) := by show (⟨a.toArray ++ b.toArray⟩ : Str) = _; simp [sOf]
theorem sOf_cps (l : List Nat) : (sOf l).cps.toList = l := by show l.toArray.toList = l; simp
theorem sOf_inj {a b : List Nat} (h : sOf a = sOf b) : a = b := by
  have := congrArg (fun x : Str => x.cps.toList) h
  simpa [sOf] using this
theorem StrG.app {a b : List Nat} (ha : StrG a) (hb : StrG b) (h : a.length + b.length ≤ sizeLine) : StrG (a ++ b) :=
  ⟨by rw [List.length_append]; exact h, fun c hc => (List.mem_append.mp hc).elim (ha.2 c) (hb.2 c)⟩
theorem StrG.sub {a b : List Nat} (h : StrG a) (hs : ∀ c ∈ b, c ∈ a) (hl : b.length ≤ a.length) : StrG b := ⟨Nat.le_trans hl h.1, fun c hc => h.2 c (hs c hc)⟩
end

/-! ### arithmetic, comparison -/
def fAdd : D → D → Option R
  | .int i, .int j => some (.d (.int (i + j)))
  | .str a, .str b => if a.length + b.length ≤ sizeLine then some (.d (.str (a ++ b))) else none
  | .lst a, .lst b => if a.length + b.length ≤ sizeLine then some (.t (.l (a ++ b))) else none
  | .tup a, .tup b => if a.length + b.length ≤ sizeLine then some (.d (.tup (a ++ b))) else none
  | _, _ => none
def fSub : D → D → Option R
  | .int i, .int j => some (.d (.int (i - j)))
  | _, _ => none
instance (i j : Int) : Decidable (CMul i j) := by unfold CMul; infer_instance
def fMul : D → D → Option R
  | .int i, .int j => if CMul i j then some (.d (.int (i * j))) else none
  | .lst a, .int j => if -(2 ^ 63) ≤ j ∧ j < 2 ^ 63 ∧ a.length * j.toNat ≤ sizeLine then some (.t (.l (List.replicate j.toNat a).flatten)) else none
  | .tup a, .int j => if a ≠ [] ∧ 2 ≤ j ∧ j ≤ 1000 ∧ a.length ≤ 1000 then some (.d (.tup (List.replicate j.toNat a).flatten)) else none
  | _, _ => none
def fDiv : D → D → Option R
  | .int i, .int j => if j ≠ 0 ∧ j.natAbs < 1073741824 then some (.d (.int (i.fdiv j))) else none
  | _, _ => none
def fMod : D → D → Option R
  | .int i, .int j => if j ≠ 0 then some (.d (.int (i.fmod j))) else none
  | _, _ => none
def fNeg : D → Option R
  | .int i => some (.d (.int (-i)))
  | _ => none
def fShl : D → D → Option R
  | .int i, .int j => if 0 ≤ j ∧ j ≤ 1000000 ∧ i.natAbs < 2 ^ 64 then some (.d (.int (i * 2 ^ j.toNat))) else none
  | _, _ => none
def fShr : D → D → Option R
  | .int i, .int j => if 0 ≤ j then some (.d (.int (i / 2 ^ j.toNat))) else none
  | _, _ => none
def fAnd : D → D → Option R
  | .int i, .int j => some (.d (.int (Builtin.bitAnd i j)))
  | _, _ => none
def fOr : D → D → Option R
  | .int i, .int j => some (.d (.int (Builtin.bitOr i j)))
  | _, _ => none
def ltL : List Nat → List Nat → Bool := fun a b => decide (a < b)
def fLt : D → D → Option R
  | .int i, .int j => some (.d (.bl (decide (i < j))))
  | .str a, .str b => some (.d (.bl (ltL a b)))
  | _, _ => none
def fLe : D → D → Option R
  | .int i, .int j => some (.d (.bl (decide (i ≤ j))))
  | _, _ => none
def fGt : D → D → Option R
  | .int i, .int j => some (.d (.bl (decide (j < i))))
  | _, _ => none
def fGe : D → D → Option R
  | .int i, .int j => some (.d (.bl (decide (j ≤ i))))
  | _, _ => none
/-! ==: plain data -/
mutual
def pl : Nat → D → Bool
  | _, .non => true
  | _, .bl _ => true
  | _, .int _ => true
  | _, .str _ => true
  | 0, .tup _ => false
  | 0, .lst _ => false
  | n + 1, .tup xs => plAll n xs
  | n + 1, .lst xs => plAll n xs
  | _, .dct _ => false
  | _, .st => false
  | _, .scr _ => false
  | _, .cv _ => false
def plAll : Nat → List D → Bool
  | _, [] => true
  | n, x :: xs => pl n x && plAll n xs
end
mutual
def toPy : D → PyData
  | .non => .none
  | .bl b => .bool b
  | .int i => .int i
  | .str l => .str (sOf l)
  | .tup xs => .tuple (toPys xs)
  | .lst xs => .list (toPys xs)
  | .dct _ => .none
  | .st => .none
  | .scr _ => .none
  | .cv _ => .none
def toPys : List D → List PyData
  | [] => []
  | x :: xs => toPy x :: toPys xs
end
def eqD (x y : D) : Bool := PyData.eqv (toPy x) (toPy y)
def eqDs (x y : List D) : Bool := PyData.eqvAll (toPys x) (toPys y)
def fEq (x y : D) : Option R := if pl 60 x = true ∧ pl 60 y = true then some (.d (.bl (eqD x y))) else none
def fNe (x y : D) : Option R := if pl 60 x = true ∧ pl 60 y = true then some (.d (.bl (!eqD x y))) else none
def isNon : D → Option Bool
  | .non => some true
  | .bl _ => some false
  | .int _ => some false
  | .str _ => some false
  | .tup _ => some false
  | .lst _ => some false
  | .dct _ => some false
  | _ => none
def fIsN (x y : D) : Option R := match y with
  | .non => (isNon x).map fun k => .d (.bl k)
  | _ => none
def fNotN (x y : D) : Option R := match y with
  | .non => (isNon x).map fun k => .d (.bl (!k))
  | _ => none
section
variable {w : World} {K : PySem.W.Frag} {st : Option (Addr × Addr)} {F H : Hp}
theorem strOk_of {l : List Nat} (h : StrG l) : PyData.strOk (sOf l) = true := by
  unfold PyData.strOk
  rw [Array.all_eq_true]
  intro i hi
  have : (sOf l).cps[i] ∈ l := by
    have h2 := Array.getElem_mem hi
    simpa [sOf] using h2
  have := h.2 _ this
  simp only [decide_eq_true_eq]
  omega
mutual
theorem Rep.dp (hs : Sub F H) : ∀ {v : V} {d : D} (n : Nat), Rep w K st F v d → pl n d = true → Dp K H v (toPy d) ∧ (toPy d).canLay0 = true ∧ (toPy d).depth ≤ n
  | _, _, n, .non, h => ⟨.non, rfl, Nat.zero_le _⟩
  | _, _, n, .bl b, h => ⟨.bl b, rfl, Nat.zero_le _⟩
  | _, _, n, .int i, h => ⟨.int i, rfl, Nat.zero_le _⟩
  | _, _, n, .str hl, h => ⟨.str _, strOk_of hl, Nat.zero_le _⟩
  | _, _, 0, .tup _ _, h => by simp [pl] at h
  | _, _, 0, .lst _ _, h => by simp [pl] at h
  | _, _, n + 1, .tup a b, h => by
    obtain ⟨h1, h2, h3⟩ := RepL.dp hs n b (by simpa [pl] using h)
    exact ⟨.tup (hs.seqT a) h1, h2, by simp only [toPy, PyData.depth]; omega⟩
  | _, _, n + 1, .lst a b, h => by
    obtain ⟨h1, h2, h3⟩ := RepL.dp hs n b (by simpa [pl] using h)
    exact ⟨.lst (SqL.of (hs _ _ a)) h1, h2, by simp only [toPy, PyData.depth]; omega⟩
  | _, _, n, .dct _ _ _, h => by cases n <;> simp [pl] at h
  | _, _, n, .st _, h => by cases n <;> simp [pl] at h
  | _, _, n, .scr _, h => by cases n <;> simp [pl] at h
  | _, _, n, .cv _, h => by cases n <;> simp [pl] at h
theorem RepL.dp (hs : Sub F H) : ∀ {vs : List V} {ds : List D} (n : Nat), RepL w K st F vs ds → plAll n ds = true → DpAll K H vs (toPys ds) ∧ PyData.canLayAll0 (toPys ds) = true ∧ PyData.depthAll (toPys ds) ≤ n
  | _, _, n, .nil, h => ⟨.nil, rfl, Nat.zero_le _⟩
  | _, _, n, .cons a b, h => by
    simp only [plAll, Bool.and_eq_true] at h
    obtain ⟨h1, h2, h3⟩ := Rep.dp hs n a h.1
    obtain ⟨h4, h5, h6⟩ := RepL.dp hs n b h.2
    refine ⟨.cons h1 h4, ?_, ?_⟩
    · simp only [toPys, PyData.canLayAll0, h2, h5, Bool.and_self]
    · simp only [toPys, PyData.depthAll]; omega
end
theorem Rep1.dp {g : Gh} {v : V} {d : D} (hs : Sub g.F H) (n : Nat) (r : Rep1 w K H g v d) (h : pl n d = true) : Dp K H v (toPy d) ∧ (toPy d).canLay0 = true ∧ (toPy d).depth ≤ n := by
  cases r with
  | non => exact ⟨.non, rfl, Nat.zero_le _⟩
  | bl b => exact ⟨.bl b, rfl, Nat.zero_le _⟩
  | int i => exact ⟨.int i, rfl, Nat.zero_le _⟩
  | str hl => exact ⟨.str _, strOk_of hl, Nat.zero_le _⟩
  | tup a b => exact Rep.dp hs n (.tup a b) h
  | lst a b =>
    cases n with
    | zero => simp [pl] at h
    | succ n =>
      obtain ⟨h1, h2, h3⟩ := RepL.dp hs n b (by simpa [pl] using h)
      exact ⟨.lst (SqL.of a) h1, h2, by simp only [toPy, PyData.depth]; omega⟩
  | dct _ _ _ => cases n <;> simp [pl] at h
  | st _ => cases n <;> simp [pl] at h
  | scr _ => cases n <;> simp [pl] at h
  | cv _ => cases n <;> simp [pl] at h
theorem Rep1.shaped {g : Gh} {v : V} {d : D} (hs : Sub g.F H) (r : Rep1 w K H g v d) (h : pl 60 d = true) : Dp K H v (toPy d) ∧ SeqAt.shaped (toPy d) = true := by
  obtain ⟨h1, h2, h3⟩ := r.dp hs 60 h
  refine ⟨h1, ?_⟩
  unfold SeqAt.shaped
  rw [h2, Bool.true_and, decide_eq_true_eq]
  omega
theorem sOf_beq (a b : List Nat) : (sOf a == sOf b) = (a == b) := by
  by_cases h : a = b
  · subst h; simp
  · have : sOf a ≠ sOf b := fun e => h (sOf_inj e)
    rw [beq_eq_false_iff_ne.mpr h, beq_eq_false_iff_ne.mpr this]
theorem eqD_int (i j : Int) : eqD (.int i) (.int j) = (i == j) := by simp [eqD, toPy, PyData.eqv]
theorem eqD_bl (i j : Bool) : eqD (.bl i) (.bl j) = (i == j) := by simp [eqD, toPy, PyData.eqv]
theorem eqD_str (a b : List Nat) : eqD (.str a) (.str b) = (a == b) := by simp only [eqD, toPy, PyData.eqv, sOf_beq]
theorem eqD_tup (a b : List D) : eqD (.tup a) (.tup b) = eqDs a b := by simp only [eqD, eqDs, toPy, PyData.eqv]
theorem eqD_lst (a b : List D) : eqD (.lst a) (.lst b) = eqDs a b := by simp only [eqD, eqDs, toPy, PyData.eqv]
theorem eqDs_nil : eqDs [] [] = true := by simp only [eqDs, toPys, PyData.eqvAll]
theorem eqDs_cons (x y : D) (xs ys : List D) : eqDs (x :: xs) (y :: ys) = (eqD x y && eqDs xs ys) := by simp only [eqD, eqDs, toPys, PyData.eqvAll]
theorem eqDs_nc (y : D) (ys : List D) : eqDs [] (y :: ys) = false := by simp only [eqDs, toPys, PyData.eqvAll]
theorem eqDs_cn (y : D) (ys : List D) : eqDs (y :: ys) [] = false := by simp only [eqDs, toPys, PyData.eqvAll]
/-! the operators do what the functions say -/
variable {X : Cx}
abbrev rAddA (K : PySem.W.Frag) : R2 := fun x y H Q => (rI0 (fun i j => .int (i + j)) x y H Q ∨ ∃ i j, x = .str i ∧ y = .str j ∧ i.length + j.length ≤ sizeLine ∧ Q (.str (i ++ j)) H) ∨ rCat x y H Q ∨ rCatA K x y H Q
theorem r_add : OpR X (binaryOp .Add) (rAddA X.K) := (op_add.or op_add_str).or (op_cat.or op_catA)
theorem o_add : Op2 w K (rAddA K) fAdd := fun g H x y dx dy res Q hf hx hy e q => by
  unfold fAdd at e
  split at e
  · cases e; cases hx; cases hy
    exact .inl (.inl ⟨_, _, rfl, rfl, k_int hf q⟩)
  · split at e
    · rename_i hl
      cases e
      cases hx with
      | str ha =>
        cases hy with
        | str hb => exact .inl (.inr ⟨_, _, rfl, rfl, by rw [sOf_len, sOf_len]; exact hl, by rw [sOf_app]; exact k_str (ha.app hb hl) hf q⟩)
    · cases e
  · split at e
    · rename_i hl
      cases e
      cases hx with
      | lst ha ra =>
        cases hy with
        | lst hb rb => exact .inr (.inl ⟨_, _, _, _, rfl, rfl, ha, hb, by rw [ra.length, rb.length]; exact hl, k_lst (ra.append rb) hf q⟩)
    · cases e
  · split at e
    · rename_i a b hl
      cases e
      cases hx with
      | tup ha ra =>
        cases hy with
        | tup hb rb =>
          refine .inr (.inr ⟨_, _, _, _, rfl, rfl, hf.seqT ha, hf.seqT hb, by rw [ra.length, rb.length]; exact hl, fun e => ?_, fun _ e => ?_, fun _ _ => k_tup (ra.append rb) hf q⟩)
          · subst e; cases ra; exact k_rep (.tup hb rb) hf q
          · subst e; cases rb; rw [List.append_nil] at q; exact k_rep (.tup ha ra) hf q
    · cases e
  · cases e
theorem o_sub : Op2 w K (rI0 fun i j => .int (i - j)) fSub := fun g H x y dx dy res Q hf hx hy e q => by
  unfold fSub at e
  split at e
  · cases e; cases hx; cases hy; exact ⟨_, _, rfl, rfl, k_int hf q⟩
  · cases e
abbrev rMulA (K : PySem.W.Frag) : R2 := fun x y H Q => rI CMul (fun i j => .int (i * j)) x y H Q ∨ rRep x y H Q ∨ rRepT K x y H Q
theorem r_mul : OpR X (binaryOp .Mult) (rMulA X.K) := op_mul.or (op_rep.or op_repT)
theorem RepL.rep {g : Gh} {vs : List V} {ds : List D} (h : RepL w K g.st g.F vs ds) : ∀ k : Nat, RepL w K g.st g.F (List.replicate k vs).flatten (List.replicate k ds).flatten
  | 0 => .nil
  | k + 1 => by rw [List.replicate_succ, List.replicate_succ, List.flatten_cons, List.flatten_cons]; exact h.append (RepL.rep h k)
theorem o_mul : Op2 w K (rMulA K) fMul := fun g H x y dx dy res Q hf hx hy e q => by
  unfold fMul at e
  split at e
  · split at e
    · rename_i hc
      cases e; cases hx; cases hy
      exact .inl ⟨_, _, rfl, rfl, hc, k_int hf q⟩
    · cases e
  · split at e
    · rename_i hl
      cases e
      cases hx with
      | lst ha ra =>
        cases hy
        exact .inr (.inl ⟨_, _, _, rfl, rfl, ha, hl.1, hl.2.1, by rw [ra.length]; exact hl.2.2, k_lst (ra.rep _) hf q⟩)
    · cases e
  · split at e
    · rename_i hl
      cases e
      cases hx with
      | tup ha ra =>
        cases hy
        refine .inr (.inr ⟨_, _, _, rfl, rfl, hf.seqT ha, fun z => hl.1 ?_, hl.2.1, hl.2.2.1, by rw [ra.length]; exact hl.2.2.2, k_tup (ra.rep _) hf q⟩)
        subst z; cases ra; rfl
    · cases e
  · cases e
theorem o_div : Op2 w K (rI CDivN fun i j => .int (i.fdiv j)) fDiv := fun g H x y dx dy res Q hf hx hy e q => by
  unfold fDiv at e
  split at e
  · split at e
    · rename_i hc
      cases e; cases hx; cases hy; exact ⟨_, _, rfl, rfl, hc, k_int hf q⟩
    · cases e
  · cases e
theorem o_mod : Op2 w K (rI (fun _ j => j ≠ 0) fun i j => .int (i.fmod j)) fMod := fun g H x y dx dy res Q hf hx hy e q => by
  unfold fMod at e
  split at e
  · split at e
    · rename_i hc
      cases e; cases hx; cases hy; exact ⟨_, _, rfl, rfl, hc, k_int hf q⟩
    · cases e
  · cases e
theorem o_shl : Op2 w K (rI CPow fun i j => .int (i * 2 ^ j.toNat)) fShl := fun g H x y dx dy res Q hf hx hy e q => by
  unfold fShl at e
  split at e
  · split at e
    · rename_i hc
      cases e; cases hx; cases hy; exact ⟨_, _, rfl, rfl, hc, k_int hf q⟩
    · cases e
  · cases e
theorem o_shr : Op2 w K (rI (fun _ j => 0 ≤ j) fun i j => .int (i / 2 ^ j.toNat)) fShr := fun g H x y dx dy res Q hf hx hy e q => by
  unfold fShr at e
  split at e
  · split at e
    · rename_i hc
      cases e; cases hx; cases hy; exact ⟨_, _, rfl, rfl, hc, k_int hf q⟩
    · cases e
  · cases e
theorem o_and : Op2 w K (rI0 fun i j => .int (Builtin.bitAnd i j)) fAnd := fun g H x y dx dy res Q hf hx hy e q => by
  unfold fAnd at e
  split at e
  · cases e; cases hx; cases hy; exact ⟨_, _, rfl, rfl, k_int hf q⟩
  · cases e
theorem o_or : Op2 w K (rI0 fun i j => .int (Builtin.bitOr i j)) fOr := fun g H x y dx dy res Q hf hx hy e q => by
  unfold fOr at e
  split at e
  · cases e; cases hx; cases hy; exact ⟨_, _, rfl, rfl, k_int hf q⟩
  · cases e
theorem o_neg : Op1 w K (rU fun i => .int (-i)) fNeg := fun g H x dx res Q hf hx e q => by
  unfold fNeg at e
  split at e
  · cases e; cases hx; exact ⟨_, rfl, k_int hf q⟩
  · cases e
abbrev rLtA : R2 := fun x y H Q => rI0 (fun i j => .bl (decide (i < j))) x y H Q ∨ ∃ i j, x = .str i ∧ y = .str j ∧ Q (.bl (decide (i.cps.toList < j.cps.toList))) H
theorem r_lt : OpR X (compareOp .Lt) rLtA := op_lt.or op_lt_str
theorem o_lt : Op2 w K rLtA fLt := fun g H x y dx dy res Q hf hx hy e q => by
  unfold fLt at e
  split at e
  · cases e; cases hx; cases hy; exact .inl ⟨_, _, rfl, rfl, k_bl hf q⟩
  · cases e
    cases hx with
    | str ha => cases hy with
      | str hb => exact .inr ⟨_, _, rfl, rfl, by rw [sOf_cps, sOf_cps]; exact k_bl hf q⟩
  · cases e
theorem o_le : Op2 w K (rI0 fun i j => .bl (decide (i ≤ j))) fLe := fun g H x y dx dy res Q hf hx hy e q => by
  unfold fLe at e
  split at e
  · cases e; cases hx; cases hy; exact ⟨_, _, rfl, rfl, k_bl hf q⟩
  · cases e
theorem o_gt : Op2 w K (rI0 fun i j => .bl (decide (j < i))) fGt := fun g H x y dx dy res Q hf hx hy e q => by
  unfold fGt at e
  split at e
  · cases e; cases hx; cases hy; exact ⟨_, _, rfl, rfl, k_bl hf q⟩
  · cases e
theorem o_ge : Op2 w K (rI0 fun i j => .bl (decide (j ≤ i))) fGe := fun g H x y dx dy res Q hf hx hy e q => by
  unfold fGe at e
  split at e
  · cases e; cases hx; cases hy; exact ⟨_, _, rfl, rfl, k_bl hf q⟩
  · cases e
theorem o_eq : Op2 w K (rEqD K) fEq := fun g H x y dx dy res Q hf hx hy e q => by
  unfold fEq at e
  split at e
  · rename_i h
    cases e
    obtain ⟨h1, h2⟩ := hx.shaped hf h.1
    obtain ⟨h3, h4⟩ := hy.shaped hf h.2
    exact ⟨_, _, h1, h3, h2, h4, k_bl hf q⟩
  · cases e
theorem o_ne : Op2 w K (rNeD K) fNe := fun g H x y dx dy res Q hf hx hy e q => by
  unfold fNe at e
  split at e
  · rename_i h
    cases e
    obtain ⟨h1, h2⟩ := hx.shaped hf h.1
    obtain ⟨h3, h4⟩ := hy.shaped hf h.2
    exact ⟨_, _, h1, h3, h2, h4, k_bl hf q⟩
  · cases e
theorem isNon_ok {g : Gh} {x : V} {d : D} {k : Bool} (h : Rep1 w K H g x d) (e : isNon d = some k) : decide (x = .non) = k := by
  cases h <;> first | (cases e; rfl) | cases e
abbrev rIsN : R2 := fun x y H Q => y = .non ∧ Q (.bl (decide (x = .non))) H
abbrev rNotN : R2 := fun x y H Q => y = .non ∧ Q (.bl (!decide (x = .non))) H
theorem o_isN : Op2 w K rIsN fIsN := fun g H x y dx dy res Q hf hx hy e q => by
  unfold fIsN at e
  split at e
  · cases e' : isNon dx with
    | none => rw [e'] at e; cases e
    | some k =>
      rw [e'] at e
      cases e
      cases hy
      exact ⟨rfl, by rw [isNon_ok hx e']; exact k_bl hf q⟩
  · cases e
theorem o_notN : Op2 w K rNotN fNotN := fun g H x y dx dy res Q hf hx hy e q => by
  unfold fNotN at e
  split at e
  · cases e' : isNon dx with
    | none => rw [e'] at e; cases e
    | some k =>
      rw [e'] at e
      cases e
      cases hy
      exact ⟨rfl, by rw [isNon_ok hx e']; exact k_bl hf q⟩
  · cases e
end
end PD
namespace PD
open PySem PySem.Spec PyProof.Rows L2

/-! ### dicts, entry by entry -/
mutual
/-- the value v of the abstract heap is the key nk -/
inductive KeyV (K : PySem.W.Frag) (H : Hp) : V → NestedKey → Prop
  | int (i : Int) : KeyV K H (.int i) (.num i)
  | str (x : Str) : KeyV K H (.str x) (.text x)
  | non : KeyV K H .non .none
  | tup {a : Addr} {vs : List V} {ks : List NestedKey} : SqT K H a vs → KeyVs K H vs ks → KeyV K H (.ref a) (.tup ks)
inductive KeyVs (K : PySem.W.Frag) (H : Hp) : List V → List NestedKey → Prop
  | nil : KeyVs K H [] []
  | cons {v : V} {vs : List V} {k : NestedKey} {ks : List NestedKey} : KeyV K H v k → KeyVs K H vs ks → KeyVs K H (v :: vs) (k :: ks)
end
section
variable {w : World} {K : PySem.W.Frag} {st : Option (Addr × Addr)} {F H : Hp}
mutual
theorem Rep.key (hs : Sub F H) : ∀ {v : V} {d : D} {nk : NestedKey}, Rep w K st F v d → toNK d = some nk → KeyV K H v nk
  | _, _, _, .non, e => by simp only [toNK, Option.some.injEq] at e; subst e; exact .non
  | _, _, _, .bl _, e => by simp [toNK] at e
  | _, _, _, .int i, e => by simp only [toNK, Option.some.injEq] at e; subst e; exact .int i
  | _, _, _, .str _, e => by simp only [toNK, Option.some.injEq] at e; subst e; exact .str _
  | _, _, _, .tup a b, e => by
    simp only [toNK, Option.map_eq_some_iff] at e
    obtain ⟨ks, e1, e2⟩ := e
    subst e2
    exact .tup (hs.seqT a) (RepL.keys hs b e1)
  | _, _, _, .lst _ _, e => by simp [toNK] at e
  | _, _, _, .scr _, e => by simp [toNK] at e
  | _, _, _, .dct _ _ _, e => by simp [toNK] at e
  | _, _, _, .st _, e => by simp [toNK] at e
  | _, _, _, .cv _, e => by simp [toNK] at e
theorem RepL.keys (hs : Sub F H) : ∀ {vs : List V} {ds : List D} {ks : List NestedKey}, RepL w K st F vs ds → toNKs ds = some ks → KeyVs K H vs ks
  | _, _, _, .nil, e => by simp only [toNKs, Option.some.injEq] at e; subst e; exact .nil
  | _, _, _, .cons a b, e => by
    simp only [toNKs] at e
    split at e
    · rename_i k ks e1 e2
      cases e
      exact .cons (Rep.key hs a e1) (RepL.keys hs b e2)
    · cases e
end
theorem Rep1.key {g : Gh} (hs : Sub g.F H) {v : V} {d : D} {nk : NestedKey} (r : Rep1 w K H g v d) (e : toNK d = some nk) : KeyV K H v nk := by
  cases r with
  | non => simp only [toNK, Option.some.injEq] at e; subst e; exact .non
  | bl _ => simp [toNK] at e
  | int i => simp only [toNK, Option.some.injEq] at e; subst e; exact .int i
  | str h => simp only [toNK, Option.some.injEq] at e; subst e; exact .str _
  | tup a b => exact Rep.key (F := g.F) (st := g.st) hs (.tup a b) e
  | lst _ _ => simp [toNK] at e
  | scr _ => simp [toNK] at e
  | dct _ _ _ => simp [toNK] at e
  | st _ => simp [toNK] at e
  | cv _ => simp [toNK] at e
mutual
theorem KeyV.mono {H' : Hp} (hs : Sub H H') : ∀ {v : V} {nk : NestedKey}, KeyV K H v nk → KeyV K H' v nk
  | _, _, .int i => .int i
  | _, _, .str x => .str x
  | _, _, .non => .non
  | _, _, .tup a b => .tup (hs.seqT a) (KeyVs.mono hs b)
theorem KeyVs.mono {H' : Hp} (hs : Sub H H') : ∀ {v : List V} {nk : List NestedKey}, KeyVs K H v nk → KeyVs K H' v nk
  | _, _, .nil => .nil
  | _, _, .cons a b => .cons (KeyV.mono hs a) (KeyVs.mono hs b)
end
mutual
/-- a write of a dict changes no key -/
theorem KeyV.upd {a : Addr} {o o' : HO} (ho : H a = some o) (nt : ∀ xs, o ≠ .tup xs) (nf : ∀ q xs, o ≠ .frz q (.tup xs)) : ∀ {v : V} {nk : NestedKey}, KeyV K H v nk → KeyV K (L2.upd H a o') v nk
  | _, _, .int i => .int i
  | _, _, .str x => .str x
  | _, _, .non => .non
  | _, _, .tup b c => .tup (by
      rcases b with (h | ⟨q, h⟩) | h
      · refine .inl (.inl ?_)
        rw [upd_ne (fun e => by rw [e, ho] at h; cases h; exact nt _ rfl)]; exact h
      · refine .inl (.inr ⟨q, ?_⟩)
        rw [upd_ne (fun e => by rw [e, ho] at h; cases h; exact nf _ _ rfl)]; exact h
      · exact .inr h) (KeyVs.upd ho nt nf c)
theorem KeyVs.upd {a : Addr} {o o' : HO} (ho : H a = some o) (nt : ∀ xs, o ≠ .tup xs) (nf : ∀ q xs, o ≠ .frz q (.tup xs)) : ∀ {v : List V} {nk : List NestedKey}, KeyVs K H v nk → KeyVs K (L2.upd H a o') v nk
  | _, _, .nil => .nil
  | _, _, .cons a b => .cons (KeyV.upd ho nt nf a) (KeyVs.upd ho nt nf b)
end
end
section
variable {X : Cx} {pins : List (Addr × Obj)} {σ : L2.St} {H : Hp} {s : Shared}
mutual
theorem KeyV.is (I : Inv X pins σ H s) : ∀ {v : V} {nk : NestedKey} {u : Value}, KeyV X.K H v nk → RelV v u → NestedIs s.heap nk u
  | _, _, _, .int i, r => by obtain ⟨t, rfl⟩ := r; exact .int i t
  | _, _, _, .str x, r => by obtain ⟨t, rfl⟩ := r; exact .text x t
  | _, _, _, .non, r => by cases r; exact .none
  | _, _, _, .tup a b, r => by
    cases r
    obtain ⟨its, rv, ⟨o, ho, hc, n, hd⟩, _⟩ := I.tuple a
    exact .tup ho hc hd (by simpa using KeyVs.is I b rv)
theorem KeyVs.is (I : Inv X pins σ H s) : ∀ {vs : List V} {ks : List NestedKey} {us : List Value}, KeyVs X.K H vs ks → Vals vs us → NestedAll s.heap ks us
  | _, _, _, .nil, r => by cases r; exact .nil
  | _, _, _, .cons a b, r => by
    cases r with
    | cons r1 r2 => exact .cons (KeyV.is I a r1) (KeyVs.is I b r2)
end
end
/-- a key by value: an int, a text -/
def nkKey : NestedKey → Option Key
  | .num i => some (.inl i)
  | .text x => some (.inr x)
  | _ => none
def nkTup : NestedKey → Bool
  | .tup _ => true
  | _ => false
abbrev XE := NestedKey × V × V
/-- an entry and what it is -/
def EntV (w : World) (e : DictEntry) (x : XE) : Prop := RelV x.2.1 e.key ∧ RelV x.2.2 e.val ∧ e.hash = x.1.hash w
/-- what a dict holds, by values -/
structure DV (w : World) (K : PySem.W.Frag) (H : Hp) (a : Addr) (xs : List XE) : Prop where
  ex : ∃ es ep, H a = some (dxO a es ep) ∧ Paired (EntV w) es.toList xs
  key : ∀ x ∈ xs, KeyV K H x.2.1 x.1 ∧ x.1.depth ≤ 8
  fam : (∀ x ∈ xs, (nkKey x.1).isSome = true) ∨ (∀ x ∈ xs, nkTup x.1 = true)
  nd : (xs.map (·.1)).Nodup
def getX (xs : List XE) (k : NestedKey) : Option V := (xs.find? fun x => decide (x.1 = k)).map (·.2.2)
def putX (xs : List XE) (k : NestedKey) (kv v : V) : List XE := if (getX xs k).isSome then xs.map (fun x => if x.1 = k then (x.1, x.2.1, v) else x) else xs ++ [(k, kv, v)]
/-- the key goes with the keys there are -/
def FamOk (xs : List XE) (k : NestedKey) : Prop := ((nkKey k).isSome = true ∧ ∀ x ∈ xs, (nkKey x.1).isSome = true) ∨ (nkTup k = true ∧ ∀ x ∈ xs, nkTup x.1 = true)
theorem nkKey_v {w : World} {K : PySem.W.Frag} {H : Hp} {v : V} {k : NestedKey} {c : Key} (h : KeyV K H v k) (e : nkKey k = some c) : v = kV c ∧ k.hash w = keyH w c := by
  cases h with
  | int i => cases e; exact ⟨rfl, rfl⟩
  | str x => cases e; exact ⟨rfl, rfl⟩
  | non => cases e
  | tup _ _ => cases e
theorem nkTup_v {K : PySem.W.Frag} {H : Hp} {v : V} {k : NestedKey} (h : KeyV K H v k) (e : nkTup k = true) : ∃ a, v = .ref a := by
  cases h with
  | int i => cases e
  | str x => cases e
  | non => cases e
  | tup _ _ => exact ⟨_, rfl⟩
theorem nkKey_inj {a b : NestedKey} {c : Key} (h : nkKey a = some c) (h' : nkKey b = some c) : a = b := by
  cases a <;> cases b <;> simp_all [nkKey] <;> (cases c <;> simp_all)
/-! the library's forms -/
section
variable {P : Program} {w : World} {K : PySem.W.Frag} {H : Hp}
abbrev Rk (x : XE) (q : Key × Value) : Prop := nkKey x.1 = some q.1 ∧ x.2.1 = kV q.1 ∧ RelV x.2.2 q.2
abbrev Rt (x : XE) (y : NestedKey × Addr × Value) : Prop := x.1 = y.1 ∧ x.2.1 = .ref y.2.1 ∧ RelV x.2.2 y.2.2
theorem ent_k : ∀ {es : List DictEntry} {xs : List XE}, Paired (EntV w) es xs → (∀ x ∈ xs, KeyV K H x.2.1 x.1) → (∀ x ∈ xs, (nkKey x.1).isSome = true) →
    ∃ vs : List (Key × Value), Pairs (mixKind P w) es vs ∧ (∀ e ∈ es, ∃ c, (mixKind P w).is c e.key = true ∧ e.hash = (mixKind P w).hash c) ∧ Paired Rk xs vs
  | _, _, .nil, _, _ => ⟨[], .nil, fun _ h => (by cases h), .nil⟩
  | _, _, .cons (a := e) (b := x) r t, hk, hs => by
    obtain ⟨vs, h1, h2, h3⟩ := ent_k t (fun y hy => hk y (List.mem_cons_of_mem _ hy)) (fun y hy => hs y (List.mem_cons_of_mem _ hy))
    obtain ⟨c, hc⟩ := Option.isSome_iff_exists.mp (hs x List.mem_cons_self)
    obtain ⟨ev, eh⟩ := nkKey_v (w := w) (hk x List.mem_cons_self) hc
    obtain ⟨r1, r2, r3⟩ := r
    have his : (mixKind P w).is c e.key = true := kV_is (by rw [← ev]; exact r1)
    refine ⟨(c, e.val) :: vs, .cons his rfl h1, fun e' he => ?_, .cons ⟨hc, ev, r2⟩ h3⟩
    rcases List.mem_cons.mp he with rfl | he
    · exact ⟨c, his, r3.trans eh⟩
    · exact h2 e' he
theorem ent_t : ∀ {es : List DictEntry} {xs : List XE}, Paired (EntV w) es xs → (∀ x ∈ xs, KeyV K H x.2.1 x.1) → (∀ x ∈ xs, nkTup x.1 = true) →
    ∃ ys : List (NestedKey × Addr × Value), es = ys.map (entryOfKey (nestedKind P w)) ∧ Paired Rt xs ys
  | _, _, .nil, _, _ => ⟨[], rfl, .nil⟩
  | _, _, .cons (a := e) (b := x) r t, hk, hs => by
    obtain ⟨ys, h1, h2⟩ := ent_t t (fun y hy => hk y (List.mem_cons_of_mem _ hy)) (fun y hy => hs y (List.mem_cons_of_mem _ hy))
    obtain ⟨b, hb⟩ := nkTup_v (hk x List.mem_cons_self) (hs x List.mem_cons_self)
    obtain ⟨r1, r2, r3⟩ := r
    rw [hb] at r1
    have r1 : e.key = .ref b := r1
    refine ⟨(x.1, b, e.val) :: ys, ?_, .cons ⟨rfl, hb, r2⟩ h2⟩
    rw [h1, List.map_cons]
    obtain ⟨eh, ek, ev⟩ := e
    simp only at r1 r3
    subst r1 r3
    rfl
theorem rk_get {k : NestedKey} {c : Key} (hc : nkKey k = some c) : ∀ {xs : List XE} {vs : List (Key × Value)}, Paired Rk xs vs → RelO (getX xs k) (valueAt vs c)
  | _, _, .nil => trivial
  | _, _, .cons (a := x) (b := q) r t => by
    have ih := rk_get hc t
    unfold getX valueAt at ih ⊢
    rw [List.find?_cons, List.find?_cons]
    by_cases e : x.1 = k
    · have e2 : q.1 = c := by
        have := r.1
        rw [e, hc] at this
        exact (Option.some.inj this).symm
      rw [decide_eq_true e, decide_eq_true e2]
      exact r.2.2
    · have e2 : ¬ q.1 = c := fun z => e (nkKey_inj (by rw [r.1, z]) hc)
      rw [decide_eq_false e, decide_eq_false e2]
      exact ih
theorem rt_get {k : NestedKey} : ∀ {xs : List XE} {ys : List (NestedKey × Addr × Value)}, Paired Rt xs ys → RelO (getX xs k) ((atKey ys k).map (·.2))
  | _, _, .nil => trivial
  | _, _, .cons (a := x) (b := q) r t => by
    have ih := rt_get (k := k) t
    unfold getX atKey at ih ⊢
    rw [List.find?_cons, List.find?_cons]
    by_cases e : x.1 = k
    · rw [decide_eq_true e, decide_eq_true (r.1 ▸ e)]
      exact r.2.2
    · rw [decide_eq_false e, decide_eq_false (fun z => e (r.1.trans z))]
      exact ih
theorem any_valueAt (vs : List (Key × Value)) (c : Key) : (vs.any fun kv => decide (kv.1 = c)) = (valueAt vs c).isSome := by
  induction vs with
  | nil => rfl
  | cons q r ih =>
    unfold valueAt at ih ⊢
    rw [List.any_cons, List.find?_cons]
    by_cases e : q.1 = c
    · simp [e]
    · simp only [e, decide_false, Bool.false_or]
      exact ih
theorem rk_map {k : NestedKey} {c : Key} {v : V} {u : Value} (hc : nkKey k = some c) (rv : RelV v u) : ∀ {xs : List XE} {vs : List (Key × Value)}, Paired Rk xs vs →
    Paired Rk (xs.map fun x => if x.1 = k then (x.1, x.2.1, v) else x) (vs.map fun kv => if kv.1 = c then (kv.1, u) else kv)
  | _, _, .nil => .nil
  | _, _, .cons (a := x) (b := q) r t => by
    refine .cons ?_ (rk_map hc rv t)
    by_cases e : x.1 = k
    · have e2 : q.1 = c := by
        have := r.1
        rw [e, hc] at this
        exact (Option.some.inj this).symm
      show Rk (if x.1 = k then (x.1, x.2.1, v) else x) (if q.1 = c then (q.1, u) else q)
      rw [if_pos e, if_pos e2]
      exact ⟨r.1, r.2.1, rv⟩
    · have e2 : ¬ q.1 = c := fun z => e (nkKey_inj (by rw [r.1, z]) hc)
      show Rk (if x.1 = k then (x.1, x.2.1, v) else x) (if q.1 = c then (q.1, u) else q)
      rw [if_neg e, if_neg e2]
      exact r
theorem paired_app {α β : Type} {F : α → β → Prop} : ∀ {xs : List α} {ys : List β} {xs' : List α} {ys' : List β}, Paired F xs ys → Paired F xs' ys' → Paired F (xs ++ xs') (ys ++ ys')
  | _, _, _, _, .nil, h => h
  | _, _, _, _, .cons r t, h => .cons r (paired_app t h)
theorem rk_put {k : NestedKey} {c : Key} {v : V} {u : Value} (hc : nkKey k = some c) (rv : RelV v u) {xs : List XE} {vs : List (Key × Value)} (h : Paired Rk xs vs) : Paired Rk (putX xs k (kV c) v) (stored vs c u) := by
  have e : (getX xs k).isSome = (vs.any fun kv => decide (kv.1 = c)) := by rw [any_valueAt]; exact (rk_get hc h).isSome_eq
  unfold putX stored
  rw [e]
  split
  · exact rk_map hc rv h
  · exact paired_app h (.cons ⟨hc, rfl, rv⟩ .nil)
theorem rt_map {k : NestedKey} {v : V} {u : Value} (rv : RelV v u) : ∀ {xs : List XE} {ys : List (NestedKey × Addr × Value)}, Paired Rt xs ys →
    Paired Rt (xs.map fun x => if x.1 = k then (x.1, x.2.1, v) else x) (ys.map (putAt k u))
  | _, _, .nil => .nil
  | _, _, .cons (a := x) (b := q) r t => by
    refine .cons ?_ (rt_map rv t)
    show Rt (if x.1 = k then (x.1, x.2.1, v) else x) (if q.1 = k then (q.1, q.2.1, u) else q)
    by_cases e : x.1 = k
    · rw [if_pos e, if_pos (r.1 ▸ e)]
      exact ⟨r.1, r.2.1, rv⟩
    · rw [if_neg e, if_neg (fun z => e (r.1.trans z))]
      exact r
theorem rt_put {k : NestedKey} {b : Addr} {v : V} {u : Value} (rv : RelV v u) {xs : List XE} {ys : List (NestedKey × Addr × Value)} (h : Paired Rt xs ys) : Paired Rt (putX xs k (.ref b) v) (storedH ys k b u) := by
  have e : (getX xs k).isSome = (atKey ys k).isSome := by
    have := (rt_get (k := k) h).isSome_eq
    rw [Option.isSome_map] at this
    exact this
  unfold putX storedH
  rw [e]
  split
  · exact rt_map rv h
  · exact paired_app h (.cons ⟨rfl, rfl, rv⟩ .nil)
theorem back_k : ∀ {es : List DictEntry} {xs : List XE} {vs : List (Key × Value)}, Pairs (mixKind P w) es vs → (∀ e ∈ es, ∃ c, (mixKind P w).is c e.key = true ∧ e.hash = (mixKind P w).hash c) → Paired Rk xs vs → Paired (EntV w) es xs
  | _, _, _, .nil, _, h => by cases h; exact .nil
  | _, _, _, .cons (e := e) hi hv t, hk, h => by
    cases h with
    | cons r rt =>
      rename_i x xs
      refine .cons ⟨?_, ?_, ?_⟩ (back_k t (fun e' he => hk e' (List.mem_cons_of_mem _ he)) rt)
      · rw [r.2.1]
        rcases keyIs_shape hi with ⟨i, t, e1, e2⟩ | ⟨y, t, e1, e2⟩
        · rw [e1, e2]; exact ⟨t, rfl⟩
        · rw [e1, e2]; exact ⟨t, rfl⟩
      · rw [hv]; exact r.2.2
      · obtain ⟨c, h1, h2⟩ := hk e List.mem_cons_self
        have := (mixKind P w).inj _ _ _ h1 hi
        subst this
        rw [h2]
        have hn := r.1
        cases hx : x.1 with
        | none => rw [hx] at hn; cases hn
        | num i => rw [hx] at hn; rw [← Option.some.inj hn]; rfl
        | text y => rw [hx] at hn; rw [← Option.some.inj hn]; rfl
        | tup _ => rw [hx] at hn; cases hn
theorem back_t : ∀ {xs : List XE} {ys : List (NestedKey × Addr × Value)}, Paired Rt xs ys → Paired (EntV w) (ys.map (entryOfKey (nestedKind P w))) xs
  | _, _, .nil => .nil
  | _, _, .cons r t => .cons ⟨by rw [r.2.1]; rfl, r.2.2, by rw [r.1]; rfl⟩ (back_t t)
end
section
variable {X : Cx} {pins : List (Addr × Obj)} {σ : L2.St} {H : Hp} {s : Shared} {A : Around} {E : Value → Shared → Prop} {a : Addr} {xs : List XE} {k : NestedKey} {y v : V} {u r : Value}
theorem rk_keys {xs : List XE} {vs : List (Key × Value)} (h : Paired Rk xs vs) : vs.map (fun q => some q.1) = xs.map (fun x => nkKey x.1) := by
  induction h with
  | nil => rfl
  | cons r _ ih => rw [List.map_cons, List.map_cons, ih, r.1]
theorem rt_keys {xs : List XE} {ys : List (NestedKey × Addr × Value)} (h : Paired Rt xs ys) : ys.map (·.1) = xs.map (·.1) := by
  induction h with
  | nil => rfl
  | cons r _ ih => rw [List.map_cons, List.map_cons, ih, r.1]
theorem paired_at2 {α β : Type} {F : α → β → Prop} : ∀ {xs : List α} {ys : List β} {i : Nat} {y : β}, Paired F xs ys → ys[i]? = some y → ∃ x, xs[i]? = some x ∧ F x y
  | _, _, i, _, .nil, e => by simp at e
  | _, _, 0, _, .cons r _, e => by simp only [List.getElem?_cons_zero, Option.some.injEq] at e; subst e; exact ⟨_, rfl, r⟩
  | _, _, i + 1, _, .cons _ t, e => paired_at2 (i := i) t (by simpa using e)
theorem nd_keys : ∀ {xs : List XE}, (xs.map (·.1)).Nodup → (∀ x ∈ xs, (nkKey x.1).isSome = true) → (xs.map fun x => nkKey x.1).Nodup
  | [], _, _ => List.nodup_nil
  | x :: r, hn, h2 => by
    rw [List.map_cons, List.nodup_cons] at hn ⊢
    refine ⟨fun hm => ?_, nd_keys hn.2 (fun y hy => h2 y (List.mem_cons_of_mem _ hy))⟩
    obtain ⟨z, hz, ez⟩ := List.mem_map.mp hm
    obtain ⟨c, hc⟩ := Option.isSome_iff_exists.mp (h2 x List.mem_cons_self)
    exact hn.1 (by rw [nkKey_inj hc (ez.trans hc)]; exact List.mem_map.mpr ⟨z, hz, rfl⟩)
/-- the two forms -/
theorem DV.forms (I : Inv X pins σ H s) (D : DV X.w X.K H a xs) (F : FamOk xs k) : (a == sysModules) = false ∧ xs.length ≤ sizeLine ∧
    ((∃ c vs, nkKey k = some c ∧ s.heap.DictOf (mixKind X.prog X.w) a vs ∧ Paired Rk xs vs) ∨ (nkTup k = true ∧ ∃ ys, s.heap.DictOfH (nestedKind X.prog X.w) a ys ∧ Paired Rt xs ys)) := by
  obtain ⟨es, ep, e, hp⟩ := D.ex
  obtain ⟨⟨ho, hS, hz⟩, _⟩ := I.hok a _ e
  have hl := hp.length
  simp only [Array.length_toList] at hl
  refine ⟨hS, by omega, ?_⟩
  rcases F with ⟨h1, h2⟩ | ⟨h1, h2⟩
  · obtain ⟨c, hc⟩ := Option.isSome_iff_exists.mp h1
    obtain ⟨vs, q1, q2, q3⟩ := ent_k (P := X.prog) hp (fun x hx => (D.key x hx).1) h2
    refine .inl ⟨c, vs, hc, ⟨_, es, ep, ho, ⟨rfl, rfl, rfl⟩, rfl, fun e he => q2 e (by simpa using he), q1, ?_⟩, q3⟩
    have nd := nd_keys D.nd h2
    rw [← rk_keys q3] at nd
    have nd2 : ((vs.map (·.1)).map some).Nodup := by rw [List.map_map]; exact nd
    exact (List.pairwise_map.mp nd2).imp fun hne e => hne (by rw [e])
  · obtain ⟨ys, q1, q2⟩ := ent_t (P := X.prog) hp (fun x hx => (D.key x hx).1) h2
    refine .inr ⟨h1, ys, ⟨_, es, ep, ho, ⟨rfl, rfl, rfl⟩, rfl, q1, fun y hy => ?_, ?_⟩, q2⟩
    · obtain ⟨i, hi⟩ := List.mem_iff_getElem?.mp hy
      obtain ⟨x, hx, rx⟩ := paired_at2 q2 hi
      obtain ⟨kx, dx⟩ := D.key x (List.mem_of_getElem? hx)
      rw [rx.1, rx.2.1] at kx
      exact ⟨kx.is I rfl, by rw [← rx.1]; exact dx⟩
    · rw [rt_keys q2]; exact D.nd
theorem key_room (hu : A.units + 64 < cLine) : (nestedKind X.prog X.w).room A.in1 := by show A.units + 1 + 8 < cLine; omega
theorem dx_get {Q : Value → Shared → Prop} (hu : A.units + 64 < cLine) (I : Inv X pins σ H s) (D : DV X.w X.K H a xs) (F : FamOk xs k) (hk : KeyV X.K H y k) (hd : k.depth ≤ 8) (g : getX xs k = some v) (ry : RelV y u)
    (h : ∀ w' s', Inv X pins σ H s' → RelV v w' → Q w' s') : wpAny (model X.prog X.w) A (getItem (.ref a) u) Q E s := by
  obtain ⟨hS, hz, ⟨c, vs, hc, dd, rel⟩ | ⟨ht, ys, dd, rel⟩⟩ := D.forms I F
  · obtain ⟨w', hw, rw'⟩ := RelO.some_of (v := v) (o := valueAt vs c) (by rw [← g]; exact rk_get hc rel)
    exact wpAny_getItem_of (kV_is (by rw [← (nkKey_v (w := X.w) hk hc).1]; exact ry)) dd.mapOf hw (h w' _ (I.tok _) rw')
  · obtain ⟨b, rfl⟩ := nkTup_v hk ht
    cases (show u = Value.ref b from ry)
    obtain ⟨w', hw, rw'⟩ := RelO.some_of (v := v) (o := (atKey ys k).map (·.2)) (by rw [← g]; exact rt_get rel)
    obtain ⟨p, hp, hp2⟩ := Option.map_eq_some_iff.mp hw
    exact wpAny_getItem_heap (key_room (X := X) hu) ⟨hk.is I rfl, hd⟩ dd hp (by rw [hp2]; exact h w' _ (I.tok _) rw')
theorem dx_in {Q : Value → Shared → Prop} (hu : A.units + 64 < cLine) (I : Inv X pins σ H s) (D : DV X.w X.K H a xs) (F : FamOk xs k) (hk : KeyV X.K H y k) (hd : k.depth ≤ 8) (ry : RelV y u)
    (h : ∀ s', Inv X pins σ H s' → Q (.bool (getX xs k).isSome) s') : wpAny (model X.prog X.w) A (compareOp .In u (.ref a)) Q E s := by
  obtain ⟨hS, hz, ⟨c, vs, hc, dd, rel⟩ | ⟨ht, ys, dd, rel⟩⟩ := D.forms I F
  · refine wpAny_in_of (kV_is (by rw [← (nkKey_v (w := X.w) hk hc).1]; exact ry)) hS dd.mapOf ?_
    rw [← (rk_get hc rel).isSome_eq]
    exact h _ (I.tok _)
  · obtain ⟨b, rfl⟩ := nkTup_v hk ht
    cases (show u = Value.ref b from ry)
    have e := (rt_get (k := k) rel).isSome_eq
    rw [Option.isSome_map] at e
    exact wpAny_in_heap (key_room (X := X) hu) ⟨hk.is I rfl, hd⟩ hS dd (by rw [← e]; exact h _ (I.tok _))
theorem dx_notIn {Q : Value → Shared → Prop} (hu : A.units + 64 < cLine) (I : Inv X pins σ H s) (D : DV X.w X.K H a xs) (F : FamOk xs k) (hk : KeyV X.K H y k) (hd : k.depth ≤ 8) (ry : RelV y u)
    (h : ∀ s', Inv X pins σ H s' → Q (.bool (!(getX xs k).isSome)) s') : wpAny (model X.prog X.w) A (compareOp .NotIn u (.ref a)) Q E s := by
  obtain ⟨hS, hz, ⟨c, vs, hc, dd, rel⟩ | ⟨ht, ys, dd, rel⟩⟩ := D.forms I F
  · refine wpAny_notIn_of (kV_is (by rw [← (nkKey_v (w := X.w) hk hc).1]; exact ry)) hS dd.mapOf ?_
    rw [← (rk_get hc rel).isSome_eq]
    exact h _ (I.tok _)
  · obtain ⟨b, rfl⟩ := nkTup_v hk ht
    cases (show u = Value.ref b from ry)
    have e := (rt_get (k := k) rel).isSome_eq
    rw [Option.isSome_map] at e
    exact wpAny_notIn_heap (key_room (X := X) hu) ⟨hk.is I rfl, hd⟩ hS dd (by rw [← e]; exact h _ (I.tok _))
theorem getX_none {xs : List XE} {k : NestedKey} (h : (getX xs k).isSome = false) : k ∉ xs.map (·.1) := fun hm => by
  obtain ⟨x, hx, e⟩ := List.mem_map.mp hm
  unfold getX at h
  rw [Option.isSome_map, Option.isSome_eq_false_iff, Option.isNone_iff_eq_none, List.find?_eq_none] at h
  exact h x hx (decide_eq_true e)
theorem putX_keys {xs : List XE} {k : NestedKey} {kv v : V} : ((putX xs k kv v).map (·.1) = xs.map (·.1) ∧ (getX xs k).isSome = true) ∨ ((putX xs k kv v) = xs ++ [(k, kv, v)] ∧ (getX xs k).isSome = false) := by
  unfold putX
  split
  · rename_i h
    refine .inl ⟨?_, h⟩
    rw [List.map_map]
    refine List.map_congr_left fun x _ => ?_
    show (if x.1 = k then (x.1, x.2.1, v) else x).1 = x.1
    split <;> rfl
  · rename_i h
    exact .inr ⟨rfl, by simpa using h⟩
/-- what a dict holds behind d[y] = v -/
theorem DV.put {w : World} {K : PySem.W.Frag} {es' : Array DictEntry} {ep' : Nat} (D : DV w K H a xs) (F : FamOk xs k) (hk : KeyV K H y k) (hd : k.depth ≤ 8) (hp : Paired (EntV w) es'.toList (putX xs k y v)) :
    DV w K (L2.upd H a (dxO a es' ep')) a (putX xs k y v) := by
  obtain ⟨es, ep, e, _⟩ := D.ex
  have up : ∀ {v : V} {nk : NestedKey}, KeyV K H v nk → KeyV K (L2.upd H a (dxO a es' ep')) v nk := fun h => h.upd e (fun _ z => by cases z) (fun _ _ z => by cases z)
  have mem : ∀ z ∈ putX xs k y v, (∃ x ∈ xs, z.1 = x.1 ∧ z.2.1 = x.2.1) ∨ (z.1 = k ∧ z.2.1 = y) := fun z hz => by
    unfold putX at hz
    split at hz
    · obtain ⟨x, hx, ez⟩ := List.mem_map.mp hz
      refine .inl ⟨x, hx, ?_⟩
      rw [← ez]
      split <;> exact ⟨rfl, rfl⟩
    · rcases List.mem_append.mp hz with hz | hz
      · exact .inl ⟨z, hz, rfl, rfl⟩
      · have := List.mem_singleton.mp hz
        subst this
        exact .inr ⟨rfl, rfl⟩
  refine ⟨⟨es', ep', upd_same, hp⟩, fun z hz => ?_, ?_, ?_⟩
  · rcases mem z hz with ⟨x, hx, e1, e2⟩ | ⟨e1, e2⟩
    · rw [e1, e2]; exact ⟨up (D.key x hx).1, (D.key x hx).2⟩
    · rw [e1, e2]; exact ⟨up hk, hd⟩
  · rcases F with ⟨h1, h2⟩ | ⟨h1, h2⟩
    · refine .inl fun z hz => ?_
      rcases mem z hz with ⟨x, hx, e1, _⟩ | ⟨e1, _⟩
      · rw [e1]; exact h2 x hx
      · rw [e1]; exact h1
    · refine .inr fun z hz => ?_
      rcases mem z hz with ⟨x, hx, e1, _⟩ | ⟨e1, _⟩
      · rw [e1]; exact h2 x hx
      · rw [e1]; exact h1
  · rcases putX_keys (xs := xs) (k := k) (kv := y) (v := v) with ⟨h1, _⟩ | ⟨h1, h2⟩
    · rw [h1]; exact D.nd
    · rw [h1, List.map_append, List.nodup_append]
      refine ⟨D.nd, by simp, fun p hp q hq => ?_⟩
      have : q = k := by simpa using hq
      rw [this]
      intro e
      exact getX_none h2 (e ▸ hp)
theorem putX_len (xs : List XE) (k : NestedKey) (kv v : V) : (putX xs k kv v).length ≤ xs.length + 1 := by
  unfold putX
  split
  · rw [List.length_map]; omega
  · rw [List.length_append]; simp
theorem dx_set {Q : Unit → Shared → Prop} (hu : A.units + 64 < cLine) (I : Inv X pins σ H s) (D : DV X.w X.K H a xs) (F : FamOk xs k) (hk : KeyV X.K H y k) (hd : k.depth ≤ 8) (hl : xs.length < sizeLine) (ry : RelV y u) (rv : RelV v r)
    (h : ∀ es' ep' s', Paired (EntV X.w) es'.toList (putX xs k y v) → Inv X pins σ (L2.upd H a (dxO a es' ep')) s' → Q () s') : wpAny (model X.prog X.w) A (setItem (.ref a) u r) Q E s := by
  have e0 := D.ex
  obtain ⟨es, ep, e, _⟩ := e0
  obtain ⟨hS, hz, ⟨c, vs, hc, dd, rel⟩ | ⟨ht, ys, dd, rel⟩⟩ := D.forms I F
  · have hvs : vs.length ≤ sizeLine := by rw [← rel.length]; exact hz
    have ev := (nkKey_v (w := X.w) hk hc).1
    refine wpAny_setItem_pairs (hsz := hvs) (kV_is (by rw [← ev]; exact ry)) dd fun h' dd' hs => ?_
    obtain ⟨o, es', ep', ho, hx, hdat, hko, hpr, hnd⟩ := dd'
    have hp : Paired (EntV X.w) es'.toList (putX xs k y v) := back_k hpr (fun e he => hko e (by simpa using he)) (by rw [ev]; exact rk_put hc rv rel)
    refine h es' ep' _ hp (I.write (x := a) (e := a) (by rw [e]; exact True.intro) (.inl rfl) (fun b q hb z => (hs.2 b hb).trans z) ⟨o, ho⟩ ?_)
    have eo : o = { cls := .type "dict", data := .dict es' ep' } := by
      obtain ⟨c1, c2, c3, c4⟩ := o
      obtain ⟨h1, h2, h3⟩ := hx
      simp only at h1 h2 h3 hdat
      subst h1 h2 h3 hdat
      rfl
    rw [eo] at ho
    have hl2 := hp.length
    have hl3 := putX_len xs k y v
    simp only [Array.length_toList] at hl2
    exact ⟨⟨ho, hS, by omega⟩, ⟨_, ho⟩, fun h1 h2 q st => ⟨st _ q.1, q.2⟩⟩
  · obtain ⟨b, rfl⟩ := nkTup_v hk ht
    cases (show u = Value.ref b from ry)
    have hys : ys.length ≤ sizeLine := by rw [← rel.length]; exact hz
    refine wpAny_setItem_heap (hsz := hys) (key_room (X := X) hu) ⟨hk.is I rfl, hd⟩ dd fun h' dd' hs => ?_
    obtain ⟨o, es', ep', ho, hx, hdat, hes, _, hnd⟩ := dd'
    have hp : Paired (EntV X.w) es'.toList (putX xs k (.ref b) v) := by rw [hes]; exact back_t (rt_put rv rel)
    refine h es' ep' _ hp (I.write (x := a) (e := a) (by rw [e]; exact True.intro) (.inl rfl) (fun b q hb z => (hs.2 b hb).trans z) ⟨o, ho⟩ ?_)
    have eo : o = { cls := .type "dict", data := .dict es' ep' } := by
      obtain ⟨c1, c2, c3, c4⟩ := o
      obtain ⟨h1, h2, h3⟩ := hx
      simp only at h1 h2 h3 hdat
      subst h1 h2 h3 hdat
      rfl
    rw [eo] at ho
    have hl2 := hp.length
    have hl3 := putX_len xs k (.ref b) v
    simp only [Array.length_toList] at hl2
    exact ⟨⟨ho, hS, by omega⟩, ⟨_, ho⟩, fun h1 h2 q st => ⟨st _ q.1, q.2⟩⟩
end
end PD
/-! PD: iterators, by what they walk. -/
namespace PD
open PySem PySem.Spec PyProof.Rows L2

/-- the source stays; its items one by one -/
def JW (src : Hp → Prop) (xs : List V) : It := ⟨fun i H => src H ∧ i < xs.length, fun i H x H' => H' = H ∧ xs[i]? = some x, fun i H => src H ∧ i = xs.length⟩
/-- .. each item in a new tuple -/
def JT (src : Hp → Prop) (xs : List (List V)) : It :=
  ⟨fun i H => src H ∧ i < xs.length, fun i H v H' => ∃ T ys, v = .ref T ∧ H T = none ∧ H' = upd H T (.tup ys) ∧ xs[i]? = some ys, fun i H => src H ∧ i = xs.length⟩
section
variable {P : Program} {w : World} {K : PySem.W.Frag} {tg : Expr} {src : Hp → Prop} {own : List Addr} {it : Addr} {tn : Nat → Heap → Prop}
theorem turn_w {xs : List V} (mem : it ∈ own) (obj : ∀ i h, tn i h → ∀ b ∈ own, ∃ o, h.get? b = some o ∧ ∀ v, o.data ≠ .cell v)
    (keep : ∀ i h h', tn i h → (∀ b ∈ own, ∀ o, h.get? b = some o → h'.get? b = some o) → tn i h')
    (self : ∀ (A : Around) (i : Nat) (s : Shared) (Q : Value → Shared → Prop) (E : Value → Shared → Prop), tn i s.heap → Q (.ref it) s → wpAny (model P w) A (pyIter (.ref it)) Q E s)
    (lg : ∀ (A : Around) (i : Nat) (v : Value) (s : Shared) (Q : Unit → Shared → Prop) (E : Value → Shared → Prop), tn i s.heap → Q () s → wpAny (model P w) A (letOwnedTupleGo tg (.ref it) v) Q E s)
    (step : ∀ (X : Cx), X.prog = P → X.w = w → X.K = K → X.calm = true → ∀ (i : Nat) (pins : List (Addr × Obj)) (s : Shared) (σ : L2.St) (H : Hp), Inv X pins σ H s → src H → (∀ b ∈ own, FpOk X pins H b) → tn i s.heap →
      ∃ fp wr Pv St, Walks X.prog X.w X.A it fp wr xs.length Pv St ∧ (∀ b ∈ wr, b ∈ own) ∧ St i s.heap ∧ (∀ h, St (i + 1) h → tn (i + 1) h) ∧ ∀ v, Pv i v → ∃ x, xs[i]? = some x ∧ RelV x v) :
    Turn P w K tg (JW src xs) own it tn where
  mem := mem
  obj := obj
  keep := keep
  item := by
    intro X hP hw hK hc i pins s σ H E I hf st hg
    obtain ⟨hs, hi⟩ := hg
    obtain ⟨fp, wr, Pv, St, Wk, hwr, st0, nxt, val⟩ := step X hP hw hK hc i pins s σ H I hs hf st
    subst hP hw hK
    refine Wk.item i s _ _ hi st0 fun v h' tk hv st' kk => ?_
    obtain ⟨x, hx, rx⟩ := val v hv
    have I1 : Inv X pins σ H { s with heap := h', toks := tk } := I.turnedL (ch := own) (fun b o hb e => kk b o (fun z => hb (hwr b z)) e) hf
    exact ⟨_, rfl, lg X.A (i + 1) v _ _ _ (nxt _ st') ⟨x, H, I1, rx, ⟨rfl, hx⟩, nxt _ st', fun b hb => (hf b hb).1⟩⟩
  done := by
    intro X hP hw hK hc i pins s σ H E I hf st hg
    obtain ⟨hs, hi⟩ := hg
    obtain ⟨fp, wr, Pv, St, Wk, hwr, st0, nxt, val⟩ := step X hP hw hK hc i pins s σ H I hs hf st
    subst hP hw hK hi
    exact Wk.done s _ _ st0 fun h' tk kk => ⟨rfl, I.turnedL (ch := own) (fun b o hb e => kk b o (fun z => hb (hwr b z)) e) hf⟩
  self := self
theorem turn_t {elts : List Expr} {kk : Nat} {tpos : Pos} {xs : List (List V)} (mem : it ∈ own) (obj : ∀ i h, tn i h → ∀ b ∈ own, ∃ o, h.get? b = some o ∧ ∀ v, o.data ≠ .cell v)
    (keep : ∀ i h h', tn i h → (∀ b ∈ own, ∀ o, h.get? b = some o → h'.get? b = some o) → tn i h')
    (self : ∀ (A : Around) (i : Nat) (s : Shared) (Q : Value → Shared → Prop) (E : Value → Shared → Prop), tn i s.heap → Q (.ref it) s → wpAny (model P w) A (pyIter (.ref it)) Q E s)
    (step : ∀ (X : Cx), X.prog = P → X.w = w → X.K = K → X.calm = true → ∀ (i : Nat) (pins : List (Addr × Obj)) (s : Shared) (σ : L2.St) (H : Hp), Inv X pins σ H s → src H → (∀ b ∈ own, FpOk X pins H b) → tn i s.heap →
      ∃ fp wr Pv St Mid, WalksT X.prog X.w X.A it fp wr xs.length Pv St Mid ∧ (∀ b ∈ wr, b ∈ own) ∧ St i s.heap ∧ (∀ h, St (i + 1) h → tn (i + 1) h) ∧ ∀ vals, Pv i vals → ∃ ys, xs[i]? = some ys ∧ Vals ys vals.toList ∧ ys.length ≤ sizeLine) :
    Turn P w K (.Tuple elts kk tpos) (JT src xs) own it tn where
  mem := mem
  obj := obj
  keep := keep
  item := by
    intro X hP hw hK hc i pins s σ H E I hf st hg
    obtain ⟨hs, hi⟩ := hg
    obtain ⟨fp, wr, Pv, St, Mid, Wk, hwr, st0, nxt, val⟩ := step X hP hw hK hc i pins s σ H I hs hf st
    subst hP hw hK
    have lt : ∀ b ∈ own, b < s.heap.objs.size := fun b hb => let ⟨o, e, _⟩ := obj i _ st b hb; Heap.lt_size e
    refine Wk.item i s _ _ hi st0 fun T vals h' tk hv hT it' md kk1 => ?_
    obtain ⟨ys, hx, rx, hl⟩ := val vals hv
    refine ⟨_, rfl, Wk.go elts kk tpos i T { s with heap := h', toks := tk } _ _ md fun h'' st' kk2 => ?_⟩
    have nT : T ∉ wr := Wk.apart i T h' md
    have it2 : h''.IsTuple T vals := by
      obtain ⟨o, e, r⟩ := it'
      exact ⟨o, kk2 T o nT e, r⟩
    have new : ObjOk X.prog X.w (upd H T (.tup ys)) h'' T (.tup ys) := ⟨hl, vals.toList, rx, (show h''.IsTuple T vals.toList.toArray by simpa using it2)⟩
    have I1 : Inv X pins σ (upd H T (.tup ys)) { s with heap := h'', toks := tk } :=
      I.turnedNew (ch := own) (fun b o hb e => kk2 b o (fun z => hb (hwr b z)) (kk1 b o (fun z => hb (hwr b z)) e)) hf hT new
    refine ⟨.ref T, _, I1, rfl, ⟨T, ys, rfl, I.hok.fresh hT, rfl, hx⟩, nxt _ st', fun b hb => ?_⟩
    rw [upd_ne (Nat.ne_of_lt (Nat.lt_of_lt_of_le (lt b hb) hT))]
    exact (hf b hb).1
  done := by
    intro X hP hw hK hc i pins s σ H E I hf st hg
    obtain ⟨hs, hi⟩ := hg
    obtain ⟨fp, wr, Pv, St, Mid, Wk, hwr, st0, nxt, val⟩ := step X hP hw hK hc i pins s σ H I hs hf st
    subst hP hw hK hi
    exact Wk.done s _ _ st0 fun h' tk kk => ⟨rfl, I.turnedL (ch := own) (fun b o hb e => kk b o (fun z => hb (hwr b z)) e) hf⟩
  self := self
end

/-! ### a list, a tuple, a text -/
inductive Sk where
  | l (a : Addr) | t (a : Addr) | s (x : Str)
def Sk.val : Sk → V
  | .l a => .ref a
  | .t a => .ref a
  | .s x => .str x
def chV (x : Str) : List V := x.cps.toList.map fun c => .str ⟨#[c]⟩
def Sk.At (K : PySem.W.Frag) (H : Hp) : Sk → List V → Prop
  | .l a, xs => SqL K H a xs
  | .t a, xs => SqT K H a xs
  | .s x, xs => xs = chV x
def Sk.itr (tk : Tok) (it : Addr) (i : Nat) (h : Heap) : Sk → Prop
  | .l a => h.IsListIter it a i
  | .t a => h.IsTupleIter it a i
  | .s x => h.IsStrIter it (strIterType x) x tk i
def Sk.obj (tk : Tok) : Sk → Obj
  | .l a => { cls := .type "list_iterator", data := .fields #[.ref a, .int 0 0] }
  | .t a => { cls := .type "tuple_iterator", data := .fields #[.ref a, .int 0 0] }
  | .s x => { cls := .type (strIterType x), data := .fields #[.str x tk, .int 0 0] }
theorem chV_len (x : Str) : (chV x).length = x.cps.size := by simp [chV]
theorem chV_at {x : Str} {i c : Nat} (h : x.cps[i]? = some c) : (chV x)[i]? = some (.str ⟨#[c]⟩) := by
  have h2 : x.cps.toList[i]? = some c := by simpa using h
  simp [chV, h2]
section
variable {tk : Tok} {it : Addr} {i : Nat} {h : Heap} {sk : Sk}
theorem Sk.itr_obj (st : sk.itr tk it i h) : ∃ o, h.get? it = some o ∧ ∀ v, o.data ≠ .cell v := by
  cases sk with
  | l a => obtain ⟨o, e, c, d⟩ := st; exact ⟨o, e, fun v z => by rw [d] at z; cases z⟩
  | t a => obtain ⟨o, e, c, d⟩ := st; exact ⟨o, e, fun v z => by rw [d] at z; cases z⟩
  | s x => obtain ⟨o, e, c, d⟩ := st; exact ⟨o, e, fun v z => by rw [d] at z; cases z⟩
theorem Sk.itr_keep {h' : Heap} (st : sk.itr tk it i h) (k : ∀ o, h.get? it = some o → h'.get? it = some o) : sk.itr tk it i h' := by
  cases sk with
  | l a => exact Heap.IsListIter.at st k
  | t a => exact Heap.IsTupleIter.at st k
  | s x => obtain ⟨o, e, r⟩ := st; exact ⟨o, k o e, r⟩
theorem Sk.itr_new (e : h.get? it = some (sk.obj tk)) : sk.itr tk it 0 h := by
  cases sk <;> exact ⟨_, e, rfl, rfl⟩
theorem Sk.free : (sk.obj tk).isFreed = false := by cases sk <;> rfl
theorem Sk.lg {P : Program} {w : World} {A : Around} {tg : Expr} {v : Value} {s : Shared} {Q : Unit → Shared → Prop} {E : Value → Shared → Prop} (st : sk.itr tk it i s.heap) (q : Q () s) : wpAny (model P w) A (letOwnedTupleGo tg (.ref it) v) Q E s := by
  cases sk with
  | l a => obtain ⟨o, e, c, d⟩ := st; exact go_of e c d (by decide) q
  | t a => obtain ⟨o, e, c, d⟩ := st; exact go_of e c d (by decide) q
  | s x =>
    obtain ⟨o, e, c, d⟩ := st
    refine go_of e c d ?_ q
    unfold strIterType
    split <;> decide
theorem Sk.self {P : Program} {w : World} {A : Around} {s : Shared} {Q : Value → Shared → Prop} {E : Value → Shared → Prop} (st : sk.itr tk it i s.heap) (q : Q (.ref it) s) : wpAny (model P w) A (pyIter (.ref it)) Q E s := by
  cases sk with
  | l a => exact wpAny_pyIter_listiter st q
  | t a => exact wpAny_pyIter_tupleiter st q
  | s x =>
    have st : s.heap.IsStrIter it (strIterType x) x tk i := st
    unfold strIterType at st
    split at st
    · exact wpAny_pyIter_striter_ascii st q
    · exact wpAny_pyIter_striter_wide st q
variable {X : Cx} {pins : List (Addr × Obj)} {σ : L2.St} {H : Hp} {s : Shared} {xs : List V}
theorem fp_base (I : Inv X pins σ H s) {a b : Addr} {o : Obj} (f : FpOk X pins H b) (h : X.base.get? a = some o) : a ≠ b := fun z => by
  subst z
  rcases f.2.2.2.1 with q | q
  · exact I.ok.noex _ _ h q
  · exact absurd (Nat.lt_of_lt_of_le (Heap.lt_size (I.ok.bs _ _ h).1) q) (Nat.lt_irrefl _)
theorem fp_seq (I : Inv X pins σ H s) {a b : Addr} (f : FpOk X pins H b) (h : SqL X.K H a xs ∨ SqT X.K H a xs) : a ≠ b := by
  rcases h with ((h | ⟨o, h⟩) | ⟨o, its, n, hk, _⟩) | ((h | ⟨o, h⟩) | ⟨o, its, n, hk, _⟩)
  · exact fun z => by have := f.1; rw [← z, h] at this; cases this
  · exact fun z => by have := f.1; rw [← z, h] at this; cases this
  · exact fp_base I f (I.mod.kin a o hk)
  · exact fun z => by have := f.1; rw [← z, h] at this; cases this
  · exact fun z => by have := f.1; rw [← z, h] at this; cases this
  · exact fp_base I f (I.mod.kin a o hk)
/-- where the source stands -/
theorem Sk.draws (I : Inv X pins σ H s) (hc : X.calm = true) (a : sk.At X.K H xs) (hf : FpOk X pins H it) (st : sk.itr tk it i s.heap) :
    ∃ fp Pv St, Draws X.prog X.w X.A.in1 it (it :: fp) xs.length Pv St ∧ St i s.heap ∧ (∀ j h, St j h → sk.itr tk it j h) ∧ (∀ j v, Pv j v → ∃ x, xs[j]? = some x ∧ RelV x v) ∧ ∀ b, FpOk X pins H b → b ∉ fp := by
  have hh : X.A.in1.handled = none := I.ok.hd hc
  cases sk with
  | l a' =>
    obtain ⟨its, rv, p, hz⟩ := I.list a
    have hl := rv.length
    have ne : a' ≠ it := fp_seq I hf (.inl a)
    refine ⟨[a'], _, _, (show Draws X.prog X.w X.A.in1 it [it, a'] xs.length (fun i v => its.toArray[i]? = some v) (fun i h => h.IsListIter it a' i ∧ h.IsList a' its.toArray) by
      have := Draws.list (prog := X.prog) (w := X.w) hh it a' ne its.toArray
      rwa [List.size_toArray, ← hl] at this), ⟨st, p.isList⟩, fun j h z => z.1, fun j v hv => ?_, fun b hb => ?_⟩
    · have hv : its.toArray[j]? = some v := hv
      have hj : j < xs.length := by rw [hl]; have := (Array.getElem?_eq_some_iff.mp hv).1; simpa using this
      obtain ⟨u, hu, ru⟩ := rv.get (List.getElem?_eq_getElem hj)
      have : v = u := by
        have e2 : its[j]? = some v := by simpa using hv
        rw [hu] at e2; exact (Option.some.inj e2).symm
      subst this
      exact ⟨_, List.getElem?_eq_getElem hj, ru⟩
    · exact fun z => fp_seq I hb (.inl a) (List.mem_singleton.mp z).symm
  | t a' =>
    obtain ⟨its, rv, p, hz⟩ := I.tuple a
    have p' : s.heap.IsTuple a' its.toArray := p
    have hl := rv.length
    have ne : a' ≠ it := fp_seq I hf (.inr a)
    refine ⟨[a'], _, _, (show Draws X.prog X.w X.A.in1 it [it, a'] xs.length (fun i v => its.toArray[i]? = some v) (fun i h => h.IsTupleIter it a' i ∧ h.IsTuple a' its.toArray) by
      have := Draws.tuple (prog := X.prog) (w := X.w) hh it a' ne its.toArray
      rwa [List.size_toArray, ← hl] at this), ⟨st, p'⟩, fun j h z => z.1, fun j v hv => ?_, fun b hb => ?_⟩
    · have hv : its.toArray[j]? = some v := hv
      have hj : j < xs.length := by rw [hl]; have := (Array.getElem?_eq_some_iff.mp hv).1; simpa using this
      obtain ⟨u, hu, ru⟩ := rv.get (List.getElem?_eq_getElem hj)
      have : v = u := by
        have e2 : its[j]? = some v := by simpa using hv
        rw [hu] at e2; exact (Option.some.inj e2).symm
      subst this
      exact ⟨_, List.getElem?_eq_getElem hj, ru⟩
    · exact fun z => fp_seq I hb (.inr a) (List.mem_singleton.mp z).symm
  | s x =>
    have a : xs = chV x := a
    subst a
    refine ⟨[], _, _, (by rw [chV_len]; exact Draws.text hh it x tk), st, fun j h z => z, fun j v hv => ?_, fun b hb z => by cases z⟩
    obtain ⟨c, u, hcx, rfl⟩ := hv
    exact ⟨_, chV_at hcx, ⟨u, rfl⟩⟩
theorem Sk.walks (I : Inv X pins σ H s) (hc : X.calm = true) (a : sk.At X.K H xs) (hf : FpOk X pins H it) (st : sk.itr tk it i s.heap) :
    ∃ fp wr Pv St, Walks X.prog X.w X.A it fp wr xs.length Pv St ∧ (∀ b ∈ wr, b ∈ [it]) ∧ St i s.heap ∧ (∀ h, St (i + 1) h → sk.itr tk it (i + 1) h) ∧ ∀ v, Pv i v → ∃ x, xs[i]? = some x ∧ RelV x v := by
  have hh : X.A.handled = none := I.ok.hd hc
  cases sk with
  | l a' =>
    obtain ⟨its, rv, p, hz⟩ := I.list a
    have hl := rv.length
    have ne : a' ≠ it := fp_seq I hf (.inl a)
    refine ⟨_, _, _, _, (show Walks X.prog X.w X.A it [it, a'] [it] xs.length (fun i v => its.toArray[i]? = some v) (fun i h => h.IsListIter it a' i ∧ h.IsList a' its.toArray) by
      have := Walks.list (prog := X.prog) (w := X.w) hh it a' ne its.toArray
      rwa [List.size_toArray, ← hl] at this), fun b z => z, ⟨st, p.isList⟩, fun h z => z.1, fun v hv => ?_⟩
    have hv : its.toArray[i]? = some v := hv
    have hj : i < xs.length := by rw [hl]; have := (Array.getElem?_eq_some_iff.mp hv).1; simpa using this
    obtain ⟨u, hu, ru⟩ := rv.get (List.getElem?_eq_getElem hj)
    have : v = u := by
      have e2 : its[i]? = some v := by simpa using hv
      rw [hu] at e2; exact (Option.some.inj e2).symm
    subst this
    exact ⟨_, List.getElem?_eq_getElem hj, ru⟩
  | t a' =>
    obtain ⟨its, rv, p, hz⟩ := I.tuple a
    have p' : s.heap.IsTuple a' its.toArray := p
    have hl := rv.length
    have ne : a' ≠ it := fp_seq I hf (.inr a)
    refine ⟨_, _, _, _, (show Walks X.prog X.w X.A it [it, a'] [it] xs.length (fun i v => its.toArray[i]? = some v) (fun i h => h.IsTupleIter it a' i ∧ h.IsTuple a' its.toArray) by
      have := Walks.tuple (prog := X.prog) (w := X.w) hh it a' ne its.toArray
      rwa [List.size_toArray, ← hl] at this), fun b z => z, ⟨st, p'⟩, fun h z => z.1, fun v hv => ?_⟩
    have hv : its.toArray[i]? = some v := hv
    have hj : i < xs.length := by rw [hl]; have := (Array.getElem?_eq_some_iff.mp hv).1; simpa using this
    obtain ⟨u, hu, ru⟩ := rv.get (List.getElem?_eq_getElem hj)
    have : v = u := by
      have e2 : its[i]? = some v := by simpa using hv
      rw [hu] at e2; exact (Option.some.inj e2).symm
    subst this
    exact ⟨_, List.getElem?_eq_getElem hj, ru⟩
  | s x =>
    have a : xs = chV x := a
    subst a
    have Wk : Walks X.prog X.w X.A it [it] [it] (chV x).length (SignAt x) (fun i h => h.IsStrIter it (strIterType x) x tk i) := by
      rw [chV_len]
      unfold strIterType
      split
      · exact Walks.strAscii hh it x tk
      · exact Walks.strWide hh it x tk
    refine ⟨_, _, _, _, Wk, fun b z => z, st, fun h z => z, fun v hv => ?_⟩
    obtain ⟨c, u, hcx, rfl⟩ := hv
    exact ⟨_, chV_at hcx, ⟨u, rfl⟩⟩
theorem Sk.begins (I : Inv X pins σ H s) (a : sk.At X.K H xs) {u : Value} (r : RelV sk.val u) : ∃ tk Hb, Begins u (sk.obj tk) Hb ∧ Hb s.heap ∧ ∀ b, sk.val = .ref b → b < s.heap.objs.size := by
  cases sk with
  | l a' =>
    obtain ⟨its, rv, p, hz⟩ := I.list a
    cases r
    refine ⟨0, _, begins_list a' its.toArray, p.isList, fun b e => ?_⟩
    cases e; exact p.lt
  | t a' =>
    obtain ⟨its, rv, p, hz⟩ := I.tuple a
    cases r
    refine ⟨0, _, begins_tuple a' its.toArray, p, fun b e => ?_⟩
    cases e
    obtain ⟨o, e, _⟩ := p
    exact Heap.lt_size e
  | s x =>
    obtain ⟨t, rfl⟩ := r
    exact ⟨t, _, begins_text x t, trivial, fun b e => by cases e⟩
end
end PD
/-! PD: what loops walk: values, ranges, enumerate, zip, the views of a dict. -/
namespace PD
open PySem PySem.Spec PyProof.Rows L2

section
variable {X : Cx} {tg : Expr}
/-- an entry and its key / value -/
abbrev EK (e : DictEntry) (x : V) : Prop := RelV x e.key
abbrev EVv (e : DictEntry) (x : V) : Prop := RelV x e.val
abbrev EKV (e : DictEntry) (x : List V) : Prop := ∃ k v, x = [k, v] ∧ RelV k e.key ∧ RelV v e.val
def iVal (K : PySem.W.Frag) (te : TE) : TI := fun σ H R => te σ H fun x H1 =>
  (∃ sk xs, x = Sk.val sk ∧ sk.At K H1 xs ∧ R (JW (fun H => sk.At K H xs) xs) H1) ∨
  (∃ a es ep xs, x = .ref a ∧ H1 a = some (dxO a es ep) ∧ Paired EK es.toList xs ∧ R (JW (fun H => H a = some (dxO a es ep)) xs) H1)
theorem turn_sk {P : Program} {w : World} {K : PySem.W.Frag} {sk : Sk} {xs : List V} (tk : Tok) (it : Addr) : Turn P w K tg (JW (fun H => sk.At K H xs) xs) [it] it (fun i h => sk.itr tk it i h) :=
  turn_w (by simp) (fun i h st b hb => by have : b = it := by simpa using hb
                                          subst this; exact Sk.itr_obj (sk := sk) st)
    (fun i h h' st k => Sk.itr_keep (sk := sk) st fun o e => k it (by simp) o e) (fun A i s Q E st q => Sk.self st q) (fun A i v s Q E st q => Sk.lg st q)
    fun X hP hw hK hc i pins s σ H I hs hf st => by
      subst hP hw hK
      exact Sk.walks I hc hs (hf it (by simp)) st
theorem dx_raw {pins : List (Addr × Obj)} {σ : L2.St} {H : Hp} {s : Shared} {a : Addr} {es : Array DictEntry} {ep : Nat} (I : Inv X pins σ H s) (e : H a = some (dxO a es ep)) : s.heap.DictRaw a es ep ∧ (a == sysModules) = false ∧ es.size ≤ sizeLine := by
  obtain ⟨⟨ho, hS, hz⟩, _⟩ := I.hok a _ e
  exact ⟨⟨_, ho, ⟨rfl, rfl, rfl⟩, rfl⟩, hS, hz⟩
theorem dx_noDict {pins : List (Addr × Obj)} {σ : L2.St} {H : Hp} {s : Shared} {a : Addr} {es : Array DictEntry} {ep : Nat} (I : Inv X pins σ H s) (e : H a = some (dxO a es ep)) : ∀ b, Value.ref a = Value.ref b → ∃ o, s.heap.get? b = some o ∧ o.dict = none := by
  obtain ⟨⟨ho, hS, hz⟩, _⟩ := I.hok a _ e
  intro b hb
  cases hb
  exact ⟨_, ho, rfl⟩
theorem paired_at {α β : Type} {F : α → β → Prop} : ∀ {xs : List α} {ys : List β} {i : Nat} {x : α}, Paired F xs ys → xs[i]? = some x → ∃ y, ys[i]? = some y ∧ F x y
  | _, _, i, _, .nil, e => by simp at e
  | _, _, 0, _, .cons r _, e => by simp only [List.getElem?_cons_zero, Option.some.injEq] at e; subst e; exact ⟨_, rfl, r⟩
  | _, _, i + 1, _, .cons _ t, e => paired_at (i := i) t (by simpa using e)
theorem ent_at {es : Array DictEntry} {i : Nat} (hi : i < es.size) : es.toList[i]? = some es[i] := by simp [hi]
theorem turn_dkeys {P : Program} {w : World} {K : PySem.W.Frag} {a it : Addr} {es : Array DictEntry} {ep : Nat} {xs : List V} (hp : Paired EK es.toList xs) :
    Turn P w K tg (JW (fun H => H a = some (dxO a es ep)) xs) [it] it (fun i h => h.IsKeyIter it a i es.size ep) := by
  have hl : es.size = xs.length := by simpa using hp.length
  refine turn_w (by simp) (fun i h st b hb => ?_) (fun i h h' st k => ?_) (fun A i s Q E st q => wpAny_pyIter_keyiter st q) (fun A i v s Q E st q => ?_) fun X hP hw hK hc i pins s σ H I hs hf st => ?_
  · have : b = it := by simpa using hb
    subst this
    obtain ⟨o, e, c, d⟩ := st
    exact ⟨o, e, fun v z => by rw [d] at z; cases z⟩
  · obtain ⟨o, e, r⟩ := st
    exact ⟨o, k it (by simp) o e, r⟩
  · obtain ⟨o, e, c, d⟩ := st
    exact go_of e c d (by decide) q
  · subst hP hw hK
    obtain ⟨raw, hS, hz⟩ := dx_raw I hs
    have ne : a ≠ it := fun z => by have := (hf it (by simp)).1; rw [← z, hs] at this; cases this
    refine ⟨_, _, _, _, (show Walks X.prog X.w X.A it [it, a] [it] xs.length (fun i v => ∃ hi : i < es.size, v = es[i].key) (fun i h => h.IsKeyIter it a i es.size ep ∧ h.DictRaw a es ep) by
      have := Walks.rawKeys (prog := X.prog) (w := X.w) (I.ok.hd hc) it a ne es ep
      rw [← hl]; exact this), fun b z => z, ⟨st, raw⟩, fun h z => z.1, fun v hv => ?_⟩
    obtain ⟨hi, rfl⟩ := hv
    exact paired_at hp (ent_at hi)
theorem turn_dvals {P : Program} {w : World} {K : PySem.W.Frag} {a it : Addr} {es : Array DictEntry} {ep : Nat} {xs : List V} (hp : Paired EVv es.toList xs) :
    Turn P w K tg (JW (fun H => H a = some (dxO a es ep)) xs) [it] it (fun i h => h.IsValIter it a i es.size ep) := by
  have hl : es.size = xs.length := by simpa using hp.length
  refine turn_w (by simp) (fun i h st b hb => ?_) (fun i h h' st k => ?_) (fun A i s Q E st q => wpAny_pyIter_valiter st q) (fun A i v s Q E st q => ?_) fun X hP hw hK hc i pins s σ H I hs hf st => ?_
  · have : b = it := by simpa using hb
    subst this
    obtain ⟨o, e, c, d⟩ := st
    exact ⟨o, e, fun v z => by rw [d] at z; cases z⟩
  · obtain ⟨o, e, r⟩ := st
    exact ⟨o, k it (by simp) o e, r⟩
  · obtain ⟨o, e, c, d⟩ := st
    exact go_of e c d (by decide) q
  · subst hP hw hK
    obtain ⟨raw, hS, hz⟩ := dx_raw I hs
    have ne : a ≠ it := fun z => by have := (hf it (by simp)).1; rw [← z, hs] at this; cases this
    refine ⟨_, _, _, _, (show Walks X.prog X.w X.A it [it, a] [it] xs.length (fun i v => ∃ hi : i < es.size, v = es[i].val) (fun i h => h.IsValIter it a i es.size ep ∧ h.DictRaw a es ep) by
      have := Walks.rawValues (prog := X.prog) (w := X.w) (I.ok.hd hc) it a ne es ep
      rw [← hl]; exact this), fun b z => z, ⟨st, raw⟩, fun h z => z.1, fun v hv => ?_⟩
    obtain ⟨hi, rfl⟩ := hv
    exact paired_at hp (ent_at hi)
theorem turn_ditems {P : Program} {w : World} {K : PySem.W.Frag} {elts : List Expr} {kk : Nat} {tpos : Pos} {a it : Addr} {es : Array DictEntry} {ep : Nat} {xs : List (List V)} (hp : Paired EKV es.toList xs) :
    Turn P w K (.Tuple elts kk tpos) (JT (fun H => H a = some (dxO a es ep)) xs) [it] it (fun i h => ∃ ok ov, IsItemIter h it a i es.size ep ok ov) := by
  have hl : es.size = xs.length := by simpa using hp.length
  refine turn_t (by simp) (fun i h st b hb => ?_) (fun i h h' st k => ?_) (fun A i s Q E st q => ?_) fun X hP hw hK hc i pins s σ H I hs hf st => ?_
  · have : b = it := by simpa using hb
    subst this
    obtain ⟨ok, ov, e⟩ := st
    exact ⟨_, e, fun v z => by have z' : Data.fields _ = Data.cell v := z; cases z'⟩
  · obtain ⟨ok, ov, e⟩ := st
    exact ⟨ok, ov, k it (by simp) _ e⟩
  · obtain ⟨ok, ov, e⟩ := st
    exact wpAny_pyIter_itemiter e q
  · subst hP hw hK
    obtain ⟨raw, hS, hz⟩ := dx_raw I hs
    have ne : a ≠ it := fun z => by have := (hf it (by simp)).1; rw [← z, hs] at this; cases this
    refine ⟨_, _, _, _, _, (show WalksT X.prog X.w X.A it [it, a] [it] xs.length _ (fun i h => (∃ ok ov, IsItemIter h it a i es.size ep ok ov) ∧ h.DictRaw a es ep) _ by rw [← hl]; exact WalksT.rawItems (I.ok.hd hc) it a ne es ep), fun b z => z, ⟨st, raw⟩, fun h z => z.1, fun v hv => ?_⟩
    obtain ⟨hi, rfl⟩ := hv
    obtain ⟨ys, h1, k, v, rfl, r1, r2⟩ := paired_at hp (ent_at hi)
    exact ⟨_, h1, .cons r1 (.cons r2 .nil), by show 2 ≤ sizeLine; decide⟩
theorem pi_val {e : Expr} {te : TE} (he : PE X e te) : PI X tg e (iVal X.K te) := by
  refine ⟨fun pins s σ H R I h => ?_⟩
  refine thn (he.run pins s σ H _ I h) fun u s1 ⟨x, H1, I1, r1, q1⟩ => ?_
  rcases q1 with ⟨sk, xs, ex, at_, q⟩ | ⟨a, es, ep, xs, ex, ha, hp, q⟩
  · subst ex
    obtain ⟨tk, Hb, B, hb, _⟩ := Sk.begins I1 at_ r1
    exact B.iter _ _ _ _ _ _ hb (pi_one (tk := s1.toks) I1 _ (turn_sk tk _) (Sk.itr_new (tk := tk) (h := s1.heap.push (sk.obj tk)) (Heap.get?_push_size _ Sk.free)) q)
  · subst ex
    cases r1
    obtain ⟨raw, hS, hz⟩ := dx_raw I1 ha
    exact wpAny_pyIter_dict_raw hS raw (pi_one (tk := s1.toks) I1 _ (turn_dkeys hp) ⟨_, Heap.get?_push_size _ rfl, rfl, rfl⟩ q)
/-- d.items(), d.values() -/
def iItm (te : TE) : TI := fun σ H R => te σ H fun x H1 => ∃ a es ep xs, x = .ref a ∧ H1 a = some (dxO a es ep) ∧ Paired EKV es.toList xs ∧ R (JT (fun H => H a = some (dxO a es ep)) xs) H1
def iVls (te : TE) : TI := fun σ H R => te σ H fun x H1 => ∃ a es ep xs, x = .ref a ∧ H1 a = some (dxO a es ep) ∧ Paired EVv es.toList xs ∧ R (JW (fun H => H a = some (dxO a es ep)) xs) H1
variable {e : Expr} {td : TE} {apos cpos : Pos}
theorem pi_vls (he : PE X e td) (hbase : attributeBase e "values" X.env (eval e X.env) = eval e X.env := by rfl) (hline : (apos.endLine == cpos.line) = true := by rfl) : PI X tg (.Call (.Attribute e "values" apos) [] [] cpos) (iVls td) := by
  refine ⟨fun pins s σ H R I h => ?_⟩
  refine wpAny_Call_method (T := "dict") (id := "dict.values") hbase rfl hline F.plainAttrs_dict F.slot_dict_values F.type_dict_values (thn (he.run pins s σ H _ I h) fun u s1 ⟨x, H1, I1, rx, a, es, ep, xs, ex, ha, hp, q⟩ => ?_)
  subst ex
  obtain rfl : u = Value.ref a := rx
  obtain ⟨raw, hS, hz⟩ := dx_raw I1 ha
  refine ⟨raw.typeIs, dx_noDict I1 ha, ?_⟩
  have I2 : Inv X pins σ H1 { s1 with heap := s1.heap.push { cls := .type "dict_values", data := .fields #[.ref a] } } := I1.kept (t' := s1.toks) fun b ob q => Heap.get?_push_of_some _ q
  have fin : wpAny (model X.prog X.w) X.A (pyIter (.ref s1.heap.objs.size)) (PIE X pins σ tg R) X.xe { s1 with heap := s1.heap.push { cls := .type "dict_values", data := .fields #[.ref a] } } :=
    wpAny_pyIter_values_raw (d := a) ⟨_, Heap.get?_push_size _ rfl, rfl, rfl⟩ (dx_raw I2 ha).1 (pi_one (tk := s1.toks) I2 _ (turn_dvals hp) ⟨_, Heap.get?_push_size _ rfl, rfl, rfl⟩ q)
  show wpAny _ _ (callWith cpos (.builtin "dict.values") [.ref a] [] []) _ X.xe s1
  exact method_meetsIn F.slot_dict_values F.entry_dict_values rfl (PySem.evalArgs_none ⟨rfl, raw.typeIs, F.args_dict_values_1 _, _, meets_dict_values_raw a hS, ⟨es, ep, raw⟩, fin⟩)
theorem pi_itm {elts : List Expr} {kk : Nat} {tpos : Pos} (he : PE X e td) (hbase : attributeBase e "items" X.env (eval e X.env) = eval e X.env := by rfl) (hline : (apos.endLine == cpos.line) = true := by rfl) :
    PI X (.Tuple elts kk tpos) (.Call (.Attribute e "items" apos) [] [] cpos) (iItm td) := by
  refine ⟨fun pins s σ H R I h => ?_⟩
  refine wpAny_Call_method (T := "dict") (id := "dict.items") hbase rfl hline F.plainAttrs_dict F.slot_dict_items F.type_dict_items (thn (he.run pins s σ H _ I h) fun u s1 ⟨x, H1, I1, rx, a, es, ep, xs, ex, ha, hp, q⟩ => ?_)
  subst ex
  obtain rfl : u = Value.ref a := rx
  obtain ⟨raw, hS, hz⟩ := dx_raw I1 ha
  refine ⟨raw.typeIs, dx_noDict I1 ha, ?_⟩
  have I2 : Inv X pins σ H1 { s1 with heap := s1.heap.push { cls := .type "dict_items", data := .fields #[.ref a] } } := I1.kept (t' := s1.toks) fun b ob q => Heap.get?_push_of_some _ q
  have fin : wpAny (model X.prog X.w) X.A (pyIter (.ref s1.heap.objs.size)) (PIE X pins σ (.Tuple elts kk tpos) R) X.xe { s1 with heap := s1.heap.push { cls := .type "dict_items", data := .fields #[.ref a] } } :=
    wpAny_pyIter_items_raw (d := a) ⟨_, Heap.get?_push_size _ rfl, rfl, rfl⟩ (dx_raw I2 ha).1 (pi_one (tk := s1.toks) I2 _ (turn_ditems hp) ⟨_, _, Heap.get?_push_size _ rfl⟩ q)
  show wpAny _ _ (callWith cpos (.builtin "dict.items") [.ref a] [] []) _ X.xe s1
  exact method_meetsIn F.slot_dict_items F.entry_dict_items rfl (PySem.evalArgs_none ⟨rfl, raw.typeIs, F.args_dict_items_1 _, _, meets_dict_items_raw a hS, ⟨es, ep, raw⟩, fin⟩)

theorem not_cons {a b : Addr} {l : List Addr} (h : a ≠ b) (h2 : a ∉ l) : a ∉ b :: l := fun z => (List.mem_cons.mp z).elim h h2
/-! ### enumerate, zip -/
def enV (xs : List V) : List (List V) := xs.mapIdx fun i x => [.int (i : Nat), x]
theorem turn_en {P : Program} {w : World} {K : PySem.W.Frag} {elts : List Expr} {kk : Nat} {tpos : Pos} {sk : Sk} {xs : List V} (tk : Tok) (e it : Addr) :
    Turn P w K (.Tuple elts kk tpos) (JT (fun H => sk.At K H xs) (enV xs)) [e, it] e (fun i h => (∃ old, IsEnum h e it (0 + ((i : Nat) : Int)) old) ∧ sk.itr tk it i h ∧ e ≠ it) := by
  refine turn_t (by simp) (fun i h st b hb => ?_) (fun i h h' st k => ?_) (fun A i s Q E st q => ?_) fun X hP hw hK hc i pins s σ H I hs hf st => ?_
  · obtain ⟨⟨old, he⟩, hi, _⟩ := st
    have e' : b = e ∨ b = it := by simpa using hb
    rcases e' with z | z
    · rw [z]; exact ⟨_, he, fun v q => nomatch q⟩
    · rw [z]; exact Sk.itr_obj (sk := sk) hi
  · obtain ⟨⟨old, he⟩, hi, hne⟩ := st
    exact ⟨⟨old, k e (by simp) _ he⟩, Sk.itr_keep (sk := sk) hi fun o q => k it (by simp) o q, hne⟩
  · obtain ⟨⟨_, he⟩, _⟩ := st
    exact wpAny_pyIter_enum he q
  · subst hP hw hK
    obtain ⟨hen, hi, hne⟩ := st
    obtain ⟨fp, Pv, St, D, st0, nxt, val, fr⟩ := Sk.draws I hc hs (hf it (by simp)) hi
    have nfp : e ∉ it :: fp := fun z => by
      rcases List.mem_cons.mp z with z | z
      · exact hne z
      · exact fr _ (hf e (by simp)) z
    have hl : (enV xs).length = xs.length := by simp [enV]
    refine ⟨_, _, _, _, _, (show WalksT X.prog X.w X.A e _ [e, it] (enV xs).length _ (fun i h => (∃ old, IsEnum h e it (0 + ((i : Nat) : Int)) old) ∧ St i h) _ by rw [hl]; exact WalksT.enumFrom 0 D e hne nfp (by simp)), fun b hb => by simpa using hb, ⟨hen, st0⟩, fun h z => ⟨z.1, nxt _ _ z.2, hne⟩, fun vals hv => ?_⟩
    obtain ⟨t, x, hx, rfl⟩ := hv
    obtain ⟨y, hy, ry⟩ := val _ _ hx
    refine ⟨[.int (i : Nat), y], ?_, .cons ⟨t, by simp⟩ (.cons ry .nil), by show 2 ≤ sizeLine; decide⟩
    simp [enV, hy]

theorem meets_en1 {v : Value} {o : Obj} {H : Heap → Prop} (B : Begins v o H) :
    Meets (Builtin.«enumerate.__new__» ⟨[.type "enumerate", v], []⟩) (fun _ R s => H s.heap ∧
      R (.ok (.ret (.ref (s.heap.push o).objs.size))) { s with heap := (s.heap.push o).push { cls := .type "enumerate", data := .fields #[.none, .bool false, .ref s.heap.objs.size, rawInt 0, .none, .none] } }) :=
  .of_wp fun prog w A R s h => by
    obtain ⟨hp, g, d, tk, os⟩ := s; obtain ⟨h1, h⟩ := h
    have sube := sub_enumerate
    have it1 : ∀ {A' : Around} {E' : Value → Shared → Prop} {Q' : Value → Shared → Prop}, Q' (.ref hp.objs.size) ⟨hp.push o, g, d, tk, os⟩ → wpAny (model prog w) A' (pyIter v) Q' E' ⟨hp, g, d, tk, os⟩ :=
      fun q => B.iter prog w _ _ ⟨hp, g, d, tk, os⟩ _ h1 q
    wp_walk using it1
    refine wpAny_stack_any fun stk => wpAny_pure ?_
    split
    · rename_i cc _ _ _ _ _
      cases (cc == Value.type "enumerate") <;> (wp_walk using it1; exact ⟨_, rfl, h⟩)
    · wp_walk using it1
      exact ⟨_, rfl, h⟩
theorem en_begins {prog : Program} {w : World} {A : Around} {E : Value → Shared → Prop} {s : Shared} {v : Value} {o : Obj} {H : Heap → Prop} {Q : Value → Shared → Prop} (B : Begins v o H) (h1 : H s.heap)
    (h : ∀ h', IsEnum h' (s.heap.objs.size + 1) s.heap.objs.size 0 .none → h'.get? s.heap.objs.size = some o → (∀ b o, s.heap.get? b = some o → h'.get? b = some o) → Q (.ref (s.heap.objs.size + 1)) { s with heap := h' }) :
    wpAny (model prog w) A (call (.type "enumerate") [v]) Q E s := by
  refine callType_new F.called_enumerate (by decide) (F.typeCall_enumerate_1 _) (F.newCall_enumerate_1 _) (fun obj => F.args_object_init_2 obj _) F.entry_enumerate_new (meets_en1 B) ⟨h1, ?_⟩
  have hz : (s.heap.push o).objs.size = s.heap.objs.size + 1 := Heap.size_push ..
  show _ ∧ _
  rw [hz]
  have he := Heap.get?_push_size (s.heap.push o) (o := { cls := .type "enumerate", data := .fields #[.none, .bool false, .ref s.heap.objs.size, rawInt 0, .none, .none] }) rfl
  rw [hz] at he
  exact ⟨⟨_, he, rfl⟩, h _ he (Heap.get?_push_of_some _ (Heap.get?_push_size _ B.free)) fun b o x => Heap.get?_push_of_some _ (Heap.get?_push_of_some _ x)⟩
/-- the cells of a zip lie apart -/
def Apart : List Addr → Prop
  | [] => True
  | a :: r => (∀ b ∈ r, a ≠ b) ∧ Apart r
def z2V (xs ys : List V) : List (List V) := List.zipWith (fun x y => [x, y]) xs ys
def z3V (xs ys zs : List V) : List (List V) := List.zipWith (fun x yz => x :: yz) xs (z2V ys zs)
theorem z2_at {xs ys : List V} {i : Nat} {x y : V} (h1 : xs[i]? = some x) (h2 : ys[i]? = some y) : (z2V xs ys)[i]? = some [x, y] := by simp [z2V, List.getElem?_zipWith, h1, h2]
theorem z3_at {xs ys zs : List V} {i : Nat} {x y z : V} (h1 : xs[i]? = some x) (h2 : ys[i]? = some y) (h3 : zs[i]? = some z) : (z3V xs ys zs)[i]? = some [x, y, z] := by simp [z3V, List.getElem?_zipWith, h1, z2_at h2 h3]
theorem turn_z2 {P : Program} {w : World} {K : PySem.W.Frag} {elts : List Expr} {kk : Nat} {tpos : Pos} {sk sk2 : Sk} {xs ys : List V} (tk tk2 : Tok) (z TI TO i1 i2 : Addr) (ap : Apart [z, TI, TO, i1, i2]) :
    Turn P w K (.Tuple elts kk tpos) (JT (fun H => sk.At K H xs ∧ sk2.At K H ys) (z2V xs ys)) [z, TI, TO, i1, i2] z
      (fun i h => IsZip h z TI TO .none ∧ IsTupOf2 h TI (.ref i1) (.ref i2) ∧ (∃ x y, IsTupOf2 h TO x y) ∧ sk.itr tk i1 i h ∧ sk2.itr tk2 i2 i h) := by
  simp only [Apart, List.mem_cons, List.not_mem_nil, or_false, forall_eq_or_imp, forall_eq, and_true, implies_true, true_and] at ap
  obtain ⟨⟨zTI, zTO, z1, z2⟩, ⟨TITO, TI1, TI2⟩, ⟨TO1, TO2⟩, i12, _⟩ := ap
  refine turn_t (by simp) (fun i h st c hc => ?_) (fun i h h' st k => ?_) (fun A i s Q E st q => wpAny_pyIter_zip st.1 q) fun X hP hw hK hc i pins s σ H I hs hf st => ?_
  · obtain ⟨hz, hTI, ⟨x, y, hTO⟩, h1, h2⟩ := st
    have e' : c = z ∨ c = TI ∨ c = TO ∨ c = i1 ∨ c = i2 := by simpa using hc
    rcases e' with q | q | q | q | q
    · rw [q]; exact ⟨_, hz, fun v q => nomatch q⟩
    · rw [q]; exact ⟨_, hTI, fun v q => nomatch q⟩
    · rw [q]; exact ⟨_, hTO, fun v q => nomatch q⟩
    · rw [q]; exact Sk.itr_obj (sk := sk) h1
    · rw [q]; exact Sk.itr_obj (sk := sk2) h2
  · obtain ⟨hz, hTI, ⟨x, y, hTO⟩, h1, h2⟩ := st
    exact ⟨k z (by simp) _ hz, k TI (by simp) _ hTI, ⟨x, y, k TO (by simp) _ hTO⟩, Sk.itr_keep (sk := sk) h1 fun o q => k i1 (by simp) o q, Sk.itr_keep (sk := sk2) h2 fun o q => k i2 (by simp) o q⟩
  · subst hP hw hK
    obtain ⟨hz, hTI, hTO, h1, h2⟩ := st
    obtain ⟨s1, s2⟩ := hs
    obtain ⟨fp1, Pv1, St1, D1, st1, nxt1, val1, fr1⟩ := Sk.draws I hc s1 (hf i1 (by simp)) h1
    obtain ⟨fp2, Pv2, St2, D2, st2, nxt2, val2, fr2⟩ := Sk.draws I hc s2 (hf i2 (by simp)) h2
    have S : ZipSep2 z TI TO i1 i2 (i1 :: fp1) (i2 :: fp2) :=
      { TIz := Ne.symm zTI, TOz := Ne.symm zTO, TITO := TITO, TIi1 := TI1, mem1 := by simp, zf1 := not_cons z1 (fr1 _ (hf z (by simp))), Tf1 := not_cons TO1 (fr1 _ (hf TO (by simp))),
        TIi2 := TI2, mem2 := by simp, zf2 := not_cons z2 (fr2 _ (hf z (by simp))), Tf2 := not_cons TO2 (fr2 _ (hf TO (by simp))), sep1_2 := not_cons i12 (fr2 _ (hf i1 (by simp))), sep2_1 := not_cons (Ne.symm i12) (fr1 _ (hf i2 (by simp))) }
    have hl : (z2V xs ys).length = min xs.length ys.length := by simp [z2V]
    refine ⟨_, _, _, _, _, (show WalksT X.prog X.w X.A z _ [z, TO, i1, i2] (z2V xs ys).length _ (fun i h => IsZip h z TI TO .none ∧ IsTupOf2 h TI (.ref i1) (.ref i2) ∧ (∃ a1 a2, IsTupOf2 h TO a1 a2) ∧ St1 i h ∧ St2 i h) _ by rw [hl]; exact WalksT.zipD2 S D1 D2),
      fun b hb => ?_, ⟨hz, hTI, hTO, st1, st2⟩, fun h q => ⟨q.1, q.2.1, q.2.2.1, nxt1 _ _ q.2.2.2.1, nxt2 _ _ q.2.2.2.2⟩, fun vals hv => ?_⟩
    · have hb : b = z ∨ b = TO ∨ b = i1 ∨ b = i2 := by simpa using hb
      rcases hb with q | q | q | q <;> simp [q]
    · obtain ⟨x, y, hx, hy, rfl⟩ := hv
      obtain ⟨x', hx', rx⟩ := val1 _ _ hx
      obtain ⟨y', hy', ry⟩ := val2 _ _ hy
      exact ⟨[x', y'], z2_at hx' hy', .cons rx (.cons ry .nil), by show 2 ≤ sizeLine; decide⟩
theorem turn_z3 {P : Program} {w : World} {K : PySem.W.Frag} {elts : List Expr} {kk : Nat} {tpos : Pos} {sk sk2 sk3 : Sk} {xs ys zs : List V} (tk tk2 tk3 : Tok) (z TI TO i1 i2 i3 : Addr) (ap : Apart [z, TI, TO, i1, i2, i3]) :
    Turn P w K (.Tuple elts kk tpos) (JT (fun H => sk.At K H xs ∧ sk2.At K H ys ∧ sk3.At K H zs) (z3V xs ys zs)) [z, TI, TO, i1, i2, i3] z
      (fun i h => IsZip h z TI TO .none ∧ IsTupOf3 h TI (.ref i1) (.ref i2) (.ref i3) ∧ (∃ x y u, IsTupOf3 h TO x y u) ∧ sk.itr tk i1 i h ∧ sk2.itr tk2 i2 i h ∧ sk3.itr tk3 i3 i h) := by
  simp only [Apart, List.mem_cons, List.not_mem_nil, or_false, forall_eq_or_imp, forall_eq, and_true, implies_true, true_and] at ap
  obtain ⟨⟨zTI, zTO, z1, z2, z3⟩, ⟨TITO, TI1, TI2, TI3⟩, ⟨TO1, TO2, TO3⟩, ⟨i12, i13⟩, i23, _⟩ := ap
  refine turn_t (by simp) (fun i h st c hc => ?_) (fun i h h' st k => ?_) (fun A i s Q E st q => wpAny_pyIter_zip st.1 q) fun X hP hw hK hc i pins s σ H I hs hf st => ?_
  · obtain ⟨hz, hTI, ⟨x, y, u, hTO⟩, h1, h2, h3⟩ := st
    have e' : c = z ∨ c = TI ∨ c = TO ∨ c = i1 ∨ c = i2 ∨ c = i3 := by simpa using hc
    rcases e' with q | q | q | q | q | q
    · rw [q]; exact ⟨_, hz, fun v q => nomatch q⟩
    · rw [q]; exact ⟨_, hTI, fun v q => nomatch q⟩
    · rw [q]; exact ⟨_, hTO, fun v q => nomatch q⟩
    · rw [q]; exact Sk.itr_obj (sk := sk) h1
    · rw [q]; exact Sk.itr_obj (sk := sk2) h2
    · rw [q]; exact Sk.itr_obj (sk := sk3) h3
  · obtain ⟨hz, hTI, ⟨x, y, u, hTO⟩, h1, h2, h3⟩ := st
    exact ⟨k z (by simp) _ hz, k TI (by simp) _ hTI, ⟨x, y, u, k TO (by simp) _ hTO⟩, Sk.itr_keep (sk := sk) h1 fun o q => k i1 (by simp) o q, Sk.itr_keep (sk := sk2) h2 fun o q => k i2 (by simp) o q, Sk.itr_keep (sk := sk3) h3 fun o q => k i3 (by simp) o q⟩
  · subst hP hw hK
    obtain ⟨hz, hTI, hTO, h1, h2, h3⟩ := st
    obtain ⟨s1, s2, s3⟩ := hs
    obtain ⟨fp1, Pv1, St1, D1, st1, nxt1, val1, fr1⟩ := Sk.draws I hc s1 (hf i1 (by simp)) h1
    obtain ⟨fp2, Pv2, St2, D2, st2, nxt2, val2, fr2⟩ := Sk.draws I hc s2 (hf i2 (by simp)) h2
    obtain ⟨fp3, Pv3, St3, D3, st3, nxt3, val3, fr3⟩ := Sk.draws I hc s3 (hf i3 (by simp)) h3
    have S : ZipSep3 z TI TO i1 i2 i3 (i1 :: fp1) (i2 :: fp2) (i3 :: fp3) :=
      { TIz := Ne.symm zTI, TOz := Ne.symm zTO, TITO := TITO, TIi1 := TI1, mem1 := by simp, zf1 := not_cons z1 (fr1 _ (hf z (by simp))), Tf1 := not_cons TO1 (fr1 _ (hf TO (by simp))),
        TIi2 := TI2, mem2 := by simp, zf2 := not_cons z2 (fr2 _ (hf z (by simp))), Tf2 := not_cons TO2 (fr2 _ (hf TO (by simp))),
        TIi3 := TI3, mem3 := by simp, zf3 := not_cons z3 (fr3 _ (hf z (by simp))), Tf3 := not_cons TO3 (fr3 _ (hf TO (by simp))),
        sep1_2 := not_cons i12 (fr2 _ (hf i1 (by simp))), sep1_3 := not_cons i13 (fr3 _ (hf i1 (by simp))), sep2_1 := not_cons (Ne.symm i12) (fr1 _ (hf i2 (by simp))),
        sep2_3 := not_cons i23 (fr3 _ (hf i2 (by simp))), sep3_1 := not_cons (Ne.symm i13) (fr1 _ (hf i3 (by simp))), sep3_2 := not_cons (Ne.symm i23) (fr2 _ (hf i3 (by simp))) }
    have hl : (z3V xs ys zs).length = min (min xs.length ys.length) zs.length := by simp [z3V, z2V, Nat.min_assoc]
    refine ⟨_, _, _, _, _, (show WalksT X.prog X.w X.A z _ [z, TO, i1, i2, i3] (z3V xs ys zs).length _ (fun i h => IsZip h z TI TO .none ∧ IsTupOf3 h TI (.ref i1) (.ref i2) (.ref i3) ∧ (∃ a1 a2 a3, IsTupOf3 h TO a1 a2 a3) ∧ St1 i h ∧ St2 i h ∧ St3 i h) _ by rw [hl]; exact WalksT.zipD3 S D1 D2 D3),
      fun b hb => ?_, ⟨hz, hTI, hTO, st1, st2, st3⟩, fun h q => ⟨q.1, q.2.1, q.2.2.1, nxt1 _ _ q.2.2.2.1, nxt2 _ _ q.2.2.2.2.1, nxt3 _ _ q.2.2.2.2.2⟩, fun vals hv => ?_⟩
    · have hb : b = z ∨ b = TO ∨ b = i1 ∨ b = i2 ∨ b = i3 := by simpa using hb
      rcases hb with q | q | q | q | q <;> simp [q]
    · obtain ⟨x, y, u, hx, hy, hu, rfl⟩ := hv
      obtain ⟨x', hx', rx⟩ := val1 _ _ hx
      obtain ⟨y', hy', ry⟩ := val2 _ _ hy
      obtain ⟨u', hu', ru⟩ := val3 _ _ hu
      exact ⟨[x', y', u'], z3_at hx' hy' hu', .cons rx (.cons ry (.cons ru .nil)), by show 3 ≤ sizeLine; decide⟩

def iEn (K : PySem.W.Frag) (ta : TA) : TI := fun σ H R => ta σ H fun vs H1 => ∃ sk xs, vs = [Sk.val sk] ∧ sk.At K H1 xs ∧ R (JT (fun H => sk.At K H xs) (enV xs)) H1
def iZ2 (K : PySem.W.Frag) (ta : TA) : TI := fun σ H R => ta σ H fun vs H1 => ∃ sk xs sk2 ys, vs = [Sk.val sk, Sk.val sk2] ∧ sk.At K H1 xs ∧ sk2.At K H1 ys ∧ R (JT (fun H => sk.At K H xs ∧ sk2.At K H ys) (z2V xs ys)) H1
def iZ3 (K : PySem.W.Frag) (ta : TA) : TI := fun σ H R => ta σ H fun vs H1 => ∃ sk xs sk2 ys sk3 zs, vs = [Sk.val sk, Sk.val sk2, Sk.val sk3] ∧ sk.At K H1 xs ∧ sk2.At K H1 ys ∧ sk3.At K H1 zs ∧ R (JT (fun H => sk.At K H xs ∧ sk2.At K H ys ∧ sk3.At K H zs) (z3V xs ys zs)) H1
theorem pi_en {ta : TA} {p pos tpos : Pos} {elts : List Expr} {kk : Nat} (hg : Gl X "enumerate") (hm : X.mg "enumerate" = none) (ha : PA X [e] ta) (hs : starEach [e] X.env = [(false, eval e X.env)] := by rfl) :
    PI X (.Tuple elts kk tpos) (.Call (.Name "enumerate" p) [e] [] pos) (iEn X.K ta) := by
  refine ⟨fun pins s σ H R I h => ?_⟩
  refine Call_ (ld_blt I hg hm boot_enumerate (PyProof.Rows.callWith_type1 (thn (ha.run pos pins s σ H _ I h) fun us s1 ⟨vs, H1, I1, r1, q1⟩ => ?_) hs rfl))
  obtain ⟨sk, xs, ex, at_, q⟩ := q1
  subst ex
  cases r1 with
  | cons r rr =>
    cases rr
    obtain ⟨tk, Hb, B, hb, _⟩ := Sk.begins I1 at_ r
    refine en_begins B hb fun h' he hit hk => wpAny_pyIter_enum he ?_
    have I2 : Inv X pins σ H1 { s1 with heap := h' } := I1.kept (t' := s1.toks) hk
    refine ⟨s1.heap.objs.size + 1, [s1.heap.objs.size + 1, s1.heap.objs.size], _, _, H1, rfl, I2, turn_en tk (s1.heap.objs.size + 1) s1.heap.objs.size, ⟨⟨.none, he⟩, Sk.itr_new hit, Nat.succ_ne_self _⟩, fun b hb => ?_, q⟩
    have e' : b = s1.heap.objs.size + 1 ∨ b = s1.heap.objs.size := by simpa using hb
    have hle : s1.heap.objs.size ≤ b := by rcases e' with z | z <;> (rw [z]; first | exact Nat.le_refl _ | exact Nat.le_add_right _ _)
    exact I1.fpOk hle (I1.hok.fresh hle)
theorem pi_z2 {e2 : Expr} {ta : TA} {p pos tpos : Pos} {elts : List Expr} {kk : Nat} (hg : Gl X "zip") (hm : X.mg "zip" = none) (ha : PA X [e, e2] ta)
    (hs : starEach [e, e2] X.env = (false, eval e X.env) :: starEach [e2] X.env := by rfl) (hpl : (backTo pos (starEach [e2] X.env)).any (·.1) = false := by rfl) :
    PI X (.Tuple elts kk tpos) (.Call (.Name "zip" p) [e, e2] [] pos) (iZ2 X.K ta) := by
  refine ⟨fun pins s σ H R I h => ?_⟩
  refine Call_ (ld_blt I hg hm PyProof.Rows.boot_zip (PyProof.Rows.callWith_type1 (thn (ha.run pos pins s σ H _ I h) fun us s1 ⟨vs, H1, I1, r1, q1⟩ => ?_) hs hpl))
  obtain ⟨sk, xs, sk2, ys, ex, at1, at2, q⟩ := q1
  subst ex
  cases r1 with
  | cons r rr =>
    cases rr with
    | cons r' rr =>
      cases rr
      obtain ⟨tk, Hb, B, hb, _⟩ := Sk.begins I1 at1 r
      obtain ⟨tk2, Hb2, B2, hb2, _⟩ := Sk.begins I1 at2 r'
      refine zip_begins2 B B2 hb hb2 fun h' hz hTI hTO h1 h2 hsz hk => wpAny_pyIter_zip hz ?_
      have I2 : Inv X pins σ H1 { s1 with heap := h' } := I1.kept (t' := s1.toks) hk
      refine ⟨s1.heap.objs.size + 4, [s1.heap.objs.size + 4, s1.heap.objs.size + 2, s1.heap.objs.size + 3, s1.heap.objs.size, s1.heap.objs.size + 1], _, _, H1, rfl, I2,
        turn_z2 tk tk2 _ _ _ _ _ ?_, ⟨hz, hTI, ⟨_, _, hTO⟩, Sk.itr_new h1, Sk.itr_new h2⟩, fun c hcm => ?_, q⟩
      · have ap : ∀ N : Nat, Apart [N + 4, N + 2, N + 3, N, N + 1] := fun N => by
          simp only [Apart, List.mem_cons, List.not_mem_nil, or_false, forall_eq_or_imp, forall_eq, and_true]
          refine ⟨⟨?_, ?_, ?_, ?_⟩, ⟨?_, ?_, ?_⟩, ⟨?_, ?_⟩, ?_⟩ <;> first | (intro b hb; cases hb) | (intro z; have z' : (_ : Nat) = _ := z; omega) | (refine ⟨fun z => ?_, fun b hb => by cases hb⟩; have z' : (_ : Nat) = _ := z; omega)
        exact ap _
      · have e' : c = s1.heap.objs.size + 4 ∨ c = s1.heap.objs.size + 2 ∨ c = s1.heap.objs.size + 3 ∨ c = s1.heap.objs.size ∨ c = s1.heap.objs.size + 1 := by simpa using hcm
        have hle : s1.heap.objs.size ≤ c := by rcases e' with z | z | z | z | z <;> (rw [z]; first | exact Nat.le_refl _ | exact Nat.le_add_right _ _)
        exact I1.fpOk hle (I1.hok.fresh hle)
theorem pi_z3 {e2 e3 : Expr} {ta : TA} {p pos tpos : Pos} {elts : List Expr} {kk : Nat} (hg : Gl X "zip") (hm : X.mg "zip" = none) (ha : PA X [e, e2, e3] ta)
    (hs : starEach [e, e2, e3] X.env = (false, eval e X.env) :: starEach [e2, e3] X.env := by rfl) (hpl : (backTo pos (starEach [e2, e3] X.env)).any (·.1) = false := by rfl) :
    PI X (.Tuple elts kk tpos) (.Call (.Name "zip" p) [e, e2, e3] [] pos) (iZ3 X.K ta) := by
  refine ⟨fun pins s σ H R I h => ?_⟩
  refine Call_ (ld_blt I hg hm PyProof.Rows.boot_zip (PyProof.Rows.callWith_type1 (thn (ha.run pos pins s σ H _ I h) fun us s1 ⟨vs, H1, I1, r1, q1⟩ => ?_) hs hpl))
  obtain ⟨sk, xs, sk2, ys, sk3, zs, ex, at1, at2, at3, q⟩ := q1
  subst ex
  cases r1 with
  | cons r rr =>
    cases rr with
    | cons r' rr =>
      cases rr with
      | cons r'' rr =>
        cases rr
        obtain ⟨tk, Hb, B, hb, _⟩ := Sk.begins I1 at1 r
        obtain ⟨tk2, Hb2, B2, hb2, _⟩ := Sk.begins I1 at2 r'
        obtain ⟨tk3, Hb3, B3, hb3, _⟩ := Sk.begins I1 at3 r''
        refine zip_begins3 B B2 B3 hb hb2 hb3 fun h' hz hTI hTO h1 h2 h3 hsz hk => wpAny_pyIter_zip hz ?_
        have I2 : Inv X pins σ H1 { s1 with heap := h' } := I1.kept (t' := s1.toks) hk
        refine ⟨s1.heap.objs.size + 5, [s1.heap.objs.size + 5, s1.heap.objs.size + 3, s1.heap.objs.size + 4, s1.heap.objs.size, s1.heap.objs.size + 1, s1.heap.objs.size + 2], _, _, H1, rfl, I2,
          turn_z3 tk tk2 tk3 _ _ _ _ _ _ ?_, ⟨hz, hTI, ⟨_, _, _, hTO⟩, Sk.itr_new h1, Sk.itr_new h2, Sk.itr_new h3⟩, fun c hcm => ?_, q⟩
        · have ap : ∀ N : Nat, Apart [N + 5, N + 3, N + 4, N, N + 1, N + 2] := fun N => by
            simp only [Apart, List.mem_cons, List.not_mem_nil, or_false, forall_eq_or_imp, forall_eq, and_true]
            refine ⟨⟨?_, ?_, ?_, ?_, ?_⟩, ⟨?_, ?_, ?_, ?_⟩, ⟨?_, ?_, ?_⟩, ⟨?_, ?_⟩, ?_⟩ <;> first | (intro b hb; cases hb) | (intro z; have z' : (_ : Nat) = _ := z; omega) | (refine ⟨fun z => ?_, fun b hb => by cases hb⟩; have z' : (_ : Nat) = _ := z; omega)
          exact ap _
        · have e' : c = s1.heap.objs.size + 5 ∨ c = s1.heap.objs.size + 3 ∨ c = s1.heap.objs.size + 4 ∨ c = s1.heap.objs.size ∨ c = s1.heap.objs.size + 1 ∨ c = s1.heap.objs.size + 2 := by simpa using hcm
          have hle : s1.heap.objs.size ≤ c := by rcases e' with z | z | z | z | z | z <;> (rw [z]; first | exact Nat.le_refl _ | exact Nat.le_add_right _ _)
          exact I1.fpOk hle (I1.hok.fresh hle)
end
end PD
/-! PD: what loops walk, as data. -/
namespace PD
open PySem PySem.Spec PyProof.Rows L2

/-- a list, a tuple, a text: its items -/
def seqD : D → Option (List D)
  | .tup xs => some xs
  | .lst xs => some xs
  | .str l => some (l.map fun c => .str [c])
  | .scr ns => some (ns.map .int)
  | _ => none
def itemsD : D → Option (List D)
  | .dct kvs => some (kvs.map (·.1))
  | d => seqD d
def mIt (m : M R) : M (List D) := fun s => (m s).bind fun p => (mShare p.1 p.2).bind fun q => (itemsD q.1).map fun is => (is, q.2)
def valsD : D → Option (List D)
  | .dct kvs => some (kvs.map (·.2))
  | _ => none
def itmsD : D → Option (List D)
  | .dct kvs => some (kvs.map fun p => .tup [p.1, p.2])
  | _ => none
def mItV (m : M R) : M (List D) := fun s => (m s).bind fun p => (mShare p.1 p.2).bind fun q => (valsD q.1).map fun is => (is, q.2)
def mItI (m : M R) : M (List D) := fun s => (m s).bind fun p => (mShare p.1 p.2).bind fun q => (itmsD q.1).map fun is => (is, q.2)
def mItA (f : List D → Option (List D)) (ms : List (M R)) : M (List D) := fun s => (mShs ms s).bind fun p => (f p.1).map fun is => (is, p.2)
def rgB (j : Int) : Bool := decide (-(2 ^ 62) ≤ j) && decide (j < 2 ^ 62)
def fRng1 : List D → Option (List D)
  | [.int j] => if rgB j = true then some ((List.range j.toNat).map fun i => .int (0 + (i : Nat))) else none
  | _ => none
def fRng2 : List D → Option (List D)
  | [.int i, .int j] => if (rgB i && rgB j) = true then some ((List.range (j - i).toNat).map fun k => .int (i + (k : Nat))) else none
  | _ => none
instance (i j c : Int) (n : Nat) : Decidable (RgC i j c n) := by unfold RgC; infer_instance
def fRng3 : List D → Option (List D)
  | [.int i, .int j, .int c] => if RgC i j c (Builtin.Range.rangeSize i j c).toNat then some ((List.range (Builtin.Range.rangeSize i j c).toNat).map fun k => .int (i + (k : Nat) * c)) else none
  | _ => none
def enD (xs : List D) : List (List D) := xs.mapIdx fun i x => [.int (i : Nat), x]
def fEn : List D → Option (List D)
  | [d] => (seqD d).map fun xs => (enD xs).map .tup
  | _ => none
def z2D (xs ys : List D) : List (List D) := List.zipWith (fun x y => [x, y]) xs ys
def z3D (xs ys zs : List D) : List (List D) := List.zipWith (fun x yz => x :: yz) xs (z2D ys zs)
def fZ2 : List D → Option (List D)
  | [d, e] => (seqD d).bind fun xs => (seqD e).map fun ys => (z2D xs ys).map .tup
  | _ => none
def fZ3 : List D → Option (List D)
  | [d, e, f] => (seqD d).bind fun xs => (seqD e).bind fun ys => (seqD f).map fun zs => (z3D xs ys zs).map .tup
  | _ => none
section
variable {w : World} {K : PySem.W.Frag} {g : Gh} {σ : St} {H : Hp}
theorem itok_w {src : Hp → Prop} {xs : List V} {ds : List D} (hs : ∀ H1, Sub g.F H1 → src H1) (r : RepL w K g.st g.F xs ds) : ItOk w K (JW src xs) g ds where
  go := fun i g1 H1 hF hS hH hi => ⟨⟨hs H1 (hF.trans hH), by rw [r.length]; exact hi⟩, fun x H2 ⟨e, hx⟩ => by
    subst e
    obtain ⟨d, hd, rd⟩ := r.get hx
    exact ⟨g1, ExtP.refl hH, d, hd, rd.mono hS hF⟩⟩
  stop := fun i g1 H1 hF hS hH hi => ⟨hs H1 (hF.trans hH), by rw [r.length]; exact hi⟩
inductive RepLL (w : World) (K : PySem.W.Frag) (g : Gh) : List (List V) → List (List D) → Prop
  | nil : RepLL w K g [] []
  | cons {x : List V} {xs : List (List V)} {d : List D} {ds : List (List D)} : RepL w K g.st g.F x d → RepLL w K g xs ds → RepLL w K g (x :: xs) (d :: ds)
theorem RepLL.length {xs : List (List V)} {ds : List (List D)} (h : RepLL w K g xs ds) : xs.length = ds.length := by
  induction h with
  | nil => rfl
  | cons _ _ ih => rw [List.length_cons, List.length_cons, ih]
theorem RepLL.get {xs : List (List V)} {ds : List (List D)} (h : RepLL w K g xs ds) : ∀ {i : Nat} {x : List V}, xs[i]? = some x → ∃ d, ds[i]? = some d ∧ RepL w K g.st g.F x d := by
  induction h with
  | nil => intro i x e; simp at e
  | cons a _ ih =>
    intro i x e
    cases i with
    | zero => simp only [List.getElem?_cons_zero, Option.some.injEq] at e; subst e; exact ⟨_, rfl, a⟩
    | succ i => exact ih (by simpa using e)
theorem itok_t {src : Hp → Prop} {xs : List (List V)} {ds : List (List D)} (hs : ∀ H1, Sub g.F H1 → src H1) (r : RepLL w K g xs ds) : ItOk w K (JT src xs) g (ds.map .tup) where
  go := fun i g1 H1 hF hS hH hi => ⟨⟨hs H1 (hF.trans hH), by rw [r.length]; simpa using hi⟩, fun x H2 ⟨T, ys, ex, hT, e, hx⟩ => by
    subst e ex
    obtain ⟨d, hd, rd⟩ := r.get hx
    have EP : ExtP g1 H1 (frzG g1 (upd H1 T (.tup ys)) T) (upd H1 T (.tup ys)) := ExtP.newF' hH hT
    refine ⟨_, EP, .tup d, by simp [hd], ?_⟩
    exact Rep.tup (SqT.of (show frzF g1.F (upd H1 T (.tup ys)) T T = some (.tup ys) by rw [frzF_same, upd_same])) (rd.mono hS (hF.trans EP.mono))⟩
  stop := fun i g1 H1 hF hS hH hi => ⟨hs H1 (hF.trans hH), by rw [r.length]; simpa using hi⟩
theorem rep_sk {v : V} {d : D} {ds : List D} (h : Rep w K g.st g.F v d) (e : seqD d = some ds) : ∃ sk xs, v = Sk.val sk ∧ (∀ H1, Sub g.F H1 → sk.At K H1 xs) ∧ RepL w K g.st g.F xs ds := by
  cases h with
  | tup a b => cases e; exact ⟨.t _, _, rfl, fun H1 s => s.seqT a, b⟩
  | lst a b => cases e; exact ⟨.l _, _, rfl, fun H1 s => SqL.of (s _ _ a), b⟩
  | @str l hl =>
    cases e
    refine ⟨.s (sOf l), chV (sOf l), rfl, fun _ _ => rfl, ?_⟩
    have : ∀ l' : List Nat, (∀ c ∈ l', c < 128) → RepL w K g.st g.F (l'.map fun c => V.str ⟨#[c]⟩) (l'.map fun c => D.str [c]) := fun l' => by
      induction l' with
      | nil => exact fun _ => .nil
      | cons c l' ih =>
        intro h
        refine .cons ?_ (ih fun c' hc => h c' (List.mem_cons_of_mem _ hc))
        exact Rep.str (l := [c]) ⟨by show 1 ≤ sizeLine; decide, fun c' hc => by rw [List.mem_singleton.mp hc]; exact h c List.mem_cons_self⟩
    have e2 : chV (sOf l) = l.map fun c => V.str ⟨#[c]⟩ := by unfold chV; rw [sOf_cps]
    rw [e2]
    exact this l hl.2
  | @scr a ns h =>
    cases e
    refine ⟨.l _, _, rfl, fun H1 s => s.seq h, ?_⟩
    clear h
    induction ns with
    | nil => exact .nil
    | cons n ns ih => exact .cons (.int n) ih
  | _ => cases e
theorem repE_k {es : List DictEntry} {kvs : List (D × D)} (h : RepE w K g.st g.F es kvs) : ∃ xs, Paired EK es xs ∧ RepL w K g.st g.F xs (kvs.map (·.1)) := by
  have : ∀ {es : List DictEntry} {kvs : List (D × D)}, RepE w K g.st g.F es kvs → ∃ xs, Paired EK es xs ∧ RepL w K g.st g.F xs (kvs.map (·.1)) := by
    intro es
    induction es with
    | nil => intro kvs h; cases h; exact ⟨[], .nil, .nil⟩
    | cons e es ih =>
      intro kvs h
      cases h with
      | cons a b c d t => obtain ⟨xs, h1, h2⟩ := ih t; exact ⟨_ :: xs, .cons a h1, .cons b h2⟩
  exact this h
theorem repE_v {es : List DictEntry} {kvs : List (D × D)} (h : RepE w K g.st g.F es kvs) : ∃ xs, Paired EVv es xs ∧ RepL w K g.st g.F xs (kvs.map (·.2)) := by
  have : ∀ {es : List DictEntry} {kvs : List (D × D)}, RepE w K g.st g.F es kvs → ∃ xs, Paired EVv es xs ∧ RepL w K g.st g.F xs (kvs.map (·.2)) := by
    intro es
    induction es with
    | nil => intro kvs h; cases h; exact ⟨[], .nil, .nil⟩
    | cons e es ih =>
      intro kvs h
      cases h with
      | cons a b c d t => obtain ⟨xs, h1, h2⟩ := ih t; exact ⟨_ :: xs, .cons c h1, .cons d h2⟩
  exact this h
theorem repE_i {es : List DictEntry} {kvs : List (D × D)} (h : RepE w K g.st g.F es kvs) : ∃ xs, Paired EKV es xs ∧ RepLL w K g xs (kvs.map fun p => [p.1, p.2]) := by
  have : ∀ {es : List DictEntry} {kvs : List (D × D)}, RepE w K g.st g.F es kvs → ∃ xs, Paired EKV es xs ∧ RepLL w K g xs (kvs.map fun p => [p.1, p.2]) := by
    intro es
    induction es with
    | nil => intro kvs h; cases h; exact ⟨[], .nil, .nil⟩
    | cons e es ih =>
      intro kvs h
      cases h with
      | cons a b c d t => obtain ⟨xs, h1, h2⟩ := ih t; exact ⟨_ :: xs, .cons ⟨_, _, rfl, a, c⟩ h1, .cons (.cons b (.cons d .nil)) h2⟩
  exact this h
theorem sh_LI {m : M R} {f : D → Option (List D)} {r : V → Hp → (It → Hp → Prop) → Prop} {R : It → Hp → Prop}
    (hr : ∀ (g : Gh) (H : Hp) (v : V) (d : D) (is : List D), Sub g.F H → Rep w K g.st g.F v d → f d = some is → (∀ J, ItOk w K J g is → R J H) → r v H R)
    (h : LI w K (fun s => (m s).bind fun p => (mShare p.1 p.2).bind fun q => (f q.1).map fun is => (is, q.2)) σ H R) : LE w K m σ H fun x H1 => r x H1 R := by
  obtain ⟨g, s, G, items, s', e, q⟩ := h
  have e : ((m s).bind fun p => (mShare p.1 p.2).bind fun q => (f q.1).map fun is => (is, q.2)) = some (items, s') := e
  cases ea : m s with
  | none => rw [ea] at e; cases e
  | some p =>
    obtain ⟨ra, s1⟩ := p
    rw [ea] at e
    simp only [Option.bind_some] at e
    cases eb : mShare ra s1 with
    | none => rw [eb] at e; cases e
    | some p2 =>
      obtain ⟨da, s2⟩ := p2
      rw [eb] at e
      simp only [Option.bind_some] at e
      cases ec : f da with
      | none => rw [ec] at e; cases e
      | some is =>
        rw [ec] at e
        simp only [Option.map_some, Option.some.injEq, Prod.mk.injEq] at e
        obtain ⟨rfl, rfl⟩ := e
        refine LE.use G ea fun v1 g1 H1 G1 E1 R1 => ?_
        obtain ⟨g2, G2, E2, rep, hm, hst⟩ := share_ok G1 R1 E1 eb
        exact hr g2 H1 v1 da is G2.fr rep ec fun J it => q J g2 H1 G2 E2 it
theorem iVal_LI {m : M R} {R : It → Hp → Prop} (h : LI w K (mIt m) σ H R) : iVal K (LE w K m) σ H R :=
  sh_LI (r := fun x H1 R => (∃ sk xs, x = Sk.val sk ∧ sk.At K H1 xs ∧ R (JW (fun H => sk.At K H xs) xs) H1) ∨ (∃ a es ep xs, x = .ref a ∧ H1 a = some (dxO a es ep) ∧ Paired EK es.toList xs ∧ R (JW (fun H => H a = some (dxO a es ep)) xs) H1))
    (fun g H v d is hf rep e k => by
      have sq : seqD d = some is → ∃ sk xs, v = Sk.val sk ∧ sk.At K H xs ∧ R (JW (fun H => sk.At K H xs) xs) H := fun e => by
        obtain ⟨sk, xs, ev, at_, rl⟩ := rep_sk rep e
        exact ⟨sk, xs, ev, at_ H hf, k _ (itok_w at_ rl)⟩
      cases d with
      | dct kvs =>
        cases e
        cases rep with
        | dct ha hd he =>
          obtain ⟨xs, hp, rl⟩ := repE_k he
          exact .inr ⟨_, _, _, xs, rfl, hf _ _ ha, hp, k _ (itok_w (fun H1 s => s _ _ ha) rl)⟩
      | tup _ => exact .inl (sq e)
      | lst _ => exact .inl (sq e)
      | str _ => exact .inl (sq e)
      | scr _ => exact .inl (sq e)
      | non => cases e
      | bl _ => cases e
      | int _ => cases e
      | st => cases e
      | cv _ => cases e) h
theorem iVls_LI {m : M R} {R : It → Hp → Prop} (h : LI w K (mItV m) σ H R) : iVls (LE w K m) σ H R :=
  sh_LI (r := fun x H1 R => ∃ a es ep xs, x = .ref a ∧ H1 a = some (dxO a es ep) ∧ Paired EVv es.toList xs ∧ R (JW (fun H => H a = some (dxO a es ep)) xs) H1)
    (fun g H v d is hf rep e k => by
      cases d with
      | dct kvs =>
        cases e
        cases rep with
        | dct ha hd he =>
          obtain ⟨xs, hp, rl⟩ := repE_v he
          exact ⟨_, _, _, xs, rfl, hf _ _ ha, hp, k _ (itok_w (fun H1 s => s _ _ ha) rl)⟩
      | _ => cases e) h
theorem iItm_LI {m : M R} {R : It → Hp → Prop} (h : LI w K (mItI m) σ H R) : iItm (LE w K m) σ H R :=
  sh_LI (r := fun x H1 R => ∃ a es ep xs, x = .ref a ∧ H1 a = some (dxO a es ep) ∧ Paired EKV es.toList xs ∧ R (JT (fun H => H a = some (dxO a es ep)) xs) H1)
    (fun g H v d is hf rep e k => by
      cases d with
      | dct kvs =>
        cases e
        cases rep with
        | dct ha hd he =>
          obtain ⟨xs, hp, rl⟩ := repE_i he
          have := itok_t (src := fun H => H _ = some (dxO _ _ _)) (fun H1 s => s _ _ ha) rl
          rw [List.map_map] at this
          exact ⟨_, _, _, xs, rfl, hf _ _ ha, hp, k _ this⟩
      | _ => cases e) h
theorem a_LI {ms : List (M R)} {f : List D → Option (List D)} {r : List V → Hp → (It → Hp → Prop) → Prop} {R : It → Hp → Prop}
    (hr : ∀ (g : Gh) (H : Hp) (vs : List V) (ds : List D) (is : List D), Sub g.F H → RepL w K g.st g.F vs ds → f ds = some is → (∀ J, ItOk w K J g is → R J H) → r vs H R)
    (h : LI w K (mItA f ms) σ H R) : LD w K (mShs ms) σ H fun x H1 => r x H1 R := by
  obtain ⟨g, s, G, items, s', e, q⟩ := h
  unfold mItA at e
  cases ea : mShs ms s with
  | none => rw [ea] at e; cases e
  | some p =>
    obtain ⟨ds, s1⟩ := p
    rw [ea] at e
    simp only [Option.bind_some] at e
    cases ec : f ds with
    | none => rw [ec] at e; cases e
    | some is =>
      rw [ec] at e
      simp only [Option.map_some, Option.some.injEq, Prod.mk.injEq] at e
      obtain ⟨rfl, rfl⟩ := e
      exact ⟨g, s, G, ds, s1, ea, fun vs g1 H1 G1 E1 R1 => hr g1 H1 vs ds is G1.fr R1 ec fun J it => q J g1 H1 G1 E1 it⟩
theorem itok_rng {lo : Int} {n : Nat} : ItOk w K (Itr lo n) g ((List.range n).map fun k => .int (lo + (k : Nat))) where
  go := fun i g1 H1 hF hS hH hi => by
    have hi : i < n := by simpa using hi
    refine ⟨hi, fun x H2 ⟨e, hx⟩ => ?_⟩
    subst e hx
    exact ⟨g1, ExtP.refl hH, .int (lo + (i : Nat)), by simp [hi], .int _⟩
  stop := fun i g1 H1 hF hS hH hi => by
    have hi : i = n := by simpa using hi
    exact Nat.le_of_eq hi.symm
theorem itok_rngC {lo c : Int} {n : Nat} : ItOk w K (Itc lo c n) g ((List.range n).map fun k => .int (lo + (k : Nat) * c)) where
  go := fun i g1 H1 hF hS hH hi => by
    have hi : i < n := by simpa using hi
    refine ⟨hi, fun x H2 ⟨e, hx⟩ => ?_⟩
    subst e hx
    exact ⟨g1, ExtP.refl hH, .int (lo + (i : Nat) * c), by simp [hi], .int _⟩
  stop := fun i g1 H1 hF hS hH hi => by
    have hi : i = n := by simpa using hi
    exact Nat.le_of_eq hi.symm
theorem rgB_ok {j : Int} (h : rgB j = true) : -(2 ^ 62) ≤ j ∧ j < 2 ^ 62 := by
  unfold rgB at h
  simpa only [Bool.and_eq_true, decide_eq_true_eq] using h
theorem repl_int1 {vs : List V} {j : Int} (h : RepL w K g.st g.F vs [.int j]) : vs = [.int j] := by
  cases h with
  | cons a b => cases a; cases b; rfl
theorem iRng1_LI {ms : List (M R)} {R : It → Hp → Prop} (h : LI w K (mItA fRng1 ms) σ H R) : iRng1 (LD w K (mShs ms)) σ H R :=
  a_LI (r := fun vs H1 R => ∃ j : Int, vs = [.int j] ∧ -(2 ^ 62) ≤ j ∧ j < 2 ^ 62 ∧ R (Itr 0 j.toNat) H1) (fun g H vs ds is hf rl e k => by
    unfold fRng1 at e
    split at e
    · split at e
      · rename_i hb
        cases e
        cases repl_int1 rl
        exact ⟨_, rfl, (rgB_ok hb).1, (rgB_ok hb).2, k _ itok_rng⟩
      · cases e
    · cases e) h
theorem iRng2_LI {ms : List (M R)} {R : It → Hp → Prop} (h : LI w K (mItA fRng2 ms) σ H R) : iRng2 (LD w K (mShs ms)) σ H R :=
  a_LI (r := fun vs H1 R => ∃ i j : Int, vs = [.int i, .int j] ∧ (-(2 ^ 62) ≤ i ∧ i < 2 ^ 62 ∧ -(2 ^ 62) ≤ j ∧ j < 2 ^ 62) ∧ R (Itr i (j - i).toNat) H1) (fun g H vs ds is hf rl e k => by
    unfold fRng2 at e
    split at e
    · split at e
      · rename_i hb
        rw [Bool.and_eq_true] at hb
        cases e
        cases rl with
        | cons a b =>
          cases a
          cases repl_int1 b
          exact ⟨_, _, rfl, ⟨(rgB_ok hb.1).1, (rgB_ok hb.1).2, (rgB_ok hb.2).1, (rgB_ok hb.2).2⟩, k _ itok_rng⟩
      · cases e
    · cases e) h
theorem iRng3_LI {ms : List (M R)} {R : It → Hp → Prop} (h : LI w K (mItA fRng3 ms) σ H R) : iRng3 (LD w K (mShs ms)) σ H R :=
  a_LI (r := fun vs H1 R => ∃ (i j c : Int) (n : Nat), vs = [.int i, .int j, .int c] ∧ RgC i j c n ∧ R (Itc i c n) H1) (fun g H vs ds is hf rl e k => by
    unfold fRng3 at e
    split at e
    · split at e
      · rename_i hb
        cases e
        cases rl with
        | cons a b =>
          cases a
          cases b with
          | cons a b =>
            cases a
            cases repl_int1 b
            exact ⟨_, _, _, _, rfl, hb, k _ itok_rngC⟩
      · cases e
    · cases e) h
theorem repll_en {xs : List V} {ds : List D} (r : RepL w K g.st g.F xs ds) : RepLL w K g (enV xs) (ds.mapIdx fun i x => [.int (i : Nat), x]) := by
  have : ∀ {xs : List V} {ds : List D} (n : Nat), RepL w K g.st g.F xs ds → RepLL w K g (xs.mapIdx fun i x => [V.int ((i + n : Nat) : Int), x]) (ds.mapIdx fun i x => [D.int ((i + n : Nat) : Int), x]) := by
    intro xs
    induction xs with
    | nil => intro ds n h; cases h; exact .nil
    | cons x xs ih =>
      intro ds n h
      cases h with
      | cons a b =>
        rw [List.mapIdx_cons, List.mapIdx_cons]
        refine .cons (.cons (.int _) (.cons a .nil)) ?_
        have := ih (n + 1) b
        simpa only [Nat.add_assoc, Nat.add_comm 1 n] using this
  simpa [enV] using this 0 r
theorem repll_z2 {xs ys : List V} {ds es : List D} (r : RepL w K g.st g.F xs ds) (r2 : RepL w K g.st g.F ys es) : RepLL w K g (z2V xs ys) (z2D ds es) := by
  have : ∀ {xs ys : List V} {ds es : List D}, RepL w K g.st g.F xs ds → RepL w K g.st g.F ys es → RepLL w K g (z2V xs ys) (z2D ds es) := by
    intro xs
    induction xs with
    | nil => intro ys ds es h _; cases h; exact .nil
    | cons x xs ih =>
      intro ys ds es h h2
      cases h with
      | cons a b =>
        cases h2 with
        | nil => exact .nil
        | cons c d => exact .cons (.cons a (.cons c .nil)) (ih b d)
  exact this r r2
theorem repll_z3 {xs ys zs : List V} {ds es fs : List D} (r : RepL w K g.st g.F xs ds) (r2 : RepL w K g.st g.F ys es) (r3 : RepL w K g.st g.F zs fs) : RepLL w K g (z3V xs ys zs) (z3D ds es fs) := by
  have : ∀ {xs : List V} {ds : List D} {yy : List (List V)} {ee : List (List D)}, RepL w K g.st g.F xs ds → RepLL w K g yy ee → RepLL w K g (List.zipWith (fun x yz => x :: yz) xs yy) (List.zipWith (fun x yz => x :: yz) ds ee) := by
    intro xs
    induction xs with
    | nil => intro ds yy ee h _; cases h; exact .nil
    | cons x xs ih =>
      intro ds yy ee h h2
      cases h with
      | cons a b =>
        cases h2 with
        | nil => exact .nil
        | cons c d => exact .cons (.cons a c) (ih b d)
  exact this r (repll_z2 r2 r3)
theorem iEn_LI {ms : List (M R)} {R : It → Hp → Prop} (h : LI w K (mItA fEn ms) σ H R) : iEn K (LD w K (mShs ms)) σ H R :=
  a_LI (r := fun vs H1 R => ∃ sk xs, vs = [Sk.val sk] ∧ sk.At K H1 xs ∧ R (JT (fun H => sk.At K H xs) (enV xs)) H1) (fun g H vs ds is hf rl e k => by
    unfold fEn at e
    split at e
    · obtain ⟨xs, e1, e2⟩ := Option.map_eq_some_iff.mp e
      subst e2
      cases rl with
      | cons a b =>
        cases b
        obtain ⟨sk, ys, ev, at_, rl⟩ := rep_sk a e1
        subst ev
        exact ⟨sk, ys, rfl, at_ H hf, k _ (itok_t at_ (repll_en rl))⟩
    · cases e) h
theorem iZ2_LI {ms : List (M R)} {R : It → Hp → Prop} (h : LI w K (mItA fZ2 ms) σ H R) : iZ2 K (LD w K (mShs ms)) σ H R :=
  a_LI (r := fun vs H1 R => ∃ sk xs sk2 ys, vs = [Sk.val sk, Sk.val sk2] ∧ sk.At K H1 xs ∧ sk2.At K H1 ys ∧ R (JT (fun H => sk.At K H xs ∧ sk2.At K H ys) (z2V xs ys)) H1) (fun g H vs ds is hf rl e k => by
    unfold fZ2 at e
    split at e
    · obtain ⟨xs, e1, e2⟩ := Option.bind_eq_some_iff.mp e
      obtain ⟨ys, e3, e4⟩ := Option.map_eq_some_iff.mp e2
      subst e4
      cases rl with
      | cons a b =>
        cases b with
        | cons b c =>
          cases c
          obtain ⟨sk, us, ev, at1, rl1⟩ := rep_sk a e1
          obtain ⟨sk2, us2, ev2, at2, rl2⟩ := rep_sk b e3
          subst ev ev2
          exact ⟨sk, us, sk2, us2, rfl, at1 H hf, at2 H hf, k _ (itok_t (fun H1 s => ⟨at1 H1 s, at2 H1 s⟩) (repll_z2 rl1 rl2))⟩
    · cases e) h
theorem iZ3_LI {ms : List (M R)} {R : It → Hp → Prop} (h : LI w K (mItA fZ3 ms) σ H R) : iZ3 K (LD w K (mShs ms)) σ H R :=
  a_LI (r := fun vs H1 R => ∃ sk xs sk2 ys sk3 zs, vs = [Sk.val sk, Sk.val sk2, Sk.val sk3] ∧ sk.At K H1 xs ∧ sk2.At K H1 ys ∧ sk3.At K H1 zs ∧ R (JT (fun H => sk.At K H xs ∧ sk2.At K H ys ∧ sk3.At K H zs) (z3V xs ys zs)) H1) (fun g H vs ds is hf rl e k => by
    unfold fZ3 at e
    split at e
    · obtain ⟨xs, e1, e2⟩ := Option.bind_eq_some_iff.mp e
      obtain ⟨ys, e3, e4⟩ := Option.bind_eq_some_iff.mp e2
      obtain ⟨zs, e5, e6⟩ := Option.map_eq_some_iff.mp e4
      subst e6
      cases rl with
      | cons a b =>
        cases b with
        | cons b c =>
          cases c with
          | cons c d =>
            cases d
            obtain ⟨sk, us, ev, at1, rl1⟩ := rep_sk a e1
            obtain ⟨sk2, us2, ev2, at2, rl2⟩ := rep_sk b e3
            obtain ⟨sk3, us3, ev3, at3, rl3⟩ := rep_sk c e5
            subst ev ev2 ev3
            exact ⟨sk, us, sk2, us2, sk3, us3, rfl, at1 H hf, at2 H hf, at3 H hf, k _ (itok_t (fun H1 s => ⟨at1 H1 s, at2 H1 s, at3 H1 s⟩) (repll_z3 rl1 rl2 rl3))⟩
    · cases e) h
end
end PD
/-! PD: dicts as data. -/
namespace PD
open PySem PySem.Spec PyProof.Rows L2

def getK (kvs : List (D × D)) (k : NestedKey) : Option D := (kvs.find? fun p => decide (toNK p.1 = some k)).map (·.2)
def putK (kvs : List (D × D)) (k : NestedKey) (kd v : D) : List (D × D) := if (getK kvs k).isSome then kvs.map (fun p => if toNK p.1 = some k then (p.1, v) else p) else kvs ++ [(kd, v)]
/-- the key goes with the keys there are -/
def keyOk (kvs : List (D × D)) (kd : D) : Option NestedKey := (toNK kd).bind fun nk => if (kfam kd != 0 && kvs.all (fun p => kfam p.1 == kfam kd) && decide (nk.depth ≤ 8)) = true then some nk else none
section
variable (w : World) (K : PySem.W.Frag) (st : Option (Addr × Addr)) (F : Hp)
inductive RepX : List XE → List (D × D) → Prop
  | nil : RepX [] []
  | cons {nk : NestedKey} {kv vv : V} {kd vd : D} {xs : List XE} {kvs : List (D × D)} : toNK kd = some nk → Rep w K st F kv kd → Rep w K st F vv vd → RepX xs kvs → RepX ((nk, kv, vv) :: xs) ((kd, vd) :: kvs)
end
section
variable {w : World} {K : PySem.W.Frag} {st : Option (Addr × Addr)} {F H : Hp}
theorem toX : ∀ {es : List DictEntry} {kvs : List (D × D)}, RepE w K st F es kvs → (∀ (i : Nat) (e : DictEntry) (p : D × D), es[i]? = some e → kvs[i]? = some p → ∃ nk, toNK p.1 = some nk ∧ nk.depth ≤ 8 ∧ e.hash = nk.hash w) →
    ∃ xs, Paired (EntV w) es xs ∧ RepX w K st F xs kvs ∧ ∀ x ∈ xs, x.1.depth ≤ 8
  | [], kvs, h, _ => by cases h; exact ⟨[], .nil, .nil, fun x hx => by cases hx⟩
  | e :: es, kvs, h, hk => by
    cases h with
    | cons a b c d t =>
      obtain ⟨xs, h1, h2, h3⟩ := toX t fun i e p q1 q2 => hk (i + 1) e p (by simpa using q1) (by simpa using q2)
      obtain ⟨nk, e1, e2, e3⟩ := hk 0 _ _ rfl rfl
      refine ⟨(nk, _, _) :: xs, .cons ⟨a, c, e3⟩ h1, .cons e1 b d h2, fun x hx => ?_⟩
      rcases List.mem_cons.mp hx with rfl | hx
      · exact e2
      · exact h3 x hx
theorem ofX : ∀ {es : List DictEntry} {xs : List XE} {kvs : List (D × D)}, Paired (EntV w) es xs → RepX w K st F xs kvs → (∀ x ∈ xs, x.1.depth ≤ 8) →
    RepE w K st F es kvs ∧ ∀ (i : Nat) (e : DictEntry) (p : D × D), es[i]? = some e → kvs[i]? = some p → ∃ nk, toNK p.1 = some nk ∧ nk.depth ≤ 8 ∧ e.hash = nk.hash w
  | _, _, kvs, .nil, h, _ => by cases h; exact ⟨.nil, fun i e p q1 => by simp at q1⟩
  | _, _, kvs, .cons r t, h, hd => by
    cases h with
    | cons e1 b c h2 =>
      obtain ⟨h3, h4⟩ := ofX t h2 fun x hx => hd x (List.mem_cons_of_mem _ hx)
      refine ⟨.cons r.1 b r.2.1 c h3, fun i e p q1 q2 => ?_⟩
      cases i with
      | zero =>
        simp only [List.getElem?_cons_zero, Option.some.injEq] at q1 q2
        subst q1 q2
        exact ⟨_, e1, hd _ List.mem_cons_self, r.2.2⟩
      | succ i => exact h4 i e p (by simpa using q1) (by simpa using q2)
theorem repX_keys {xs : List XE} {kvs : List (D × D)} (h : RepX w K st F xs kvs) : kvs.map (fun p => toNK p.1) = xs.map fun x => some x.1 := by
  induction h with
  | nil => rfl
  | cons e _ _ _ ih => rw [List.map_cons, List.map_cons, ih, e]
theorem kfam_nk {d : D} {nk : NestedKey} (e : toNK d = some nk) : (kfam d = 1 → (nkKey nk).isSome = true) ∧ (kfam d = 2 → nkTup nk = true) := by
  cases d with
  | tup xs =>
    simp only [toNK, Option.map_eq_some_iff] at e
    obtain ⟨ks, _, rfl⟩ := e
    exact ⟨fun z => (by cases z), fun _ => rfl⟩
  | int i => simp only [toNK, Option.some.injEq] at e; subst e; exact ⟨fun _ => rfl, fun z => (by cases z)⟩
  | str i => simp only [toNK, Option.some.injEq] at e; subst e; exact ⟨fun _ => rfl, fun z => (by cases z)⟩
  | _ => exact ⟨fun z => (by cases z), fun z => (by cases z)⟩
theorem repX_fam {xs : List XE} {kvs : List (D × D)} {n : Nat} (h : RepX w K st F xs kvs) (hf : ∀ p ∈ kvs, kfam p.1 = n) : (n = 1 → ∀ x ∈ xs, (nkKey x.1).isSome = true) ∧ (n = 2 → ∀ x ∈ xs, nkTup x.1 = true) := by
  induction h with
  | nil => exact ⟨fun _ x hx => (by cases hx), fun _ x hx => (by cases hx)⟩
  | cons e _ _ _ ih =>
    obtain ⟨h1, h2⟩ := ih fun p hp => hf p (List.mem_cons_of_mem _ hp)
    have h0 := hf _ List.mem_cons_self
    refine ⟨fun hn x hx => ?_, fun hn x hx => ?_⟩
    · rcases List.mem_cons.mp hx with rfl | hx
      · exact (kfam_nk e).1 (h0.trans hn)
      · exact h1 hn x hx
    · rcases List.mem_cons.mp hx with rfl | hx
      · exact (kfam_nk e).2 (h0.trans hn)
      · exact h2 hn x hx
theorem repX_dv {a : Addr} {es : Array DictEntry} {ep : Nat} {kvs : List (D × D)} (hs : Sub F H) (ha : H a = some (dxO a es ep)) (ok : DctOk w es.toList kvs) (re : RepE w K st F es.toList kvs) : ∃ xs, DV w K H a xs ∧ RepX w K st F xs kvs := by
  obtain ⟨xs, h1, h2, h3⟩ := toX re ok.key
  have hk : ∀ {xs : List XE} {kvs : List (D × D)}, RepX w K st F xs kvs → ∀ x ∈ xs, KeyV K H x.2.1 x.1 := by
    intro xs kvs h
    induction h with
    | nil => exact fun x hx => by cases hx
    | cons e b c t ih =>
      intro x hx
      rcases List.mem_cons.mp hx with rfl | hx
      · exact Rep.key hs b e
      · exact ih x hx
  refine ⟨xs, ⟨⟨es, ep, ha, h1⟩, fun x hx => ⟨hk h2 x hx, h3 x hx⟩, ?_, ?_⟩, h2⟩
  · rcases ok.fam with h | h
    · exact .inl ((repX_fam h2 h).1 rfl)
    · exact .inr ((repX_fam h2 h).2 rfl)
  · have := ok.nd
    rw [repX_keys h2, show (xs.map fun x => some x.1) = (xs.map (·.1)).map some by rw [List.map_map]; rfl] at this
    exact (List.pairwise_map.mp this).imp fun hne e => hne (by rw [e])
theorem keyOk_fam {xs : List XE} {kvs : List (D × D)} {kd : D} {nk : NestedKey} (h : RepX w K st F xs kvs) (e : keyOk kvs kd = some nk) : toNK kd = some nk ∧ FamOk xs nk ∧ nk.depth ≤ 8 ∧ ((∀ p ∈ kvs, kfam p.1 = 1) ∧ kfam kd = 1 ∨ (∀ p ∈ kvs, kfam p.1 = 2) ∧ kfam kd = 2) := by
  unfold keyOk at e
  obtain ⟨nk', e1, e2⟩ := Option.bind_eq_some_iff.mp e
  split at e2
  · rename_i hc
    cases e2
    simp only [Bool.and_eq_true, bne_iff_ne, ne_eq, List.all_eq_true, beq_iff_eq, decide_eq_true_eq] at hc
    obtain ⟨⟨h1, h2⟩, h3⟩ := hc
    have hk : kfam kd = 1 ∨ kfam kd = 2 := by
      cases kd <;> simp [kfam] at h1 ⊢
    rcases hk with hk | hk
    · rw [hk] at h2
      exact ⟨e1, .inl ⟨(kfam_nk e1).1 hk, (repX_fam h h2).1 rfl⟩, h3, .inl ⟨h2, hk⟩⟩
    · rw [hk] at h2
      exact ⟨e1, .inr ⟨(kfam_nk e1).2 hk, (repX_fam h h2).2 rfl⟩, h3, .inr ⟨h2, hk⟩⟩
  · cases e2
theorem repX_get {xs : List XE} {kvs : List (D × D)} {k : NestedKey} (h : RepX w K st F xs kvs) : (getX xs k).isSome = (getK kvs k).isSome ∧ ∀ d, getK kvs k = some d → ∃ v, getX xs k = some v ∧ Rep w K st F v d := by
  induction h with
  | nil => exact ⟨rfl, fun d e => by cases e⟩
  | @cons nk kv vv kd vd xs kvs e a b t ih =>
    unfold getX getK at ih ⊢
    rw [List.find?_cons, List.find?_cons]
    by_cases hk : nk = k
    · have h2 : toNK kd = some k := by rw [e, hk]
      rw [decide_eq_true hk, decide_eq_true h2]
      exact ⟨rfl, fun d e => by cases e; exact ⟨vv, rfl, b⟩⟩
    · have h2 : ¬ toNK kd = some k := by rw [e]; exact fun z => hk (Option.some.inj z)
      rw [decide_eq_false hk, decide_eq_false h2]
      exact ih
theorem repX_put {xs : List XE} {kvs : List (D × D)} {k : NestedKey} {kd vd : D} {y v : V} (h : RepX w K st F xs kvs) (hk : toNK kd = some k) (ry : Rep w K st F y kd) (rv : Rep w K st F v vd) : RepX w K st F (putX xs k y v) (putK kvs k kd vd) := by
  unfold putX putK
  rw [(repX_get h).1]
  split
  · have : ∀ {xs : List XE} {kvs : List (D × D)}, RepX w K st F xs kvs → RepX w K st F (xs.map fun x => if x.1 = k then (x.1, x.2.1, v) else x) (kvs.map fun p => if toNK p.1 = some k then (p.1, vd) else p) := by
      intro xs kvs h
      induction h with
      | nil => exact .nil
      | @cons nk kv vv kd' vd' xs kvs e a b t ih =>
        rw [List.map_cons, List.map_cons]
        by_cases hk : nk = k
        · rw [if_pos hk, if_pos (by rw [e, hk])]
          exact .cons e a rv ih
        · rw [if_neg hk, if_neg (by rw [e]; exact fun z => hk (Option.some.inj z))]
          exact .cons e a b ih
    exact this h
  · have : ∀ {xs : List XE} {kvs : List (D × D)}, RepX w K st F xs kvs → RepX w K st F (xs ++ [(k, y, v)]) (kvs ++ [(kd, vd)]) := by
      intro xs kvs h
      induction h with
      | nil => exact .cons hk ry rv .nil
      | cons e a b t ih => exact .cons e a b ih
    exact this h
theorem putK_keys (kvs : List (D × D)) (k : NestedKey) (kd vd : D) : ∀ p ∈ putK kvs k kd vd, (∃ q ∈ kvs, p.1 = q.1) ∨ p.1 = kd := fun p hp => by
  unfold putK at hp
  split at hp
  · obtain ⟨q, hq, e⟩ := List.mem_map.mp hp
    refine .inl ⟨q, hq, ?_⟩
    rw [← e]
    split <;> rfl
  · rcases List.mem_append.mp hp with hp | hp
    · exact .inl ⟨p, hp, rfl⟩
    · exact .inr (by rw [List.mem_singleton.mp hp])
/-- what stands in a dict behind d[k] = v -/
theorem dct_put {a : Addr} {xs : List XE} {kvs : List (D × D)} {k : NestedKey} {kd vd : D} {y v : V} {es' : Array DictEntry} (hs : Sub F H) (dv : DV w K H a xs) (h : RepX w K st F xs kvs) (e : keyOk kvs kd = some k) (ry : Rep w K st F y kd) (rv : Rep w K st F v vd)
    (hp : Paired (EntV w) es'.toList (putX xs k y v)) : DctOk w es'.toList (putK kvs k kd vd) ∧ RepE w K st F es'.toList (putK kvs k kd vd) := by
  obtain ⟨e1, fam, dep, hf⟩ := keyOk_fam h e
  have hx := repX_put (k := k) h e1 ry rv
  have dv' := dv.put (ep' := 0) fam (Rep.key hs ry e1) dep hp
  obtain ⟨h1, h2⟩ := ofX hp hx fun x hx => (dv'.key x hx).2
  have hl1 := hp.length
  have hl2 : (putX xs k y v).length = (putK kvs k kd vd).length := by
    have := congrArg List.length (repX_keys hx)
    simpa using this.symm
  refine ⟨⟨hl1.trans hl2, h2, ?_, ?_⟩, h1⟩
  · rcases hf with ⟨h3, h4⟩ | ⟨h3, h4⟩
    · exact .inl fun p hp => by
        rcases putK_keys _ _ _ _ p hp with ⟨q, hq, e⟩ | e
        · rw [e]; exact h3 q hq
        · rw [e]; exact h4
    · exact .inr fun p hp => by
        rcases putK_keys _ _ _ _ p hp with ⟨q, hq, e⟩ | e
        · rw [e]; exact h3 q hq
        · rw [e]; exact h4
  · rw [repX_keys hx]
    have nd := dv'.nd
    rw [show ((putX xs k y v).map fun x => some x.1) = ((putX xs k y v).map (·.1)).map some by rw [List.map_map]; rfl]
    exact List.pairwise_map.mpr (nd.imp fun hne e => hne (Option.some.inj e))
end
end PD
/-! PD: index, membership, slices, builtins on data. -/
namespace PD
open PySem PySem.Spec PyProof.Rows L2

/-! ### index -/
def fIx : D → D → Option R
  | .tup xs, .int i => (atI xs i).map .d
  | .lst xs, .int i => (atI xs i).map .d
  | .scr ns, .int i => (atI ns i).map fun n => .d (.int n)
  | .str l, .int i => (atI l i).map fun c => .d (.str [c])
  | .dct kvs, k => (keyOk kvs k).bind fun nk => (getK kvs nk).map .d
  | _, _ => none
def rIxX (w : World) (K : PySem.W.Frag) : R2 := fun x y H Q => rIx K x y H Q ∨ ∃ a xs k v, x = .ref a ∧ DV w K H a xs ∧ FamOk xs k ∧ KeyV K H y k ∧ k.depth ≤ 8 ∧ getX xs k = some v ∧ Q v H
section
variable {X : Cx}
theorem ix_dx (hu : X.A.units + 64 < cLine) : IxR X (fun x y H Q => ∃ a xs k v, x = .ref a ∧ DV X.w X.K H a xs ∧ FamOk xs k ∧ KeyV X.K H y k ∧ k.depth ≤ 8 ∧ getX xs k = some v ∧ Q v H) := by
  intro value slice pins s σ H x y v u Q I rx ry h hs
  obtain ⟨a, xs, k, z, rfl, dv, fam, hk, hd, g, q⟩ := h
  cases rx
  have hT : s.TypeIs (.ref a) "dict" := by
    obtain ⟨es, ep, e, _⟩ := dv.ex
    exact (dx_raw I e).1.typeIs
  exact tail_any hT slot_dict_getitem.lookup (dx_get hu I dv fam hk hd g ry fun w' s' I' r => ⟨z, H, I', r, q⟩) hs
theorem ix_x (hu : X.A.units + 64 < cLine) : IxR X (rIxX X.w X.K) := ix_seq.or (ix_dx hu)
end
section
variable {w : World} {K : PySem.W.Frag}
theorem atI_map {α β : Type} (f : α → β) (xs : List α) (i : Int) : atI (xs.map f) i = (atI xs i).map f := by
  unfold atI
  rw [List.length_map]
  cases ixN xs.length i with
  | none => rfl
  | some j => simp
theorem atI_rep {st : Option (Addr × Addr)} {F : Hp} {vs : List V} {ds : List D} {i : Int} {d : D} (r : RepL w K st F vs ds) (e : atI ds i = some d) : ∃ v, atI vs i = some v ∧ Rep w K st F v d := by
  unfold atI at e ⊢
  rw [r.length]
  obtain ⟨j, e1, e2⟩ := Option.bind_eq_some_iff.mp e
  obtain ⟨v, h1, h2⟩ := r.get' e2
  exact ⟨v, by rw [e1]; exact h1, h2⟩
theorem o_ix : Op2 w K (rIxX w K) fIx := fun g H x y dx dy res Q hf hx hy e q => by
  unfold fIx at e
  split at e
  · obtain ⟨d, e1, rfl⟩ := Option.map_eq_some_iff.mp e
    cases hy
    cases hx with
    | tup ha ra =>
      obtain ⟨v, h1, h2⟩ := atI_rep ra e1
      exact .inl (.inr (.inl ⟨_, _, _, v, rfl, rfl, hf.seqT ha, h1, k_rep h2 hf q⟩))
  · obtain ⟨d, e1, rfl⟩ := Option.map_eq_some_iff.mp e
    cases hy
    cases hx with
    | lst ha ra =>
      obtain ⟨v, h1, h2⟩ := atI_rep ra e1
      exact .inl (.inl ⟨_, _, _, v, rfl, rfl, SqL.of ha, h1, k_rep h2 hf q⟩)
  · obtain ⟨d, e1, rfl⟩ := Option.map_eq_some_iff.mp e
    cases hy
    cases hx with
    | scr ha => exact .inl (.inl ⟨_, _, _, .int d, rfl, rfl, ha, by rw [atI_map, e1]; rfl, k_int hf q⟩)
  · obtain ⟨c, e1, rfl⟩ := Option.map_eq_some_iff.mp e
    cases hy
    cases hx with
    | str hl =>
      obtain ⟨j, _, hj, _⟩ := atI_get e1
      have hc := List.mem_of_getElem? hj
      exact .inl (.inr (.inr ⟨_, _, c, rfl, rfl, by rw [sOf_len]; exact hl.1, by rw [sOf_cps]; exact e1,
        k_str (l := [c]) ⟨by show 1 ≤ sizeLine; decide, fun z hz => by rw [List.mem_singleton.mp hz]; exact hl.2 c hc⟩ hf q⟩))
  · obtain ⟨nk, e1, e2⟩ := Option.bind_eq_some_iff.mp e
    obtain ⟨d, e3, rfl⟩ := Option.map_eq_some_iff.mp e2
    cases hx with
    | dct ha ok re =>
      obtain ⟨xs, dv, rx⟩ := repX_dv hf ha ok re
      obtain ⟨t1, fam, dep, _⟩ := keyOk_fam rx e1
      obtain ⟨v, h1, h2⟩ := (repX_get rx).2 d e3
      exact .inr ⟨_, xs, nk, v, rfl, dv, fam, hy.key hf t1, dep, h1, k_rep h2 hf q⟩
  · cases e

/-! ### in, not in -/
def fInB : D → D → Option Bool
  | .str x, .str l => match x with
    | [c] => some (decide (c ∈ l))
    | _ => none
  | x, .tup xs => if pl 60 x = true ∧ pl 60 (.tup xs) = true then some (xs.any fun z => eqD z x) else none
  | x, .lst xs => if pl 60 x = true ∧ pl 60 (.lst xs) = true then some (xs.any fun z => eqD z x) else none
  | x, .dct kvs => (keyOk kvs x).map fun nk => (getK kvs nk).isSome
  | _, _ => none
def fIn (x y : D) : Option R := (fInB x y).map fun k => .d (.bl k)
def fNotIn (x y : D) : Option R := (fInB x y).map fun k => .d (.bl (!k))
/-- by values: k is the answer -/
def rInV (w : World) (K : PySem.W.Frag) (x y : V) (H : Hp) (k : Bool) : Prop :=
  (∃ (c : Nat) (z : Str), x = .str ⟨#[c]⟩ ∧ y = .str z ∧ k = decide (c ∈ z.cps.toList)) ∨
  (∃ d ds, Dp K H x d ∧ (Dp K H y (.list ds) ∨ Dp K H y (.tuple ds)) ∧ SeqAt.shaped d = true ∧ SeqAt.shaped (.list ds) = true ∧ k = ds.any fun z => PyData.eqv z d) ∨
  (∃ a xs nk, y = .ref a ∧ DV w K H a xs ∧ FamOk xs nk ∧ KeyV K H x nk ∧ nk.depth ≤ 8 ∧ k = (getX xs nk).isSome)
def rInX (w : World) (K : PySem.W.Frag) : R2 := fun x y H Q => ∃ k, rInV w K x y H k ∧ Q (.bl k) H
def rNotInX (w : World) (K : PySem.W.Frag) : R2 := fun x y H Q => ∃ k, rInV w K x y H k ∧ Q (.bl (!k)) H
theorem shaped_tup {ds : List PyData} (h : SeqAt.shaped (.list ds) = true) : SeqAt.shaped (.tuple ds) = true := h
section
variable {X : Cx}
theorem op_inX (hu : X.A.units + 65 < cLine) : OpR X (compareOp .In) (rInX X.w X.K) := by
  intro pins s σ H x y v u Q I rx ry h
  obtain ⟨k, h, q⟩ := h
  rcases h with ⟨c, z, ex, ey, ek⟩ | ⟨d, ds, hd, he, sd, se, ek⟩ | ⟨a, xs, nk, ey, dv, fam, hk, hd, ek⟩
  · exact op_in_sign pins s σ H x y v u Q I rx ry ⟨c, z, ex, ey, ek ▸ q⟩
  · rcases he with he | he
    · exact op_inD hu pins s σ H x y v u Q I rx ry ⟨d, ds, hd, he, sd, se, ek ▸ q⟩
    · obtain ⟨as, r1⟩ := Dp.reads I d x v hd rx
      obtain ⟨bs, r2⟩ := Dp.reads I (.tuple ds) y u he ry
      exact SeqAt.in_tuple_reads r2 r1 (SeqAt.canLay_of_shaped (shaped_tup se)) (SeqAt.canLay_of_shaped sd) (room_in_shaped sd hu) ⟨.bl _, H, I, rfl, ek ▸ q⟩
  · subst ey
    cases ry
    exact dx_in (by omega) I dv fam hk hd rx fun s' I' => ⟨.bl _, H, I', rfl, ek ▸ q⟩
theorem op_notInX (hu : X.A.units + 65 < cLine) : OpR X (compareOp .NotIn) (rNotInX X.w X.K) := by
  intro pins s σ H x y v u Q I rx ry h
  obtain ⟨k, h, q⟩ := h
  rcases h with ⟨c, z, ex, ey, ek⟩ | ⟨d, ds, hd, he, sd, se, ek⟩ | ⟨a, xs, nk, ey, dv, fam, hk, hd, ek⟩
  · exact op_notIn_sign pins s σ H x y v u Q I rx ry ⟨c, z, ex, ey, ek ▸ q⟩
  · rcases he with he | he
    · exact op_notInD hu pins s σ H x y v u Q I rx ry ⟨d, ds, hd, he, sd, se, ek ▸ q⟩
    · obtain ⟨as, r1⟩ := Dp.reads I d x v hd rx
      obtain ⟨bs, r2⟩ := Dp.reads I (.tuple ds) y u he ry
      exact SeqAt.notIn_tuple_reads r2 r1 (SeqAt.canLay_of_shaped (shaped_tup se)) (SeqAt.canLay_of_shaped sd) (room_in_shaped sd hu) ⟨.bl _, H, I, rfl, ek ▸ q⟩
  · subst ey
    cases ry
    exact dx_notIn (by omega) I dv fam hk hd rx fun s' I' => ⟨.bl _, H, I', rfl, ek ▸ q⟩
end
theorem toPys_any (xs : List D) (x : D) : ((toPys xs).any fun z => PyData.eqv z (toPy x)) = xs.any fun z => eqD z x := by
  induction xs with
  | nil => rfl
  | cons a xs ih =>
    show (PyData.eqv (toPy a) (toPy x) || _) = _
    rw [ih]; rfl
theorem inV_of {g : Gh} {H : Hp} {x y : V} {dx dy : D} {k : Bool} (hf : Sub g.F H) (hx : Rep1 w K H g x dx) (hy : Rep1 w K H g y dy) (e : fInB dx dy = some k) : rInV w K x y H k := by
  unfold fInB at e
  split at e
  · split at e
    · rename_i c
      cases e
      cases hy with
      | str hl => cases hx with
        | str hc => exact .inl ⟨c, _, rfl, rfl, by rw [sOf_cps]⟩
    · cases e
  · rename_i xs
    split at e
    · rename_i h
      cases e
      obtain ⟨h1, h2⟩ := hx.shaped hf h.1
      obtain ⟨h3, h4⟩ := hy.shaped hf h.2
      exact .inr (.inl ⟨_, toPys xs, h1, .inr h3, h2, h4, (toPys_any xs _).symm⟩)
    · cases e
  · rename_i xs
    split at e
    · rename_i h
      cases e
      obtain ⟨h1, h2⟩ := hx.shaped hf h.1
      obtain ⟨h3, h4⟩ := hy.shaped hf h.2
      exact .inr (.inl ⟨_, toPys xs, h1, .inl h3, h2, h4, (toPys_any xs _).symm⟩)
    · cases e
  · obtain ⟨nk, e1, e2⟩ := Option.map_eq_some_iff.mp e
    subst e2
    cases hy with
    | dct ha ok re =>
      obtain ⟨xs, dv, rx⟩ := repX_dv hf ha ok re
      obtain ⟨t1, fam, dep, _⟩ := keyOk_fam rx e1
      exact .inr (.inr ⟨_, xs, nk, rfl, dv, fam, hx.key hf t1, dep, (repX_get rx).1.symm⟩)
  · cases e
theorem o_in : Op2 w K (rInX w K) fIn := fun g H x y dx dy res Q hf hx hy e q => by
  obtain ⟨k, e1, rfl⟩ := Option.map_eq_some_iff.mp e
  exact ⟨k, inV_of hf hx hy e1, k_bl hf q⟩
theorem o_notIn : Op2 w K (rNotInX w K) fNotIn := fun g H x y dx dy res Q hf hx hy e q => by
  obtain ⟨k, e1, rfl⟩ := Option.map_eq_some_iff.mp e
  exact ⟨k, inV_of hf hx hy e1, k_bl hf q⟩

/-! ### slices -/
def cutL {α : Type} (xs : List α) (lo hi : Option Int) : List α := (xs.drop (HT.sIx xs.length 0 lo)).take (HT.sIx xs.length xs.length hi - HT.sIx xs.length 0 lo)
def fSl : D → Option Int → Option Int → Option R
  | .lst xs, lo, hi => some (.t (.l (cutL xs lo hi)))
  | .tup xs, lo, hi => some (.d (.tup (cutL xs lo hi)))
  | .str l, lo, hi => some (.d (.str (cutL l lo hi)))
  | _, _, _ => none
def mNoPart : M (Option Int) := fun s => some (none, s)
def mPart (m : M R) : M (Option Int) := fun s => (m s).bind fun p => match p.1 with
  | .d (.int i) => some (some i, p.2)
  | _ => none
def mSl (m : M R) (lo hi : M (Option Int)) : M R := fun s => (m s).bind fun p => (lo p.2).bind fun l => (hi l.2).bind fun h => (p.1.peek h.2.env).bind fun x => (fSl x l.1 h.1).map fun r => (r, h.2)
def LO (w : World) (K : PySem.W.Frag) (m : M (Option Int)) : TO := fun σ H Q => ∃ g s, Good w K g s σ H ∧ ∃ r s', m s = some (r, s') ∧ ∀ g' H', Good w K g' s' σ H' → Ext (PD.W g s.env σ) g H (PD.W g' s'.env σ) g' H' → Q r H'
variable {σ : St} {H : Hp}
theorem tNoPart_LO {Q : Option Int → Hp → Prop} (h : LO w K mNoPart σ H Q) : tNoPart σ H Q := by
  obtain ⟨g, s, G, r, s', e, q⟩ := h
  cases e
  exact q g H G (Ext.refl _ _ _)
theorem tPart_LO {m : M R} {Q : Option Int → Hp → Prop} (h : LO w K (mPart m) σ H Q) : tPart (LE w K m) σ H Q := by
  obtain ⟨g, s, G, r, s', e, q⟩ := h
  unfold mPart at e
  cases ea : m s with
  | none => rw [ea] at e; cases e
  | some p =>
    obtain ⟨ra, s1⟩ := p
    rw [ea] at e
    simp only [Option.bind_some] at e
    split at e
    · simp only [Option.some.injEq, Prod.mk.injEq] at e
      obtain ⟨rfl, rfl⟩ := e
      refine LE.use G ea fun v g1 H1 G1 E1 R1 => ?_
      cases R1 with
      | d h => cases h; exact ⟨_, rfl, q g1 H1 G1 E1⟩
    · cases e
abbrev rSlX (K : PySem.W.Frag) : V → Option Int → Option Int → Hp → VK → Prop := fun x lo hi H Q => rSlL K x lo hi H Q ∨ (rSlA K x lo hi H Q ∨ rSlS x lo hi H Q)
theorem sl_x {X : Cx} : SlR X (rSlX X.K) := sl_list.or (sl_tupA.or sl_str)
theorem RepL.cut {st : Option (Addr × Addr)} {F : Hp} {vs : List V} {ds : List D} (r : RepL w K st F vs ds) (lo hi : Option Int) : RepL w K st F (cutV vs lo hi) (cutL ds lo hi) := by
  unfold cutV cutL
  rw [r.length]
  exact (r.drop _).take _
theorem cutS_sOf (l : List Nat) (lo hi : Option Int) : cutS (sOf l) lo hi = sOf (cutL l lo hi) := by
  unfold cutS cutL
  rw [sOf_cps, sOf_len]; rfl
theorem sl_ok {g : Gh} {x : V} {dx : D} {lo hi : Option Int} {res : R} {Q : VK} (hf : Sub g.F H) (hx : Rep1 w K H g x dx) (e : fSl dx lo hi = some res) (q : Kont w K g H Q res) : rSlX K x lo hi H Q := by
  unfold fSl at e
  split at e
  · cases e
    cases hx with
    | lst ha ra => exact .inl ⟨_, _, rfl, SqL.of ha, k_lst (ra.cut lo hi) hf q⟩
  · cases e
    cases hx with
    | @tup a vs ds ha ra =>
      refine .inr (.inl ⟨_, _, rfl, hf.seqT ha, fun h => ?_, fun _ => k_tup (ra.cut lo hi) hf q⟩)
      refine k_rep (.tup ha ?_) hf q
      have := ra.cut lo hi
      unfold cutV at this
      rw [h.1, h.2] at this
      simpa using this
  · cases e
    cases hx with
    | @str l hl =>
      refine .inr (.inr ⟨_, rfl, by rw [sOf_len]; exact hl.1, ?_⟩)
      rw [cutS_sOf]
      refine k_str (hl.sub (fun c hc => ?_) ?_) hf q
      · exact List.mem_of_mem_drop (List.mem_of_mem_take hc)
      · unfold cutL
        rw [List.length_take, List.length_drop]
        omega
  · cases e
theorem tSl_LE {m : M R} {lo hi : M (Option Int)} {Q : VK} (h : LE w K (mSl m lo hi) σ H Q) : tSl (rSlX K) (LE w K m) (LO w K lo) (LO w K hi) σ H Q := by
  obtain ⟨g, s, G, res, s', e, q⟩ := h
  unfold mSl at e
  cases ea : m s with
  | none => rw [ea] at e; cases e
  | some p =>
    obtain ⟨ra, s1⟩ := p
    rw [ea] at e
    simp only [Option.bind_some] at e
    cases eb : lo s1 with
    | none => rw [eb] at e; cases e
    | some p2 =>
      obtain ⟨l, s2⟩ := p2
      rw [eb] at e
      simp only [Option.bind_some] at e
      cases ec : hi s2 with
      | none => rw [ec] at e; cases e
      | some p3 =>
        obtain ⟨u, s3⟩ := p3
        rw [ec] at e
        simp only [Option.bind_some] at e
        cases ed : ra.peek s3.env with
        | none => rw [ed] at e; cases e
        | some x =>
          rw [ed] at e
          simp only [Option.bind_some] at e
          obtain ⟨res', e1, e2⟩ := Option.map_eq_some_iff.mp e
          simp only [Prod.mk.injEq] at e2
          obtain ⟨rfl, rfl⟩ := e2
          refine LE.use G ea fun v1 g1 H1 G1 E1 R1 => ?_
          refine ⟨g1, s1, G1, l, s2, eb, fun g2 H2 G2 E2 => ?_⟩
          refine ⟨g2, s2, G2, u, s3, ec, fun g3 H3 G3 E3 => ?_⟩
          have R3 := (R1.step E2).step E3
          refine sl_ok G3.fr (R3.peek G3 ed) e1 fun v g4 H4 EP RPv => ?_
          exact q v g4 H4 (G3.pure EP) (((E1.trans E2).trans E3).trans (Ext.ofP EP)) ((RPv.rr G3 EP).sooner fun b z => E1.dom b (E2.dom b (E3.dom b z)))
end
end PD
/-! PD: builtins and methods on data. -/
namespace PD
open PySem PySem.Spec PyProof.Rows L2

/-! ### builtins -/
def fLen : List D → Option R
  | [.str l] => some (.d (.int l.length))
  | [.tup l] => some (.d (.int l.length))
  | [.lst l] => some (.d (.int l.length))
  | [.scr l] => some (.d (.int l.length))
  | _ => none
def fAbs : List D → Option R
  | [.int i] => some (.d (.int (if i < 0 then -i else i)))
  | _ => none
def fInt : List D → Option R
  | [.int i] => some (.d (.int i))
  | [.bl k] => some (.d (.int (if k then 1 else 0)))
  | _ => none
def intsD : List D → Option (List Int)
  | [] => some []
  | .int i :: xs => (intsD xs).map (i :: ·)
  | _ => none
def blsD : List D → Option (List Bool)
  | [] => some []
  | .bl i :: xs => (blsD xs).map (i :: ·)
  | _ => none
def strsD : List D → Option (List (List Nat))
  | [] => some []
  | .str i :: xs => (strsD xs).map (i :: ·)
  | _ => none
def fSum : List D → Option R
  | [.lst xs] => (intsD xs).map fun ns => .d (.int ns.sum)
  | _ => none
def fAll : List D → Option R
  | [.lst xs] => (blsD xs).map fun bs => .d (.bl (bs.all id))
  | _ => none
def fAny : List D → Option R
  | [.lst xs] => (blsD xs).map fun bs => .d (.bl (bs.any id))
  | _ => none
def maxL : List Int → Int
  | [] => 0
  | [x] => x
  | x :: xs => max x (maxL xs)
def minL : List Int → Int
  | [] => 0
  | [x] => x
  | x :: xs => min x (minL xs)
def fMax : List D → Option R
  | [.int i, .int j] => some (.d (.int (if j > i then j else i)))
  | [.lst xs] => match intsD xs with
    | some (n :: ns) => some (.d (.int (maxL (n :: ns))))
    | _ => none
  | _ => none
def fMin : List D → Option R
  | [.int i, .int j] => some (.d (.int (if j < i then j else i)))
  | [.lst xs] => match intsD xs with
    | some (n :: ns) => some (.d (.int (minL (n :: ns))))
    | _ => none
  | _ => none
def fList : List D → Option R
  | [.lst xs] => some (.t (.l xs))
  | [.tup xs] => some (.t (.l xs))
  | [.str l] => some (.t (.l (l.map fun c => .str [c])))
  | _ => none
def fTuple : List D → Option R
  | [.lst xs] => some (.d (.tup xs))
  | [.tup xs] => some (.d (.tup xs))
  | _ => none
def kindD : D → Option String
  | .non => some "NoneType"
  | .bl _ => some "bool"
  | .int _ => some "int"
  | .str _ => some "str"
  | .tup _ => some "tuple"
  | .lst _ => some "list"
  | _ => none
def fIsi : List D → Option R
  | [x, .cv (.ty T)] => (kindD x).bind fun t => (kitB t T).map fun b => .d (.bl b)
  | _ => none
/-! methods that read -/
def joinL (a : List Nat) : List (List Nat) → List Nat
  | [] => []
  | x :: xs => x ++ (xs.map fun y => a ++ y).flatten
def fJoin : D → List D → Option R
  | .str a, [.lst xs] => (strsD xs).bind fun ls => if (ls.map (·.length)).sum + ls.length * a.length ≤ 16777216 then some (.d (.str (joinL a ls))) else none
  | .str a, [.tup xs] => (strsD xs).bind fun ls => if (ls.map (·.length)).sum + ls.length * a.length ≤ 16777216 then some (.d (.str (joinL a ls))) else none
  | _, _ => none
def fCount : D → List D → Option R
  | .str a, [.str b] => some (.d (.int (Txt.count (sOf a) (sOf b))))
  | _, _ => none
def fDGet : D → List D → Option R
  | .dct kvs, [k, d] => (keyOk kvs k).map fun nk => .d ((getK kvs nk).getD d)
  | _, _ => none
section
variable {w : World} {K : PySem.W.Frag} {g : Gh} {H : Hp}
abbrev rLen (K : PySem.W.Frag) : List V → Hp → VK → Prop := fun xs H Q => ∃ x n, xs = [x] ∧ LenV K x H n ∧ Q (.int n) H
theorem o_len : OpN w K (rLen K) fLen := fun g H xs ds res Q hf hx e q => by
  unfold fLen at e
  split at e
  · cases e
    cases hx with
    | cons a b =>
      cases b
      cases a with
      | str hl => exact ⟨_, _, rfl, ⟨by rw [sOf_len]; exact hl.1, (sOf_len _).symm⟩, k_int hf q⟩
  · cases e
    cases hx with
    | cons a b =>
      cases b
      cases a with
      | tup ha ra => exact ⟨_, _, rfl, .inr ⟨_, hf.seqT ha, rfl⟩, by rw [ra.length]; exact k_int hf q⟩
  · cases e
    cases hx with
    | cons a b =>
      cases b
      cases a with
      | lst ha ra => exact ⟨_, _, rfl, .inl ⟨_, SqL.of ha, rfl⟩, by rw [ra.length]; exact k_int hf q⟩
  · cases e
    cases hx with
    | cons a b =>
      cases b
      cases a with
      | scr ha => exact ⟨_, _, rfl, .inl ⟨_, ha, rfl⟩, by rw [List.length_map]; exact k_int hf q⟩
  · cases e
abbrev rAbs : List V → Hp → VK → Prop := fun xs H Q => ∃ i, xs = [.int i] ∧ Q (.int (if i < 0 then -i else i)) H
theorem o_abs : OpN w K rAbs fAbs := fun g H xs ds res Q hf hx e q => by
  unfold fAbs at e
  split at e
  · cases e
    cases hx with
    | cons a b => cases b; cases a; exact ⟨_, rfl, k_int hf q⟩
  · cases e
abbrev rInt : List V → Hp → VK → Prop := fun xs H Q => (∃ i, xs = [.int i] ∧ Q (.int i) H) ∨ ∃ k, xs = [.bl k] ∧ Q (.int (if k then 1 else 0)) H
theorem o_int : OpN w K rInt fInt := fun g H xs ds res Q hf hx e q => by
  unfold fInt at e
  split at e
  · cases e
    cases hx with
    | cons a b => cases b; cases a; exact .inl ⟨_, rfl, k_int hf q⟩
  · cases e
    cases hx with
    | cons a b => cases b; cases a; exact .inr ⟨_, rfl, k_int hf q⟩
  · cases e
theorem intsD_rep : ∀ {ds : List D} {vs : List V} {ns : List Int}, intsD ds = some ns → RepL w K g.st g.F vs ds → vs = ns.map V.int
  | [], _, _, e, r => by cases e; cases r; rfl
  | d :: ds, _, ns, e, r => by
    cases r with
    | cons a b =>
      cases d with
      | int i =>
        unfold intsD at e
        obtain ⟨ms, e1, rfl⟩ := Option.map_eq_some_iff.mp e
        cases a
        rw [List.map_cons, intsD_rep e1 b]
      | _ => cases e
theorem blsD_rep : ∀ {ds : List D} {vs : List V} {ns : List Bool}, blsD ds = some ns → RepL w K g.st g.F vs ds → vs = ns.map V.bl
  | [], _, _, e, r => by cases e; cases r; rfl
  | d :: ds, _, ns, e, r => by
    cases r with
    | cons a b =>
      cases d with
      | bl i =>
        unfold blsD at e
        obtain ⟨ms, e1, rfl⟩ := Option.map_eq_some_iff.mp e
        cases a
        rw [List.map_cons, blsD_rep e1 b]
      | _ => cases e
theorem strsD_rep : ∀ {ds : List D} {vs : List V} {ns : List (List Nat)}, strsD ds = some ns → RepL w K g.st g.F vs ds → vs = (ns.map sOf).map V.str ∧ ∀ l ∈ ns, StrG l
  | [], _, _, e, r => by cases e; cases r; exact ⟨rfl, fun l hl => by cases hl⟩
  | d :: ds, _, ns, e, r => by
    cases r with
    | cons a b =>
      cases d with
      | str i =>
        unfold strsD at e
        obtain ⟨ms, e1, rfl⟩ := Option.map_eq_some_iff.mp e
        cases a with
        | str hl =>
          obtain ⟨h1, h2⟩ := strsD_rep e1 b
          refine ⟨by rw [List.map_cons, List.map_cons, h1], fun l hl' => ?_⟩
          rcases List.mem_cons.mp hl' with rfl | hl'
          · exact hl
          · exact h2 l hl'
      | _ => cases e
theorem o_sum : OpN w K (rSum K) fSum := fun g H xs ds res Q hf hx e q => by
  unfold fSum at e
  split at e
  · obtain ⟨ns, e1, rfl⟩ := Option.map_eq_some_iff.mp e
    cases hx with
    | cons a b =>
      cases b
      cases a with
      | lst ha ra => exact ⟨_, ns, rfl, SqL.of (by rw [← intsD_rep e1 ra]; exact ha), k_int hf q⟩
  · cases e
theorem o_all : OpN w K (rAll K) fAll := fun g H xs ds res Q hf hx e q => by
  unfold fAll at e
  split at e
  · obtain ⟨ns, e1, rfl⟩ := Option.map_eq_some_iff.mp e
    cases hx with
    | cons a b =>
      cases b
      cases a with
      | lst ha ra => exact ⟨_, ns, rfl, SqL.of (by rw [← blsD_rep e1 ra]; exact ha), k_bl hf q⟩
  · cases e
theorem o_any : OpN w K (rAny K) fAny := fun g H xs ds res Q hf hx e q => by
  unfold fAny at e
  split at e
  · obtain ⟨ns, e1, rfl⟩ := Option.map_eq_some_iff.mp e
    cases hx with
    | cons a b =>
      cases b
      cases a with
      | lst ha ra => exact ⟨_, ns, rfl, SqL.of (by rw [← blsD_rep e1 ra]; exact ha), k_bl hf q⟩
  · cases e
theorem maxL_is : ∀ (n : Int) (ns : List Int), maxL (n :: ns) ∈ n :: ns ∧ ∀ y ∈ n :: ns, y ≤ maxL (n :: ns)
  | n, [] => ⟨List.mem_cons_self, fun y hy => by rw [List.mem_singleton.mp hy]; exact Int.le_refl _⟩
  | n, m :: ns => by
    obtain ⟨h1, h2⟩ := maxL_is m ns
    have e : maxL (n :: m :: ns) = max n (maxL (m :: ns)) := rfl
    rw [e]
    refine ⟨?_, fun y hy => ?_⟩
    · by_cases h : n ≤ maxL (m :: ns)
      · rw [Int.max_eq_right h]; exact List.mem_cons_of_mem _ h1
      · rw [Int.max_eq_left (by omega)]; exact List.mem_cons_self
    · rcases List.mem_cons.mp hy with rfl | hy
      · exact Int.le_max_left _ _
      · exact Int.le_trans (h2 y hy) (Int.le_max_right _ _)
theorem minL_is : ∀ (n : Int) (ns : List Int), minL (n :: ns) ∈ n :: ns ∧ ∀ y ∈ n :: ns, minL (n :: ns) ≤ y
  | n, [] => ⟨List.mem_cons_self, fun y hy => by rw [List.mem_singleton.mp hy]; exact Int.le_refl _⟩
  | n, m :: ns => by
    obtain ⟨h1, h2⟩ := minL_is m ns
    have e : minL (n :: m :: ns) = min n (minL (m :: ns)) := rfl
    rw [e]
    refine ⟨?_, fun y hy => ?_⟩
    · by_cases h : n ≤ minL (m :: ns)
      · rw [Int.min_eq_left h]; exact List.mem_cons_self
      · rw [Int.min_eq_right (by omega)]; exact List.mem_cons_of_mem _ h1
    · rcases List.mem_cons.mp hy with rfl | hy
      · exact Int.min_le_left _ _
      · exact Int.le_trans (Int.min_le_right _ _) (h2 y hy)
abbrev rMaxX (K : PySem.W.Frag) : List V → Hp → VK → Prop := fun xs H Q => (∃ i j, xs = [.int i, .int j] ∧ Q (.int (if j > i then j else i)) H) ∨ ∃ (a : Addr) (ns : List Int), xs = [V.ref a] ∧ SqL K H a (ns.map V.int) ∧ 0 < ns.length ∧ Q (.int (maxL ns)) H
abbrev rMinX (K : PySem.W.Frag) : List V → Hp → VK → Prop := fun xs H Q => (∃ i j, xs = [.int i, .int j] ∧ Q (.int (if j < i then j else i)) H) ∨ ∃ (a : Addr) (ns : List Int), xs = [V.ref a] ∧ SqL K H a (ns.map V.int) ∧ 0 < ns.length ∧ Q (.int (minL ns)) H
theorem call_maxX {X : Cx} (hc : X.calm = true) : CallR X (.builtin "max") (rMaxX X.K) := by
  intro pins s σ H xs us Q I r h
  rcases h with h | ⟨a, ns, ex, hq, hn, q⟩
  · exact call_max2 hc pins s σ H xs us Q I r h
  · refine cr_max hc pins s σ H xs us Q I r ⟨a, ns, ex, hq, hn, fun m hm hle => ?_⟩
    cases ns with
    | nil => cases hn
    | cons n ns =>
      obtain ⟨h1, h2⟩ := maxL_is n ns
      rw [show m = maxL (n :: ns) from Int.le_antisymm (h2 m hm) (hle _ h1)]
      exact q
theorem call_minX {X : Cx} (hc : X.calm = true) : CallR X (.builtin "min") (rMinX X.K) := by
  intro pins s σ H xs us Q I r h
  rcases h with h | ⟨a, ns, ex, hq, hn, q⟩
  · exact call_min2 hc pins s σ H xs us Q I r h
  · refine cr_min hc pins s σ H xs us Q I r ⟨a, ns, ex, hq, hn, fun m hm hle => ?_⟩
    cases ns with
    | nil => cases hn
    | cons n ns =>
      obtain ⟨h1, h2⟩ := minL_is n ns
      rw [show m = minL (n :: ns) from Int.le_antisymm (hle _ h1) (h2 m hm)]
      exact q
theorem o_max : OpN w K (rMaxX K) fMax := fun g H xs ds res Q hf hx e q => by
  unfold fMax at e
  split at e
  · cases e
    cases hx with
    | cons a b => cases b with
      | cons b c => cases c; cases a; cases b; exact .inl ⟨_, _, rfl, k_int hf q⟩
  · split at e
    · rename_i h
      cases e
      cases hx with
      | cons a b =>
        cases b
        cases a with
        | lst ha ra => exact .inr ⟨_, _, rfl, SqL.of (by rw [← intsD_rep h ra]; exact ha), (by simp), k_int hf q⟩
    · cases e
  · cases e
theorem o_min : OpN w K (rMinX K) fMin := fun g H xs ds res Q hf hx e q => by
  unfold fMin at e
  split at e
  · cases e
    cases hx with
    | cons a b => cases b with
      | cons b c => cases c; cases a; cases b; exact .inl ⟨_, _, rfl, k_int hf q⟩
  · split at e
    · rename_i h
      cases e
      cases hx with
      | cons a b =>
        cases b
        cases a with
        | lst ha ra => exact .inr ⟨_, _, rfl, SqL.of (by rw [← intsD_rep h ra]; exact ha), (by simp), k_int hf q⟩
    · cases e
  · cases e
abbrev rListX (K : PySem.W.Frag) : List V → Hp → VK → Prop := fun xs H Q => (∃ p ys, xs = [.ref p] ∧ (SqL K H p ys ∨ SqT K H p ys) ∧ ∀ l, H l = none → Q (.ref l) (upd H l (.lst ys))) ∨
  ∃ x : Str, xs = [.str x] ∧ x.cps.size ≤ sizeLine ∧ ∀ l, H l = none → Q (.ref l) (upd H l (.lst (chV x)))
theorem vals_of : ∀ {xs : List V} {us : List Value}, xs.length = us.length → (∀ (i : Nat) (x : V) (u : Value), xs[i]? = some x → us[i]? = some u → RelV x u) → Vals xs us
  | [], [], _, _ => .nil
  | x :: xs, u :: us, hl, h => .cons (h 0 x u rfl rfl) (vals_of (by simpa using hl) fun i x u e1 e2 => h (i + 1) x u (by simpa using e1) (by simpa using e2))
  | [], _ :: _, hl, _ => by cases hl
  | _ :: _, [], hl, _ => by cases hl
theorem items_vals {x : Str} {acc : Array Value} {n : Nat} (h : ItemsOf (SignAt x) acc n) (hn : n = x.cps.size) : Vals (chV x) acc.toList := by
  refine vals_of (by rw [chV_len, Array.length_toList]; exact (h.1.trans hn).symm) fun i v u e1 e2 => ?_
  have e2 : acc[i]? = some u := by simpa using e2
  obtain ⟨c, t, hc, eu⟩ := h.2 i u e2
  have := chV_at hc
  rw [e1] at this
  cases this
  exact ⟨t, eu⟩
theorem call_listX {X : Cx} (hc : X.calm = true) : CallR X (.type "list") (rListX X.K) := by
  intro pins s σ H xs us Q I r h
  rcases h with h | ⟨x, ex, hz, q⟩
  · exact call_list_of pins s σ H xs us Q I r h
  · subst ex
    obtain ⟨u, rfl, ru⟩ := Vals.one r
    obtain ⟨t, rfl⟩ := ru
    refine call_list_str (I.ok.hd hc) x t (fun h' tk acc c' hk hS ia => ?_) hz
    have hv := items_vals ia rfl
    have hl : (chV x).length ≤ sizeLine := by rw [chV_len]; exact hz
    have I1 : Inv X pins σ (upd H s.heap.objs.size (.lst (chV x))) { s with heap := h', toks := tk } := I.laid (fun b o e => hk b o e) (Nat.le_refl _) ⟨hl, acc.toList, c', hv, by rw [Array.toArray_toList]; exact hS⟩
    exact ⟨.ref s.heap.objs.size, _, I1, rfl, q _ (I.hok.fresh (Nat.le_refl _))⟩
theorem o_list : OpN w K (rListX K) fList := fun g H xs ds res Q hf hx e q => by
  unfold fList at e
  split at e
  · cases e
    cases hx with
    | cons a b =>
      cases b
      cases a with
      | lst ha ra => exact .inl ⟨_, _, rfl, .inl (SqL.of ha), k_lst ra hf q⟩
  · cases e
    cases hx with
    | cons a b =>
      cases b
      cases a with
      | tup ha ra => exact .inl ⟨_, _, rfl, .inr (hf.seqT ha), k_lst ra hf q⟩
  · cases e
    cases hx with
    | cons a b =>
      cases b
      cases a with
      | str hl =>
        obtain ⟨sk, ys, ev, at_, rl⟩ := rep_sk (w := w) (K := K) (g := g) (Rep.str hl) rfl
        refine .inr ⟨_, rfl, by show Array.size _ ≤ _; simpa [sOf] using hl.1, ?_⟩
        cases sk with
        | s z =>
          cases ev
          have : ys = chV _ := at_ H hf
          subst this
          exact k_lst rl hf q
        | l _ => cases ev
        | t _ => cases ev
  · cases e
abbrev rTupleX (K : PySem.W.Frag) : List V → Hp → VK → Prop := fun xs H Q => ∃ p ys, xs = [.ref p] ∧ ((SqL K H p ys ∧ ∀ l, H l = none → Q (.ref l) (upd H l (.tup ys))) ∨ (SqT K H p ys ∧ Q (.ref p) H))
theorem o_tuple : OpN w K (rTupleX K) fTuple := fun g H xs ds res Q hf hx e q => by
  unfold fTuple at e
  split at e
  · cases e
    cases hx with
    | cons a b =>
      cases b
      cases a with
      | lst ha ra => exact ⟨_, _, rfl, .inl ⟨SqL.of ha, k_tup ra hf q⟩⟩
  · cases e
    cases hx with
    | cons a b =>
      cases b
      cases a with
      | tup ha ra => exact ⟨_, _, rfl, .inr ⟨hf.seqT ha, k_rep (.tup ha ra) hf q⟩⟩
  · cases e
theorem ty_of {x : V} {d : D} {t : String} (hf : Sub g.F H) (h : Rep1 w K H g x d) (e : kindD d = some t) : TyX K H x (.type t) := by
  cases h with
  | non => cases e; exact .base .non
  | bl b => cases e; exact .base (.bl _)
  | int i => cases e; exact .base (.int _)
  | str _ => cases e; exact .base (.str _)
  | tup ha _ =>
    cases e
    rcases hf.seqT ha with (h | ⟨o, h⟩) | ⟨o, its, n, hk, hc, _⟩
    · exact .base (.tup h)
    · exact .fTuple h
    · exact .kTuple hk hc
  | lst ha _ => cases e; exact .base (.lst ha)
  | scr _ => cases e
  | dct _ _ _ => cases e
  | st _ => cases e
  | cv _ => cases e
theorem o_isi : OpN w K (rIsi K) fIsi := fun g H xs ds res Q hf hx e q => by
  unfold fIsi at e
  split at e
  · rename_i x T
    obtain ⟨t, e1, e2⟩ := Option.bind_eq_some_iff.mp e
    obtain ⟨b, e3, rfl⟩ := Option.map_eq_some_iff.mp e2
    cases hx with
    | cons a b =>
      cases b with
      | cons b c =>
        cases c
        cases b
        exact ⟨_, _, _, _, _, rfl, .ty T, ty_of hf a e1, kit_ty e3, k_bl hf q⟩
  · cases e

/-! ### methods -/
def tyX (K : PySem.W.Frag) (T : String) (x : V) (H : Hp) : Prop := tyV K T x H ∨ (T = "dict" ∧ ∃ a es ep, x = .ref a ∧ H a = some (dxO a es ep))
theorem tyX_is {X : Cx} {pins : List (Addr × Obj)} {σ : St} {H : Hp} {s : Shared} {T : String} {x : V} {v : Value} (I : Inv X pins σ H s) (r : RelV x v) (ty : tyX X.K T x H) :
    s.TypeIs v T ∧ ∀ a, v = .ref a → ∃ ob, s.heap.get? a = some ob ∧ ob.dict = none := by
  rcases ty with ty | ⟨rfl, a, es, ep, rfl, h⟩
  · exact tyV_is I r ty
  · cases r
    exact ⟨(dx_raw I h).1.typeIs, fun b e => dx_noDict I h b e⟩
def tBX (K : PySem.W.Frag) (T : String) (r : V → List V → Hp → VK → Prop) (to : TE) (t : TA) : TE := fun σ H Q => to σ H fun x H1 => tyX K T x H1 ∧ t σ H1 fun xs H2 => r x xs H2 Q
def tBX0 (K : PySem.W.Frag) (T : String) (r : V → List V → Hp → VK → Prop) (to : TE) : TE := fun σ H Q => to σ H fun x H1 => tyX K T x H1 ∧ r x [] H1 Q
section
variable {X : Cx} {o e : Expr} {es : List Expr} {to : TE} {t : TA} {name : Str} {apos cpos : Pos} {T id : String} {r : V → List V → Hp → VK → Prop}
theorem pe_bx0 (pa : PlainAttrs T) (slot : Slot T name id) (hty : typeOf (.builtin id) = pure (.type "method_descriptor")) (hm : MtR X id r) (ho : PE X o to)
    (hbase : attributeBase o name X.env (eval o X.env) = eval o X.env := by rfl) (hline : (apos.endLine == cpos.line) = true := by rfl) : PE X (.Call (.Attribute o name apos) [] [] cpos) (tBX0 X.K T r to) := by
  refine ⟨fun pins s σ H Q I h => ?_⟩
  refine wpAny_Call_method0_late hbase hline (thn (ho.run pins s σ H _ I h) fun v s1 ⟨x, H1, I1, r1, ty, q1⟩ => ?_)
  obtain ⟨h1, h2⟩ := tyX_is I1 r1 ty
  exact ⟨T, id, pa, slot, hty, h1, h2, Calls.callWith_builtin rfl (PySem.evalArgs_none (hm pins s1 σ H1 x [] v [] Q I1 r1 .nil q1))⟩
theorem pe_bx (pa : PlainAttrs T) (slot : Slot T name id) (hty : typeOf (.builtin id) = pure (.type "method_descriptor")) (hm : MtR X id r) (ho : PE X o to) (ha : PA X (e :: es) t)
    (hbase : attributeBase o name X.env (eval o X.env) = eval o X.env := by rfl)
    (hfew : ((backTo cpos (starEach (e :: es) X.env)).all (fun x => !x.1) && (backToKw cpos (keywordEach [] X.env)).all (fun x => x.1.isSome) && decide ((e :: es).length + ([] : List Keyword).length + (if ([] : List Keyword).isEmpty then 0 else 1) < 30)) = true := by rfl)
    (hline : (apos.endLine == cpos.line) = true := by rfl) (hs : starEach (e :: es) X.env = (false, eval e X.env) :: starEach es X.env := by rfl) (hplain : (backTo cpos (starEach es X.env)).any (·.1) = false := by rfl) :
    PE X (.Call (.Attribute o name apos) (e :: es) [] cpos) (tBX X.K T r to t) := by
  refine ⟨fun pins s σ H Q I h => ?_⟩
  refine wpAny_Call_method_late hbase hfew hline rfl (thn (ho.run pins s σ H _ I h) fun v s1 ⟨x, H1, I1, r1, ty, q1⟩ => ?_)
  obtain ⟨h1, h2⟩ := tyX_is I1 r1 ty
  refine ⟨T, id, pa, slot, hty, h1, h2, ?_⟩
  have hA := ha.run cpos pins s1 σ H1 _ I1 q1
  rw [hs] at hA ⊢
  refine Calls.callWith_builtin (by show (false || (backTo cpos (starEach es X.env)).any (·.1)) = false; rw [hplain] <;> rfl) (Calls.evalArgs_plain ?_)
  exact thn hA fun us s2 ⟨vs, H2, I2, r2, q2⟩ => hm pins s2 σ H2 x vs v us Q I2 r1 r2 q2
end
/-! reading methods: the receiver's type by what it is -/
def tyD (T : String) : D → Bool
  | .str _ => T == "str"
  | .int _ => T == "int"
  | .lst _ => T == "list"
  | .dct _ => T == "dict"
  | _ => false
theorem ty_D {T : String} {x : V} {d : D} (h : Rep1 w K H g x d) (e : tyD T d = true) : tyX K T x H := by
  cases h with
  | str _ => exact .inl (show T = "str" by simpa [tyD] using e)
  | int _ => exact .inl (show T = "int" by simpa [tyD] using e)
  | lst ha _ => exact .inl (.inl ⟨by simpa [tyD] using e, _, SqL.of ha⟩)
  | dct ha _ _ => exact .inr ⟨by simpa [tyD] using e, _, _, _, rfl, ha⟩
  | non => cases e
  | bl _ => cases e
  | tup _ _ => cases e
  | scr _ => cases e
  | st _ => cases e
  | cv _ => cases e
/-- o.m(args): the receiver read, the arguments shared -/
def mMethT (T : String) (f : D → List D → Option R) (o : M R) (ms : List (M R)) : M R := fun s => (o s).bind fun p => (p.1.peek p.2.env).bind fun d0 => if tyD T d0 = true then
  (mShs ms p.2).bind fun q => (p.1.peek q.2.env).bind fun d => (f d q.1).map fun r => (r, q.2) else none
/-- a reading method, by values -/
def OpT (w : World) (K : PySem.W.Frag) (r : V → List V → Hp → VK → Prop) (f : D → List D → Option R) : Prop := ∀ (g : Gh) (H : Hp) (x : V) (xs : List V) (dx : D) (ds : List D) (res : R) (Q : VK), Sub g.F H → Rep1 w K H g x dx → RepL w K g.st g.F xs ds → f dx ds = some res → Kont w K g H Q res → r x xs H Q
variable {σ : St}
theorem tBX_LE {T : String} {r : V → List V → Hp → VK → Prop} {f : D → List D → Option R} {o : M R} {ms : List (M R)} {Q : VK} (hr : OpT w K r f) (h : LE w K (mMethT T f o ms) σ H Q) : tBX K T r (LE w K o) (LD w K (mShs ms)) σ H Q := by
  obtain ⟨g, s, G, res, s', e, q⟩ := h
  unfold mMethT at e
  cases ea : o s with
  | none => rw [ea] at e; cases e
  | some p =>
    obtain ⟨ra, s1⟩ := p
    rw [ea] at e
    simp only [Option.bind_some] at e
    obtain ⟨d0, e0, e⟩ := Option.bind_eq_some_iff.mp e
    split at e
    · rename_i hT
      cases eb : mShs ms s1 with
      | none => rw [eb] at e; cases e
      | some p2 =>
        obtain ⟨ds, s2⟩ := p2
        rw [eb] at e
        simp only [Option.bind_some] at e
        obtain ⟨d, e1, e⟩ := Option.bind_eq_some_iff.mp e
        obtain ⟨res', e2, e3⟩ := Option.map_eq_some_iff.mp e
        simp only [Prod.mk.injEq] at e3
        obtain ⟨rfl, rfl⟩ := e3
        refine LE.use G ea fun v1 g1 H1 G1 E1 R1 => ?_
        refine ⟨ty_D (R1.peek G1 e0) hT, g1, s1, G1, ds, s2, eb, fun vs g2 H2 G2 E2 R2 => ?_⟩
        refine hr g2 H2 v1 vs d ds _ Q G2.fr ((R1.step E2).peek G2 e1) R2 e2 fun v g3 H3 EP RPv => ?_
        exact q v g3 H3 (G2.pure EP) ((E1.trans E2).trans (Ext.ofP EP)) ((RPv.rr G2 EP).sooner fun b z => E1.dom b (E2.dom b z))
    · cases e
abbrev rCount : V → List V → Hp → VK → Prop := fun x xs H Q => ∃ a b, x = .str a ∧ xs = [.str b] ∧ Q (.int (Txt.count a b)) H
theorem o_count : OpT w K rCount fCount := fun g H x xs dx ds res Q hf hx hxs e q => by
  unfold fCount at e
  split at e
  · cases e
    cases hx with
    | str ha =>
      cases hxs with
      | cons a b => cases b; cases a; exact ⟨_, _, rfl, rfl, k_int hf q⟩
  · cases e
theorem join_sOf (a : List Nat) (ls : List (List Nat)) : Txt.join (sOf a) (ls.map sOf) = sOf (joinL a ls) := by
  cases ls with
  | nil => rfl
  | cons x xs =>
    have : ∀ (xs : List (List Nat)) (acc : Array Nat), (xs.map sOf).foldl (fun acc p => acc ++ (sOf a).cps ++ p.cps) acc = acc ++ ((xs.map fun y => a ++ y).flatten).toArray := by
      intro xs
      induction xs with
      | nil => intro acc; simp
      | cons y ys ih =>
        intro acc
        rw [List.map_cons, List.foldl_cons, ih, List.map_cons, List.flatten_cons]
        simp [sOf]
    have e2 := this xs (sOf x).cps
    show (⟨_⟩ : Str) = ⟨_⟩
    congr 1
    simp only [List.map_cons, List.drop_succ_cons, List.drop_zero, List.headD_cons]
    rw [e2]
    simp [sOf, joinL]
abbrev rJoin (K : PySem.W.Frag) : V → List V → Hp → VK → Prop := fun x xs H Q => ∃ a p, ∃ ys : List Str, x = .str a ∧ xs = [.ref p] ∧ (SqL K H p (ys.map V.str) ∨ SqT K H p (ys.map V.str)) ∧ (ys.map (·.length)).sum + ys.length * a.length ≤ 16777216 ∧ Q (.str (Txt.join a ys)) H
theorem join_len (a : List Nat) (ls : List (List Nat)) : (joinL a ls).length ≤ (ls.map (·.length)).sum + ls.length * a.length := by
  cases ls with
  | nil => exact Nat.zero_le _
  | cons x xs =>
    have : ((xs.map fun y => a ++ y).flatten).length = (xs.map (·.length)).sum + xs.length * a.length := by
      induction xs with
      | nil => simp
      | cons y ys ih =>
        simp only [List.map_cons, List.flatten_cons, List.length_append, List.sum_cons, List.length_cons]
        rw [ih, Nat.add_mul]
        omega
    simp only [joinL, List.length_append, List.map_cons, List.sum_cons, List.length_cons]
    rw [this, Nat.add_mul]
    omega
theorem join_g {a : List Nat} {ls : List (List Nat)} (ha : StrG a) (hl : ∀ l ∈ ls, StrG l) (h : (ls.map (·.length)).sum + ls.length * a.length ≤ 16777216) : StrG (joinL a ls) := by
  refine ⟨Nat.le_trans (join_len a ls) (Nat.le_trans h (by decide)), fun c hc => ?_⟩
  cases ls with
  | nil => cases hc
  | cons x xs =>
    rcases List.mem_append.mp hc with hc | hc
    · exact (hl x List.mem_cons_self).2 c hc
    · obtain ⟨z, hz, hcz⟩ := List.mem_flatten.mp hc
      obtain ⟨y, hy, rfl⟩ := List.mem_map.mp hz
      rcases List.mem_append.mp hcz with hcz | hcz
      · exact ha.2 c hcz
      · exact (hl y (List.mem_cons_of_mem _ hy)).2 c hcz
theorem o_join : OpT w K (rJoin K) fJoin := fun g H x xs dx ds res Q hf hx hxs e q => by
  have fin : ∀ {a : List Nat} {zs : List D} {vs : List V} {p : Addr}, x = .str (sOf a) → StrG a → RepL w K g.st g.F vs zs → (SqL K H p vs ∨ SqT K H p vs) → xs = [.ref p] →
      ((strsD zs).bind fun ls => if (ls.map (·.length)).sum + ls.length * a.length ≤ 16777216 then some (PD.R.d (.str (joinL a ls))) else none) = some res → rJoin K x xs H Q := fun {a zs vs p} ex ha rl sq exs e => by
    obtain ⟨ls, e1, e2⟩ := Option.bind_eq_some_iff.mp e
    split at e2
    · rename_i hz
      cases e2
      obtain ⟨h1, h2⟩ := strsD_rep e1 rl
      refine ⟨sOf a, p, ls.map sOf, ex, exs, by rw [← h1]; exact sq, ?_, ?_⟩
      · have : ((ls.map sOf).map (·.length)) = ls.map (·.length) := by rw [List.map_map]; exact List.map_congr_left fun l _ => sOf_len l
        rw [this, List.length_map, sOf_len]; exact hz
      · rw [join_sOf]; exact k_str (join_g ha h2 hz) hf q
    · cases e2
  unfold fJoin at e
  split at e
  · cases hx with
    | str ha =>
      cases hxs with
      | cons a b =>
        cases b
        cases a with
        | lst h1 h2 => exact fin rfl ha h2 (.inl (SqL.of (hf _ _ h1))) rfl e
  · cases hx with
    | str ha =>
      cases hxs with
      | cons a b =>
        cases b
        cases a with
        | tup h1 h2 => exact fin rfl ha h2 (.inr (hf.seqT h1)) rfl e
  · cases e
end
end PD
/-! PD: what changes a slot's object. -/
namespace PD
open PySem PySem.Spec PyProof.Rows L2

section
variable {w : World} {K : PySem.W.Frag} {g : Gh} {s : S} {σ : St} {H : Hp}
/-- the object of a slot is written -/
theorem Good.mut {i : Nat} {a : Addr} {o o2 : Own} {u : HO} (G : Good w K g s σ H) (hi : s.env[i]? = some (.o o)) (hσ : σ[i]? = some (some (.ref a))) (h2 : OwnAt w K (upd H a u) g a o2) :
    Good w K g { s with env := s.env.set i (.o o2) } σ (upd H a u) := by
  have own : OwnF w K H g a o := by
    have := G.env i _ _ hi hσ
    cases this with
    | o r => exact r
  have nst : ¬ StA g a := G.apart a ⟨i, o, hi, hσ⟩
  have keep : ∀ b, b ≠ a → upd H a u b = H b := fun b hb => upd_ne hb
  have hl : i < s.env.length := (List.getElem?_eq_some_iff.mp hi).1
  refine ⟨fun b x e => ?_, ?_, by show (s.env.set i _).length = _; rw [List.length_set]; exact G.len, fun j sl x h1 hx => ?_, fun j k p q b h1 hk h3 h4 => ?_, fun b ⟨j, p, h1, hb⟩ z => ?_⟩
  · rw [keep b (fun z => by rw [z, own.nf] at e; cases e)]; exact G.fr b x e
  · have := G.ds
    show DSRep (upd H a u) g s.ds
    cases hd : s.ds with
    | none => rw [hd] at this; exact this
    | some d =>
      rw [hd] at this
      obtain ⟨sa, ca, e1, ne, h1, h2, f1, f2⟩ := this
      refine ⟨sa, ca, e1, ne, ?_, ?_, f1, f2⟩
      · rw [keep sa (fun z => nst (by rw [← z]; exact ⟨sa, ca, e1, .inl rfl⟩))]; exact h1
      · rw [keep ca (fun z => nst (by rw [← z]; exact ⟨sa, ca, e1, .inr rfl⟩))]; exact h2
  · by_cases e : i = j
    · subst e
      have h1 : (s.env.set i (.o o2))[i]? = some sl := h1
      rw [List.getElem?_set_self hl] at h1
      rw [hσ] at hx
      cases h1; cases hx
      exact .o ⟨h2, own.nf⟩
    · have h9 : s.env[j]? = some sl := by
        rw [← List.getElem?_set_ne e (a := .o o2)]; exact h1
      clear h1
      have sr := G.env j sl x h9 hx
      cases sr with
      | no => exact .no
      | d r => exact .d r
      | o r =>
        rename_i b y
        have hne : b ≠ a := fun z => e (G.uniq i j o y a hi h9 hσ (by rw [← z]; exact hx))
        refine .o ⟨?_, r.nf⟩
        cases y with
        | l ys => obtain ⟨us, e1, r1⟩ := r.at_; exact ⟨us, by rw [keep b hne]; exact e1, r1⟩
        | k kvs => obtain ⟨es, ep, e1, r1, r2⟩ := r.at_; exact ⟨es, ep, by rw [keep b hne]; exact e1, r1, r2⟩
  · have back : ∀ {j : Nat} {p : Own}, (s.env.set i (.o o2))[j]? = some (.o p) → ∃ p', s.env[j]? = some (.o p') := fun {j p} h => by
      by_cases e : i = j
      · subst e; exact ⟨o, hi⟩
      · rw [List.getElem?_set_ne e] at h; exact ⟨p, h⟩
    obtain ⟨p', h5⟩ := back h1
    obtain ⟨q', h6⟩ := back hk
    exact G.uniq j k p' q' b h5 h6 h3 h4
  · have h1 : (s.env.set i (.o o2))[j]? = some (.o p) := h1
    by_cases e : i = j
    · subst e; exact G.apart b ⟨i, o, hi, hb⟩ z
    · rw [List.getElem?_set_ne e] at h1; exact G.apart b ⟨j, p, h1, hb⟩ z
theorem Ext.mut {i : Nat} {a : Addr} {o o2 : Own} {u : HO} (G : Good w K g s σ H) (hi : s.env[i]? = some (.o o)) (hσ : σ[i]? = some (some (.ref a))) :
    Ext (PD.W g s.env σ) g H (PD.W g (s.env.set i (.o o2)) σ) g (upd H a u) where
  pr := fun b x e n => by
    rw [upd_ne (fun z => n (by rw [z]; exact .inl ⟨i, o, hi, hσ⟩))]; exact e
  dom := fun b e => by
    by_cases z : b = a
    · subst z; rw [upd_same] at e; cases e
    · rw [upd_ne z] at e; exact e
  mono := Sub.refl _
  newF := fun b x e e' => by rw [e] at e'; cases e'
  wsub := fun b hb => by
    rcases hb with ⟨j, p, h1, h2⟩ | hb
    · by_cases e : i = j
      · subst e; exact .inl (.inl ⟨i, o, hi, h2⟩)
      · rw [List.getElem?_set_ne e] at h1; exact .inl (.inl ⟨j, p, h1, h2⟩)
    · exact .inl (.inr hb)
  st := StLe.refl _
/-- a changing method: of an own object and shared arguments -/
def OpMut (w : World) (K : PySem.W.Frag) (r : V → List V → Hp → VK → Prop) (f : Own → List D → Option (D × Own)) : Prop :=
  ∀ (g : Gh) (H : Hp) (a : Addr) (vs : List V) (o : Own) (ds : List D) (z : D × Own) (Q : VK), Sub g.F H → OwnAt w K H g a o → RepL w K g.st g.F vs ds → f o ds = some z →
    (∀ v u, Rep w K g.st g.F v z.1 → OwnAt w K (upd H a u) g a z.2 → Q v (upd H a u)) → r (.ref a) vs H Q
def tyO (T : String) : Own → Bool
  | .l _ => T == "list"
  | .k _ => T == "dict"
def mMut (T : String) (f : Own → List D → Option (D × Own)) (m : M R) (ms : List (M R)) : M R := fun s => (m s).bind fun p => match p.1 with
  | .b i => match p.2.env[i]? with
    | some (.o o0) => if tyO T o0 = true then (mShs ms p.2).bind fun q => match q.2.env[i]? with
        | some (.o o) => (f o q.1).map fun z => (.d z.1, { q.2 with env := q.2.env.set i (.o z.2) })
        | _ => none
      else none
    | _ => none
  | _ => none
theorem ty_O {T : String} {a : Addr} {o : Own} (h : OwnAt w K H g a o) (e : tyO T o = true) : tyX K T (.ref a) H := by
  cases o with
  | l xs => obtain ⟨vs, ha, _⟩ := h; exact .inl (.inl ⟨by simpa [tyO] using e, _, SqL.of ha⟩)
  | k kvs => obtain ⟨es, ep, ha, _⟩ := h; exact .inr ⟨by simpa [tyO] using e, _, _, _, rfl, ha⟩
theorem mut_core {i : Nat} {r : V → List V → Hp → VK → Prop} {f : Own → List D → Option (D × Own)} {a : Addr} {vs : List V} {ds : List D} {o : Own} {z : D × Own} {Q : VK} (hr : OpMut w K r f) (G : Good w K g s σ H) (hi : s.env[i]? = some (.o o)) (hσ : σ[i]? = some (some (.ref a)))
    (rl : RepL w K g.st g.F vs ds) (e : f o ds = some z) (q : ∀ v H', Good w K g { s with env := s.env.set i (.o z.2) } σ H' → Ext (PD.W g s.env σ) g H (PD.W g (s.env.set i (.o z.2)) σ) g H' → Rep w K g.st g.F v z.1 → Q v H') : r (.ref a) vs H Q := by
  have sr := G.env i _ _ hi hσ
  cases sr with
  | o ow => exact hr g H a vs o ds z Q G.fr ow.at_ rl e fun v u rv ow2 => q v _ (G.mut hi hσ ow2) (Ext.mut G hi hσ) rv
theorem tMut_LE {T : String} {r : V → List V → Hp → VK → Prop} {f : Own → List D → Option (D × Own)} {m : M R} {ms : List (M R)} {Q : VK} (hr : OpMut w K r f) (h : LE w K (mMut T f m ms) σ H Q) : tBX K T r (LE w K m) (LD w K (mShs ms)) σ H Q := by
  obtain ⟨g, s, G, res, s', e, q⟩ := h
  unfold mMut at e
  cases ea : m s with
  | none => rw [ea] at e; cases e
  | some p =>
    obtain ⟨ra, s1⟩ := p
    rw [ea] at e
    simp only [Option.bind_some] at e
    split at e
    · rename_i i
      split at e
      · rename_i o0 h0
        split at e
        · rename_i hT
          cases eb : mShs ms s1 with
          | none => rw [eb] at e; cases e
          | some p2 =>
            obtain ⟨ds, s2⟩ := p2
            rw [eb] at e
            simp only [Option.bind_some] at e
            split at e
            · rename_i o h2
              obtain ⟨z, e2, e3⟩ := Option.map_eq_some_iff.mp e
              simp only [Prod.mk.injEq] at e3
              obtain ⟨rfl, rfl⟩ := e3
              refine LE.use G ea fun v1 g1 H1 G1 E1 R1 => ?_
              cases R1 with
              | b hσ =>
                have sr := G1.env i _ _ h0 hσ
                cases sr with
                | o ow =>
                  refine ⟨ty_O ow.at_ hT, g1, s1, G1, ds, s2, eb, fun vs g2 H2 G2 E2 R2 => ?_⟩
                  exact mut_core hr G2 h2 hσ R2 e2 fun v H3 G3 E3 rv => q v g2 H3 G3 ((E1.trans E2).trans E3) (.d rv)
            · cases e
        · cases e
      · cases e
    · cases e
theorem tMut0_LE {T : String} {r : V → List V → Hp → VK → Prop} {f : Own → List D → Option (D × Own)} {m : M R} {Q : VK} (hr : OpMut w K r f) (h : LE w K (mMut T f m []) σ H Q) : tBX0 K T r (LE w K m) σ H Q := by
  have := tMut_LE hr h
  obtain ⟨g, s, G, r', s', e, q⟩ := this
  exact ⟨g, s, G, r', s', e, fun v g' H' a b c => let ⟨h1, h2⟩ := q v g' H' a b c; ⟨h1, LD_nil h2⟩⟩
/-! ### lists -/
def fAppend : Own → List D → Option (D × Own)
  | .l xs, [d] => if xs.length < sizeLine then some (.non, .l (xs ++ [d])) else none
  | _, _ => none
theorem o_append : OpMut w K rAppend fAppend := fun g H a vs o ds z Q hf ow rl e q => by
  unfold fAppend at e
  split at e
  · split at e
    · rename_i hz
      cases e
      obtain ⟨us, ha, ru⟩ := ow
      cases rl with
      | cons b c =>
        cases c
        exact ⟨a, us, _, rfl, rfl, ha, by rw [ru.length]; exact hz, q .non _ .non ⟨_, upd_same, ru.append (.one b)⟩⟩
    · cases e
  · cases e
def fExtend : Own → List D → Option (D × Own)
  | .l xs, [.lst ys] => if xs.length + ys.length ≤ sizeLine then some (.non, .l (xs ++ ys)) else none
  | _, _ => none
theorem o_extend : OpMut w K rExtend fExtend := fun g H a vs o ds z Q hf ow rl e q => by
  unfold fExtend at e
  split at e
  · split at e
    · rename_i hz
      cases e
      obtain ⟨us, ha, ru⟩ := ow
      cases rl with
      | cons b c =>
        cases c
        cases b with
        | lst hb rb => exact ⟨a, _, us, _, rfl, rfl, ha, hf _ _ hb, by rw [ru.length, rb.length]; exact hz, q .non _ .non ⟨_, upd_same, ru.append rb⟩⟩
    · cases e
  · cases e
def fPop : Own → List D → Option (D × Own)
  | .l xs, [] => (xs[xs.length - 1]?).map fun d => (d, .l xs.dropLast)
  | _, _ => none
theorem o_pop : OpMut w K rPop fPop := fun g H a vs o ds z Q hf ow rl e q => by
  unfold fPop at e
  split at e
  · obtain ⟨d, e1, rfl⟩ := Option.map_eq_some_iff.mp e
    obtain ⟨us, ha, ru⟩ := ow
    cases rl
    obtain ⟨v, h1, h2⟩ := ru.get' e1
    exact ⟨a, us, v, rfl, rfl, ha, by rw [ru.length]; exact h1, q v _ h2 ⟨_, upd_same, ru.dropLast⟩⟩
  · cases e
def fPopAt : Own → List D → Option (D × Own)
  | .l xs, [.int i] => if -(2 ^ 63) ≤ i ∧ i < 2 ^ 63 then (seqIndex? i xs.length).bind fun k => (xs[k]?).map fun d => (d, .l (xs.eraseIdx k)) else none
  | _, _ => none
theorem o_popAt : OpMut w K rPopAt fPopAt := fun g H a vs o ds z Q hf ow rl e q => by
  unfold fPopAt at e
  split at e
  · split at e
    · rename_i hb
      obtain ⟨k, e1, e2⟩ := Option.bind_eq_some_iff.mp e
      obtain ⟨d, e3, rfl⟩ := Option.map_eq_some_iff.mp e2
      obtain ⟨us, ha, ru⟩ := ow
      cases rl with
      | cons b c =>
        cases c
        cases b
        obtain ⟨v, h1, h2⟩ := ru.get' e3
        exact ⟨a, us, _, k, v, rfl, rfl, ha, hb.1, hb.2, by rw [ru.length]; exact e1, h1, q v _ h2 ⟨_, upd_same, ru.erase k⟩⟩
    · cases e
  · cases e
def fReverse : Own → List D → Option (D × Own)
  | .l xs, [] => some (.non, .l xs.reverse)
  | _, _ => none
theorem o_reverse : OpMut w K rReverse fReverse := fun g H a vs o ds z Q hf ow rl e q => by
  unfold fReverse at e
  split at e
  · cases e
    obtain ⟨us, ha, ru⟩ := ow
    cases rl
    exact ⟨a, us, rfl, rfl, ha, q .non _ .non ⟨_, upd_same, ru.reverse⟩⟩
  · cases e
/-! ### o[i] = v -/
def fSetI : Own → List D → Option (D × Own)
  | .l xs, [.int i, d] => (ixN xs.length i).map fun j => (.non, .l (xs.set j d))
  | .k kvs, [k, d] => if kvs.length < sizeLine then (keyOk kvs k).map fun nk => (.non, .k (putK kvs nk k d)) else none
  | _, _ => none
def rSetX (w : World) (K : PySem.W.Frag) : TSet := fun o i v H Q => rSetL o i v H Q ∨
  ∃ a xs k, o = .ref a ∧ DV w K H a xs ∧ FamOk xs k ∧ KeyV K H i k ∧ k.depth ≤ 8 ∧ xs.length < sizeLine ∧ ∀ es' ep', Paired (EntV w) es'.toList (putX xs k i v) → Q (upd H a (dxO a es' ep'))
theorem set_x {X : Cx} (hu : X.A.units + 64 < cLine) : PSet X (rSetX X.w X.K) := by
  intro pins s σ H o i v ov iv u Q I ro ri rv h
  rcases h with h | ⟨a, xs, k, eo, dv, fam, hk, hd, hz, q⟩
  · exact set_list pins s σ H o i v ov iv u Q I ro ri rv h
  · subst eo
    cases ro
    exact dx_set hu I dv fam hk hd hz ri rv fun es' ep' s' hp I' => ⟨_, I', q es' ep' hp⟩
theorem setI_ok {g : Gh} {a : Addr} {i v : V} {o : Own} {di dv : D} {z : D × Own} {Q : Hp → Prop} (hf : Sub g.F H) (ow : OwnAt w K H g a o) (ri : Rep1 w K H g i di) (rk : Rep w K g.st g.F i di) (rv : Rep w K g.st g.F v dv) (e : fSetI o [di, dv] = some z)
    (q : ∀ u, OwnAt w K (upd H a u) g a z.2 → Q (upd H a u)) : rSetX w K (.ref a) i v H Q := by
  unfold fSetI at e
  split at e
  · rename_i e1
    simp only [List.cons.injEq, and_true] at e1
    obtain ⟨rfl, rfl⟩ := e1
    obtain ⟨j, e2, rfl⟩ := Option.map_eq_some_iff.mp e
    obtain ⟨us, ha, ru⟩ := ow
    cases ri
    exact .inl ⟨a, us, _, j, rfl, rfl, ha, by rw [ru.length]; exact e2, q _ ⟨_, upd_same, ru.set rv j⟩⟩
  · rename_i e1
    simp only [List.cons.injEq, and_true] at e1
    obtain ⟨rfl, rfl⟩ := e1
    split at e
    · rename_i hz
      obtain ⟨nk, e2, rfl⟩ := Option.map_eq_some_iff.mp e
      obtain ⟨es, ep, ha, ok, re⟩ := ow
      obtain ⟨xs, dv', rx⟩ := repX_dv hf ha ok re
      obtain ⟨t1, fam, dep, _⟩ := keyOk_fam rx e2
      have hl := congrArg List.length (repX_keys rx)
      simp only [List.length_map] at hl
      refine .inr ⟨a, xs, nk, rfl, dv', fam, ri.key hf t1, dep, by omega, fun es' ep' hp => q _ ?_⟩
      obtain ⟨h1, h2⟩ := dct_put (st := g.st) hf dv' rx e2 rk rv hp
      exact ⟨es', ep', upd_same, h1, h2⟩
    · cases e
  · cases e
/-- the target o[i] -/
def tgSub (mo mi : M R) : D → S → Option S := fun d s => (mo s).bind fun p => match p.1 with
  | .b i => (mi p.2).bind fun q => (mShare q.1 q.2).bind fun q2 => match q2.2.env[i]? with
    | some (.o o) => (fSetI o [q2.1, d]).map fun z => { q2.2 with env := q2.2.env.set i (.o z.2) }
    | _ => none
  | _ => none
theorem gSub_LG {ts : List Nat} {mo mi : M R} {v : V} {Q : St → Hp → Prop} (h : LG w K ts (tgSub mo mi) v σ H Q) : gSub (LE w K mo) (LE w K mi) (rSetX w K) v σ H Q := by
  obtain ⟨g, s, d, G, rv, s', e, q⟩ := h
  unfold tgSub at e
  cases ea : mo s with
  | none => rw [ea] at e; cases e
  | some p =>
    obtain ⟨ra, s1⟩ := p
    rw [ea] at e
    simp only [Option.bind_some] at e
    split at e
    · rename_i i
      cases eb : mi s1 with
      | none => rw [eb] at e; cases e
      | some p2 =>
        obtain ⟨rb, s2⟩ := p2
        rw [eb] at e
        simp only [Option.bind_some] at e
        cases ec : mShare rb s2 with
        | none => rw [ec] at e; cases e
        | some p3 =>
          obtain ⟨di, s3⟩ := p3
          rw [ec] at e
          simp only [Option.bind_some] at e
          split at e
          · rename_i o h3
            obtain ⟨z, e2, rfl⟩ := Option.map_eq_some_iff.mp e
            refine LE.use G ea fun v1 g1 H1 G1 E1 R1 => ?_
            cases R1 with
            | b hσ =>
              rename_i vb
              refine LE.use G1 eb fun v2 g2 H2 G2 E2 R2 => ?_
              obtain ⟨g3, G3, E3, rep, hm, hst⟩ := share_ok G2 R2 E2 ec
              have sr := G3.env i _ _ h3 hσ
              cases sr with
              | o ow =>
                have E13 := E1.trans E3
                exact setI_ok G3.fr ow.at_ (rep.one1 G3.fr) rep (rv.mono E13.st E13.mono) e2 fun u ow2 => q σ g3 _ (G3.mut h3 hσ ow2) (E13.trans (Ext.mut G3 h3 hσ)) (Off.refl _ _)
          · cases e
    · cases e

/-! ### dicts: get, sum of the values -/
def rDGet (w : World) (K : PySem.W.Frag) : V → List V → Hp → VK → Prop := fun x vs H Q => ∃ a xs k y d, x = .ref a ∧ vs = [y, d] ∧ DV w K H a xs ∧ FamOk xs k ∧ KeyV K H y k ∧ k.depth ≤ 8 ∧ Q ((getX xs k).getD d) H
theorem relO_getD {o : Option V} {u : Option Value} {d : V} {e : Value} (h : RelO o u) (r : RelV d e) : RelV (o.getD d) (u.getD e) := by
  cases o with
  | none => cases u with
    | none => exact r
    | some _ => exact absurd h (by intro z; cases z)
  | some v => cases u with
    | none => exact absurd h (by intro z; cases z)
    | some _ => exact h
theorem mt_dget {X : Cx} (hu : X.A.units + 64 < cLine) : MtR X "dict.get" (rDGet X.w X.K) := by
  intro pins s σ H x vs v us Q I rx rv h
  obtain ⟨a, xs, k, y, d, rfl, rfl, dv, fam, hk, hd, q⟩ := h
  cases rx
  obtain ⟨u1, u2, rfl, r1, r2⟩ := Vals.two rv
  have hT : s.TypeIs (.ref a) "dict" := by
    obtain ⟨es, ep, e, _⟩ := dv.ex
    exact (dx_raw I e).1.typeIs
  obtain ⟨hS, hz, ⟨c, kvs, hc, dd, rel⟩ | ⟨ht, ys, dd, rel⟩⟩ := dv.forms I fam
  · refine call_meetsIn PySem.F.slot_dict_get hT PySem.F.entry_dict_get (PySem.F.args_dict_get_3 _ _ _) (meets_dict_get_default (mixKind X.prog X.w) a (k := c) (kV_is (by rw [← (nkKey_v (w := X.w) hk hc).1]; exact r1)) hS u2) ⟨_, dd.mapOf, ?_⟩
    exact ⟨_, H, I.tok _, relO_getD (rk_get hc rel) r2, q⟩
  · obtain ⟨b, rfl⟩ := nkTup_v hk ht
    cases r1
    refine call_meetsIn PySem.F.slot_dict_get hT PySem.F.entry_dict_get (PySem.F.args_dict_get_3 _ _ _) (meetsH_dict_get_default (nestedKind X.prog X.w) a b hS u2) ⟨key_room (X := X) hu, k, ys, ⟨hk.is I rfl, hd⟩, dd, ?_⟩
    exact ⟨_, H, I.tok _, relO_getD (rt_get rel) r2, q⟩
theorem o_dget : OpT w K (rDGet w K) fDGet := fun g H x xs dx ds res Q hf hx hxs e q => by
  unfold fDGet at e
  split at e
  · obtain ⟨nk, e1, rfl⟩ := Option.map_eq_some_iff.mp e
    cases hx with
    | dct ha ok re =>
      cases hxs with
      | cons a b =>
        cases b with
        | cons b c =>
          cases c
          obtain ⟨xs, dv, rx⟩ := repX_dv hf ha ok re
          obtain ⟨t1, fam, dep, _⟩ := keyOk_fam rx e1
          refine ⟨_, xs, nk, _, _, rfl, rfl, dv, fam, (a.one1 hf).key hf t1, dep, k_rep ?_ hf q⟩
          obtain ⟨h1, h2⟩ := repX_get (k := nk) rx
          cases h3 : getK _ nk with
          | none =>
            rw [h3] at h1
            cases h4 : getX xs nk with
            | none => exact b
            | some _ => rw [h4] at h1; cases h1
          | some d =>
            obtain ⟨v, h4, h5⟩ := h2 d h3
            rw [h4]; exact h5
  · cases e
/-- sum(d.values()) -/
def viewO (r a : Addr) : HO := .ext fun h => h.get? r = some { cls := .type "dict_values", data := .fields #[.ref a] }
def tVals (te : TE) : TE := fun σ H Q => te σ H fun x H1 => ∃ a es ep, x = .ref a ∧ H1 a = some (dxO a es ep) ∧ ∀ r, H1 r = none → Q (.ref r) (upd H1 r (viewO r a))
theorem pe_vals {X : Cx} {e : Expr} {te : TE} {apos cpos : Pos} (he : PE X e te) (hbase : attributeBase e "values" X.env (eval e X.env) = eval e X.env := by rfl) (hline : (apos.endLine == cpos.line) = true := by rfl) : PE X (.Call (.Attribute e "values" apos) [] [] cpos) (tVals te) := by
  refine ⟨fun pins s σ H Q I h => ?_⟩
  refine wpAny_Call_method (T := "dict") (id := "dict.values") hbase rfl hline F.plainAttrs_dict F.slot_dict_values F.type_dict_values (thn (he.run pins s σ H _ I h) fun u s1 ⟨x, H1, I1, rx, a, es, ep, ex, ha, q⟩ => ?_)
  subst ex
  obtain rfl : u = Value.ref a := rx
  obtain ⟨raw, hS, hz⟩ := dx_raw I1 ha
  refine ⟨raw.typeIs, dx_noDict I1 ha, ?_⟩
  have gp : (s1.heap.push { cls := .type "dict_values", data := .fields #[.ref a] }).get? s1.heap.objs.size = some { cls := .type "dict_values", data := .fields #[.ref a] } := Heap.get?_push_size _ rfl
  have I2 : Inv X pins σ (upd H1 s1.heap.objs.size (viewO s1.heap.objs.size a)) { s1 with heap := s1.heap.push { cls := .type "dict_values", data := .fields #[.ref a] } } :=
    I1.laid (t' := s1.toks) (fun b ob q => Heap.get?_push_of_some _ q) (Nat.le_refl _) ⟨gp, ⟨_, gp⟩, fun h1 h2 e k => k _ e⟩
  show wpAny _ _ (callWith cpos (.builtin "dict.values") [.ref a] [] []) _ X.xe s1
  exact method_meetsIn F.slot_dict_values F.entry_dict_values rfl (PySem.evalArgs_none ⟨rfl, raw.typeIs, F.args_dict_values_1 _, _, meets_dict_values_raw a hS, ⟨es, ep, raw⟩, ⟨.ref s1.heap.objs.size, _, I2, rfl, q _ (I1.hok.fresh (Nat.le_refl _))⟩⟩)
def rSumV : List V → Hp → VK → Prop := fun vs H Q => ∃ r a es ep, ∃ ns : List Int, vs = [.ref r] ∧ H r = some (viewO r a) ∧ H a = some (dxO a es ep) ∧ Paired EVv es.toList (ns.map V.int) ∧ Q (.int ns.sum) H
theorem call_sumV {X : Cx} (hc : X.calm = true) : CallR X (.builtin "sum") rSumV := by
  intro pins s σ H xs us Q I r h
  obtain ⟨rv, a, es, ep, ns, rfl, hr, ha, hp, q⟩ := h
  obtain ⟨u, rfl, ru⟩ := Vals.one r
  cases ru
  obtain ⟨raw, hS, hz⟩ := dx_raw I ha
  obtain ⟨hv, _⟩ := I.hok rv _ hr
  have hv : s.heap.get? rv = some { cls := .type "dict_values", data := .fields #[.ref a] } := hv
  have hl : es.size = ns.length := by simpa using hp.length
  refine call_sum_walkG (wpAny_pyIter_values_raw (d := a) ⟨_, hv, rfl, rfl⟩ raw ?_)
  have hal : a < s.heap.objs.size := by obtain ⟨o, e, _⟩ := raw; exact Heap.lt_size e
  refine ⟨s.heap.objs.size, _, _, _, _, _, fun i => ns.getD i 0, rfl, Walks.rawValues (prog := X.prog) (w := X.w) (A := X.A.in1) (show X.A.in1.handled = none from I.ok.hd hc) _ a (Nat.ne_of_lt hal) es ep, ⟨⟨_, Heap.get?_push_size _ rfl, rfl, rfl⟩, raw.at fun o e => Heap.get?_push_of_some _ e⟩, fun b hb => ?_, fun i v hv => ?_, fun h' tk t' hk => ?_⟩
  · rw [Heap.size_push]
    have : b = s.heap.objs.size ∨ b = a := by simpa using hb
    rcases this with rfl | rfl
    · exact Nat.lt_succ_self _
    · exact Nat.lt_succ_of_lt hal
  · obtain ⟨hi, rfl⟩ := hv
    obtain ⟨x, hx, rx⟩ := paired_at hp (ent_at hi)
    rw [List.getElem?_map] at hx
    obtain ⟨n, hn, rfl⟩ := Option.map_eq_some_iff.mp hx
    obtain ⟨t, e⟩ := rx
    exact ⟨t, by rw [e]; simp [hn]⟩
  · rw [PyProof.Rows.preSum_getD, hl, List.take_length]
    refine ⟨.int ns.sum, H, I.kept (fun b o e => ?_), ⟨_, rfl⟩, q⟩
    exact hk b o (fun z => by rw [List.mem_singleton.mp z] at e; exact absurd (Heap.lt_size e) (Nat.lt_irrefl _)) (Heap.get?_push_of_some _ e)
def fSumV : D → Option R
  | .dct kvs => (intsD (kvs.map (·.2))).map fun ns => .d (.int ns.sum)
  | _ => none
theorem tSumV_LE {m : M R} {Q : VK} (h : LE w K (mUn fSumV m) σ H Q) : tCB rSumV (tCons (tVals (LE w K m)) tNil) σ H Q := by
  obtain ⟨g, s, G, res, s', e, q⟩ := h
  unfold mUn at e
  cases ea : m s with
  | none => rw [ea] at e; cases e
  | some p =>
    obtain ⟨ra, s1⟩ := p
    rw [ea] at e
    simp only [Option.bind_some] at e
    split at e
    · rename_i x e1
      obtain ⟨res', e2, e3⟩ := Option.map_eq_some_iff.mp e
      simp only [Prod.mk.injEq] at e3
      obtain ⟨rfl, rfl⟩ := e3
      refine LE.use G ea fun v1 g1 H1 G1 E1 R1 => ?_
      have r1 := R1.peek G1 e1
      unfold fSumV at e2
      split at e2
      · obtain ⟨ns, e4, rfl⟩ := Option.map_eq_some_iff.mp e2
        cases r1 with
        | dct ha ok re =>
          obtain ⟨xs, hp, rl⟩ := repE_v re
          refine ⟨_, _, _, rfl, ha, fun r hr => ?_⟩
          have hne := ne_of_none ha hr
          refine ⟨r, _, _, _, ns, rfl, upd_same, by rw [upd_ne hne]; exact ha, by rw [← intsD_rep e4 rl]; exact hp, ?_⟩
          exact q _ g1 _ (G1.pure (ExtP.new G1.fr hr)) (E1.trans (Ext.ofP (ExtP.new G1.fr hr))) (.d (.int _))
      · cases e2
    · cases e
end
end PD
/-! PD: new dicts, dict comprehensions (the kit's own walk of a block, the dict told entry by entry). -/
namespace PD
open PySem PySem.Spec PyProof.Rows L2

section
variable {X : Cx} {pins : List (Addr × Obj)} {σ : L2.St} {H : Hp} {s : Shared} {A : Around} {E : Value → Shared → Prop} {a : Addr} {xs : List XE} {k : NestedKey} {y v : V} {u r : Value}
theorem key_roomA (hu : A.units + 64 < cLine) : (nestedKind X.prog X.w).room A := by show A.units + 8 < cLine; omega
theorem dx_dset {Q : Unit → Shared → Prop} (hu : A.units + 64 < cLine) (I : Inv X pins σ H s) (D : DV X.w X.K H a xs) (F : FamOk xs k) (hk : KeyV X.K H y k) (hd : k.depth ≤ 8) (hl : xs.length < sizeLine) (ry : RelV y u) (rv : RelV v r)
    (h : ∀ es' ep' s', Paired (EntV X.w) es'.toList (putX xs k y v) → Inv X pins σ (L2.upd H a (dxO a es' ep')) s' → Q () s') : wpAny (model X.prog X.w) A (dictSet a u r) Q E s := by
  have e0 := D.ex
  obtain ⟨es, ep, e, _⟩ := e0
  obtain ⟨hS, hz, ⟨c, vs, hc, dd, rel⟩ | ⟨ht, ys, dd, rel⟩⟩ := D.forms I F
  · have hvs : vs.length ≤ sizeLine := by rw [← rel.length]; exact hz
    have ev := (nkKey_v (w := X.w) hk hc).1
    refine wpAny_dictSet_pairs (hsz := hvs) (kV_is (by rw [← ev]; exact ry)) dd fun h' dd' hs => ?_
    obtain ⟨o, es', ep', ho, hx, hdat, hko, hpr, hnd⟩ := dd'
    have hp : Paired (EntV X.w) es'.toList (putX xs k y v) := back_k hpr (fun e he => hko e (by simpa using he)) (by rw [ev]; exact rk_put hc rv rel)
    refine h es' ep' _ hp (I.write (x := a) (e := a) (by rw [e]; exact True.intro) (.inl rfl) (fun b q hb z => (hs.2 b hb).trans z) ⟨o, ho⟩ ?_)
    have eo : o = { cls := .type "dict", data := .dict es' ep' } := by
      obtain ⟨c1, c2, c3, c4⟩ := o
      obtain ⟨h1, h2, h3⟩ := hx
      simp only at h1 h2 h3 hdat
      subst h1 h2 h3 hdat
      rfl
    rw [eo] at ho
    have hl2 := hp.length
    have hl3 := putX_len xs k y v
    simp only [Array.length_toList] at hl2
    exact ⟨⟨ho, hS, by omega⟩, ⟨_, ho⟩, fun h1 h2 q st => ⟨st _ q.1, q.2⟩⟩
  · obtain ⟨b, rfl⟩ := nkTup_v hk ht
    cases (show u = Value.ref b from ry)
    have hys : ys.length ≤ sizeLine := by rw [← rel.length]; exact hz
    refine wpAny_dictSet_heap (hsz := hys) (key_roomA (X := X) hu) ⟨hk.is I rfl, hd⟩ dd fun h' dd' hs => ?_
    obtain ⟨o, es', ep', ho, hx, hdat, hes, _, hnd⟩ := dd'
    have hp : Paired (EntV X.w) es'.toList (putX xs k (.ref b) v) := by rw [hes]; exact back_t (rt_put rv rel)
    refine h es' ep' _ hp (I.write (x := a) (e := a) (by rw [e]; exact True.intro) (.inl rfl) (fun b q hb z => (hs.2 b hb).trans z) ⟨o, ho⟩ ?_)
    have eo : o = { cls := .type "dict", data := .dict es' ep' } := by
      obtain ⟨c1, c2, c3, c4⟩ := o
      obtain ⟨h1, h2, h3⟩ := hx
      simp only at h1 h2 h3 hdat
      subst h1 h2 h3 hdat
      rfl
    rw [eo] at ho
    have hl2 := hp.length
    have hl3 := putX_len xs k (.ref b) v
    simp only [Array.length_toList] at hl2
    exact ⟨⟨ho, hS, by omega⟩, ⟨_, ho⟩, fun h1 h2 q st => ⟨st _ q.1, q.2⟩⟩
end
abbrev noE : Array DictEntry := #[]
theorem dx_new {P : Program} {w : World} {H : Hp} (h : Heap) (hb : sysModules < h.objs.size) : ObjOk P w H (h.push { cls := .type "dict", data := .dict #[] }) h.objs.size (dxO h.objs.size noE 0) := by
  have g : (h.push { cls := .type "dict", data := .dict #[] }).get? h.objs.size = some { cls := .type "dict", data := .dict #[] } := Heap.get?_push_size _ rfl
  exact ⟨⟨g, beq_eq_false_iff_ne.mpr (Ne.symm (Nat.ne_of_lt hb)), Nat.zero_le _⟩, ⟨_, g⟩, fun h1 h2 e kk => ⟨kk _ e.1, e.2⟩⟩
section
variable {X : Cx}
/-- {} -/
def tDNewX : TE := fun _ H Q => ∀ p, H p = none → Q (.ref p) (upd H p (dxO p noE 0))
theorem pe_dnewX {pos : Pos} : PE X (.Dict [] [] pos) tDNewX := by
  refine ⟨fun pins s σ H Q I h => wpAny_Dict_empty ?_⟩
  exact ⟨.ref s.heap.objs.size, _, I.laid (t' := s.toks) (fun _ _ q => Heap.get?_push_of_some _ q) (Nat.le_refl _) (dx_new s.heap I.big), rfl, h _ (I.hok.fresh (Nat.le_refl _))⟩
/-- the new dict at E, entry by entry -/
def tDcX (w : World) (K : PySem.W.Frag) (wi : TI) (g : TG) (tt : TT) (tk tv : TE) (vs : List Nat) : TE := fun σ H Q => wi σ H fun J H1 => ∀ D, H1 D = none → ∃ W : Nat → Nat → Hp → Prop, (∃ m, W 0 m (upd H1 D (dxO D noE 0))) ∧ ∀ i m H, W i m H →
  (J.stop i H ∧ Q (.ref D) H) ∨ (J.go i H ∧ ∃ Nx : Hp → Prop, (∀ H', Nx H' → ∃ m', m' < m ∧ W (i + 1) m' H') ∧ ∀ x H', J.yld i H x H' → g x (wipe σ vs) H' fun σ2 H2 => wipe σ2 vs = wipe σ vs ∧ tt σ2 H2 fun b H3 =>
    if b = true then tk σ2 H3 fun y H4 => tv σ2 H4 fun z H5 => ∃ xs k, DV w K H5 D xs ∧ FamOk xs k ∧ KeyV K H5 y k ∧ k.depth ≤ 8 ∧ xs.length < sizeLine ∧ ∀ es' ep', Paired (EntV w) es'.toList (putX xs k y z) → Nx (upd H5 D (dxO D es' ep')) else Nx H3)
theorem dcx_core {pins : List (Addr × Obj)} {s : Shared} {σ : St} {H : Hp} {Q : VK} {kx vx tg iter : Expr} {ifs : List Expr} {scope : Scope} {own : List (Str × Nat)} {pos pos' : Pos} {wi : TI} {g : TG} {tt : TT} {tk tv : TE} {use : Option (Value → Sem Unit)} {Qf : Value → Shared → Prop}
    (hu : X.A.units + 64 < cLine) (hc : X.calm = true) (hN : X.N.Nodup) (I : Inv X pins σ H s) (hi : PI X tg iter wi) (ok : BlkOk X.N X.env.scope scope own)
    (hg : ∀ (s : Shared) (H : Hp) (C : Addr) (cl : List (Str × Addr)) (fp : List Addr), PG (X.blk s H scope (compEnvC scope cl C X.env) fp) tg g) (ht : ∀ (s : Shared) (H : Hp) (C : Addr) (cl : List (Str × Addr)) (fp : List Addr), PTs (X.blk s H scope (compEnvC scope cl C X.env) fp) ifs tt)
    (hk : ∀ (s : Shared) (H : Hp) (C : Addr) (cl : List (Str × Addr)) (fp : List Addr), PE (X.blk s H scope (compEnvC scope cl C X.env) fp) kx tk)
    (he : ∀ (s : Shared) (H : Hp) (C : Addr) (cl : List (Str × Addr)) (fp : List Addr), PE (X.blk s H scope (compEnvC scope cl C X.env) fp) vx tv) (hs : ∀ x, foldedSetIterable iter X.env x = pure x)
    (h : tDcX X.w X.K wi g tt tk tv (own.map (·.2)) σ H Q)
    (hRR : ∀ D C s' m H', Inv X pins σ H' s' → Q (.ref D) H' → s'.heap.Ns C m → FpOk X pins H' C → compPost (model X.prog X.w) X.A X.xe use Qf (.ref D) C (.ok .next) s') :
    wpAny (model X.prog X.w) X.A (comprehension (.DictComp kx vx [⟨tg, iter, ifs, 0⟩] scope pos) scope X.env pos' newDict false (eval iter X.env) use) Qf X.xe s := by
  have hfree : ∀ y ∈ scope.names, y.2 = .free → ∃ c, X.env.cells.lookup y.1 = some c := fun y hy e => by
    rcases ok.free y hy e with k | k
    · exact I.ok.has _ (.inl k)
    · exact I.ok.has _ (.inr k)
  refine wpAny_comprehension_free (use := use) rfl hs (closure_ok hfree) ok.kind (fun y hy e => by rw [ok.uniq y hy, e])
    (thn (hi.run pins s σ H _ I h) fun xv s1 hx => thn hx fun itv s2 h2 => ?_)
  obtain ⟨it, fp, tn, J, H2, e, I2, T, st2, f2, q⟩ := h2
  subst e
  refine wpAny_newObj_type (newEnv_comp ?_)
  generalize hD : s2.heap.objs.size = D
  have hDn : H2 D = none := I2.hok.fresh (Nat.le_of_eq hD)
  obtain ⟨W, ⟨m0, w0⟩, turn⟩ := q D hDn
  -- the new list
  generalize hs3 : ({ s2 with heap := s2.heap.push { cls := .type "dict", data := .dict #[] } } : Shared) = s3
  have I3 : Inv X pins σ (upd H2 D (dxO D noE 0)) s3 := by
    rw [← hs3]
    refine I2.laid (t' := s2.toks) (fun b o e => Heap.get?_push_of_some _ e) (Nat.le_of_eq hD) ?_
    rw [← hD]
    exact dx_new s2.heap I2.big
  have h3 : s3.heap = s2.heap.push { cls := .type "dict", data := .dict #[] } := by rw [← hs3]
  have sz : ∀ b ∈ fp, b < s2.heap.objs.size := fun b hb => by
    obtain ⟨o, e, _⟩ := T.obj _ _ st2 b hb
    exact Heap.lt_size e
  have f3 : ∀ b ∈ fp, FpOk X pins (upd H2 D (dxO D noE 0)) b ∧ b < s3.heap.objs.size := fun b hb => by
    have hlt := sz b hb
    refine ⟨⟨?_, (f2 b hb).2⟩, by rw [h3, Heap.size_push]; exact Nat.lt_succ_of_lt hlt⟩
    rw [upd_ne (by rw [← hD]; exact Nat.ne_of_lt hlt)]
    exact (f2 b hb).1
  have st3 : tn 0 s3.heap := T.keep _ _ _ st2 fun b _ o e => by rw [h3]; exact Heap.get?_push_of_some _ e
  have I4 := block_start I3 ok hN f3
  have pg := hg s3 (upd H2 D (dxO D noE 0)) s3.heap.objs.size (cellsFrom (s3.heap.objs.size + 1) scope.names (cloFrom X.env.cells scope.names [])) fp
  have pt := ht s3 (upd H2 D (dxO D noE 0)) s3.heap.objs.size (cellsFrom (s3.heap.objs.size + 1) scope.names (cloFrom X.env.cells scope.names [])) fp
  have pk := hk s3 (upd H2 D (dxO D noE 0)) s3.heap.objs.size (cellsFrom (s3.heap.objs.size + 1) scope.names (cloFrom X.env.cells scope.names [])) fp
  have pe := he s3 (upd H2 D (dxO D noE 0)) s3.heap.objs.size (cellsFrom (s3.heap.objs.size + 1) scope.names (cloFrom X.env.cells scope.names [])) fp
  show codeAny _ _ (.compStart (.DictComp kx vx [⟨tg, iter, ifs, 0⟩] scope pos) 0 (.ref it) (.ref D) (compEnvC scope (cellsFrom (s3.heap.objs.size + 1) scope.names (cloFrom X.env.cells scope.names [])) s3.heap.objs.size X.env)) (compPost (model X.prog X.w) X.A X.xe use Qf (.ref D) s3.heap.objs.size) { s3 with heap := pushCells (s3.heap.push { cls := .type "dict", data := .dict #[] }) scope.names }
  have nfp : ∀ b ∈ fp, (upd H2 D (dxO D noE 0)) b = none := fun b hb => (f3 b hb).1.1
  generalize hce : compEnvC scope (cellsFrom (s3.heap.objs.size + 1) scope.names (cloFrom X.env.cells scope.names [])) s3.heap.objs.size X.env = ce at I4 pg pt pk pe ⊢
  have cL : ce.locals = s3.heap.objs.size := by subst hce; rfl
  generalize hH3 : upd H2 D (dxO D noE 0) = H3 at I3 I4 pg pt pk pe w0 nfp f3
  generalize hs4 : ({ s3 with heap := pushCells (s3.heap.push { cls := .type "dict", data := .dict #[] }) scope.names } : Shared) = s4 at I4 ⊢
  have st4 : tn 0 s4.heap := T.keep _ _ _ st3 fun b _ o e => by rw [← hs4]; exact pushCells_keeps _ _ _ _ (Heap.get?_push_of_some _ e)
  have stat : ∀ {σ' : St} {H' : Hp} {s' : Shared}, Inv (X.blk s3 H3 scope ce fp) [] σ' H' s' → (∀ b ∈ fp, H' b = none) → ∀ b ∈ fp, FpOk (X.blk s3 H3 scope ce fp) [] H' b := fun {σ' H' s'} I' hn b hb =>
    ⟨hn b hb, (I'.ok.exf b hb).1, I'.ok.exfs b hb, .inl hb, fun x c e => (I'.ok.exf b hb).2 x c e, fun p hp => absurd (show p ∈ ([] : List (Addr × Obj)) ++ [] from hp) (by simp)⟩
  have loop : codeAny (model X.prog X.w) X.A (.compLoop (.DictComp kx vx [⟨tg, iter, ifs, 0⟩] scope pos) 0 (.ref it) (.ref D) ce) (compPost (model X.prog X.w) X.A X.xe use Qf (.ref D) s3.heap.objs.size) s4 := by
    refine compLoop_anyD (fun n s' => ∃ i H', Inv (X.blk s3 H3 scope ce fp) [] (wipe σ (own.map (·.2))) H' s' ∧ tn i s'.heap ∧ (∀ b ∈ fp, H' b = none) ∧ W i n H') ?_ m0 ⟨0, H3, I4, st4, nfp, w0⟩
    rintro n s5 ⟨i, H5, I5, st5, n5, w5⟩
    rcases turn i n H5 w5 with ⟨stop, qq⟩ | ⟨go, Nx, hNx, step⟩
    · have td := T.done (X.blk s3 H3 scope ce fp) rfl rfl rfl hc i [] s5 _ H5 (fun _ _ => False) I5 (stat I5 n5) st5 stop
      refine thnF td fun r s6 ⟨hr, I6⟩ => ?_
      subst hr
      -- back in the def's context
      have I7 : Inv X pins σ H5 s6 := I3.call' (ch := fp) I6.os I6.base I6.hok I6.bare fun b hb => ⟨(f3 b hb).1.2.2.2.1, (f3 b hb).1.2.1, (f3 b hb).1.2.2.2.2.1, (f3 b hb).1.2.2.2.2.2⟩
      have nC : H5 s3.heap.objs.size = none := by
        have z : H5 ce.locals = none := I6.free
        rw [cL] at z
        exact z
      obtain ⟨m, hn, _⟩ := I6.loc
      have hn : s6.heap.Ns ce.locals m := hn
      rw [cL] at hn
      exact hRR D s3.heap.objs.size s6 m H5 I7 qq hn (I3.fpOk (Nat.le_refl _) nC)
    · have ti := T.item (X.blk s3 H3 scope ce fp) rfl rfl rfl hc i [] s5 _ H5 (fun _ _ => False) I5 (stat I5 n5) st5 go
      refine thnF ti fun r s6 ⟨u, hr, h6⟩ => ?_
      subst hr
      refine thnF h6 fun _ s7 ⟨x, H7, I7, r7, y7, st7, n7⟩ => ?_
      have I7' := I7.pinned (stat I7 n7) (T.obj _ _ st7)
      refine thnF (pg.run _ s7 _ H7 x u _ I7' r7 (step x H7 y7)) fun _ s8 ⟨σ8, H8, I8, hw8, q8⟩ => ?_
      refine thnF (pt.run _ s8 σ8 H8 _ I8 q8) fun b s9 ⟨H9, I9, q9⟩ => ?_
      -- the turn's end
      have fin : ∀ {s' : Shared} {H' : Hp}, Inv (X.blk s3 H3 scope ce fp) ([] ++ pinsAt fp s7.heap) σ8 H' s' → Nx H' → ∃ m, m < n ∧ ∃ i H', Inv (X.blk s3 H3 scope ce fp) [] (wipe σ (own.map (·.2))) H' s' ∧ tn i s'.heap ∧ (∀ b ∈ fp, H' b = none) ∧ W i m H' := fun {s' H'} I' nx => by
        obtain ⟨m', hm, w'⟩ := hNx H' nx
        have pin' : ∀ b ∈ fp, ∀ o, s7.heap.get? b = some o → s'.heap.get? b = some o ∧ H' b = none := fun b hb o e =>
          let z := I'.pin (b, o) (List.mem_append_right _ (List.mem_append_right _ (mem_pinsAt hb e)))
          ⟨z.1, z.2.1⟩
        have hl : (wipe σ (own.map (·.2))).length = σ8.length := by rw [← hw8, wipe_length]
        refine ⟨m', hm, i + 1, H', (I'.unpinned (pins := [])).weak hl (fun j v e => ?_), T.keep _ _ _ st7 fun b hb o e => (pin' b hb o e).1, fun b hb => ?_, w'⟩
        · rw [← hw8] at e
          exact (wipe_some e).1
        · obtain ⟨o, e, _⟩ := T.obj _ _ st7 b hb
          exact (pin' b hb o e).2
      cases b with
      | false =>
        simp only [Bool.false_eq_true, if_false] at q9 ⊢
        exact fin I9 q9
      | true =>
        simp only [if_true] at q9 ⊢
        refine thnF (pk.run _ s9 σ8 H9 _ I9 q9) fun z s10 ⟨yk, H10, I10, r10, q10⟩ => ?_
        refine thnF (pe.run _ s10 σ8 H10 _ I10 q10) fun z2 s11 ⟨yv, H11, I11, r11, xs, k, dv, fam, kk, dep, hz11, nx⟩ => ?_
        exact dx_dset (X := X.blk s3 H3 scope ce fp) hu I11 dv fam kk dep hz11 r10 r11 fun es' ep' s12 hp I12 => fin I12 (nx es' ep' hp)
  exact codeAny_compStart_dict loop (T.self X.A 0 _ _ _ st4 loop)
/-- as a value -/
theorem pe_dcx {kx vx tg iter : Expr} {ifs : List Expr} {scope : Scope} {own : List (Str × Nat)} {pos : Pos} {wi : TI} {g : TG} {tt : TT} {tk tv : TE} (hu : X.A.units + 64 < cLine) (hc : X.calm = true) (hN : X.N.Nodup) (hi : PI X tg iter wi) (ok : BlkOk X.N X.env.scope scope own)
    (hg : ∀ (s : Shared) (H : Hp) (C : Addr) (cl : List (Str × Addr)) (fp : List Addr), PG (X.blk s H scope (compEnvC scope cl C X.env) fp) tg g) (ht : ∀ (s : Shared) (H : Hp) (C : Addr) (cl : List (Str × Addr)) (fp : List Addr), PTs (X.blk s H scope (compEnvC scope cl C X.env) fp) ifs tt)
    (hk : ∀ (s : Shared) (H : Hp) (C : Addr) (cl : List (Str × Addr)) (fp : List Addr), PE (X.blk s H scope (compEnvC scope cl C X.env) fp) kx tk)
    (he : ∀ (s : Shared) (H : Hp) (C : Addr) (cl : List (Str × Addr)) (fp : List Addr), PE (X.blk s H scope (compEnvC scope cl C X.env) fp) vx tv) (hs : ∀ x, foldedSetIterable iter X.env x = pure x := by intro _; rfl) :
    PE X (.DictComp kx vx [⟨tg, iter, ifs, 0⟩] scope pos) (tDcX X.w X.K wi g tt tk tv (own.map (·.2))) := by
  refine ⟨fun pins s σ H Q I h => ?_⟩
  rw [arm_eval_DictComp]
  refine dcx_core hu hc hN I hi ok hg ht hk he hs h fun D C s' m H' I' q hn f => ⟨m, hn, fun h'' sb => ?_⟩
  obtain ⟨f0, f1, f2, f3, f4, f5⟩ := f
  exact ⟨.ref D, H', I'.turned (t' := s'.toks) (fun b o hb e => (sb.2 b hb).trans e) f0 f1 f3 f4 f5, rfl, q⟩
end
end PD
/-! PD: dict displays and comprehensions as data. -/
namespace PD
open PySem PySem.Spec PyProof.Rows L2

def mDNew : M R := fun s => some (.t (.k []), s)
def dcLoop (t : D → S → Option S) (tt : M Bool) (tk tv : M R) (vs : List Nat) : List D → List (D × D) → M (List (D × D))
  | [], acc => fun s => some (acc, s)
  | d :: ds, acc => fun s => (t d s).bind fun s1 => (tt s1).bind fun p => if p.1 = true then
      (tk p.2).bind fun rk => (mShare rk.1 rk.2).bind fun k => (tv k.2).bind fun rv => (mShare rv.1 rv.2).bind fun v =>
        if acc.length < sizeLine then (keyOk acc k.1).bind fun nk => dcLoop t tt tk tv vs ds (putK acc nk k.1 v.1) (wipeS vs v.2) else none
    else dcLoop t tt tk tv vs ds acc (wipeS vs p.2)
def mDc (mi : M (List D)) (t : D → S → Option S) (tt : M Bool) (tk tv : M R) (vs : List Nat) : M R := fun s => (mi s).bind fun p =>
  (dcLoop t tt tk tv vs p.1 [] (wipeS vs p.2)).bind fun q => some (.t (.k q.1), ⟨restE p.2.env vs q.2.env, q.2.ds⟩)
section
variable {w : World} {K : PySem.W.Frag} {g : Gh} {s : S} {σ : St} {H : Hp}
theorem dct_nil : DctOk w ([] : List DictEntry) [] := ⟨rfl, fun i e p h => (by simp at h), .inl fun p hp => (by cases hp), List.nodup_nil⟩
theorem tDNew_LE {Q : VK} (h : LE w K mDNew σ H Q) : tDNewX σ H Q := by
  obtain ⟨g, s, G, res, s', e, q⟩ := h
  cases e
  intro p hp
  have EP : ExtP g H g (upd H p (dxO p noE 0)) := ExtP.new G.fr hp
  have hr : RP w K H g (upd H p (dxO p noE 0)) (.ref p) (.t (.k [])) := .t hp ⟨⟨noE, 0, upd_same, dct_nil, .nil⟩, G.fr.none hp⟩
  exact q (.ref p) _ _ (G.pure EP) (Ext.ofP EP) (hr.rr G EP)
/-- an object of ours that is no slot's is written -/
theorem acc_upd {A : Addr} {u : HO} (G : Good w K g s σ H) (nF : g.F A = none) (nW : ¬ PD.W g s.env σ A) : Good w K g s σ (upd H A u) := by
  have keep : ∀ b, b ≠ A → upd H A u b = H b := fun b hb => upd_ne hb
  refine ⟨fun b o e => ?_, ?_, G.len, fun i sl x h1 h2 => ?_, G.uniq, G.apart⟩
  · rw [keep b (fun z => by rw [z, nF] at e; cases e)]; exact G.fr b o e
  · have := G.ds
    cases hd : s.ds with
    | none => rw [hd] at this; exact this
    | some d =>
      rw [hd] at this
      obtain ⟨sa, ca, e1, ne, h1, h2, f1, f2⟩ := this
      refine ⟨sa, ca, e1, ne, ?_, ?_, f1, f2⟩
      · rw [keep sa (fun z => nW (by rw [← z]; exact .inr ⟨sa, ca, e1, .inl rfl⟩))]; exact h1
      · rw [keep ca (fun z => nW (by rw [← z]; exact .inr ⟨sa, ca, e1, .inr rfl⟩))]; exact h2
  · have sr := G.env i sl x h1 h2
    cases sr with
    | no => exact .no
    | d r => exact .d r
    | o r =>
      rename_i a o
      have hne : a ≠ A := fun z => nW (by rw [← z]; exact .inl ⟨i, o, h1, h2⟩)
      refine .o ⟨?_, r.nf⟩
      cases o with
      | l ys => obtain ⟨us, e1, r1⟩ := r.at_; exact ⟨us, by rw [keep a hne]; exact e1, r1⟩
      | k kvs => obtain ⟨es, ep, e1, r1, r2⟩ := r.at_; exact ⟨es, ep, by rw [keep a hne]; exact e1, r1, r2⟩
theorem tDc_LE {mi : M (List D)} {ts vs : List Nat} {t : D → S → Option S} {tt : M Bool} {tk tv : M R} {Q : VK} (hts : ∀ i ∈ ts, i ∈ vs) (h : LE w K (mDc mi t tt tk tv vs) σ H Q) :
    tDcX w K (LI w K mi) (LG w K ts t) (LT w K tt) (LE w K tk) (LE w K tv) vs σ H Q := by
  obtain ⟨g, s, G, res, s', e, q⟩ := h
  unfold mDc at e
  cases ea : mi s with
  | none => rw [ea] at e; cases e
  | some p =>
    obtain ⟨items, s1⟩ := p
    rw [ea] at e
    simp only [Option.bind_some] at e
    cases el : dcLoop t tt tk tv vs items [] (wipeS vs s1) with
    | none => rw [el] at e; cases e
    | some p2 =>
      obtain ⟨fin, sf⟩ := p2
      rw [el] at e
      simp only [Option.bind_some, Option.some.injEq, Prod.mk.injEq] at e
      obtain ⟨rfl, rfl⟩ := e
      refine ⟨g, s, G, items, s1, ea, fun J g1 H1 G1 E1 IT A hA => ?_⟩
      have Gb : Good w K g1 (wipeS vs s1) (L2.wipe σ vs) H1 := G1.wipe vs
      have EP0 : ExtP g1 H1 g1 (upd H1 A (dxO A noE 0)) := ExtP.new G1.fr hA
      let σb := L2.wipe σ vs
      let Inv (i : Nat) (Hx : Hp) : Prop := ∃ gx sx es ep acc, Good w K gx sx σb Hx ∧ Sub g1.F gx.F ∧ StLe g1.st gx.st ∧ Hx A = some (dxO A es ep) ∧ gx.F A = none ∧ ¬ PD.W gx sx.env σb A ∧ DctOk w es.toList acc ∧ RepE w K gx.st gx.F es.toList acc ∧
        dcLoop t tt tk tv vs (items.drop i) acc sx = some (fin, sf) ∧ Ext (PD.W g1 (wipeE vs s1.env) σb) g1 H1 (PD.W gx sx.env σb) gx Hx
      refine ⟨fun i m Hx => m = items.length - i ∧ i ≤ items.length ∧ Inv i Hx, ⟨_, rfl, Nat.zero_le _, g1, wipeS vs s1, noE, 0, [], Gb.pure EP0, Sub.refl _, StLe.refl _, upd_same, G1.fr.none hA, fun z => W_ne Gb z hA, dct_nil, .nil, by rw [List.drop_zero]; exact el, Ext.ofP EP0⟩, ?_⟩
      rintro i m Hx ⟨rfl, hi, gx, sx, es, ep, acc, Gx, hF, hS, hAx, nF, nW, ok, re, e, Ex⟩
      by_cases hlt : i < items.length
      · have hd : items.drop i = items[i] :: items.drop (i + 1) := List.drop_eq_getElem_cons hlt
        rw [hd] at e
        unfold dcLoop at e
        cases et : t items[i] sx with
        | none => rw [et] at e; cases e
        | some s2 =>
          rw [et] at e
          simp only [Option.bind_some] at e
          cases ett : tt s2 with
          | none => rw [ett] at e; cases e
          | some p3 =>
            obtain ⟨k, s3⟩ := p3
            rw [ett] at e
            simp only [Option.bind_some] at e
            obtain ⟨hgo, hy⟩ := IT.go i gx Hx hF hS Gx.fr hlt
            refine .inr ⟨hgo, fun H' => Inv (i + 1) H', fun H' h => ⟨items.length - (i + 1), by omega, rfl, hlt, h⟩, fun x H2 hx => ?_⟩
            obtain ⟨g2, EP, d, hd2, rp⟩ := hy x H2 hx
            rw [List.getElem?_eq_getElem hlt] at hd2
            cases hd2
            have G2 := Gx.pure EP
            have E2 := Ext.ofP (env := sx.env) (σ := σb) EP
            refine ⟨g2, sx, _, G2, rp, s2, et, fun σ3 g3 H3 G3 E3 O3 => ?_⟩
            have hw : L2.wipe σ3 vs = σb := by rw [wipe_off O3 hts]; exact wipe_idem σ vs
            refine ⟨hw, g3, s2, G3, k, s3, ett, fun g4 H4 G4 E4 => ?_⟩
            have E24 : Ext (PD.W gx sx.env σb) gx Hx (PD.W g4 s3.env σ3) g4 H4 := (E2.trans E3).trans E4
            have stays : ∀ {g5 : Gh} {s5 : S} {H5 : Hp}, Ext (PD.W gx sx.env σb) gx Hx (PD.W g5 s5.env σ3) g5 H5 → H5 A = some (dxO A es ep) ∧ g5.F A = none ∧ ¬ PD.W g5 s5.env σ3 A := fun {g5 s5 H5} E5 => by
              refine ⟨E5.pr A _ hAx nW, ?_, fun z => ?_⟩
              · cases qq : g5.F A with
                | none => rfl
                | some u =>
                  rcases E5.newF A u nF qq with z | z | ⟨ys, z⟩
                  · rw [hAx] at z; cases z
                  · exact absurd z nW
                  · rw [hAx] at z; cases z
              · rcases E5.wsub A z with y | y
                · exact nW y
                · rw [hAx] at y; cases y
            cases k with
            | false =>
              rw [if_neg Bool.false_ne_true] at e
              refine iteF ?_
              obtain ⟨a1, a2, a3⟩ := stays E24
              have Gw := G4.wipe vs
              rw [hw] at Gw
              have wsub : ∀ b, PD.W g4 (wipeE vs s3.env) σb b → PD.W g4 s3.env σ3 b := fun b hb => by
                rw [← hw] at hb; exact W_wipe hb
              exact ⟨g4, wipeS vs s3, es, ep, acc, Gw, hF.trans E24.mono, fun p hp => E24.st p (hS p hp), a1, a2, fun z => a3 (wsub _ z), ok, re.mono E24.st E24.mono, e, (Ex.trans E24).less fun b hb => .inl (wsub b hb)⟩
            | true =>
              rw [if_pos rfl] at e
              refine iteT ?_
              cases etk : tk s3 with
              | none => rw [etk] at e; cases e
              | some p5 =>
                obtain ⟨rk, s5⟩ := p5
                rw [etk] at e
                simp only [Option.bind_some] at e
                cases esk : mShare rk s5 with
                | none => rw [esk] at e; cases e
                | some p6 =>
                  obtain ⟨dk, s6⟩ := p6
                  rw [esk] at e
                  simp only [Option.bind_some] at e
                  cases etv : tv s6 with
                  | none => rw [etv] at e; cases e
                  | some p7 =>
                    obtain ⟨rv, s7⟩ := p7
                    rw [etv] at e
                    simp only [Option.bind_some] at e
                    cases esv : mShare rv s7 with
                    | none => rw [esv] at e; cases e
                    | some p8 =>
                      obtain ⟨dv, s8⟩ := p8
                      rw [esv] at e
                      simp only [Option.bind_some] at e
                      split at e
                      · rename_i hz
                        obtain ⟨nk, ek, e⟩ := Option.bind_eq_some_iff.mp e
                        refine LE.use G4 etk fun y g5 H5 G5 E5 R5 => ?_
                        obtain ⟨g6, G6, E6, rp6, _, _⟩ := share_ok G5 R5 E5 esk
                        refine LE.use G6 etv fun z g7 H7 G7 E7 R7 => ?_
                        obtain ⟨g8, G8, E8, rp8, _, _⟩ := share_ok G7 R7 E7 esv
                        have E28 := (E24.trans E6).trans E8
                        obtain ⟨a1, a2, a3⟩ := stays E28
                        have re8 := re.mono E28.st E28.mono
                        have rk8 := rp6.mono E8.st E8.mono
                        obtain ⟨xs, dx, rx⟩ := repX_dv G8.fr a1 ok re8
                        obtain ⟨t1, fam, dep, _⟩ := keyOk_fam rx ek
                        have hlx := congrArg List.length (repX_keys rx)
                        simp only [List.length_map] at hlx
                        refine ⟨xs, nk, dx, fam, Rep.key G8.fr rk8 t1, dep, by omega, fun es' ep' hp => ?_⟩
                        obtain ⟨ok9, re9⟩ := dct_put (st := g8.st) G8.fr dx rx ek rk8 rp8 hp
                        have G9 := acc_upd (u := dxO A es' ep') G8 a2 a3
                        have Gw := G9.wipe vs
                        rw [hw] at Gw
                        have wsub : ∀ b, PD.W g8 (wipeE vs s8.env) σb b → PD.W g8 s8.env σ3 b := fun b hb => by
                          rw [← hw] at hb; exact W_wipe hb
                        refine ⟨g8, wipeS vs s8, es', ep', _, Gw, hF.trans E28.mono, fun p hp => E28.st p (hS p hp), upd_same, a2, fun z => a3 (wsub _ z), ok9, re9, e, ?_⟩
                        have E7' := Ex.trans E28
                        refine ⟨fun b o hb hn => ?_, fun b hb => ?_, E7'.mono, E7'.newF, fun b hb => E7'.wsub b (wsub b hb), E7'.st⟩
                        · rw [upd_ne (show b ≠ A from fun z => by rw [z, hA] at hb; cases hb)]
                          exact E7'.pr b o hb hn
                        · by_cases z : b = A
                          · rw [z]; exact hA
                          · rw [upd_ne z] at hb; exact E7'.dom b hb
                      · cases e
      · have : i = items.length := by omega
        subst this
        rw [List.drop_length] at e
        have e : some (acc, sx) = some (fin, sf) := e
        simp only [Option.some.injEq, Prod.mk.injEq] at e
        obtain ⟨rfl, rfl⟩ := e
        refine .inl ⟨IT.stop _ gx Hx hF hS Gx.fr rfl, ?_⟩
        obtain ⟨GB, WB⟩ := Good.back (vs := vs) G1 Gx Ex
        have EB : Ext (PD.W g1 s1.env σ) g1 H1 (PD.W gx (restE s1.env vs sx.env) σ) gx Hx :=
          ⟨fun b o hb hn => Ex.pr b o hb fun z => hn (W_wipe z), Ex.dom, Ex.mono, fun b o h1 h2 => (Ex.newF b o h1 h2).elim .inl fun z => z.elim (fun y => .inr (.inl (W_wipe y))) fun y => .inr (.inr y), WB, Ex.st⟩
        refine q (.ref A) gx Hx GB (E1.trans EB) (.t (E1.dom A hA) ⟨⟨es, ep, hAx, ok, re⟩, nF⟩ fun z => ?_)
        have hl : s1.env.length = sx.env.length := by rw [G1.len, Gx.len, wipe_length]
        rcases z with ⟨i, o, h1, h2⟩ | z
        · rcases restE_at hl h1 with ⟨h5, h6⟩ | ⟨h5, h6⟩
          · exact nW (.inl ⟨i, o, h6, by rw [wipe_get (List.getElem?_eq_some_iff.mp h2).1, if_neg h5]; exact h2⟩)
          · exact W_ne G1 (.inl ⟨i, o, h6, h2⟩) hA
        · exact nW (.inr z)
end
end PD
/-! PD: list comprehensions with two for. -/
namespace PD
open PySem PySem.Spec PyProof.Rows L2

def lc2Loop (t : D → S → Option S) (tt : M Bool) (mi1 : M (List D)) (t1 : D → S → Option S) (tt1 : M Bool) (te : M R) (vs vs1 : List Nat) : List D → M (List D)
  | [] => fun s => some ([], s)
  | d :: ds => fun s => (t d s).bind fun s1 => (tt s1).bind fun p => if p.1 = true then
      (mi1 p.2).bind fun p1 => (lcLoop t1 tt1 te vs1 p1.1 (wipeS vs1 p1.2)).bind fun q => (lc2Loop t tt mi1 t1 tt1 te vs vs1 ds (wipeS vs q.2)).bind fun z => some (q.1 ++ z.1, z.2)
    else lc2Loop t tt mi1 t1 tt1 te vs vs1 ds (wipeS vs p.2)
def mLc2 (mi : M (List D)) (t : D → S → Option S) (tt : M Bool) (mi1 : M (List D)) (t1 : D → S → Option S) (tt1 : M Bool) (te : M R) (vs vs1 : List Nat) : M R := fun s => (mi s).bind fun p =>
  (lc2Loop t tt mi1 t1 tt1 te vs vs1 p.1 (wipeS vs p.2)).bind fun q => if q.1.length ≤ sizeLine then some (.t (.l q.1), ⟨restE p.2.env vs q.2.env, q.2.ds⟩) else none
section
variable {w : World} {K : PySem.W.Frag} {g : Gh} {s : S} {σ : St} {H : Hp}
theorem wipe_get? (σ : St) (vs : List Nat) (j : Nat) : (L2.wipe σ vs)[j]? = if j < σ.length then (if j ∈ vs then some none else σ[j]?) else none := by
  by_cases hj : j < σ.length
  · rw [wipe_get hj, if_pos hj]
  · rw [List.getElem?_eq_none (by rw [wipe_length]; omega), if_neg hj]
theorem wipe_wipe (σ : St) {vs vs1 : List Nat} (h : ∀ i ∈ vs1, i ∈ vs) : L2.wipe (L2.wipe σ vs1) vs = L2.wipe σ vs := by
  refine List.ext_getElem? fun j => ?_
  rw [wipe_get?, wipe_get?, wipe_get?, wipe_length]
  by_cases hj : j < σ.length
  · rw [if_pos hj, if_pos hj, if_pos hj]
    by_cases h1 : j ∈ vs
    · rw [if_pos h1, if_pos h1]
    · rw [if_neg h1, if_neg h1, if_neg (fun z => h1 (h j z))]
  · rw [if_neg hj, if_neg hj]
theorem list_stays {g5 : Gh} {W0 W5 : Addr → Prop} {H5 : Hp} {A : Addr} {o : HO} (hAx : H A = some o) (hno : ∀ ys, o ≠ .tup ys) (nF : g.F A = none) (nW : ¬ W0 A) (E5 : Ext W0 g H W5 g5 H5) : H5 A = some o ∧ g5.F A = none ∧ ¬ W5 A := by
  refine ⟨E5.pr A _ hAx nW, ?_, fun z => ?_⟩
  · cases qq : g5.F A with
    | none => rfl
    | some u =>
      rcases E5.newF A u nF qq with z | z | ⟨ys, z⟩
      · rw [hAx] at z; cases z
      · exact absurd z nW
      · rw [hAx] at z; cases z; exact absurd rfl (hno ys)
  · rcases E5.wsub A z with y | y
    · exact nW y
    · rw [hAx] at y; cases y
/-- the walk of an inner for: A the list, Wb gb Hb from before A was made -/
theorem inner_ok {J : It} {items : List D} {ts vs : List Nat} {t : D → S → Option S} {tt : M Bool} {te : M R} {Wb : Addr → Prop} {gb : Gh} {Hb : Hp} {A : Addr} {xs : List V} {acc rest : List D} {sf : S} {Nx : Hp → Prop} (hts : ∀ i ∈ ts, i ∈ vs)
    (G : Good w K g s σ H) (hAb : Hb A = none) (hAx0 : H A = some (.lst xs)) (nF0 : g.F A = none) (nW0 : ¬ PD.W g s.env σ A) (ra0 : RepL w K g.st g.F xs acc) (E0 : Ext Wb gb Hb (PD.W g s.env σ) g H) (IT : ItOk w K J g items)
    (el : lcLoop t tt te vs items (wipeS vs s) = some (rest, sf)) (hz : (acc ++ rest).length ≤ sizeLine)
    (q : ∀ gx Hx xs', Good w K gx sf (L2.wipe σ vs) Hx → Ext Wb gb Hb (PD.W gx sf.env (L2.wipe σ vs)) gx Hx → Sub g.F gx.F → StLe g.st gx.st → Hx A = some (.lst xs') → gx.F A = none → ¬ PD.W gx sf.env (L2.wipe σ vs) A → RepL w K gx.st gx.F xs' (acc ++ rest) → Nx Hx) :
    ∃ W1 : Nat → Nat → Hp → Prop, (∃ m, W1 0 m H) ∧ ∀ j k H, W1 j k H → (J.stop j H ∧ Nx H) ∨ (J.go j H ∧ ∃ Nx1 : Hp → Prop, (∀ H', Nx1 H' → ∃ k', k' < k ∧ W1 (j + 1) k' H') ∧
      ∀ x H', J.yld j H x H' → LG w K ts t x (L2.wipe σ vs) H' fun σ3 H5 => L2.wipe σ3 vs = L2.wipe σ vs ∧ LT w K tt σ3 H5 fun b H6 => if b = true then LE w K te σ3 H6 fun y H7 => ∃ acc, H7 A = some (.lst acc) ∧ acc.length < sizeLine ∧ Nx1 (upd H7 A (.lst (acc ++ [y]))) else Nx1 H6) := by
  have Gb : Good w K g (wipeS vs s) (L2.wipe σ vs) H := G.wipe vs
  let σb := L2.wipe σ vs
  let Inv (i : Nat) (Hx : Hp) : Prop := ∃ gx sx xs acc1 rest1, Good w K gx sx σb Hx ∧ Sub g.F gx.F ∧ StLe g.st gx.st ∧ Hx A = some (.lst xs) ∧ gx.F A = none ∧ ¬ PD.W gx sx.env σb A ∧ RepL w K gx.st gx.F xs acc1 ∧
    lcLoop t tt te vs (items.drop i) sx = some (rest1, sf) ∧ acc1 ++ rest1 = acc ++ rest ∧ Ext Wb gb Hb (PD.W gx sx.env σb) gx Hx
  have wsub0 : ∀ b, PD.W g (wipeE vs s.env) σb b → PD.W g s.env σ b := fun b hb => W_wipe hb
  refine ⟨fun i m Hx => m = items.length - i ∧ i ≤ items.length ∧ Inv i Hx, ⟨_, rfl, Nat.zero_le _, g, wipeS vs s, xs, acc, rest, Gb, Sub.refl _, StLe.refl _, hAx0, nF0, fun z => nW0 (wsub0 _ z), ra0, by rw [List.drop_zero]; exact el, rfl, E0.less fun b hb => .inl (wsub0 b hb)⟩, ?_⟩
  rintro i m Hx ⟨rfl, hi, gx, sx, xs, acc1, rest1, Gx, hF, hS, hAx, nF, nW, ra, e, hfe, Ex⟩
  by_cases hlt : i < items.length
  · have hd : items.drop i = items[i] :: items.drop (i + 1) := List.drop_eq_getElem_cons hlt
    rw [hd] at e
    unfold lcLoop at e
    cases et : t items[i] sx with
    | none => rw [et] at e; cases e
    | some s2 =>
      rw [et] at e
      simp only [Option.bind_some] at e
      cases ett : tt s2 with
      | none => rw [ett] at e; cases e
      | some p3 =>
        obtain ⟨k, s3⟩ := p3
        rw [ett] at e
        simp only [Option.bind_some] at e
        obtain ⟨hgo, hy⟩ := IT.go i gx Hx hF hS Gx.fr hlt
        refine .inr ⟨hgo, fun H' => Inv (i + 1) H', fun H' h => ⟨items.length - (i + 1), by omega, rfl, hlt, h⟩, fun x H2 hx => ?_⟩
        obtain ⟨g2, EP, d, hd2, rp⟩ := hy x H2 hx
        rw [List.getElem?_eq_getElem hlt] at hd2
        cases hd2
        have G2 := Gx.pure EP
        have E2 := Ext.ofP (env := sx.env) (σ := σb) EP
        refine ⟨g2, sx, _, G2, rp, s2, et, fun σ3 g3 H3 G3 E3 O3 => ?_⟩
        have hw : L2.wipe σ3 vs = σb := by rw [wipe_off O3 hts]; exact wipe_idem σ vs
        refine ⟨hw, g3, s2, G3, k, s3, ett, fun g4 H4 G4 E4 => ?_⟩
        have E24 : Ext (PD.W gx sx.env σb) gx Hx (PD.W g4 s3.env σ3) g4 H4 := (E2.trans E3).trans E4
        cases k with
        | false =>
          rw [if_neg Bool.false_ne_true] at e
          refine iteF ?_
          obtain ⟨a1, a2, a3⟩ := list_stays hAx (fun _ z => by cases z) nF nW E24
          have Gw := G4.wipe vs
          rw [hw] at Gw
          have wsub : ∀ b, PD.W g4 (wipeE vs s3.env) σb b → PD.W g4 s3.env σ3 b := fun b hb => by
            rw [← hw] at hb; exact W_wipe hb
          exact ⟨g4, wipeS vs s3, xs, acc1, rest1, Gw, hF.trans E24.mono, fun p hp => E24.st p (hS p hp), a1, a2, fun z => a3 (wsub _ z), ra.mono E24.st E24.mono, e, hfe, (Ex.trans E24).less fun b hb => .inl (wsub b hb)⟩
        | true =>
          rw [if_pos rfl] at e
          refine iteT ?_
          cases ete : te s3 with
          | none => rw [ete] at e; cases e
          | some p5 =>
            obtain ⟨r5, s5⟩ := p5
            rw [ete] at e
            simp only [Option.bind_some] at e
            cases esh : mShare r5 s5 with
            | none => rw [esh] at e; cases e
            | some p6 =>
              obtain ⟨d6, s6⟩ := p6
              rw [esh] at e
              simp only [Option.bind_some] at e
              cases erest : lcLoop t tt te vs (items.drop (i + 1)) (wipeS vs s6) with
              | none => rw [erest] at e; cases e
              | some p7 =>
                obtain ⟨rest', s7⟩ := p7
                rw [erest] at e
                simp only [Option.bind_some, Option.some.injEq, Prod.mk.injEq] at e
                obtain ⟨rfl, rfl⟩ := e
                refine LE.use G4 ete fun y g5 H5 G5 E5 R5 => ?_
                obtain ⟨g6, G6, E6, rp6, _, _⟩ := share_ok G5 R5 E5 esh
                have E26 := E24.trans E6
                obtain ⟨a1, a2, a3⟩ := list_stays hAx (fun _ z => by cases z) nF nW E26
                have ra6 := ra.mono E26.st E26.mono
                have hlen : acc1.length < sizeLine := by
                  have h1 : (acc1 ++ d6 :: rest').length = (acc ++ rest).length := by rw [hfe]
                  rw [List.length_append, List.length_cons] at h1
                  omega
                refine ⟨xs, a1, by rw [ra.length]; exact hlen, ?_⟩
                obtain ⟨G8, r8⟩ := acc_app G6 a1 a2 a3 ra6 rp6
                have Gw := G8.wipe vs
                rw [hw] at Gw
                have wsub : ∀ b, PD.W g6 (wipeE vs s6.env) σb b → PD.W g6 s6.env σ3 b := fun b hb => by
                  rw [← hw] at hb; exact W_wipe hb
                refine ⟨g6, wipeS vs s6, xs ++ [y], acc1 ++ [d6], rest', Gw, hF.trans E26.mono, fun p hp => E26.st p (hS p hp), upd_same, a2, fun z => a3 (wsub _ z), r8, erest, by rw [List.append_assoc]; exact hfe, ?_⟩
                have E7 := Ex.trans E26
                refine ⟨fun b o hb hn => ?_, fun b hb => ?_, E7.mono, E7.newF, fun b hb => E7.wsub b (wsub b hb), E7.st⟩
                · rw [upd_ne (show b ≠ A from fun z => by rw [z, hAb] at hb; cases hb)]
                  exact E7.pr b o hb hn
                · by_cases z : b = A
                  · rw [z]; exact hAb
                  · rw [upd_ne z] at hb; exact E7.dom b hb
  · have : i = items.length := by omega
    subst this
    rw [List.drop_length] at e
    have e : some (([] : List D), sx) = some (rest1, sf) := e
    simp only [Option.some.injEq, Prod.mk.injEq] at e
    obtain ⟨rfl, rfl⟩ := e
    rw [List.append_nil] at hfe
    subst hfe
    exact .inl ⟨IT.stop _ gx Hx hF hS Gx.fr rfl, q gx Hx xs Gx Ex hF hS hAx nF nW ra⟩
theorem tLc2_LE {mi mi1 : M (List D)} {ts vs ts1 vs1 : List Nat} {t t1 : D → S → Option S} {tt tt1 : M Bool} {te : M R} {Q : VK} (hts : ∀ i ∈ ts, i ∈ vs) (hts1 : ∀ i ∈ ts1, i ∈ vs1) (hvs : ∀ i ∈ vs1, i ∈ vs) (h : LE w K (mLc2 mi t tt mi1 t1 tt1 te vs vs1) σ H Q) :
    tLc2 (LI w K mi) (LG w K ts t) (LT w K tt) (LI w K mi1) (LG w K ts1 t1) (LT w K tt1) (LE w K te) vs vs1 σ H Q := by
  obtain ⟨g, s, G, res, s', e, q⟩ := h
  unfold mLc2 at e
  cases ea : mi s with
  | none => rw [ea] at e; cases e
  | some p =>
    obtain ⟨items, s1⟩ := p
    rw [ea] at e
    simp only [Option.bind_some] at e
    cases el : lc2Loop t tt mi1 t1 tt1 te vs vs1 items (wipeS vs s1) with
    | none => rw [el] at e; cases e
    | some p2 =>
      obtain ⟨fin, sf⟩ := p2
      rw [el] at e
      simp only [Option.bind_some] at e
      split at e
      · rename_i hfin
        simp only [Option.some.injEq, Prod.mk.injEq] at e
        obtain ⟨rfl, rfl⟩ := e
        refine ⟨g, s, G, items, s1, ea, fun J g1 H1 G1 E1 IT A hA => ?_⟩
        have Gb : Good w K g1 (wipeS vs s1) (L2.wipe σ vs) H1 := G1.wipe vs
        have EP0 : ExtP g1 H1 g1 (upd H1 A (.lst [])) := ExtP.new G1.fr hA
        let σb := L2.wipe σ vs
        let Inv (i : Nat) (Hx : Hp) : Prop := ∃ gx sx xs acc rest, Good w K gx sx σb Hx ∧ Sub g1.F gx.F ∧ StLe g1.st gx.st ∧ Hx A = some (.lst xs) ∧ gx.F A = none ∧ ¬ PD.W gx sx.env σb A ∧ RepL w K gx.st gx.F xs acc ∧
          lc2Loop t tt mi1 t1 tt1 te vs vs1 (items.drop i) sx = some (rest, sf) ∧ acc ++ rest = fin ∧ Ext (PD.W g1 (wipeE vs s1.env) σb) g1 H1 (PD.W gx sx.env σb) gx Hx
        refine ⟨fun i m Hx => m = items.length - i ∧ i ≤ items.length ∧ Inv i Hx, ⟨_, rfl, Nat.zero_le _, g1, wipeS vs s1, [], [], fin, Gb.pure EP0, Sub.refl _, StLe.refl _, upd_same, G1.fr.none hA, fun z => W_ne Gb z hA, .nil, by rw [List.drop_zero]; exact el, rfl, Ext.ofP EP0⟩, ?_⟩
        rintro i m Hx ⟨rfl, hi, gx, sx, xs, acc, rest, Gx, hF, hS, hAx, nF, nW, ra, e, hfe, Ex⟩
        by_cases hlt : i < items.length
        · have hd : items.drop i = items[i] :: items.drop (i + 1) := List.drop_eq_getElem_cons hlt
          rw [hd] at e
          unfold lc2Loop at e
          cases et : t items[i] sx with
          | none => rw [et] at e; cases e
          | some s2 =>
            rw [et] at e
            simp only [Option.bind_some] at e
            cases ett : tt s2 with
            | none => rw [ett] at e; cases e
            | some p3 =>
              obtain ⟨k, s3⟩ := p3
              rw [ett] at e
              simp only [Option.bind_some] at e
              obtain ⟨hgo, hy⟩ := IT.go i gx Hx hF hS Gx.fr hlt
              refine .inr ⟨hgo, fun H' => Inv (i + 1) H', fun H' h => ⟨items.length - (i + 1), by omega, rfl, hlt, h⟩, fun x H2 hx => ?_⟩
              obtain ⟨g2, EP, d, hd2, rp⟩ := hy x H2 hx
              rw [List.getElem?_eq_getElem hlt] at hd2
              cases hd2
              have G2 := Gx.pure EP
              have E2 := Ext.ofP (env := sx.env) (σ := σb) EP
              refine ⟨g2, sx, _, G2, rp, s2, et, fun σ3 g3 H3 G3 E3 O3 => ?_⟩
              have hw : L2.wipe σ3 vs = σb := by rw [wipe_off O3 hts]; exact wipe_idem σ vs
              refine ⟨hw, g3, s2, G3, k, s3, ett, fun g4 H4 G4 E4 => ?_⟩
              have E24 : Ext (PD.W gx sx.env σb) gx Hx (PD.W g4 s3.env σ3) g4 H4 := (E2.trans E3).trans E4
              cases k with
              | false =>
                rw [if_neg Bool.false_ne_true] at e
                refine iteF ?_
                obtain ⟨a1, a2, a3⟩ := list_stays hAx (fun _ z => by cases z) nF nW E24
                have Gw := G4.wipe vs
                rw [hw] at Gw
                have wsub : ∀ b, PD.W g4 (wipeE vs s3.env) σb b → PD.W g4 s3.env σ3 b := fun b hb => by
                  rw [← hw] at hb; exact W_wipe hb
                exact ⟨g4, wipeS vs s3, xs, acc, rest, Gw, hF.trans E24.mono, fun p hp => E24.st p (hS p hp), a1, a2, fun z => a3 (wsub _ z), ra.mono E24.st E24.mono, e, hfe, (Ex.trans E24).less fun b hb => .inl (wsub b hb)⟩
              | true =>
                rw [if_pos rfl] at e
                refine iteT ?_
                cases ei : mi1 s3 with
                | none => rw [ei] at e; cases e
                | some p5 =>
                  obtain ⟨items1, s5⟩ := p5
                  rw [ei] at e
                  simp only [Option.bind_some] at e
                  cases el1 : lcLoop t1 tt1 te vs1 items1 (wipeS vs1 s5) with
                  | none => rw [el1] at e; cases e
                  | some p6 =>
                    obtain ⟨rest1, s6⟩ := p6
                    rw [el1] at e
                    simp only [Option.bind_some] at e
                    cases er : lc2Loop t tt mi1 t1 tt1 te vs vs1 (items.drop (i + 1)) (wipeS vs s6) with
                    | none => rw [er] at e; cases e
                    | some p7 =>
                      obtain ⟨rest2, s7⟩ := p7
                      rw [er] at e
                      simp only [Option.bind_some, Option.some.injEq, Prod.mk.injEq] at e
                      obtain ⟨rfl, rfl⟩ := e
                      refine ⟨g4, s3, G4, items1, s5, ei, fun J1 g5 H5 G5 E5 IT1 => ?_⟩
                      have E25 := E24.trans E5
                      obtain ⟨a1, a2, a3⟩ := list_stays hAx (fun _ z => by cases z) nF nW E25
                      have hz : (acc ++ rest1).length ≤ sizeLine := by
                        have h1 : (acc ++ (rest1 ++ rest2)).length = fin.length := by rw [hfe]
                        simp only [List.length_append] at h1 ⊢
                        omega
                      refine inner_ok hts1 G5 hA a1 a2 a3 (ra.mono E25.st E25.mono) (Ex.trans E25) IT1 el1 hz fun g8 H8 xs' G8 E8 hF8 hS8 b1 b2 b3 r8 => ?_
                      have Gw := G8.wipe vs
                      have hw2 : L2.wipe (L2.wipe σ3 vs1) vs = σb := by rw [wipe_wipe σ3 hvs]; exact hw
                      rw [hw2] at Gw
                      have wsub : ∀ b, PD.W g8 (wipeE vs s6.env) σb b → PD.W g8 s6.env (L2.wipe σ3 vs1) b := fun b hb => by
                        rw [← hw2] at hb; exact W_wipe hb
                      refine ⟨g8, wipeS vs s6, xs', acc ++ rest1, rest2, Gw, (hF.trans E25.mono).trans hF8, fun p hp => hS8 p (E25.st p (hS p hp)), b1, b2, fun z => b3 (wsub _ z), r8, er, by rw [List.append_assoc]; exact hfe, E8.less fun b hb => .inl (wsub b hb)⟩
        · have : i = items.length := by omega
          subst this
          rw [List.drop_length] at e
          have e : some (([] : List D), sx) = some (rest, sf) := e
          simp only [Option.some.injEq, Prod.mk.injEq] at e
          obtain ⟨rfl, rfl⟩ := e
          rw [List.append_nil] at hfe
          subst hfe
          refine .inl ⟨IT.stop _ gx Hx hF hS Gx.fr rfl, ?_⟩
          obtain ⟨GB, WB⟩ := Good.back (vs := vs) G1 Gx Ex
          have EB : Ext (PD.W g1 s1.env σ) g1 H1 (PD.W gx (restE s1.env vs sx.env) σ) gx Hx :=
            ⟨fun b o hb hn => Ex.pr b o hb fun z => hn (W_wipe z), Ex.dom, Ex.mono, fun b o h1 h2 => (Ex.newF b o h1 h2).elim .inl fun z => z.elim (fun y => .inr (.inl (W_wipe y))) fun y => .inr (.inr y), WB, Ex.st⟩
          refine q (.ref A) gx Hx GB (E1.trans EB) (.t (E1.dom A hA) ⟨⟨xs, hAx, ra⟩, nF⟩ fun z => ?_)
          have hl : s1.env.length = sx.env.length := by rw [G1.len, Gx.len, wipe_length]
          rcases z with ⟨i, o, h1, h2⟩ | z
          · rcases restE_at hl h1 with ⟨h5, h6⟩ | ⟨h5, h6⟩
            · exact nW (.inl ⟨i, o, h6, by rw [wipe_get (List.getElem?_eq_some_iff.mp h2).1, if_neg h5]; exact h2⟩)
            · exact W_ne G1 (.inl ⟨i, o, h6, h2⟩) hA
          · exact nW (.inr z)
      · cases e
end
end PD
/-! PD: the rules by form. -/
namespace PD
open PySem PySem.Spec PyProof.Rows L2

abbrev PX (X : Cx) (e : Expr) (m : M R) : Prop := PE X e (LE X.w X.K m)
abbrev XT (X : Cx) (e : Expr) (m : M Bool) : Prop := PT X e (LT X.w X.K m)
abbrev XW (X : Cx) (e : Expr) (m : M Bool) : Prop := PW X e (LT X.w X.K m)
abbrev XD (X : Cx) (es : List Expr) (ms : List (M R)) : Prop := PA X es (LD X.w X.K (mShs ms))
abbrev XA (X : Cx) (es : List Expr) (ms : List (M R)) : Prop := PA X es (LA X.w X.K (mArgs ms))
abbrev XS (X : Cx) (st : Stmt) (m : MS) : Prop := PS X st (LS X.w X.K m)
abbrev XSs (X : Cx) (st : List Stmt) (m : MS) : Prop := PSs X st (LS X.w X.K m)
abbrev XI (X : Cx) (tg e : Expr) (m : M (List D)) : Prop := PI X tg e (LI X.w X.K m)
abbrev XG (X : Cx) (tg : Expr) (ts : List Nat) (t : D → S → Option S) : Prop := PG X tg (LG X.w X.K ts t)
abbrev XGs (X : Cx) (tg : List Expr) (ts : List Nat) (t : List D → S → Option S) : Prop := PGs X tg (LGs X.w X.K ts t)
abbrev XO (X : Cx) (e : Option Expr) (m : M (Option Int)) : Prop := PO X e (LO X.w X.K m)
abbrev Blk (X : Cx) (sc : Scope) (f : Cx → Prop) : Prop := ∀ (s : Shared) (H : Hp) (C : Addr) (cl : List (Str × Addr)) (fp : List Addr), f (X.blk s H sc (compEnvC sc cl C X.env) fp)
theorem POi {X : Cx} {e : Option Expr} {t t' : TO} (h : PO X e t) (i : ∀ σ H Q, t' σ H Q → t σ H Q) : PO X e t' := ⟨fun p s σ H Q I q => h.run p s σ H Q I (i σ H Q q)⟩

section
variable {X : Cx} {a b c e o : Expr} {es rest : List Expr} {ma mb mc me mo : M R} {ms : List (M R)} {ta tb tc : M Bool} {pos p apos cpos : Pos}
/-! ### names, constants -/
instance (l : List Nat) : Decidable (StrG l) := by unfold StrG; infer_instance
theorem e_v (i : Nat) {x : Str} (hN : X.N[i]? = some x := by rfl) (hv : Vis X.env.scope x := by first | exact Or.inl rfl | exact Or.inr (Or.inl rfl) | exact Or.inr (Or.inr rfl)) (hd : (x == ("__debug__" : Str)) = false := by decide) (hcd : (x == ("__classdict__" : Str)) = false := by decide) : PX X (.Name x pos) (mVar i) :=
  PEi (pv i hN hv hd hcd) fun _ _ _ h => tVar_LE h
theorem e_int {i : Int} {j : Nat} : PX X (.Constant (.int i) j pos) (mC (.int i)) := PEi pe_int fun _ _ _ h => tC_LE (fun _ _ => .int i) h
theorem e_bl {i : Bool} {j : Nat} : PX X (.Constant (.bool i) j pos) (mC (.bl i)) := PEi pe_bl fun _ _ _ h => tC_LE (fun _ _ => .bl i) h
theorem e_non {j : Nat} : PX X (.Constant .none j pos) (mC .non) := PEi pe_non fun _ _ _ h => tC_LE (fun _ _ => .non) h
theorem e_str {x : Str} {j : Nat} (l : List Nat) (hx : x = sOf l := by rfl) (hg : StrG l := by decide) : PX X (.Constant (.str x) j pos) (mC (.str l)) :=
  PEi pe_str fun _ _ _ h => (by subst hx; exact tC_LE (fun _ _ => .str hg) h)
/-- the name of a built-in class, as a value -/
theorem e_ty {x : Str} {T : String} (hg : Gl X x) (hm : X.mg x = none) (hv : bootBuiltins x = some (.type T)) (hn : x ≠ "__name__" := by decide) (hd : (x == ("__debug__" : Str)) = false := by decide) : PX X (.Name x pos) (mC (.cv (.ty T))) :=
  PEi (pe_bltn (v := .ty T) hg hm hv rfl hn hd) fun _ _ _ h => tC_LE (fun _ _ => .cv _) h
/-! ### operators -/
theorem e_op {op : Operator} {r : R2} {f : D → D → Option R} (ho : OpR X (binaryOp op) r) (hf : Op2 X.w X.K r f) (ha : PX X a ma) (hb : PX X b mb) : PX X (.BinOp a op b pos) (mBin f ma mb) :=
  PEi (pe_op ho ha hb) fun _ _ _ h => tOp_LE hf h
theorem e_add (ha : PX X a ma) (hb : PX X b mb) : PX X (.BinOp a .Add b pos) (mBin fAdd ma mb) := e_op r_add o_add ha hb
theorem e_sub (ha : PX X a ma) (hb : PX X b mb) : PX X (.BinOp a .Sub b pos) (mBin fSub ma mb) := e_op op_sub o_sub ha hb
theorem e_mul (ha : PX X a ma) (hb : PX X b mb) : PX X (.BinOp a .Mult b pos) (mBin fMul ma mb) := e_op r_mul o_mul ha hb
theorem e_div (ha : PX X a ma) (hb : PX X b mb) : PX X (.BinOp a .FloorDiv b pos) (mBin fDiv ma mb) := e_op op_fdivN o_div ha hb
theorem e_mod (ha : PX X a ma) (hb : PX X b mb) : PX X (.BinOp a .Mod b pos) (mBin fMod ma mb) := e_op op_modN o_mod ha hb
theorem e_shl (ha : PX X a ma) (hb : PX X b mb) : PX X (.BinOp a .LShift b pos) (mBin fShl ma mb) := e_op op_shl o_shl ha hb
theorem e_shr (ha : PX X a ma) (hb : PX X b mb) : PX X (.BinOp a .RShift b pos) (mBin fShr ma mb) := e_op op_shr o_shr ha hb
theorem e_band (ha : PX X a ma) (hb : PX X b mb) : PX X (.BinOp a .BitAnd b pos) (mBin fAnd ma mb) := e_op op_and o_and ha hb
theorem e_bor (ha : PX X a ma) (hb : PX X b mb) : PX X (.BinOp a .BitOr b pos) (mBin fOr ma mb) := e_op op_or o_or ha hb
theorem e_neg (ha : PX X a ma) : PX X (.UnaryOp .USub a pos) (mUn fNeg ma) := PEi (pe_un un_neg ha) fun _ _ _ h => tUn_LE o_neg h
/-- what a comparison is -/
structure CmpOk (X : Cx) (op : CmpOp) (f : D → D → Option R) : Prop where
  ex : ∃ r, OpR X (compareOp op) r ∧ Op2 X.w X.K r f
theorem c_eq (hu : X.A.units + 64 < cLine) : CmpOk X .Eq fEq := ⟨⟨_, op_eqD hu, o_eq⟩⟩
theorem c_ne (hu : X.A.units + 64 < cLine) : CmpOk X .NotEq fNe := ⟨⟨_, op_neD hu, o_ne⟩⟩
theorem c_lt : CmpOk X .Lt fLt := ⟨⟨_, r_lt, o_lt⟩⟩
theorem c_le : CmpOk X .LtE fLe := ⟨⟨_, op_le, o_le⟩⟩
theorem c_gt : CmpOk X .Gt fGt := ⟨⟨_, op_gt, o_gt⟩⟩
theorem c_ge : CmpOk X .GtE fGe := ⟨⟨_, op_ge, o_ge⟩⟩
theorem c_is : CmpOk X .Is fIsN := ⟨⟨_, op_isN, o_isN⟩⟩
theorem c_isnot : CmpOk X .IsNot fNotN := ⟨⟨_, op_notN, o_notN⟩⟩
theorem c_in (hu : X.A.units + 65 < cLine) : CmpOk X .In fIn := ⟨⟨_, op_inX hu, o_in⟩⟩
theorem c_notin (hu : X.A.units + 65 < cLine) : CmpOk X .NotIn fNotIn := ⟨⟨_, op_notInX hu, o_notIn⟩⟩
theorem e_cmp {op : CmpOp} {f : D → D → Option R} (ho : CmpOk X op f) (ha : PX X a ma) (hb : PX X b mb) (hm : behindInMarks op b = false := by with_unfolding_all rfl) : PX X (.Compare a [op] [b] pos) (mBin f ma mb) :=
  let ⟨_, h1, h2⟩ := ho.ex
  PEi (pe_cmpR h1 ha hb hm) fun _ _ _ h => tOp_LE h2 h
theorem LE.imp {w : World} {K : PySem.W.Frag} {m : M R} {σ : St} {H : Hp} {Q Q' : VK} (h : LE w K m σ H Q) (i : ∀ v H, Q v H → Q' v H) : LE w K m σ H Q' :=
  let ⟨g, s, G, r, s', e, q⟩ := h
  ⟨g, s, G, r, s', e, fun v g' H' a b c => i _ _ (q v g' H' a b c)⟩
theorem tOp_imp {w : World} {K : PySem.W.Frag} {r : R2} {f : D → D → Option R} (h2 : Op2 w K r f) {σ : St} {H : Hp} {Q : Bool → Hp → Prop} (h : LT w K (mTest (mBin f ma mb)) σ H Q) : tTest (tOp r (LE w K ma) (LE w K mb)) σ H Q := tOp_LE h2 (tTest_LT h)
theorem t_cmp {op : CmpOp} {f : D → D → Option R} (ho : CmpOk X op f) (ha : PX X a ma) (hb : PX X b mb) (hm : behindInMarks op b = false := by with_unfolding_all rfl) : XT X (.Compare a [op] [b] pos) (mTest (mBin f ma mb)) :=
  let ⟨_, h1, h2⟩ := ho.ex
  PTi (pt_cmpR h1 ha hb hm) fun _ _ _ h => tOp_imp h2 h
/-! ### tests -/
theorem t_and1 (ha : XT X a ta) : XW X (.BoolOp .And [a] pos) ta := pw_and1 ha
theorem t_or1 (ha : XT X a ta) : XW X (.BoolOp .Or [a] pos) ta := pw_or1 ha
theorem t_and (ha : XT X a ta) (hb : XW X (.BoolOp .And (b :: rest) pos) tb) : XW X (.BoolOp .And (a :: b :: rest) pos) (mAnd ta tb) := PWi (pw_and ha hb) fun _ _ _ h => tAnd_LT h
theorem t_or (ha : XT X a ta) (hb : XW X (.BoolOp .Or (b :: rest) pos) tb) : XW X (.BoolOp .Or (a :: b :: rest) pos) (mOr ta tb) := PWi (pw_or ha hb) fun _ _ _ h => tOr_LT h
theorem t_w (h : XW X a ta) : XT X a ta := h.pt
theorem t_not (ha : XT X a ta) : XT X (.UnaryOp .Not a pos) (mNot ta) := PTi (pt_not ha) fun _ _ _ h => tNot_LT h
theorem t_tru (ha : PX X a ma) (he : ∀ whole, isTrue a X.env whole = (do let v ← whole; standAt a.pos; holding [v] (truthy v)) := by intro _; rfl) : XT X a (mTru ma) := PTi (pt_truth ha he) fun _ _ _ h => mTru_LT h
theorem e_if (hc : XT X c tc) (ha : PX X a ma) (hb : PX X b mb) : PX X (.IfExp c a b pos) (mIf tc ma mb) := PEi (pe_ifExp hc ha hb) fun _ _ _ h => tIf_LE h
/-- and, or, not as values: bools -/
def mRetR (r : R) : M R := fun s => some (r, s)
def mBlK (k : Bool → M R) (a : M R) : M R := fun s => (a s).bind fun p => (p.1.bl?).bind fun c => k c p.2
def mAndV (a b : M R) : M R := mBlK (fun c => if c = true then b else mRetR (.d (.bl false))) a
def mOrV (a b : M R) : M R := mBlK (fun c => if c = true then mRetR (.d (.bl true)) else b) a
def mNotV (a : M R) : M R := mBlK (fun c => mRetR (.d (.bl (!c)))) a
theorem tBl_core {w : World} {K : PySem.W.Frag} {k : Bool → M R} {σ : St} {H : Hp} {Q : VK} (h : LE w K (mBlK k ma) σ H Q) : LE w K ma σ H fun x H1 => ∃ c, x = .bl c ∧ LE w K (k c) σ H1 Q := by
  obtain ⟨g, s, G, res, s', e, q⟩ := h
  unfold mBlK at e
  obtain ⟨⟨r1, s1⟩, e1, e⟩ := Option.bind_eq_some_iff.mp e
  obtain ⟨c, e2, e⟩ := Option.bind_eq_some_iff.mp e
  have er := R.bl_eq e2
  simp only at er
  subst er
  refine LE.use G e1 fun v g1 H1 G1 E1 R1 => ?_
  cases R1 with
  | d h => cases h; exact ⟨c, rfl, LE.use G1 e fun v g2 H2 G2 E2 R2 => q v g2 H2 G2 (E1.trans E2) (R2.sooner E1.dom)⟩
theorem e_one {op : BoolOp} (h : PX X a ma) : PX X (.BoolOp op [a] pos) ma := pe_one h
theorem bl_ret {w : World} {K : PySem.W.Frag} {k : Bool} {σ : St} {H : Hp} {Q : VK} (h : LE w K (mRetR (.d (.bl k))) σ H Q) : Q (.bl k) H := by
  obtain ⟨g, s, G, res, s', e, q⟩ := h
  cases e
  exact q _ g H G (Ext.refl _ _ _) (.d (.bl k))
theorem tAndV_LE {w : World} {K : PySem.W.Frag} {σ : St} {H : Hp} {Q : VK} (h : LE w K (mAndV ma mb) σ H Q) : tAndV (LE w K ma) (LE w K mb) σ H Q := by
  refine LE.imp (tBl_core h) fun x H1 ⟨c, ex, h⟩ => ⟨c, ex, ?_⟩
  cases c with
  | true => exact h
  | false => exact bl_ret h
theorem tOrV_LE {w : World} {K : PySem.W.Frag} {σ : St} {H : Hp} {Q : VK} (h : LE w K (mOrV ma mb) σ H Q) : tOrV (LE w K ma) (LE w K mb) σ H Q := by
  refine LE.imp (tBl_core h) fun x H1 ⟨c, ex, h⟩ => ⟨c, ex, ?_⟩
  cases c with
  | false => exact h
  | true => exact bl_ret h
theorem tNotV_LE {w : World} {K : PySem.W.Frag} {σ : St} {H : Hp} {Q : VK} (h : LE w K (mNotV ma) σ H Q) : tNotV (LE w K ma) σ H Q :=
  LE.imp (tBl_core h) fun x H1 ⟨c, ex, h⟩ => ⟨c, ex, bl_ret h⟩
theorem e_and (ha : PX X a ma) (hb : PX X (.BoolOp .And (b :: rest) pos) mb) : PX X (.BoolOp .And (a :: b :: rest) pos) (mAndV ma mb) := PEi (pe_and ha hb) fun _ _ _ h => tAndV_LE h
theorem e_or (ha : PX X a ma) (hb : PX X (.BoolOp .Or (b :: rest) pos) mb) : PX X (.BoolOp .Or (a :: b :: rest) pos) (mOrV ma mb) := PEi (pe_or ha hb) fun _ _ _ h => tOrV_LE h
theorem e_not (ha : PX X a ma) : PX X (.UnaryOp .Not a pos) (mNotV ma) := PEi (pe_not ha) fun _ _ _ h => tNotV_LE h
/-- a op b op' c -/
def mChain (f f' : D → D → Option R) (a b c : M R) : M R := fun s => (a s).bind fun p => (b p.2).bind fun q => (p.1.peek q.2.env).bind fun x => (q.1.peek q.2.env).bind fun y => (f x y).bind fun z => (z.bl?).bind fun k =>
  if k = true then (c q.2).bind fun t => (q.1.peek t.2.env).bind fun y2 => (t.1.peek t.2.env).bind fun w => (f' y2 w).map fun r => (r, t.2) else some (.d (.bl false), q.2)
theorem tChain_LE {w : World} {K : PySem.W.Frag} {r r' : R2} {f f' : D → D → Option R} (h1 : Op2 w K r f) (h2 : Op2 w K r' f') {σ : St} {H : Hp} {Q : VK} (h : LE w K (mChain f f' ma mb mc) σ H Q) : tChain r r' (LE w K ma) (LE w K mb) (LE w K mc) σ H Q := by
  obtain ⟨g, s, G, res, s', e, q⟩ := h
  unfold mChain at e
  obtain ⟨⟨ra, s1⟩, ea, e⟩ := Option.bind_eq_some_iff.mp e
  obtain ⟨⟨rb, s2⟩, eb, e⟩ := Option.bind_eq_some_iff.mp e
  obtain ⟨x, ex, e⟩ := Option.bind_eq_some_iff.mp e
  obtain ⟨y, ey, e⟩ := Option.bind_eq_some_iff.mp e
  obtain ⟨z, ez, e⟩ := Option.bind_eq_some_iff.mp e
  obtain ⟨k, ek, e9⟩ := Option.bind_eq_some_iff.mp e
  clear e
  have er := R.bl_eq ek
  subst er
  refine LE.use G ea fun v1 g1 H1 G1 E1 R1 => LE.use G1 eb fun v2 g2 H2 G2 E2 R2 => ?_
  refine h1 g2 H2 v1 v2 x y _ _ G2.fr ((R1.step E2).peek G2 ex) (R2.peek G2 ey) ez fun v g3 H3 EP RPv => ?_
  cases RPv with
  | d hv =>
    cases hv
    have G3 := G2.pure EP
    have E23 := (E1.trans E2).trans (Ext.ofP EP)
    refine ⟨k, rfl, ?_⟩
    cases k with
    | false =>
      simp only [Bool.false_eq_true, if_false] at e9
      cases e9
      exact iteF (q _ g3 H3 G3 E23 (.d (.bl false)))
    | true =>
      simp only [if_true] at e9
      obtain ⟨⟨rc, s4⟩, ec, e⟩ := Option.bind_eq_some_iff.mp e9
      obtain ⟨y2, ey2, e⟩ := Option.bind_eq_some_iff.mp e
      obtain ⟨w', ew, e⟩ := Option.bind_eq_some_iff.mp e
      obtain ⟨res', e4, e5⟩ := Option.map_eq_some_iff.mp e
      simp only [Prod.mk.injEq] at e5
      obtain ⟨rfl, rfl⟩ := e5
      refine iteT (LE.use G3 ec fun v4 g4 H4 G4 E4 R4 => ?_)
      have R2' := (R2.step (Ext.ofP EP)).step E4
      refine h2 g4 H4 v2 v4 y2 w' _ Q G4.fr (R2'.peek G4 ey2) (R4.peek G4 ew) e4 fun v g5 H5 EP5 RPv => ?_
      exact q v g5 H5 (G4.pure EP5) ((E23.trans E4).trans (Ext.ofP EP5)) ((RPv.rr G4 EP5).sooner fun b z => E23.dom b (E4.dom b z))
theorem e_chain {op op' : CmpOp} {f f' : D → D → Option R} (h1 : CmpOk X op f) (h2 : CmpOk X op' f') (ha : PX X a ma) (hb : PX X b mb) (hc : PX X c mc) (hm : lastMarks [op, op'] [b, c] = false := by with_unfolding_all rfl) : PX X (.Compare a [op, op'] [b, c] pos) (mChain f f' ma mb mc) :=
  let ⟨_, h3, h4⟩ := h1.ex
  let ⟨_, h5, h6⟩ := h2.ex
  PEi (pe_chain h3 h5 ha hb hc hm) fun _ _ _ h => tChain_LE h4 h6 h
theorem t_chain {op op' : CmpOp} {f f' : D → D → Option R} (h1 : CmpOk X op f) (h2 : CmpOk X op' f') (ha : PX X a ma) (hb : PX X b mb) (hc : PX X c mc) (hm : lastMarks [op, op'] [b, c] = false := by with_unfolding_all rfl) : XT X (.Compare a [op, op'] [b, c] pos) (mTest (mChain f f' ma mb mc)) :=
  let ⟨_, h3, h4⟩ := h1.ex
  let ⟨_, h5, h6⟩ := h2.ex
  PTi (pt_chain h3 h5 ha hb hc hm) fun _ _ _ h => tChain_LE h4 h6 (tTest_LT h)
/-! ### subscripts, displays -/
theorem e_ix (hu : X.A.units + 64 < cLine) (ha : PX X a ma) (hb : PX X b mb) (hs : PlainIx b := by exact fun _ _ => rfl) : PX X (.Subscript a b pos) (mBin fIx ma mb) := PEi (pe_ix (ix_x hu) ha hb hs) fun _ _ _ h => tOp_LE o_ix h
theorem o_none : XO X none mNoPart := POi po_none fun _ _ _ h => tNoPart_LO h
theorem o_some (h : PX X e me) : XO X (some e) (mPart me) := POi (po_some h) fun _ _ _ h => tPart_LO h
theorem e_sl {lo hi : Option Expr} {ml mh : M (Option Int)} {p2 : Pos} (ha : PX X a ma) (hl : XO X lo ml) (hh : XO X hi mh) : PX X (.Subscript a (.Slice lo hi none p2) pos) (mSl ma ml mh) := PEi (pe_slice sl_x ha hl hh) fun _ _ _ h => tSl_LE h
theorem d_nil : XD X [] [] := ⟨fun pos p s σ H Q I h => pa_nil.run pos p s σ H Q I (LD_nil h)⟩
theorem d_cons (he : PX X e me) (hr : XD X es ms) (hs : starEach (e :: es) X.env = (false, eval e X.env) :: starEach es X.env := by rfl) : XD X (e :: es) (me :: ms) := ⟨fun pos p s σ H Q I h => (pa_cons he hr hs).run pos p s σ H Q I (LD_cons h)⟩
theorem a_nil : XA X [] [] := ⟨fun pos p s σ H Q I h => pa_nil.run pos p s σ H Q I (LA_nil h)⟩
theorem a_cons (he : PX X e me) (hr : XA X es ms) (hs : starEach (e :: es) X.env = (false, eval e X.env) :: starEach es X.env := by rfl) : XA X (e :: es) (me :: ms) := ⟨fun pos p s σ H Q I h => (pa_cons he hr hs).run pos p s σ H Q I (LA_cons h)⟩
theorem e_tup {x1 : Nat} (h : XD X es ms) : PX X (.Tuple es x1 pos) (mTup ms) := PEi (pe_tup h) fun _ _ _ h => tTup_LE h
theorem e_lst (h : XD X es ms) : PX X (.List es pos) (mLst ms) := PEi (pe_lst h) fun _ _ _ h => tLst_LE h
theorem e_dnew : PX X (.Dict [] [] pos) mDNew := PEi pe_dnewX fun _ _ _ h => tDNew_LE h
/-! ### calls -/
theorem e_cb {x : Str} {id : String} {r : List V → Hp → VK → Prop} {f : List D → Option R} (hc : CallR X (.builtin id) r) (hf : OpN X.w X.K r f) (hg : Gl X x) (hm : X.mg x = none) (hv : bootBuiltins x = some (.builtin id)) (ha : XA X (e :: es) ms) (hn : x ≠ "__name__" := by decide) (hdb : (x == ("__debug__" : Str)) = false := by decide)
    (he : starEach (e :: es) X.env = (false, eval e X.env) :: starEach es X.env := by rfl) (hpl : (backTo pos (starEach es X.env)).any (·.1) = false := by rfl) : PX X (.Call (.Name x p) (e :: es) [] pos) (mPrim f (mArgs ms)) :=
  PEi (pe_callB hc hg hm hv ha hn hdb he hpl) fun _ _ _ h => tPrim_LE hf h
theorem e_ct {x : Str} {T : String} {r : List V → Hp → VK → Prop} {f : List D → Option R} (hc : CallR X (.type T) r) (hf : OpN X.w X.K r f) (hg : Gl X x) (hm : X.mg x = none) (hv : bootBuiltins x = some (.type T)) (ha : XA X (e :: es) ms) (hn : x ≠ "__name__" := by decide) (hdb : (x == ("__debug__" : Str)) = false := by decide)
    (he : starEach (e :: es) X.env = (false, eval e X.env) :: starEach es X.env := by rfl) (hpl : (backTo pos (starEach es X.env)).any (·.1) = false := by rfl) : PX X (.Call (.Name x p) (e :: es) [] pos) (mPrim f (mArgs ms)) :=
  PEi (pe_callTy hc hg hm hv ha hn hdb he hpl) fun _ _ _ h => tPrim_LE hf h
theorem e_sumV (hc : X.calm = true) (hg : Gl X "sum") (hm : X.mg "sum" = none) (hv : bootBuiltins "sum" = some (.builtin "sum")) (ha : PX X a ma) (hbase : attributeBase a "values" X.env (eval a X.env) = eval a X.env := by rfl) (hline : (apos.endLine == cpos.line) = true := by rfl)
    (he : starEach [.Call (.Attribute a "values" apos) [] [] cpos] X.env = [(false, eval (.Call (.Attribute a "values" apos) [] [] cpos) X.env)] := by rfl) : PX X (.Call (.Name "sum" p) [.Call (.Attribute a "values" apos) [] [] cpos] [] pos) (mUn fSumV ma) :=
  PEi (pe_callB (call_sumV hc) hg hm hv (pa_cons (pe_vals ha hbase hline) pa_nil he) (by decide) (by decide) he rfl) fun _ _ _ h => tSumV_LE h
theorem e_mr {name : Str} {T id : String} {r : V → List V → Hp → VK → Prop} {f : D → List D → Option R} (pa : PlainAttrs T) (slot : Slot T name id) (hty : typeOf (.builtin id) = pure (.type "method_descriptor")) (hm : MtR X id r) (hf : OpT X.w X.K r f) (ho : PX X o mo) (ha : XD X (e :: es) ms)
    (hbase : attributeBase o name X.env (eval o X.env) = eval o X.env := by rfl)
    (hfew : ((backTo cpos (starEach (e :: es) X.env)).all (fun x => !x.1) && (backToKw cpos (keywordEach [] X.env)).all (fun x => x.1.isSome) && decide ((e :: es).length + ([] : List Keyword).length + (if ([] : List Keyword).isEmpty then 0 else 1) < 30)) = true := by rfl)
    (hline : (apos.endLine == cpos.line) = true := by rfl) (hs : starEach (e :: es) X.env = (false, eval e X.env) :: starEach es X.env := by rfl) (hplain : (backTo cpos (starEach es X.env)).any (·.1) = false := by rfl) :
    PX X (.Call (.Attribute o name apos) (e :: es) [] cpos) (mMethT T f mo ms) := PEi (pe_bx pa slot hty hm ho ha hbase hfew hline hs hplain) fun _ _ _ h => tBX_LE hf h
theorem e_mm {name : Str} {T id : String} {r : V → List V → Hp → VK → Prop} {f : Own → List D → Option (D × Own)} (pa : PlainAttrs T) (slot : Slot T name id) (hty : typeOf (.builtin id) = pure (.type "method_descriptor")) (hm : MtR X id r) (hf : OpMut X.w X.K r f) (ho : PX X o mo) (ha : XD X (e :: es) ms)
    (hbase : attributeBase o name X.env (eval o X.env) = eval o X.env := by rfl)
    (hfew : ((backTo cpos (starEach (e :: es) X.env)).all (fun x => !x.1) && (backToKw cpos (keywordEach [] X.env)).all (fun x => x.1.isSome) && decide ((e :: es).length + ([] : List Keyword).length + (if ([] : List Keyword).isEmpty then 0 else 1) < 30)) = true := by rfl)
    (hline : (apos.endLine == cpos.line) = true := by rfl) (hs : starEach (e :: es) X.env = (false, eval e X.env) :: starEach es X.env := by rfl) (hplain : (backTo cpos (starEach es X.env)).any (·.1) = false := by rfl) :
    PX X (.Call (.Attribute o name apos) (e :: es) [] cpos) (mMut T f mo ms) := PEi (pe_bx pa slot hty hm ho ha hbase hfew hline hs hplain) fun _ _ _ h => tMut_LE hf h
theorem e_mm0 {name : Str} {T id : String} {r : V → List V → Hp → VK → Prop} {f : Own → List D → Option (D × Own)} (pa : PlainAttrs T) (slot : Slot T name id) (hty : typeOf (.builtin id) = pure (.type "method_descriptor")) (hm : MtR X id r) (hf : OpMut X.w X.K r f) (ho : PX X o mo)
    (hbase : attributeBase o name X.env (eval o X.env) = eval o X.env := by rfl) (hline : (apos.endLine == cpos.line) = true := by rfl) : PX X (.Call (.Attribute o name apos) [] [] cpos) (mMut T f mo []) := PEi (pe_bx0 pa slot hty hm ho hbase hline) fun _ _ _ h => tMut0_LE hf h
/-- f(..), f a def of the program -/
theorem e_call {k : Nat} {f : Addr} {fd : FuncData} {ps : List Str} {x : Str} {fn : Fn} {n : Nat} (F : FnOk X.prog X.w X.K X.mg X.base CX0 k f fd ps (spF X.w X.K fn n)) (hr : Room k X.A) (hg : Gl X x) (hm : X.mg x = some (.ref f)) (hk : PySem.W.keepIn X.K (.ref f) = true) (hb : Binds X.K fd ps [])
    (ha : XA X (e :: es) ms) (hl : ms.length = n := by rfl) (hdb : (x == ("__debug__" : Str)) = false := by decide) (he : starEach (e :: es) X.env = (false, eval e X.env) :: starEach es X.env := by rfl) (hpl : (backTo pos (starEach es X.env)).any (·.1) = false := by rfl) :
    PX X (.Call (.Name x p) (e :: es) [] pos) (mCall fn (mArgs ms)) :=
  PEi (pe_call (E := E0) F hr hg hm hk hb .nil pass0 ha hdb he hpl) fun _ _ _ h => tCall_LE (fun s rs s' e => by rw [mArgs_len e]; exact hl) h
end
end PD
/-! PD: the rules by form: loops, targets, statements, defs. -/
namespace PD
open PySem PySem.Spec PyProof.Rows L2

section
variable {X : Cx} {a b c e o tg iter : Expr} {es rest : List Expr} {ma mb mc me mo : M R} {ms : List (M R)} {ta tb tc : M Bool} {pos p apos cpos : Pos} {elts : List Expr} {kk : Nat} {tpos : Pos}
/-! ### what is walked -/
theorem i_val (he : PX X e me) : XI X tg e (mIt me) := PIi (pi_val he) fun _ _ _ h => iVal_LI h
theorem i_vls (he : PX X e me) (hbase : attributeBase e "values" X.env (eval e X.env) = eval e X.env := by rfl) (hline : (apos.endLine == cpos.line) = true := by rfl) : XI X tg (.Call (.Attribute e "values" apos) [] [] cpos) (mItV me) := PIi (pi_vls he hbase hline) fun _ _ _ h => iVls_LI h
theorem i_itm (he : PX X e me) (hbase : attributeBase e "items" X.env (eval e X.env) = eval e X.env := by rfl) (hline : (apos.endLine == cpos.line) = true := by rfl) : XI X (.Tuple elts kk tpos) (.Call (.Attribute e "items" apos) [] [] cpos) (mItI me) := PIi (pi_itm he hbase hline) fun _ _ _ h => iItm_LI h
theorem i_rng1 (hg : Gl X "range") (hm : X.mg "range" = none) (ha : XD X [a] ms) (hs : starEach [a] X.env = [(false, eval a X.env)] := by rfl) : XI X tg (.Call (.Name "range" p) [a] [] pos) (mItA fRng1 ms) := PIi (pi_range1 hg hm ha hs) fun _ _ _ h => iRng1_LI h
theorem i_rng2 (hg : Gl X "range") (hm : X.mg "range" = none) (ha : XD X [a, b] ms) (hs : starEach [a, b] X.env = [(false, eval a X.env), (false, eval b X.env)] := by rfl) (hs2 : starEach [b] X.env = [(false, eval b X.env)] := by rfl) : XI X tg (.Call (.Name "range" p) [a, b] [] pos) (mItA fRng2 ms) := PIi (pi_range2 hg hm ha hs hs2) fun _ _ _ h => iRng2_LI h
theorem i_rng3 (hg : Gl X "range") (hm : X.mg "range" = none) (ha : XD X [a, b, c] ms) (hs : starEach [a, b, c] X.env = (false, eval a X.env) :: starEach [b, c] X.env := by rfl) (hpl : (backTo pos (starEach [b, c] X.env)).any (·.1) = false := by rfl) : XI X tg (.Call (.Name "range" p) [a, b, c] [] pos) (mItA fRng3 ms) := PIi (pi_range3 hg hm ha hs hpl) fun _ _ _ h => iRng3_LI h
theorem i_en (hg : Gl X "enumerate") (hm : X.mg "enumerate" = none) (ha : XD X [e] ms) (hs : starEach [e] X.env = [(false, eval e X.env)] := by rfl) : XI X (.Tuple elts kk tpos) (.Call (.Name "enumerate" p) [e] [] pos) (mItA fEn ms) := PIi (pi_en hg hm ha hs) fun _ _ _ h => iEn_LI h
theorem i_z2 (hg : Gl X "zip") (hm : X.mg "zip" = none) (ha : XD X [a, b] ms) (hs : starEach [a, b] X.env = (false, eval a X.env) :: starEach [b] X.env := by rfl) (hpl : (backTo pos (starEach [b] X.env)).any (·.1) = false := by rfl) : XI X (.Tuple elts kk tpos) (.Call (.Name "zip" p) [a, b] [] pos) (mItA fZ2 ms) := PIi (pi_z2 hg hm ha hs hpl) fun _ _ _ h => iZ2_LI h
theorem i_z3 (hg : Gl X "zip") (hm : X.mg "zip" = none) (ha : XD X [a, b, c] ms) (hs : starEach [a, b, c] X.env = (false, eval a X.env) :: starEach [b, c] X.env := by rfl) (hpl : (backTo pos (starEach [b, c] X.env)).any (·.1) = false := by rfl) : XI X (.Tuple elts kk tpos) (.Call (.Name "zip" p) [a, b, c] [] pos) (mItA fZ3 ms) := PIi (pi_z3 hg hm ha hs hpl) fun _ _ _ h => iZ3_LI h
/-! ### targets -/
theorem g_n {ts : List Nat} (i : Nat) {x : Str} (hN : X.N.Nodup) (hi : X.N[i]? = some x := by rfl) (hx : Loc X.env.scope x := by first | exact .inl rfl | exact .inr rfl) (hf : X.fn x = true ∨ X.env.scope.names.lookup x = some .local := by first | exact .inl rfl | exact .inr rfl | assumption) (hm : i ∈ ts := by decide) : XG X (.Name x pos) ts (tgN i) :=
  PGi (pg_name hN hi hx hf) fun _ _ _ _ h => gName_LG hm h
theorem gs_nil {ts : List Nat} : XGs X [] ts tgNil := PGsi pgs_nil fun _ _ _ _ h => gNil_LG h
theorem gs_cons {ts : List Nat} {t : D → S → Option S} {u : List D → S → Option S} (h1 : XG X e ts t) (h2 : XGs X es ts u) (hs : (assignEach (e :: es) X.env).map (·.2) = assign e X.env :: (assignEach es X.env).map (·.2) := by rfl) : XGs X (e :: es) ts (tgCons t u) :=
  PGsi (pgs_cons h1 h2 hs) fun _ _ _ _ h => gCons_LG h
theorem g_t {ts : List Nat} {t : List D → S → Option S} {n : Nat} (hc : X.calm = true) (h : XGs X es ts t) (hl : ∀ ds s s', t ds s = some s' → ds.length = n) (hn : (assignEach es X.env).length = n := by rfl) (hst : (assignEach es X.env).findIdx? (·.1) = none := by rfl) : XG X (.Tuple es kk pos) ts (tgT t) :=
  PGi (pg_tup hc h hn hst) fun _ _ _ _ h => gTup_LG hl h
theorem g_sub {ts : List Nat} (hu : X.A.units + 64 < cLine) (ho : PX X o mo) (hi : PX X e me)
    (ha : ∀ v, assign (.Subscript o e pos) X.env v = (do
      let ov ← holding [v] (eval o X.env)
      let iv ← holding [v, ov] (eval e X.env)
      standAt pos
      holding [v, ov, iv] (setItem ov iv v)
      release [v, ov, iv] []) := by intro _; rfl) : XG X (.Subscript o e pos) ts (tgSub mo me) := PGi (pg_sub ho hi (set_x hu) ha) fun _ _ _ _ h => gSub_LG h
/-! ### statements -/
variable {st : Stmt} {sts : List Stmt} {m n m1 m2 : MS}
theorem ss_nil : XSs X [] mSkip := PSsi pss_nil fun _ _ _ h => tNext_LS h
theorem ss_one (h : XS X st m) : XSs X [st] m := pss_one h
theorem ss_cons (h1 : XS X st m) (h2 : XSs X sts n) : XSs X (st :: sts) (mThen m n) := PSsi (pss_cons h1 h2) fun _ _ _ h => tSeq_LS h
theorem s_break : XS X (.Break pos) mBreak := PSi ps_break fun _ _ _ h => by obtain ⟨g, s, G, fl, s', e, q⟩ := h; cases e; exact q _ g _ G (Ext.refl _ _ _)
theorem s_cont : XS X (.Continue pos) mCont := PSi ps_continue fun _ _ _ h => by obtain ⟨g, s, G, fl, s', e, q⟩ := h; cases e; exact q _ g _ G (Ext.refl _ _ _)
theorem s_pass : XS X (.Pass pos) mSkip := PSi ps_pass fun _ _ _ h => tNext_LS h
theorem s_expr (he : PX X e me) (hs : swapsWith e none pos.line X.env = pure false := by rfl) : XS X (.Expr e pos) (mDrop me) := PSi (ps_expr he hs) fun _ _ _ h => tDrop_LS h
theorem s_ret (he : PX X e me) : XS X (.Return (some e) pos) (mRetS me) := PSi (ps_ret he) fun _ _ _ h => tRet_LS h
theorem s_if (hc : XT X c tc) (ha : XSs X sts m) {st2 : List Stmt} (hb : XSs X st2 n) : XS X (.If c sts st2 pos) (mIfS tc m n) := PSi (ps_if hc ha hb) fun _ _ _ h => tIfS_LS h
theorem s_set {i : Nat} {x : Str} {pos' : Pos} (hN : X.N.Nodup) (he : PX X e me) (hi : X.N[i]? = some x := by rfl) (hx : Loc X.env.scope x := by first | exact .inl rfl | exact .inr rfl) (hs : swapsWith e (some (.Name x pos')) pos.line X.env = pure false := by rfl) (hf : X.fn x = true ∨ X.env.scope.names.lookup x = some .local := by first | exact .inl rfl | exact .inr rfl) : XS X (.Assign [.Name x pos'] e pos) (mSet i me) :=
  PSi (ps_set hN hi hx he hs hf) fun _ _ _ h => tSet_LS h
theorem s_asg {ts : List Nat} {t : D → S → Option S} (he : PX X e me) (hg : XG X tg ts t) (hs : swapsWithSole [tg] e pos.line X.env = pure false := by rfl) (hw : swappedStores [tg] e X.env = pure none := by rfl) (h1 : (assignEach [tg] X.env).map (·.2) = [assign tg X.env] := by rfl) : XS X (.Assign [tg] e pos) (mAsg t me) :=
  PSi (ps_asg he hg hs hw h1) fun _ _ _ h => tAsg_LS h
theorem s_par {i j : Nat} {x y : Str} {px py pt : Pos} {kt k2 : Nat} {pt2 : Pos} (hc : X.calm = true) (hN : X.N.Nodup) (ha : PX X a ma) (hb : PX X b mb) (hi : X.N[i]? = some x := by rfl) (hj : X.N[j]? = some y := by rfl) (hij : i ≠ j := by decide)
    (hx : X.env.scope.names.lookup x = some .local := by rfl) (hy : X.env.scope.names.lookup y = some .local := by rfl) (h1 : starEach [a, b] X.env = (false, eval a X.env) :: starEach [b] X.env := by rfl) (h2 : starEach [b] X.env = (false, eval b X.env) :: starEach [] X.env := by rfl)
    (hw : swappedStores [.Tuple [.Name x px, .Name y py] kt pt] (.Tuple [a, b] k2 pt2) X.env = pure (some [x, y]) := by rfl) (hs : swapsWithSole [.Tuple [.Name x px, .Name y py] kt pt] (.Tuple [a, b] k2 pt2) pos.line X.env = pure false := by rfl) :
    XS X (.Assign [.Tuple [.Name x px, .Name y py] kt pt] (.Tuple [a, b] k2 pt2) pos) (mPar i j ma mb) :=
  PSi (ps_par hc hN hi hj hij hx hy (pa_cons ha (pa_cons hb pa_nil h2) h1) hw hs) fun _ _ _ h => tPar_LS h
theorem s_for {ts : List Nat} {t : D → S → Option S} {mi : M (List D)} (hp : PassesOwn (model X.prog X.w) X.A X.env X.xe) (hc : X.calm = true) (hi : XI X tg iter mi) (hg : XG X tg ts t) (hb : XSs X sts m) (hs : ∀ x, foldedSetIterable iter X.env x = pure x := by intro _; rfl) : XS X (.For tg iter sts [] pos) (mFor mi t m) :=
  PSi (ps_for hp hc hi hg hb hs) fun _ _ _ h => tFor_LS h
theorem s_while (hp : PassesOwn (model X.prog X.w) X.A X.env X.xe) (hc : XT X c tc) (hb : XSs X sts m) : XS X (.While c sts [] pos) (mWhile tc m) := PSi (ps_while hp hc hb) fun _ _ _ h => tWhile_LS h
def addI : D → D → Option D
  | .int i, .int j => some (.int (i + j))
  | _, _ => none
def subI : D → D → Option D
  | .int i, .int j => some (.int (i - j))
  | _, _ => none
theorem s_aug {op : Operator} {f : Int → Int → Int} {fd : D → D → Option D} {i : Nat} {x : Str} {pos' : Pos} (ho : PIp X op (ipI f)) (hfd : ∀ dx dy dz, fd dx dy = some dz → ∃ i j, dx = .int i ∧ dy = .int j ∧ dz = .int (f i j)) (hN : X.N.Nodup) (he : PX X e me) (hi : X.N[i]? = some x := by rfl) (hx : Loc X.env.scope x := by first | exact .inl rfl | exact .inr rfl)
    (hf : X.fn x = true ∨ X.env.scope.names.lookup x = some .local := by first | exact .inl rfl | exact .inr rfl) : XS X (.AugAssign (.Name x pos') op e pos) (mAug i fd me) :=
  PSi (ps_aug hN hi hx he ho hf) fun _ _ _ h => tAug_LS (fun g H x y dx dy dz Q hs rx ry e q => by
    obtain ⟨i, j, rfl, rfl, rfl⟩ := hfd _ _ _ e
    cases rx; cases ry
    exact ⟨i, j, rfl, rfl, q _ (.int _)⟩) h
theorem addI_ok : ∀ dx dy dz, addI dx dy = some dz → ∃ i j, dx = .int i ∧ dy = .int j ∧ dz = .int (i + j) := fun dx dy dz e => by
  unfold addI at e
  split at e
  · cases e; exact ⟨_, _, rfl, rfl, rfl⟩
  · cases e
theorem subI_ok : ∀ dx dy dz, subI dx dy = some dz → ∃ i j, dx = .int i ∧ dy = .int j ∧ dz = .int (i - j) := fun dx dy dz e => by
  unfold subI at e
  split at e
  · cases e; exact ⟨_, _, rfl, rfl, rfl⟩
  · cases e
/-! ### comprehensions -/
abbrev XTs (X : Cx) (ifs : List Expr) (m : M Bool) : Prop := PTs X ifs (LT X.w X.K m)
theorem ts_nil : XTs X [] mYes := ⟨fun pins s σ H Q I h => pts_nil.run pins s σ H Q I (by obtain ⟨g, s, G, r, s', e, q⟩ := h; cases e; exact q g H G (Ext.refl _ _ _))⟩
theorem ts_one (h : XT X c tc) : XTs X [c] tc := pts_one h
variable {elt : Expr} {ifs : List Expr} {scope : Scope} {own : List (Str × Nat)} {ts ts1 vs1 : List Nat} {t t1 : D → S → Option S} {mi mi1 : M (List D)} {tt tt1 : M Bool} {tg1 iter1 : Expr} {ifs1 : List Expr}
theorem e_lc (hc : X.calm = true) (hN : X.N.Nodup) (ok : BlkOk X.N X.env.scope scope own) (hi : XI X tg iter mi) (hg : Blk X scope fun X => XG X tg ts t) (ht : Blk X scope fun X => XTs X ifs tt) (he : Blk X scope fun X => PX X elt me) (hs : ∀ x, foldedSetIterable iter X.env x = pure x := by intro _; rfl) (hts : ∀ i ∈ ts, i ∈ own.map (·.2) := by decide) :
    PX X (.ListComp elt [⟨tg, iter, ifs, 0⟩] scope pos) (mLc mi t tt me (own.map (·.2))) := PEi (pe_lc hc hN hi ok hg ht he hs) fun _ _ _ h => tLc_LE hts h
theorem LEA {w : World} {K : PySem.W.Frag} {i : Nat} {mm : M R} {T : TE} {D : Ends} {σ : St} {H : Hp} (h : LS w K (mSet i mm) D σ H) (ht : ∀ σ H Q, LE w K mm σ H Q → T σ H Q) : tAsg T (gName i) D σ H := ht _ _ _ (tSet_LS h)
theorem s_lc {i : Nat} {y : Str} {py spos : Pos} (hc : X.calm = true) (hN : X.N.Nodup) (ok : BlkOk X.N X.env.scope scope own) (hi : XI X tg iter mi) (hg : Blk X scope fun X => XG X tg ts t) (ht : Blk X scope fun X => XTs X ifs tt) (he : Blk X scope fun X => PX X elt me)
    (ha : (scope.names.any fun (n, k) => n == y && (k == .local || k == .cell)) = false := by decide +kernel) (hy : X.N[i]? = some y := by rfl) (hyl : X.env.scope.names.lookup y = some .local := by rfl) (hk : X.env.scope.kind = .function := by rfl) (hl : (py.line == pos.line) = true := by rfl) (hs : ∀ x, foldedSetIterable iter X.env x = pure x := by intro _; rfl) (hts : ∀ i ∈ ts, i ∈ own.map (·.2) := by decide) :
    XS X (.Assign [.Name y py] (.ListComp elt [⟨tg, iter, ifs, 0⟩] scope pos) spos) (mSet i (mLc mi t tt me (own.map (·.2)))) :=
  PSi (ps_setLc hc hN hy hyl (sw_true hk hyl hl ha) hi ok hg ht he hs) fun _ _ _ h => LEA h fun _ _ _ h => tLc_LE hts h
theorem e_lc2 (hc : X.calm = true) (hN : X.N.Nodup) (ok : BlkOk X.N X.env.scope scope own) (hi : XI X tg iter mi) (hg : Blk X scope fun X => XG X tg ts t) (ht : Blk X scope fun X => XTs X ifs tt) (hi1 : Blk X scope fun X => XI X tg1 iter1 mi1) (hg1 : Blk X scope fun X => XG X tg1 ts1 t1) (ht1 : Blk X scope fun X => XTs X ifs1 tt1) (he : Blk X scope fun X => PX X elt me)
    (hv : ∀ i ∈ vs1, i ∈ own.map (·.2) := by decide) (hs : ∀ x, foldedSetIterable iter X.env x = pure x := by intro _; rfl) (hs1 : ∀ env x, foldedSetIterable iter1 env x = pure x := by intro _ _; rfl) (hts : ∀ i ∈ ts, i ∈ own.map (·.2) := by decide) (hts1 : ∀ i ∈ ts1, i ∈ vs1 := by decide) :
    PX X (.ListComp elt [⟨tg, iter, ifs, 0⟩, ⟨tg1, iter1, ifs1, 0⟩] scope pos) (mLc2 mi t tt mi1 t1 tt1 me (own.map (·.2)) vs1) := PEi (pe_lc2 hc hN hi ok hv hg ht hi1 hg1 ht1 he hs hs1) fun _ _ _ h => tLc2_LE hts hts1 hv h
theorem s_lc2 {i : Nat} {y : Str} {py spos : Pos} (hc : X.calm = true) (hN : X.N.Nodup) (ok : BlkOk X.N X.env.scope scope own) (hi : XI X tg iter mi) (hg : Blk X scope fun X => XG X tg ts t) (ht : Blk X scope fun X => XTs X ifs tt) (hi1 : Blk X scope fun X => XI X tg1 iter1 mi1) (hg1 : Blk X scope fun X => XG X tg1 ts1 t1) (ht1 : Blk X scope fun X => XTs X ifs1 tt1) (he : Blk X scope fun X => PX X elt me)
    (ha : (scope.names.any fun (n, k) => n == y && (k == .local || k == .cell)) = false := by decide +kernel) (hy : X.N[i]? = some y := by rfl) (hyl : X.env.scope.names.lookup y = some .local := by rfl) (hk : X.env.scope.kind = .function := by rfl) (hl : (py.line == pos.line) = true := by rfl)
    (hv : ∀ i ∈ vs1, i ∈ own.map (·.2) := by decide) (hs : ∀ x, foldedSetIterable iter X.env x = pure x := by intro _; rfl) (hs1 : ∀ env x, foldedSetIterable iter1 env x = pure x := by intro _ _; rfl) (hts : ∀ i ∈ ts, i ∈ own.map (·.2) := by decide) (hts1 : ∀ i ∈ ts1, i ∈ vs1 := by decide) :
    XS X (.Assign [.Name y py] (.ListComp elt [⟨tg, iter, ifs, 0⟩, ⟨tg1, iter1, ifs1, 0⟩] scope pos) spos) (mSet i (mLc2 mi t tt mi1 t1 tt1 me (own.map (·.2)) vs1)) :=
  PSi (ps_setLc2 hc hN hy hyl (sw_true hk hyl hl ha) hi ok hv hg ht hi1 hg1 ht1 he hs hs1) fun _ _ _ h => LEA h fun _ _ _ h => tLc2_LE hts hts1 hv h
variable {kx vx : Expr} {mk mv : M R}
theorem e_dc (hu : X.A.units + 64 < cLine) (hc : X.calm = true) (hN : X.N.Nodup) (ok : BlkOk X.N X.env.scope scope own) (hi : XI X tg iter mi) (hg : Blk X scope fun X => XG X tg ts t) (ht : Blk X scope fun X => XTs X ifs tt) (hk : Blk X scope fun X => PX X kx mk) (he : Blk X scope fun X => PX X vx mv) (hs : ∀ x, foldedSetIterable iter X.env x = pure x := by intro _; rfl) (hts : ∀ i ∈ ts, i ∈ own.map (·.2) := by decide) :
    PX X (.DictComp kx vx [⟨tg, iter, ifs, 0⟩] scope pos) (mDc mi t tt mk mv (own.map (·.2))) := PEi (pe_dcx hu hc hN hi ok hg ht hk he hs) fun _ _ _ h => tDc_LE hts h
end
/-! ### defs -/
def runFn (n locals : Nat) (body : MS) : Fn := fun args ds => if args.length = n then (body ⟨args.map .d ++ List.replicate locals .no, ds⟩).bind fun p => match p.1 with
  | .nx => some (.d .non, p.2.ds)
  | .rt r => some (r, p.2.ds)
  | _ => none else none
section
variable {P : Program} {w : World} {K : PySem.W.Frag} {mg : Str → Option Value} {base : Heap}
theorem fn_start {g : Gh} {ds : Option DS} {H : Hp} {vs : List V} {xs : List D} {N : List Str} {n : Nat} (G : GoodH g ds H) (r : RepL w K g.st g.F vs xs) (hl : vs.length = n) (hn : n ≤ N.length) : Good w K g ⟨xs.map .d ++ List.replicate (N.length - n) .no, ds⟩ (L2.start N vs) H ∧ ∀ b, PD.W g (xs.map .d ++ List.replicate (N.length - n) Sl.no) (L2.start N vs) b → StA g b := by
  have hxl := r.length
  have own : ∀ (j : Nat) (o : Own), (xs.map Sl.d ++ List.replicate (N.length - n) Sl.no)[j]? = some (.o o) → False := fun j o h => by
    by_cases hj : j < xs.length
    · rw [List.getElem?_append_left (by simpa using hj), List.getElem?_map] at h
      obtain ⟨z, _, e⟩ := Option.map_eq_some_iff.mp h
      cases e
    · rw [List.getElem?_append_right (by simpa using hj)] at h
      have := List.mem_of_getElem? h
      have := List.eq_of_mem_replicate this
      cases this
  refine ⟨⟨G.fr, G.ds, ?_, fun j sl x h1 h2 => ?_, fun i j o o' a h1 => (own i o h1).elim, fun a ⟨j, o, h1, _⟩ => (own j o h1).elim⟩, fun b hb => hb.elim (fun ⟨j, o, h1, _⟩ => (own j o h1).elim) id⟩
  · show (xs.map Sl.d ++ List.replicate (N.length - n) Sl.no).length = (L2.start N vs).length
    unfold L2.start
    simp only [List.length_append, List.length_map, List.length_replicate]
    omega
  · have h1 : (xs.map Sl.d ++ List.replicate (N.length - n) Sl.no)[j]? = some sl := h1
    unfold L2.start at h2
    by_cases hj : j < xs.length
    · rw [List.getElem?_append_left (by simpa using hj), List.getElem?_map, List.getElem?_eq_getElem hj] at h1
      rw [List.getElem?_append_left (by simp; omega), List.getElem?_map] at h2
      obtain ⟨v, hv, ev⟩ := Option.map_eq_some_iff.mp h2
      obtain ⟨d, hd, rd⟩ := r.get hv
      rw [List.getElem?_eq_getElem hj] at hd
      cases h1; cases hd; cases ev
      exact .d rd
    · rw [List.getElem?_append_right (by simpa using hj)] at h1
      rw [List.getElem?_append_right (by simp; omega)] at h2
      have e1 := List.eq_of_mem_replicate (List.mem_of_getElem? h1)
      have e2 := List.eq_of_mem_replicate (List.mem_of_getElem? h2)
      subst e1 e2
      exact .no
theorem fn_ok {x qual : Str} {st : Stmt} {f : Addr} {fd : FuncData} {N ps : List Str} {k : Nat} {body : MS} (F : Fun K x qual st f fd) (S : FnScope N ps (defScope st)) (hn : ps.length ≤ N.length)
    (hb : ∀ (cdv : Value) (A : Around) (outer : List Env) (s : Shared) (H : Hp) (E : XK), Room k (A.deeper (envOfC qual (defScope st) s.heap.objs.size f cdv)) → XSs (cxOf CX0 P w K mg base N qual (defScope st) f cdv A outer s H E).nox (defBody st) body) :
    FnOk P w K mg base CX0 (k + 1) f fd ps (spF w K (runFn ps.length (N.length - ps.length) body) ps.length) := by
  refine F.ok S (fun vs H Q E ⟨g, ds, xs, _, _, hl, _⟩ => hl) (fun cdv A outer s H vs Q E hr h => ⟨_, hb cdv A outer s H E hr, ?_⟩)
  obtain ⟨g, ds, xs, GH, RL, hl, r, ds', e, q⟩ := h
  obtain ⟨G, own⟩ := fn_start (N := N) GH RL hl hn
  unfold runFn at e
  split at e
  · obtain ⟨⟨fl, s'⟩, e1, e2⟩ := Option.bind_eq_some_iff.mp e
    refine ⟨g, _, G, fl, s', e1, ?_⟩
    cases fl with
    | nx =>
      cases e2
      intro σ' g' H' G' E'
      refine q .non g' H' ?_ G'.h (.d .non)
      exact (E'.more own fun b hb => (E'.wsub b hb).imp (own b) id).less fun b hb => .inl (.inr hb)
    | rt r' =>
      cases e2
      intro v g' H' G' E' R'
      refine q v g' H' (E'.more own fun b hb => (E'.wsub b hb).imp (own b) id) G' ?_
      cases R' with
      | d h => exact .d h
      | t h0 ho hs => exact .t (h0.imp id (own _)) ho hs
    | bk => cases e2
    | ct => cases e2
  · cases e
end
end PD
/-! PD: name = {dict comprehension} on one line. -/
namespace PD
open PySem PySem.Spec PyProof.Rows L2

section
variable {X : Cx}
theorem ps_setDcx {i : Nat} {y : Str} {py : Pos} {kx vx tg iter : Expr} {ifs : List Expr} {scope : Scope} {own : List (Str × Nat)} {pos spos : Pos} {wi : TI} {g : TG} {tt : TT} {tk tv : TE} (hu : X.A.units + 64 < cLine) (hc : X.calm = true) (hN : X.N.Nodup) (hy : X.N[i]? = some y) (hyl : X.env.scope.names.lookup y = some .local)
    (hsw : swapsWith (.DictComp kx vx [⟨tg, iter, ifs, 0⟩] scope pos) (some (.Name y py)) spos.line X.env = pure true) (hi : PI X tg iter wi) (ok : BlkOk X.N X.env.scope scope own)
    (hg : ∀ (s : Shared) (H : Hp) (C : Addr) (cl : List (Str × Addr)) (fp : List Addr), PG (X.blk s H scope (compEnvC scope cl C X.env) fp) tg g) (ht : ∀ (s : Shared) (H : Hp) (C : Addr) (cl : List (Str × Addr)) (fp : List Addr), PTs (X.blk s H scope (compEnvC scope cl C X.env) fp) ifs tt)
    (hk : ∀ (s : Shared) (H : Hp) (C : Addr) (cl : List (Str × Addr)) (fp : List Addr), PE (X.blk s H scope (compEnvC scope cl C X.env) fp) kx tk)
    (he : ∀ (s : Shared) (H : Hp) (C : Addr) (cl : List (Str × Addr)) (fp : List Addr), PE (X.blk s H scope (compEnvC scope cl C X.env) fp) vx tv) (hs : ∀ x, foldedSetIterable iter X.env x = pure x := by intro _; rfl) :
    PS X (.Assign [.Name y py] (.DictComp kx vx [⟨tg, iter, ifs, 0⟩] scope pos) spos) (tAsg (tDcX X.w X.K wi g tt tk tv (own.map (·.2))) (gName i)) := by
  refine ⟨fun pins s σ H D I h => ?_⟩
  rw [exec_Assign_Name_used _ _ _ _ hsw]
  refine wpAny_bind (wpAny_standAt (wpAny_bind ?_))
  show wpAny _ X.A (do let _ ← comprehension (.DictComp kx vx [⟨tg, iter, ifs, 0⟩] scope pos) scope X.env (firstIterPos [⟨tg, iter, ifs, 0⟩] pos) newDict false (eval iter X.env) (some (assign (.Name y py) X.env))) _ _ s
  have h : tDcX X.w X.K wi g tt tk tv (own.map (·.2)) σ H (fun x H1 => gName i x σ H1 D.nx) := h
  refine wpAny_bind (thn (dcx_core (Qf := fun _ s' => SP X pins D .next s') hu hc hN I hi ok hg ht hk he hs h fun L C s' m H' I' q hn f => ?_) fun _ s' hq => wpAny_pure (wpAny_pure hq))
  show wpAny _ _ (assign (.Name y py) X.env (.ref L)) _ _ _
  refine wpAny_assign_Name (store_ok2 (v := V.ref L) I' hN hy (.inl hyl) rfl (fun s2 I2 ⟨a, sb, ha⟩ => ?_) (.inr hyl))
  obtain ⟨f0, f1, f2, f3, f4, f5⟩ := f
  have haC : C ≠ a := by
    rcases ha with z | z
    · rw [z]; exact f1
    · exact fun e => f4 y a z e.symm
  refine ⟨m, hn.sameBut sb haC, fun h3 sb3 => ?_⟩
  exact ⟨_, H', I2.turned (t' := s2.toks) (fun b o hb e => (sb3.2 b hb).trans e) f0 f1 f3 f4 f5, q⟩
theorem sw_trueD {kx vx : Expr} {gs : List Comprehension} {scope : Scope} {pos py : Pos} {y : Str} {l : Nat} {env : Env} (hk : env.scope.kind = .function) (hy : env.scope.names.lookup y = some .local) (hl : (py.line == pos.line) = true)
    (ha : (scope.names.any fun (n, k) => n == y && (k == .local || k == .cell)) = false) : swapsWith (.DictComp kx vx gs scope pos) (some (.Name y py)) l env = pure true := by
  have ky : env.kindOf y = some .local := hy
  have hb : env.blockKind = .function := by unfold Env.blockKind; rw [hk]; rfl
  unfold swapsWith
  simp only [hb, ky, ha, Expr.pos, hl]
  rfl

variable {tg iter kx vx : Expr} {ifs : List Expr} {scope : Scope} {own : List (Str × Nat)} {ts : List Nat} {t : D → S → Option S} {mi : M (List D)} {tt : M Bool} {mk mv : M R} {pos : Pos}
theorem s_dc {i : Nat} {y : Str} {py spos : Pos} (hu : X.A.units + 64 < cLine) (hc : X.calm = true) (hN : X.N.Nodup) (ok : BlkOk X.N X.env.scope scope own) (hi : XI X tg iter mi) (hg : Blk X scope fun X => XG X tg ts t) (ht : Blk X scope fun X => XTs X ifs tt) (hk : Blk X scope fun X => PX X kx mk) (he : Blk X scope fun X => PX X vx mv)
    (ha : (scope.names.any fun (n, k) => n == y && (k == .local || k == .cell)) = false := by decide +kernel) (hy : X.N[i]? = some y := by rfl) (hyl : X.env.scope.names.lookup y = some .local := by rfl) (hkd : X.env.scope.kind = .function := by rfl) (hl : (py.line == pos.line) = true := by rfl) (hs : ∀ x, foldedSetIterable iter X.env x = pure x := by intro _; rfl) (hts : ∀ i ∈ ts, i ∈ own.map (·.2) := by decide) :
    XS X (.Assign [.Name y py] (.DictComp kx vx [⟨tg, iter, ifs, 0⟩] scope pos) spos) (mSet i (mDc mi t tt mk mv (own.map (·.2)))) :=
  PSi (ps_setDcx hu hc hN hy hyl (sw_trueD hkd hyl hl ha) hi ok hg ht hk he hs) fun _ _ _ h => LEA h fun _ _ _ h => tDc_LE hts h
end
end PD
/-! PD: a def as it stands; the laws' draws, as data. -/
namespace PD
open PySem PySem.Spec PyProof.Rows L2

structure Has (K : PySem.W.Frag) (mg : Str → Option Value) (name : Str) (st : Stmt) (ps : List Str) (f : Addr) (fd : FuncData) : Prop where
  fn : Fun K name name st f fd
  mg : mg name = some (.ref f)
  bd : Binds K fd ps []
theorem room65 {k : Nat} {A : Around} (hr : Room k A) : A.units + 65 < cLine := by have := hr.un; omega
theorem fn_none {P : Program} {w : World} {K : PySem.W.Frag} {mg : Str → Option Value} {base : Heap} {k n : Nat} {f : Addr} {fd : FuncData} {ps : List Str} : FnOk P w K mg base CX0 k f fd ps (spF w K (fun _ _ => none) n) :=
  ⟨fun vs H Q E ⟨g, ds, xs, _, _, _, r, ds', e, _⟩ => (by cases e), fun A outer s H args us vs Q E hr he hb hv ⟨g, ds, xs, _, _, _, r, ds', e, _⟩ => (by cases e)⟩
theorem has_mk {K : PySem.W.Frag} {mg : Str → Option Value} {x : Str} {st : Stmt} {ps : List Str} {f : Addr} {oc : Value} {od an : Option Addr} {osl : Array (Option Value)} {kV doc pm cdv ct : Value}
    (l : K.lookup f = some ⟨oc, od, .func (PySem.W.fnOf x x (defArgs st) (defBody st) (defScope st) .none kV doc pm an cdv ct), osl⟩) (c : PySem.W.codeIn K cdv x = true) (k : PySem.W.keepIn K (.ref f) = true) (m : mg x = some (.ref f))
    (h : ∀ (kV doc pm : Value) (an : Option Addr) (cdv ct : Value) (us : List Value), us.length = ps.length → bindArgs (PySem.W.fnOf x x (defArgs st) (defBody st) (defScope st) .none kV doc pm an cdv ct) ⟨us, []⟩ = pure (ps.zip us)) : Has K mg x st ps f (PySem.W.fnOf x x (defArgs st) (defBody st) (defScope st) .none kV doc pm an cdv ct) :=
  ⟨fun_mk l c k, m, (fun_mk l c k).binds h⟩
/-! ### the draws -/
def absI (i : Int) : Int := if i < 0 then -i else i
def seedOf (ns : List Int) : Int := ns.foldl (fun s c => (s * 31 + c).fmod 1000003) 7
def f__law_state : Fn := fun args ds => match args, ds with
  | [.scr ns], none => if ns.length ≤ sizeLine then some (.d .st, some ⟨ns.map absI, seedOf ns + 1⟩) else none
  | _, _ => none
def dropZ : List Int → List Int
  | 0 :: l => dropZ l
  | l => l
def drawR (cells : List Int) (seed many : Int) : Int × DS := match dropZ cells with
  | c :: l => (c.fmod many, ⟨c.fdiv many :: l, seed⟩)
  | [] => ((((seed * 48271 + 12345).fmod 2147483647).fdiv 64).fmod many, ⟨[], (seed * 48271 + 12345).fmod 2147483647⟩)
def f__law_draw : Fn := fun args ds => match args, ds with
  | [.st, .int many], some d => if 0 < many ∧ many < 1073741824 then some (.d (.int (drawR d.cells d.seed many).1), some (drawR d.cells d.seed many).2) else none
  | _, _ => none
end PD
/-! PD: what a term of data does, as conditions. -/
namespace PD
open PySem PySem.Spec PyProof.Rows L2

def wp {α : Type} (m : M α) (s : S) (Q : α → S → Prop) : Prop := ∃ a s', m s = some (a, s') ∧ Q a s'
def wf (f : Fn) (args : List D) (ds : Option DS) (Q : R → Option DS → Prop) : Prop := ∃ r ds', f args ds = some (r, ds') ∧ Q r ds'
theorem wp.mono {α : Type} {m : M α} {s : S} {Q Q' : α → S → Prop} (h : wp m s Q) (i : ∀ a s', Q a s' → Q' a s') : wp m s Q' := let ⟨a, s', e, q⟩ := h; ⟨a, s', e, i _ _ q⟩
theorem wf.mono {f : Fn} {args : List D} {ds : Option DS} {Q Q' : R → Option DS → Prop} (h : wf f args ds Q) (i : ∀ a s', Q a s' → Q' a s') : wf f args ds Q' := let ⟨a, s', e, q⟩ := h; ⟨a, s', e, i _ _ q⟩
section
variable {α β : Type} {s : S}
theorem wp_bind {m : M α} {k : α × S → Option (β × S)} {Q : β → S → Prop} : (∃ b s', (m s).bind k = some (b, s') ∧ Q b s') ↔ wp m s fun a s1 => ∃ b s', k (a, s1) = some (b, s') ∧ Q b s' := by
  constructor
  · rintro ⟨b, s', e, q⟩
    obtain ⟨⟨a, s1⟩, e1, e2⟩ := Option.bind_eq_some_iff.mp e
    exact ⟨a, s1, e1, b, s', e2, q⟩
  · rintro ⟨a, s1, e1, b, s', e2, q⟩
    exact ⟨b, s', by rw [e1]; exact e2, q⟩
variable {Q : R → S → Prop} {a b m o : M R} {i : Nat}
theorem wp_c {d : D} : wp (mC d) s Q ↔ Q (.d d) s := ⟨fun ⟨_, _, e, q⟩ => by cases e; exact q, fun q => ⟨_, _, rfl, q⟩⟩
theorem wp_var : wp (mVar i) s Q ↔ match s.env[i]? with
    | some (.d x) => Q (.d x) s
    | some (.o _) => Q (.b i) s
    | _ => False := by
  unfold wp mVar
  cases s.env[i]? with
  | none => exact ⟨fun ⟨_, _, e, _⟩ => (by cases e), fun q => q.elim⟩
  | some sl => cases sl <;> first | exact ⟨fun ⟨_, _, e, q⟩ => (by cases e; exact q), fun q => ⟨_, _, rfl, q⟩⟩ | exact ⟨fun ⟨_, _, e, _⟩ => (by cases e), fun q => q.elim⟩
theorem wp_bin {f : D → D → Option R} : wp (mBin f a b) s Q ↔ wp a s fun ra s1 => wp b s1 fun rb s2 => ∃ x, ra.peek s2.env = some x ∧ ∃ y, rb.peek s2.env = some y ∧ ∃ r, f x y = some r ∧ Q r s2 := by
  have h : wp (mBin f a b) s Q ↔ ∃ r s', ((a s).bind fun p => (b p.2).bind fun q => match p.1.peek q.2.env, q.1.peek q.2.env with
    | some x, some y => (f x y).map fun r => (r, q.2)
    | _, _ => none) = some (r, s') ∧ Q r s' := Iff.rfl
  rw [h, wp_bind]
  simp only [wp_bind]
  constructor <;> (rintro ⟨ra, s1, e1, rb, s2, e2, hh⟩; refine ⟨ra, s1, e1, rb, s2, e2, ?_⟩)
  · obtain ⟨r, s', e, q⟩ := hh
    try simp only at e
    split at e
    · rename_i x y h1 h2
      obtain ⟨r', h3, h4⟩ := Option.map_eq_some_iff.mp e
      cases h4
      exact ⟨x, h1, y, h2, _, h3, q⟩
    · cases e
  · obtain ⟨x, h1, y, h2, r, h3, q⟩ := hh
    exact ⟨r, s2, by simp [h1, h2, h3], q⟩
theorem wp_un {f : D → Option R} : wp (mUn f a) s Q ↔ wp a s fun ra s1 => ∃ x, ra.peek s1.env = some x ∧ ∃ r, f x = some r ∧ Q r s1 := by
  have h : wp (mUn f a) s Q ↔ ∃ r s', ((a s).bind fun p => match p.1.peek p.2.env with
    | some x => (f x).map fun r => (r, p.2)
    | none => none) = some (r, s') ∧ Q r s' := Iff.rfl
  rw [h, wp_bind]
  constructor <;> (rintro ⟨ra, s1, e1, hh⟩; refine ⟨ra, s1, e1, ?_⟩)
  · obtain ⟨r, s', e, q⟩ := hh
    try simp only at e
    split at e
    · rename_i x h1
      obtain ⟨r', h3, h4⟩ := Option.map_eq_some_iff.mp e
      cases h4
      exact ⟨x, h1, _, h3, q⟩
    · cases e
  · obtain ⟨x, h1, r, h3, q⟩ := hh
    exact ⟨r, s1, by simp [h1, h3], q⟩
theorem wp_if {t : M Bool} : wp (mIf t a b) s Q ↔ wp t s fun k s1 => if k = true then wp a s1 Q else wp b s1 Q := by
  have h : wp (mIf t a b) s Q ↔ ∃ r s', ((t s).bind fun p => if p.1 = true then a p.2 else b p.2) = some (r, s') ∧ Q r s' := Iff.rfl
  rw [h, wp_bind]
  constructor <;> (rintro ⟨k, s1, e1, hh⟩; refine ⟨k, s1, e1, ?_⟩; cases k <;> exact hh)
theorem wp_test {Q : Bool → S → Prop} : wp (mTest m) s Q ↔ wp m s fun r s1 => ∃ k, r.bl? = some k ∧ Q k s1 := by
  have h : wp (mTest m) s Q ↔ ∃ r s', ((m s).bind fun p => (p.1.bl?).map fun k => (k, p.2)) = some (r, s') ∧ Q r s' := Iff.rfl
  rw [h, wp_bind]
  constructor <;> (rintro ⟨ra, s1, e1, hh⟩; refine ⟨ra, s1, e1, ?_⟩)
  · obtain ⟨r, s', e, q⟩ := hh
    obtain ⟨r', h3, h4⟩ := Option.map_eq_some_iff.mp e
    cases h4
    exact ⟨_, h3, q⟩
  · obtain ⟨k, h1, q⟩ := hh
    exact ⟨k, s1, by simp [h1], q⟩
theorem wp_tru {Q : Bool → S → Prop} : wp (mTru m) s Q ↔ wp m s fun r s1 => ∃ d, r.peek s1.env = some d ∧ ∃ k, truD d = some k ∧ Q k s1 := by
  have h : wp (mTru m) s Q ↔ ∃ r s', ((m s).bind fun p => ((p.1.peek p.2.env).bind truD).map fun k => (k, p.2)) = some (r, s') ∧ Q r s' := Iff.rfl
  rw [h, wp_bind]
  constructor <;> (rintro ⟨ra, s1, e1, hh⟩; refine ⟨ra, s1, e1, ?_⟩)
  · obtain ⟨r, s', e, q⟩ := hh
    obtain ⟨r', h3, h4⟩ := Option.map_eq_some_iff.mp e
    obtain ⟨d, h5, h6⟩ := Option.bind_eq_some_iff.mp h3
    cases h4
    exact ⟨d, h5, _, h6, q⟩
  · obtain ⟨d, h1, k, h2, q⟩ := hh
    exact ⟨k, s1, by simp [h1, h2], q⟩
variable {ta tb : M Bool} {Qb : Bool → S → Prop}
theorem wp_and : wp (mAnd ta tb) s Qb ↔ wp ta s fun k s1 => if k = true then wp tb s1 Qb else Qb false s1 := by
  have h : wp (mAnd ta tb) s Qb ↔ ∃ r s', ((ta s).bind fun p => if p.1 = true then tb p.2 else some (false, p.2)) = some (r, s') ∧ Qb r s' := Iff.rfl
  rw [h, wp_bind]
  constructor <;> (rintro ⟨k, s1, e1, hh⟩; refine ⟨k, s1, e1, ?_⟩; cases k)
  · obtain ⟨r, s', e, q⟩ := hh; cases e; exact q
  · exact hh
  · exact ⟨_, _, rfl, hh⟩
  · exact hh
theorem wp_or : wp (mOr ta tb) s Qb ↔ wp ta s fun k s1 => if k = true then Qb true s1 else wp tb s1 Qb := by
  have h : wp (mOr ta tb) s Qb ↔ ∃ r s', ((ta s).bind fun p => if p.1 = true then some (true, p.2) else tb p.2) = some (r, s') ∧ Qb r s' := Iff.rfl
  rw [h, wp_bind]
  constructor <;> (rintro ⟨k, s1, e1, hh⟩; refine ⟨k, s1, e1, ?_⟩; cases k)
  · exact hh
  · obtain ⟨r, s', e, q⟩ := hh; cases e; exact q
  · exact hh
  · exact ⟨_, _, rfl, hh⟩
theorem wp_not : wp (mNot ta) s Qb ↔ wp ta s fun k s1 => Qb (!k) s1 := by
  have h : wp (mNot ta) s Qb ↔ ∃ r s', ((ta s).bind fun p => some (!p.1, p.2)) = some (r, s') ∧ Qb r s' := Iff.rfl
  rw [h, wp_bind]
  constructor <;> (rintro ⟨k, s1, e1, hh⟩; refine ⟨k, s1, e1, ?_⟩)
  · obtain ⟨r, s', e, q⟩ := hh; cases e; exact q
  · exact ⟨_, _, rfl, hh⟩
theorem wp_yes : wp mYes s Qb ↔ Qb true s := ⟨fun ⟨_, _, e, q⟩ => by cases e; exact q, fun q => ⟨_, _, rfl, q⟩⟩
theorem wp_blk {k : Bool → M R} : wp (mBlK k a) s Q ↔ wp a s fun r s1 => ∃ c, r.bl? = some c ∧ wp (k c) s1 Q := by
  have h : wp (mBlK k a) s Q ↔ ∃ r s', ((a s).bind fun p => (p.1.bl?).bind fun c => k c p.2) = some (r, s') ∧ Q r s' := Iff.rfl
  rw [h, wp_bind]
  constructor <;> (rintro ⟨ra, s1, e1, hh⟩; refine ⟨ra, s1, e1, ?_⟩)
  · obtain ⟨r, s', e, q⟩ := hh
    obtain ⟨c, h1, h2⟩ := Option.bind_eq_some_iff.mp e
    exact ⟨c, h1, r, s', h2, q⟩
  · obtain ⟨c, h1, r, s', h2, q⟩ := hh
    exact ⟨r, s', by simp [h1, h2], q⟩
theorem wp_retR {r : R} : wp (mRetR r) s Q ↔ Q r s := ⟨fun ⟨_, _, e, q⟩ => by cases e; exact q, fun q => ⟨_, _, rfl, q⟩⟩
theorem wp_andV : wp (mAndV a b) s Q ↔ wp a s fun r s1 => ∃ c, r.bl? = some c ∧ if c = true then wp b s1 Q else Q (.d (.bl false)) s1 := by
  unfold mAndV
  rw [wp_blk]
  constructor <;> refine fun h => h.mono fun r s1 ⟨c, h1, h2⟩ => ⟨c, h1, ?_⟩ <;> cases c <;> simp_all [wp_retR]
theorem wp_orV : wp (mOrV a b) s Q ↔ wp a s fun r s1 => ∃ c, r.bl? = some c ∧ if c = true then Q (.d (.bl true)) s1 else wp b s1 Q := by
  unfold mOrV
  rw [wp_blk]
  constructor <;> refine fun h => h.mono fun r s1 ⟨c, h1, h2⟩ => ⟨c, h1, ?_⟩ <;> cases c <;> simp_all [wp_retR]
theorem wp_notV : wp (mNotV a) s Q ↔ wp a s fun r s1 => ∃ c, r.bl? = some c ∧ Q (.d (.bl (!c))) s1 := by
  unfold mNotV
  rw [wp_blk]
  constructor <;> refine fun h => h.mono fun r s1 ⟨c, h1, h2⟩ => ⟨c, h1, ?_⟩ <;> simp_all [wp_retR]
variable {ms : List (M R)} {Ql : List R → S → Prop}
theorem wp_args_nil : wp (mArgs []) s Ql ↔ Ql [] s := ⟨fun ⟨_, _, e, q⟩ => by cases e; exact q, fun q => ⟨_, _, rfl, q⟩⟩
theorem wp_args_cons : wp (mArgs (m :: ms)) s Ql ↔ wp m s fun r s1 => wp (mArgs ms) s1 fun rs s2 => Ql (r :: rs) s2 := by
  have h : wp (mArgs (m :: ms)) s Ql ↔ ∃ r s', ((m s).bind fun p => (mArgs ms p.2).bind fun q => some (p.1 :: q.1, q.2)) = some (r, s') ∧ Ql r s' := Iff.rfl
  rw [h, wp_bind]
  simp only [wp_bind]
  constructor <;> (rintro ⟨ra, s1, e1, rb, s2, e2, hh⟩; refine ⟨ra, s1, e1, rb, s2, e2, ?_⟩)
  · obtain ⟨r, s', e, q⟩ := hh; cases e; exact q
  · exact ⟨_, _, rfl, hh⟩
theorem wp_prim {f : List D → Option R} {as : M (List R)} : wp (mPrim f as) s Q ↔ wp as s fun rs s1 => ∃ xs, peeks s1.env rs = some xs ∧ ∃ r, f xs = some r ∧ Q r s1 := by
  have h : wp (mPrim f as) s Q ↔ ∃ r s', ((as s).bind fun p => match peeks p.2.env p.1 with
    | some xs => (f xs).map fun r => (r, p.2)
    | none => none) = some (r, s') ∧ Q r s' := Iff.rfl
  rw [h, wp_bind]
  constructor <;> (rintro ⟨ra, s1, e1, hh⟩; refine ⟨ra, s1, e1, ?_⟩)
  · obtain ⟨r, s', e, q⟩ := hh
    try simp only at e
    split at e
    · rename_i x h1
      obtain ⟨r', h3, h4⟩ := Option.map_eq_some_iff.mp e
      cases h4
      exact ⟨x, h1, _, h3, q⟩
    · cases e
  · obtain ⟨x, h1, r, h3, q⟩ := hh
    exact ⟨r, s1, by simp [h1, h3], q⟩
theorem wp_call {f : Fn} {as : M (List R)} : wp (mCall f as) s Q ↔ wp as s fun rs s1 => ∃ xs, peeks s1.env rs = some xs ∧ wf f xs s1.ds fun r ds' => ∃ r' s', callR s1.env rs (r, ds') = some (r', s') ∧ Q r' s' := by
  have h : wp (mCall f as) s Q ↔ ∃ r s', ((as s).bind fun p => (peeks p.2.env p.1).bind fun xs => (f xs p.2.ds).bind fun q => callR p.2.env p.1 q) = some (r, s') ∧ Q r s' := Iff.rfl
  rw [h, wp_bind]
  constructor <;> (rintro ⟨ra, s1, e1, hh⟩; refine ⟨ra, s1, e1, ?_⟩)
  · obtain ⟨r, s', e, q⟩ := hh
    obtain ⟨xs, h1, e⟩ := Option.bind_eq_some_iff.mp e
    obtain ⟨⟨r1, ds1⟩, h2, e⟩ := Option.bind_eq_some_iff.mp e
    exact ⟨xs, h1, r1, ds1, h2, r, s', e, q⟩
  · obtain ⟨xs, h1, r1, ds1, h2, r, s', e, q⟩ := hh
    exact ⟨r, s', by simp [h1, h2, e], q⟩
variable {Qd : List D → S → Prop}
theorem wp_shs_nil : wp (mShs []) s Qd ↔ Qd [] s := ⟨fun ⟨_, _, e, q⟩ => by cases e; exact q, fun q => ⟨_, _, rfl, q⟩⟩
theorem wp_shs_cons : wp (mShs (m :: ms)) s Qd ↔ wp m s fun r s1 => wp (mShare r) s1 fun d s2 => wp (mShs ms) s2 fun ds s3 => Qd (d :: ds) s3 := by
  have h : wp (mShs (m :: ms)) s Qd ↔ ∃ r s', ((m s).bind fun p => (mShare p.1 p.2).bind fun q => (mShs ms q.2).bind fun t => some (q.1 :: t.1, t.2)) = some (r, s') ∧ Qd r s' := Iff.rfl
  rw [h, wp_bind]
  simp only [wp_bind]
  constructor <;> (rintro ⟨ra, s1, e1, rb, s2, e2, rc, s3, e3, hh⟩; refine ⟨ra, s1, e1, rb, s2, e2, rc, s3, e3, ?_⟩)
  · obtain ⟨r, s', e, q⟩ := hh; cases e; exact q
  · exact ⟨_, _, rfl, hh⟩
variable {Q1 : D → S → Prop}
theorem wp_share_d {d : D} : wp (mShare (.d d)) s Q1 ↔ Q1 d s := ⟨fun ⟨_, _, e, q⟩ => by cases e; exact q, fun q => ⟨_, _, rfl, q⟩⟩
theorem wp_share_t {o : Own} : wp (mShare (.t o)) s Q1 ↔ Q1 o.toD s := ⟨fun ⟨_, _, e, q⟩ => by cases e; exact q, fun q => ⟨_, _, rfl, q⟩⟩
theorem wp_share_b : wp (mShare (.b i)) s Q1 ↔ match s.env[i]? with
    | some (.d x) => Q1 x s
    | some (.o o) => Q1 o.toD { s with env := s.env.set i (.d o.toD) }
    | _ => False := by
  unfold wp mShare
  simp only
  cases s.env[i]? with
  | none => exact ⟨fun ⟨_, _, e, _⟩ => (by cases e), fun q => q.elim⟩
  | some sl => cases sl <;> first | exact ⟨fun ⟨_, _, e, q⟩ => (by cases e; exact q), fun q => ⟨_, _, rfl, q⟩⟩ | exact ⟨fun ⟨_, _, e, _⟩ => (by cases e), fun q => q.elim⟩
theorem wp_tup : wp (mTup ms) s Q ↔ wp (mShs ms) s fun ds s1 => ds.length ≤ sizeLine ∧ Q (.d (.tup ds)) s1 := by
  have h : wp (mTup ms) s Q ↔ ∃ r s', ((mShs ms s).bind fun p => if p.1.length ≤ sizeLine then some (R.d (.tup p.1), p.2) else none) = some (r, s') ∧ Q r s' := Iff.rfl
  rw [h, wp_bind]
  constructor <;> (rintro ⟨ra, s1, e1, hh⟩; refine ⟨ra, s1, e1, ?_⟩)
  · obtain ⟨r, s', e, q⟩ := hh
    try simp only at e
    split at e
    · rename_i hl; cases e; exact ⟨hl, q⟩
    · cases e
  · exact ⟨_, _, if_pos hh.1, hh.2⟩
theorem wp_lst : wp (mLst ms) s Q ↔ wp (mShs ms) s fun ds s1 => ds.length ≤ sizeLine ∧ Q (.t (.l ds)) s1 := by
  have h : wp (mLst ms) s Q ↔ ∃ r s', ((mShs ms s).bind fun p => if p.1.length ≤ sizeLine then some (R.t (.l p.1), p.2) else none) = some (r, s') ∧ Q r s' := Iff.rfl
  rw [h, wp_bind]
  constructor <;> (rintro ⟨ra, s1, e1, hh⟩; refine ⟨ra, s1, e1, ?_⟩)
  · obtain ⟨r, s', e, q⟩ := hh
    try simp only at e
    split at e
    · rename_i hl; cases e; exact ⟨hl, q⟩
    · cases e
  · exact ⟨_, _, if_pos hh.1, hh.2⟩
theorem wp_dnew : wp mDNew s Q ↔ Q (.t (.k [])) s := ⟨fun ⟨_, _, e, q⟩ => by cases e; exact q, fun q => ⟨_, _, rfl, q⟩⟩
theorem wp_meth {T : String} {f : D → List D → Option R} : wp (mMethT T f o ms) s Q ↔ wp o s fun r s1 => ∃ d0, r.peek s1.env = some d0 ∧ tyD T d0 = true ∧ wp (mShs ms) s1 fun ds s2 => ∃ d, r.peek s2.env = some d ∧ ∃ r', f d ds = some r' ∧ Q r' s2 := by
  have h : wp (mMethT T f o ms) s Q ↔ ∃ r s', ((o s).bind fun p => (p.1.peek p.2.env).bind fun d0 => if tyD T d0 = true then (mShs ms p.2).bind fun q => (p.1.peek q.2.env).bind fun d => (f d q.1).map fun r => (r, q.2) else none) = some (r, s') ∧ Q r s' := Iff.rfl
  rw [h, wp_bind]
  constructor <;> (rintro ⟨ra, s1, e1, hh⟩; refine ⟨ra, s1, e1, ?_⟩)
  · obtain ⟨r, s', e, q⟩ := hh
    obtain ⟨d0, h1, e⟩ := Option.bind_eq_some_iff.mp e
    split at e
    · rename_i hT
      obtain ⟨⟨ds, s2⟩, h2, e⟩ := Option.bind_eq_some_iff.mp e
      obtain ⟨d, h3, e⟩ := Option.bind_eq_some_iff.mp e
      obtain ⟨r', h4, h5⟩ := Option.map_eq_some_iff.mp e
      cases h5
      exact ⟨d0, h1, hT, ds, s2, h2, d, h3, _, h4, q⟩
    · cases e
  · obtain ⟨d0, h1, hT, ds, s2, h2, d, h3, r', h4, q⟩ := hh
    exact ⟨r', s2, by simp [h1, hT, h2, h3, h4], q⟩
theorem wp_mut {T : String} {f : Own → List D → Option (D × Own)} : wp (mMut T f m ms) s Q ↔ wp m s fun r s1 => ∃ i o0, r = .b i ∧ s1.env[i]? = some (.o o0) ∧ tyO T o0 = true ∧ wp (mShs ms) s1 fun ds s2 => ∃ o, s2.env[i]? = some (.o o) ∧ ∃ z, f o ds = some z ∧ Q (.d z.1) { s2 with env := s2.env.set i (.o z.2) } := by
  constructor
  · rintro ⟨r, s', e, q⟩
    unfold mMut at e
    obtain ⟨⟨ra, s1⟩, e1, e⟩ := Option.bind_eq_some_iff.mp e
    split at e
    · rename_i i hi
      simp only at hi
      subst hi
      split at e
      · rename_i o0 h0
        split at e
        · rename_i hT
          obtain ⟨⟨ds, s2⟩, h2, e⟩ := Option.bind_eq_some_iff.mp e
          try simp only at e
          split at e
          · rename_i o h3
            obtain ⟨z, h4, h5⟩ := Option.map_eq_some_iff.mp e
            cases h5
            exact ⟨_, s1, e1, i, o0, rfl, h0, hT, ds, s2, h2, o, h3, z, h4, q⟩
          · cases e
        · cases e
      · cases e
    · cases e
  · rintro ⟨ra, s1, e1, i, o0, rfl, h0, hT, ds, s2, h2, o, h3, z, h4, q⟩
    refine ⟨_, _, ?_, q⟩
    unfold mMut
    rw [e1, Option.bind_some]
    simp only
    rw [h0]
    simp only
    rw [if_pos hT, h2, Option.bind_some]
    simp only
    rw [h3]
    simp only
    rw [h4]; rfl
variable {lo hi : M (Option Int)} {Qo : Option Int → S → Prop}
theorem wp_nopart : wp mNoPart s Qo ↔ Qo none s := ⟨fun ⟨_, _, e, q⟩ => by cases e; exact q, fun q => ⟨_, _, rfl, q⟩⟩
theorem wp_part : wp (mPart m) s Qo ↔ wp m s fun r s1 => ∃ i : Int, r = .d (.int i) ∧ Qo (some i) s1 := by
  constructor
  · rintro ⟨r, s', e, q⟩
    unfold mPart at e
    obtain ⟨⟨ra, s1⟩, e1, e⟩ := Option.bind_eq_some_iff.mp e
    split at e
    · rename_i i hi
      simp only at hi
      subst hi
      cases e; exact ⟨_, s1, e1, _, rfl, q⟩
    · cases e
  · rintro ⟨ra, s1, e1, i, rfl, q⟩
    exact ⟨_, _, by unfold mPart; rw [e1]; rfl, q⟩
theorem wp_sl : wp (mSl m lo hi) s Q ↔ wp m s fun r s1 => wp lo s1 fun l s2 => wp hi s2 fun h s3 => ∃ x, r.peek s3.env = some x ∧ ∃ r', fSl x l h = some r' ∧ Q r' s3 := by
  have h : wp (mSl m lo hi) s Q ↔ ∃ r s', ((m s).bind fun p => (lo p.2).bind fun l => (hi l.2).bind fun h => (p.1.peek h.2.env).bind fun x => (fSl x l.1 h.1).map fun r => (r, h.2)) = some (r, s') ∧ Q r s' := Iff.rfl
  rw [h, wp_bind]
  simp only [wp_bind]
  constructor <;> (rintro ⟨ra, s1, e1, l, s2, e2, u, s3, e3, hh⟩; refine ⟨ra, s1, e1, l, s2, e2, u, s3, e3, ?_⟩)
  · obtain ⟨r, s', e, q⟩ := hh
    obtain ⟨x, h1, e⟩ := Option.bind_eq_some_iff.mp e
    obtain ⟨r', h4, h5⟩ := Option.map_eq_some_iff.mp e
    cases h5
    exact ⟨x, h1, _, h4, q⟩
  · obtain ⟨x, h1, r', h2, q⟩ := hh
    exact ⟨r', s3, by simp [h1, h2], q⟩
/-! statements -/
variable {Qs : Fl → S → Prop} {x y : MS} {t : M Bool}
theorem wp_skip : wp mSkip s Qs ↔ Qs .nx s := ⟨fun ⟨_, _, e, q⟩ => by cases e; exact q, fun q => ⟨_, _, rfl, q⟩⟩
theorem wp_break : wp mBreak s Qs ↔ Qs .bk s := ⟨fun ⟨_, _, e, q⟩ => by cases e; exact q, fun q => ⟨_, _, rfl, q⟩⟩
theorem wp_cont : wp mCont s Qs ↔ Qs .ct s := ⟨fun ⟨_, _, e, q⟩ => by cases e; exact q, fun q => ⟨_, _, rfl, q⟩⟩
theorem wp_contF {fl : Fl} : (∃ a s', contF y fl s = some (a, s') ∧ Qs a s') ↔ match fl with
    | .nx => wp y s Qs
    | fl => Qs fl s := by
  cases fl <;> first | exact Iff.rfl | exact ⟨fun ⟨_, _, e, q⟩ => (by cases e; exact q), fun q => ⟨_, _, rfl, q⟩⟩
theorem wp_then : wp (mThen x y) s Qs ↔ wp x s fun fl s1 => match fl with
    | .nx => wp y s1 Qs
    | fl => Qs fl s1 := by
  have h : wp (mThen x y) s Qs ↔ ∃ r s', ((x s).bind fun p => contF y p.1 p.2) = some (r, s') ∧ Qs r s' := Iff.rfl
  rw [h, wp_bind]
  simp only [wp_contF]
theorem wp_ifS : wp (mIfS t x y) s Qs ↔ wp t s fun k s1 => if k = true then wp x s1 Qs else wp y s1 Qs := by
  have h : wp (mIfS t x y) s Qs ↔ ∃ r s', ((t s).bind fun p => if p.1 = true then x p.2 else y p.2) = some (r, s') ∧ Qs r s' := Iff.rfl
  rw [h, wp_bind]
  constructor <;> (rintro ⟨k, s1, e1, hh⟩; refine ⟨k, s1, e1, ?_⟩; cases k <;> exact hh)
theorem wp_drop : wp (mDrop m) s Qs ↔ wp m s fun _ s1 => Qs .nx s1 := by
  have h : wp (mDrop m) s Qs ↔ ∃ r s', ((m s).bind fun p => some (Fl.nx, p.2)) = some (r, s') ∧ Qs r s' := Iff.rfl
  rw [h, wp_bind]
  constructor <;> (rintro ⟨k, s1, e1, hh⟩; refine ⟨k, s1, e1, ?_⟩)
  · obtain ⟨r, s', e, q⟩ := hh; cases e; exact q
  · exact ⟨_, _, rfl, hh⟩
theorem wp_ret : wp (mRetS m) s Qs ↔ wp m s fun r s1 => ∃ r', retR s1.env r = some r' ∧ Qs (.rt r') s1 := by
  have h : wp (mRetS m) s Qs ↔ ∃ r s', ((m s).bind fun p => (retR p.2.env p.1).bind fun r => some (Fl.rt r, p.2)) = some (r, s') ∧ Qs r s' := Iff.rfl
  rw [h, wp_bind]
  constructor <;> (rintro ⟨k, s1, e1, hh⟩; refine ⟨k, s1, e1, ?_⟩)
  · obtain ⟨r, s', e, q⟩ := hh
    obtain ⟨r', h1, h2⟩ := Option.bind_eq_some_iff.mp e
    cases h2; exact ⟨_, h1, q⟩
  · obtain ⟨r', h1, q⟩ := hh
    exact ⟨_, _, by simp [h1], q⟩
theorem wp_retN : wp mRetN s Qs ↔ Qs (.rt (.d .non)) s := ⟨fun ⟨_, _, e, q⟩ => by cases e; exact q, fun q => ⟨_, _, rfl, q⟩⟩
theorem wp_set : wp (mSet i m) s Qs ↔ wp m s fun r s1 => ∃ s', setR i r s1 = some s' ∧ Qs .nx s' := by
  have h : wp (mSet i m) s Qs ↔ ∃ r s', ((m s).bind fun p => (setR i p.1 p.2).bind fun s' => some (Fl.nx, s')) = some (r, s') ∧ Qs r s' := Iff.rfl
  rw [h, wp_bind]
  constructor <;> (rintro ⟨k, s1, e1, hh⟩; refine ⟨k, s1, e1, ?_⟩)
  · obtain ⟨r, s', e, q⟩ := hh
    obtain ⟨r', h1, h2⟩ := Option.bind_eq_some_iff.mp e
    cases h2; exact ⟨_, h1, q⟩
  · obtain ⟨r', h1, q⟩ := hh
    exact ⟨_, _, by simp [h1], q⟩
theorem wp_asg {t : D → S → Option S} : wp (mAsg t m) s Qs ↔ wp m s fun r s1 => wp (mShare r) s1 fun d s2 => ∃ s', t d s2 = some s' ∧ Qs .nx s' := by
  have h : wp (mAsg t m) s Qs ↔ ∃ r s', ((m s).bind fun p => (mShare p.1 p.2).bind fun q => (t q.1 q.2).bind fun s' => some (Fl.nx, s')) = some (r, s') ∧ Qs r s' := Iff.rfl
  rw [h, wp_bind]
  simp only [wp_bind]
  constructor <;> (rintro ⟨k, s1, e1, d, s2, e2, hh⟩; refine ⟨k, s1, e1, d, s2, e2, ?_⟩)
  · obtain ⟨r, s', e, q⟩ := hh
    obtain ⟨r', h1, h2⟩ := Option.bind_eq_some_iff.mp e
    cases h2; exact ⟨_, h1, q⟩
  · obtain ⟨r', h1, q⟩ := hh
    exact ⟨_, _, by simp [h1], q⟩
variable {Qn : R → S → Prop}
theorem wp_norm_d {d : D} : wp (normR (.d d)) s Qn ↔ Qn (.d d) s := ⟨fun ⟨_, _, e, q⟩ => by cases e; exact q, fun q => ⟨_, _, rfl, q⟩⟩
theorem wp_norm_t {d : Own} : wp (normR (.t d)) s Qn ↔ Qn (.t d) s := ⟨fun ⟨_, _, e, q⟩ => by cases e; exact q, fun q => ⟨_, _, rfl, q⟩⟩
theorem wp_norm_b : wp (normR (.b i)) s Qn ↔ wp (mShare (.b i)) s fun d s1 => Qn (.d d) s1 := by
  constructor
  · rintro ⟨r, s', e, q⟩
    obtain ⟨⟨d, s1⟩, h1, h2⟩ := Option.map_eq_some_iff.mp e
    cases h2
    exact ⟨d, s1, h1, q⟩
  · rintro ⟨d, s1, h1, q⟩
    exact ⟨_, _, by unfold normR; simp only; rw [h1]; rfl, q⟩
theorem wp_par {j : Nat} : wp (mPar i j a b) s Qs ↔ wp a s fun ra s1 => wp b s1 fun rb s2 => wp (normR ra) s2 fun p1 s3 => wp (normR rb) s3 fun q1 s4 => ∃ s5, setR i p1 s4 = some s5 ∧ ∃ s6, setR j q1 s5 = some s6 ∧ Qs .nx s6 := by
  have h : wp (mPar i j a b) s Qs ↔ ∃ r s', ((a s).bind fun p => (b p.2).bind fun q => (normR p.1 q.2).bind fun p1 => (normR q.1 p1.2).bind fun q1 => (setR i p1.1 q1.2).bind fun s1 => (setR j q1.1 s1).bind fun s2 => some (Fl.nx, s2)) = some (r, s') ∧ Qs r s' := Iff.rfl
  rw [h, wp_bind]
  simp only [wp_bind]
  constructor <;> (rintro ⟨k, s1, e1, d, s2, e2, p1, s3, e3, q1, s4, e4, hh⟩; refine ⟨k, s1, e1, d, s2, e2, p1, s3, e3, q1, s4, e4, ?_⟩)
  · obtain ⟨r, s', e, q⟩ := hh
    obtain ⟨s5, h3, e⟩ := Option.bind_eq_some_iff.mp e
    obtain ⟨s6, h4, e⟩ := Option.bind_eq_some_iff.mp e
    cases e
    exact ⟨s5, h3, _, h4, q⟩
  · obtain ⟨s5, h3, s6, h4, q⟩ := hh
    exact ⟨_, _, by simp [h3, h4], q⟩
theorem wp_aug {f : D → D → Option D} : wp (mAug i f m) s Qs ↔ ∃ x, s.env[i]? = some (.d x) ∧ wp m s fun r s1 => ∃ y, r.peek s1.env = some y ∧ ∃ z, f x y = some z ∧ Qs .nx { s1 with env := s1.env.set i (.d z) } := by
  constructor
  · rintro ⟨r, s', e, q⟩
    unfold mAug at e
    obtain ⟨sl, h1, e⟩ := Option.bind_eq_some_iff.mp e
    split at e
    · obtain ⟨⟨ra, s1⟩, h2, e⟩ := Option.bind_eq_some_iff.mp e
      obtain ⟨y, h3, e⟩ := Option.bind_eq_some_iff.mp e
      obtain ⟨z, h4, e⟩ := Option.bind_eq_some_iff.mp e
      cases e
      exact ⟨_, h1, ra, s1, h2, y, h3, z, h4, q⟩
    · cases e
  · rintro ⟨x, h1, ra, s1, h2, y, h3, z, h4, q⟩
    refine ⟨_, _, ?_, q⟩
    unfold mAug
    rw [h1, Option.bind_some]
    simp only
    rw [h2, Option.bind_some, h3, Option.bind_some, h4]; rfl
/-! defs -/
theorem wf_run {n l : Nat} {body : MS} {args : List D} {ds : Option DS} {Qf : R → Option DS → Prop} : wf (runFn n l body) args ds Qf ↔ args.length = n ∧ wp body ⟨args.map .d ++ List.replicate l .no, ds⟩ fun fl s' => match fl with
    | .nx => Qf (.d .non) s'.ds
    | .rt r => Qf r s'.ds
    | _ => False := by
  constructor
  · rintro ⟨r, ds', e, q⟩
    unfold runFn at e
    split at e
    · rename_i hl
      obtain ⟨⟨fl, s'⟩, h1, e⟩ := Option.bind_eq_some_iff.mp e
      refine ⟨hl, fl, s', h1, ?_⟩
      cases fl <;> first | (cases e; exact q) | cases e
    · cases e
  · rintro ⟨hl, fl, s', h1, q⟩
    cases fl with
    | nx => exact ⟨_, _, by unfold runFn; rw [if_pos hl, h1]; rfl, q⟩
    | rt r => exact ⟨_, _, by unfold runFn; rw [if_pos hl, h1]; rfl, q⟩
    | bk => exact q.elim
    | ct => exact q.elim
end
end PD
/-! PD: what a term of data does: the primitives, the loops. -/
namespace PD
open PySem PySem.Spec PyProof.Rows L2

section
variable {env : List Sl} {x y z : D} {o : Own} {i j : Nat} {s : S} {r : R} {rs : List R}
@[simp] theorem peek_d : R.peek env (.d x) = some x := rfl
@[simp] theorem peek_t : R.peek env (.t o) = some o.toD := rfl
@[simp] theorem peek_b : R.peek env (.b i) = (env[i]?).bind Sl.peek := rfl
@[simp] theorem slpeek_d : Sl.peek (.d x) = some x := rfl
@[simp] theorem slpeek_o : Sl.peek (.o o) = some o.toD := rfl
@[simp] theorem toD_l {xs : List D} : Own.toD (.l xs) = .lst xs := rfl
@[simp] theorem toD_k {xs : List (D × D)} : Own.toD (.k xs) = .dct xs := rfl
theorem peeks_nil {P : List D → Prop} : (∃ xs, peeks env [] = some xs ∧ P xs) ↔ P [] := ⟨fun ⟨_, e, q⟩ => by cases e; exact q, fun q => ⟨_, rfl, q⟩⟩
theorem peeks_cons {P : List D → Prop} : (∃ xs, peeks env (r :: rs) = some xs ∧ P xs) ↔ ∃ x, r.peek env = some x ∧ ∃ xs, peeks env rs = some xs ∧ P (x :: xs) := by
  constructor
  · rintro ⟨xs, e, q⟩
    unfold peeks at e
    split at e
    · rename_i a as h1 h2; cases e; exact ⟨a, h1, as, h2, q⟩
    · cases e
  · rintro ⟨a, h1, as, h2, q⟩
    exact ⟨_, by unfold peeks; rw [h1, h2], q⟩
@[simp] theorem bl_bl {k : Bool} : R.bl? (.d (.bl k)) = some k := rfl
@[simp] theorem setR_d : setR i (.d x) s = some { s with env := s.env.set i (.d x) } := rfl
@[simp] theorem setR_t : setR i (.t o) s = some { s with env := s.env.set i (.o o) } := rfl
theorem setR_b {P : S → Prop} : (∃ s', setR i (.b j) s = some s' ∧ P s') ↔ wp (mShare (.b j)) s fun d s1 => P { s1 with env := s1.env.set i (.d d) } := by
  constructor
  · rintro ⟨s', e, q⟩
    unfold setR at e
    simp only at e
    obtain ⟨⟨d, s1⟩, h1, h2⟩ := Option.bind_eq_some_iff.mp e
    cases h2
    exact ⟨d, s1, h1, q⟩
  · rintro ⟨d, s1, h1, q⟩
    exact ⟨_, by unfold setR; simp only; rw [h1]; rfl, q⟩
@[simp] theorem retR_d : retR env (.d x) = some (.d x) := rfl
@[simp] theorem retR_t : retR env (.t o) = some (.t o) := rfl
theorem retR_b {P : R → Prop} : (∃ r', retR env (.b i) = some r' ∧ P r') ↔ match env[i]? with
    | some (.d x) => P (.d x)
    | some (.o o) => P (.t o)
    | _ => False := by
  unfold retR
  simp only
  cases env[i]? with
  | none => exact ⟨fun ⟨_, e, _⟩ => (by cases e), fun q => q.elim⟩
  | some sl => cases sl <;> first | exact ⟨fun ⟨_, e, q⟩ => (by cases e; exact q), fun q => ⟨_, rfl, q⟩⟩ | exact ⟨fun ⟨_, e, _⟩ => (by cases e), fun q => q.elim⟩
@[simp] theorem tgN_s : tgN i x s = some { s with env := s.env.set i (.d x) } := rfl
theorem tgNil_s {P : S → Prop} {ds : List D} : (∃ s', tgNil ds s = some s' ∧ P s') ↔ ds = [] ∧ P s := by
  cases ds with
  | nil => exact ⟨fun ⟨_, e, q⟩ => (by cases e; exact ⟨rfl, q⟩), fun q => ⟨_, rfl, q.2⟩⟩
  | cons _ _ => exact ⟨fun ⟨_, e, q⟩ => (by cases e), fun q => (by cases q.1)⟩
theorem tgCons_s {P : S → Prop} {ds : List D} {t : D → S → Option S} {u : List D → S → Option S} : (∃ s', tgCons t u ds s = some s' ∧ P s') ↔ ∃ d r, ds = d :: r ∧ ∃ s1, t d s = some s1 ∧ ∃ s', u r s1 = some s' ∧ P s' := by
  cases ds with
  | nil => exact ⟨fun ⟨_, e, q⟩ => (by cases e), fun ⟨_, _, e, _⟩ => (by cases e)⟩
  | cons d r =>
    constructor
    · rintro ⟨s', e, q⟩
      obtain ⟨s1, h1, h2⟩ := Option.bind_eq_some_iff.mp e
      exact ⟨d, r, rfl, s1, h1, s', h2, q⟩
    · rintro ⟨_, _, e, s1, h1, s', h2, q⟩
      cases e
      exact ⟨s', by show ((t d s).bind fun s1 => u r s1) = _; rw [h1]; exact h2, q⟩
theorem tgT_s {P : S → Prop} {d : D} {u : List D → S → Option S} : (∃ s', tgT u d s = some s' ∧ P s') ↔ ∃ ds, d = .tup ds ∧ ∃ s', u ds s = some s' ∧ P s' := by
  constructor
  · rintro ⟨s', e, q⟩
    cases d <;> first | exact ⟨_, rfl, s', e, q⟩ | cases e
  · rintro ⟨ds, rfl, s', e, q⟩
    exact ⟨s', e, q⟩
theorem tgSub_s {P : S → Prop} {mo mi : M R} : (∃ s', tgSub mo mi x s = some s' ∧ P s') ↔ wp mo s fun r s1 => ∃ i, r = .b i ∧ wp mi s1 fun q s2 => wp (mShare q) s2 fun d s3 => ∃ o, s3.env[i]? = some (.o o) ∧ ∃ z, fSetI o [d, x] = some z ∧ P { s3 with env := s3.env.set i (.o z.2) } := by
  constructor
  · rintro ⟨s', e, q⟩
    unfold tgSub at e
    obtain ⟨⟨r, s1⟩, h1, e⟩ := Option.bind_eq_some_iff.mp e
    split at e
    · rename_i i hi
      simp only at hi
      subst hi
      obtain ⟨⟨q1, s2⟩, h2, e⟩ := Option.bind_eq_some_iff.mp e
      obtain ⟨⟨d, s3⟩, h3, e⟩ := Option.bind_eq_some_iff.mp e
      simp only at e
      split at e
      · rename_i o h4
        obtain ⟨z, h5, h6⟩ := Option.map_eq_some_iff.mp e
        cases h6
        exact ⟨_, s1, h1, i, rfl, q1, s2, h2, d, s3, h3, o, h4, z, h5, q⟩
      · cases e
    · cases e
  · rintro ⟨r, s1, h1, i, rfl, q1, s2, h2, d, s3, h3, o, h4, z, h5, q⟩
    exact ⟨_, by simp [tgSub, h1, h2, h3, h4, h5], q⟩
@[simp] theorem callR_d {ds : Option DS} : callR env rs (.d x, ds) = if scalD x = true then some (.d x, ⟨env, ds⟩) else some (.d x, ⟨frzAll env rs, ds⟩) := rfl
@[simp] theorem callR_t {ds : Option DS} : callR env rs (.t o, ds) = some (.t o, ⟨frzAll env rs, ds⟩) := rfl
@[simp] theorem scal_int {k : Int} : scalD (.int k) = true := rfl
@[simp] theorem scal_bl {k : Bool} : scalD (.bl k) = true := rfl
@[simp] theorem scal_str {k : List Nat} : scalD (.str k) = true := rfl
@[simp] theorem scal_non : scalD .non = true := rfl
@[simp] theorem scal_tup {k : List D} : scalD (.tup k) = false := rfl
@[simp] theorem scal_lst {k : List D} : scalD (.lst k) = false := rfl
@[simp] theorem scal_st : scalD .st = false := rfl
@[simp] theorem frz_nil : frzAll env [] = env := rfl
@[simp] theorem frz_d : frzAll env (.d x :: rs) = frzAll env rs := rfl
@[simp] theorem frz_t : frzAll env (.t o :: rs) = frzAll env rs := rfl
@[simp] theorem frz_b : frzAll env (.b i :: rs) = frzAll (env.set i (frzSl (env.getD i .no))) rs := rfl
@[simp] theorem frzSl_o : frzSl (.o o) = .d o.toD := rfl
@[simp] theorem frzSl_d : frzSl (.d x) = .d x := rfl
/-! primitives -/
variable {a b c : Int} {l l' : List Nat} {xs ys : List D}
@[simp] theorem fAdd_i : fAdd (.int a) (.int b) = some (.d (.int (a + b))) := rfl
@[simp] theorem fAdd_s : fAdd (.str l) (.str l') = if l.length + l'.length ≤ sizeLine then some (.d (.str (l ++ l'))) else none := rfl
@[simp] theorem fAdd_l : fAdd (.lst xs) (.lst ys) = if xs.length + ys.length ≤ sizeLine then some (.t (.l (xs ++ ys))) else none := rfl
@[simp] theorem fAdd_t : fAdd (.tup xs) (.tup ys) = if xs.length + ys.length ≤ sizeLine then some (.d (.tup (xs ++ ys))) else none := rfl
@[simp] theorem fSub_i : fSub (.int a) (.int b) = some (.d (.int (a - b))) := rfl
@[simp] theorem fMul_i : fMul (.int a) (.int b) = if CMul a b then some (.d (.int (a * b))) else none := rfl
@[simp] theorem fDiv_i : fDiv (.int a) (.int b) = if b ≠ 0 ∧ b.natAbs < 1073741824 then some (.d (.int (a.fdiv b))) else none := rfl
@[simp] theorem fMod_i : fMod (.int a) (.int b) = if b ≠ 0 then some (.d (.int (a.fmod b))) else none := rfl
@[simp] theorem fNeg_i : fNeg (.int a) = some (.d (.int (-a))) := rfl
@[simp] theorem fShl_i : fShl (.int a) (.int b) = if 0 ≤ b ∧ b ≤ 1000000 ∧ a.natAbs < 2 ^ 64 then some (.d (.int (a * 2 ^ b.toNat))) else none := rfl
@[simp] theorem fLt_i : fLt (.int a) (.int b) = some (.d (.bl (decide (a < b)))) := rfl
@[simp] theorem fLe_i : fLe (.int a) (.int b) = some (.d (.bl (decide (a ≤ b)))) := rfl
@[simp] theorem fGt_i : fGt (.int a) (.int b) = some (.d (.bl (decide (b < a)))) := rfl
@[simp] theorem fGe_i : fGe (.int a) (.int b) = some (.d (.bl (decide (b ≤ a)))) := rfl
@[simp] theorem pl_int {n : Nat} : pl n (.int a) = true := by cases n <;> rfl
@[simp] theorem pl_bl {n : Nat} {k : Bool} : pl n (.bl k) = true := by cases n <;> rfl
@[simp] theorem pl_str {n : Nat} : pl n (.str l) = true := by cases n <;> rfl
@[simp] theorem pl_non {n : Nat} : pl n .non = true := by cases n <;> rfl
@[simp] theorem pl_tup {n : Nat} : pl (n + 1) (.tup xs) = plAll n xs := rfl
@[simp] theorem pl_lst {n : Nat} : pl (n + 1) (.lst xs) = plAll n xs := rfl
@[simp] theorem plAll_nil {n : Nat} : plAll n [] = true := rfl
@[simp] theorem plAll_cons {n : Nat} : plAll n (x :: xs) = (pl n x && plAll n xs) := rfl
@[simp] theorem fEq_x : fEq x y = if pl 60 x = true ∧ pl 60 y = true then some (.d (.bl (eqD x y))) else none := rfl
@[simp] theorem fNe_x : fNe x y = if pl 60 x = true ∧ pl 60 y = true then some (.d (.bl (!eqD x y))) else none := rfl
@[simp] theorem eqD_i : eqD (.int a) (.int b) = (a == b) := eqD_int a b
@[simp] theorem eqD_b {k k' : Bool} : eqD (.bl k) (.bl k') = (k == k') := eqD_bl k k'
@[simp] theorem eqD_s : eqD (.str l) (.str l') = (l == l') := eqD_str l l'
@[simp] theorem eqD_t : eqD (.tup xs) (.tup ys) = eqDs xs ys := eqD_tup xs ys
@[simp] theorem eqD_l : eqD (.lst xs) (.lst ys) = eqDs xs ys := eqD_lst xs ys
@[simp] theorem eqDs_n : eqDs [] [] = true := eqDs_nil
@[simp] theorem eqDs_c : eqDs (x :: xs) (y :: ys) = (eqD x y && eqDs xs ys) := eqDs_cons x y xs ys
@[simp] theorem eqDs_1 : eqDs [] (y :: ys) = false := eqDs_nc y ys
@[simp] theorem eqDs_2 : eqDs (y :: ys) [] = false := eqDs_cn y ys
@[simp] theorem tru_i : truD (.int a) = some (a != 0) := rfl
@[simp] theorem tru_b {k : Bool} : truD (.bl k) = some k := rfl
@[simp] theorem tru_s : truD (.str l) = some (!l.isEmpty) := rfl
@[simp] theorem tru_t : truD (.tup xs) = some (!xs.isEmpty) := rfl
@[simp] theorem tru_l : truD (.lst xs) = some (!xs.isEmpty) := rfl
@[simp] theorem tru_n : truD .non = some false := rfl
@[simp] theorem fIsN_n : fIsN x .non = (isNon x).map fun k => .d (.bl k) := rfl
@[simp] theorem fNotN_n : fNotN x .non = (isNon x).map fun k => .d (.bl (!k)) := rfl
@[simp] theorem isNon_n : isNon .non = some true := rfl
@[simp] theorem isNon_i : isNon (.int a) = some false := rfl
@[simp] theorem isNon_b {k : Bool} : isNon (.bl k) = some false := rfl
@[simp] theorem isNon_s : isNon (.str l) = some false := rfl
@[simp] theorem isNon_t : isNon (.tup xs) = some false := rfl
@[simp] theorem isNon_l : isNon (.lst xs) = some false := rfl
@[simp] theorem fIx_t : fIx (.tup xs) (.int a) = (atI xs a).map .d := rfl
@[simp] theorem fIx_l : fIx (.lst xs) (.int a) = (atI xs a).map .d := rfl
@[simp] theorem fIx_s : fIx (.str l) (.int a) = (atI l a).map fun c => .d (.str [c]) := rfl
@[simp] theorem fIx_d {kvs : List (D × D)} : fIx (.dct kvs) x = (keyOk kvs x).bind fun nk => (getK kvs nk).map .d := rfl
@[simp] theorem fIn_x : fIn x y = (fInB x y).map fun k => .d (.bl k) := rfl
@[simp] theorem fNotIn_x : fNotIn x y = (fInB x y).map fun k => .d (.bl (!k)) := rfl
@[simp] theorem fInB_s : fInB (.str [i]) (.str l) = some (decide (i ∈ l)) := rfl
@[simp] theorem fInB_t : fInB (.int a) (.tup xs) = if pl 60 (.int a) = true ∧ pl 60 (.tup xs) = true then some (xs.any fun z => eqD z (.int a)) else none := rfl
@[simp] theorem fInB_l : fInB (.int a) (.lst xs) = if pl 60 (.int a) = true ∧ pl 60 (.lst xs) = true then some (xs.any fun z => eqD z (.int a)) else none := rfl
@[simp] theorem fLen_s : fLen [.str l] = some (.d (.int l.length)) := rfl
@[simp] theorem fLen_t : fLen [.tup xs] = some (.d (.int xs.length)) := rfl
@[simp] theorem fLen_l : fLen [.lst xs] = some (.d (.int xs.length)) := rfl
@[simp] theorem fAbs_i : fAbs [.int a] = some (.d (.int (if a < 0 then -a else a))) := rfl
@[simp] theorem fInt_i : fInt [.int a] = some (.d (.int a)) := rfl
@[simp] theorem fSum_l : fSum [.lst xs] = (intsD xs).map fun ns => .d (.int ns.sum) := rfl
@[simp] theorem fAll_l : fAll [.lst xs] = (blsD xs).map fun bs => .d (.bl (bs.all id)) := rfl
@[simp] theorem fAny_l : fAny [.lst xs] = (blsD xs).map fun bs => .d (.bl (bs.any id)) := rfl
@[simp] theorem fList_l : fList [.lst xs] = some (.t (.l xs)) := rfl
@[simp] theorem fList_t : fList [.tup xs] = some (.t (.l xs)) := rfl
@[simp] theorem fList_s : fList [.str l] = some (.t (.l (l.map fun c => .str [c]))) := rfl
@[simp] theorem fTuple_l : fTuple [.lst xs] = some (.d (.tup xs)) := rfl
@[simp] theorem fTuple_t : fTuple [.tup xs] = some (.d (.tup xs)) := rfl
@[simp] theorem fSl_l {lo hi : Option Int} : fSl (.lst xs) lo hi = some (.t (.l (cutL xs lo hi))) := rfl
@[simp] theorem fSl_t {lo hi : Option Int} : fSl (.tup xs) lo hi = some (.d (.tup (cutL xs lo hi))) := rfl
@[simp] theorem fSl_s {lo hi : Option Int} : fSl (.str l) lo hi = some (.d (.str (cutL l lo hi))) := rfl
@[simp] theorem fAppend_l : fAppend (.l xs) [x] = if xs.length < sizeLine then some (.non, .l (xs ++ [x])) else none := rfl
@[simp] theorem fSetI_l : fSetI (.l xs) [.int a, x] = (ixN xs.length a).map fun j => (.non, .l (xs.set j x)) := rfl
@[simp] theorem fSetI_k {kvs : List (D × D)} : fSetI (.k kvs) [y, x] = if kvs.length < sizeLine then (keyOk kvs y).map fun nk => (.non, .k (putK kvs nk y x)) else none := rfl
@[simp] theorem tyO_l : tyO "list" (.l xs) = true := rfl
@[simp] theorem tyD_s : tyD "str" (.str l) = true := rfl
@[simp] theorem tyD_d {kvs : List (D × D)} : tyD "dict" (.dct kvs) = true := rfl
@[simp] theorem fJoin_l : fJoin (.str l) [.lst xs] = (strsD xs).bind fun ls => if (ls.map (·.length)).sum + ls.length * l.length ≤ 16777216 then some (.d (.str (joinL l ls))) else none := rfl
@[simp] theorem fCount_s : fCount (.str l) [.str l'] = some (.d (.int (Txt.count (sOf l) (sOf l')))) := rfl
@[simp] theorem fDGet_d {kvs : List (D × D)} : fDGet (.dct kvs) [x, y] = (keyOk kvs x).map fun nk => .d ((getK kvs nk).getD y) := rfl
@[simp] theorem fSumV_d {kvs : List (D × D)} : fSumV (.dct kvs) = (intsD (kvs.map (·.2))).map fun ns => .d (.int ns.sum) := rfl
@[simp] theorem fIsi_x {T : String} : fIsi [x, .cv (.ty T)] = (kindD x).bind fun t => (kitB t T).map fun b => .d (.bl b) := by cases x <;> rfl
theorem atI_ok {α : Type} {l : List α} {k : Int} (h0 : 0 ≤ k) (h : k < l.length) : atI l k = some (l[k.toNat]'(by omega)) := by
  unfold atI ixN
  rw [if_pos h0, if_pos h, Option.bind_some, List.getElem?_eq_getElem]
theorem atI_get? {α : Type} {l : List α} {k : Nat} : atI l (k : Int) = l[k]? := by
  unfold atI ixN
  rw [if_pos (by omega)]
  by_cases h : k < l.length
  · rw [if_pos (by omega)]; simp
  · rw [if_neg (by omega), List.getElem?_eq_none (by omega)]; rfl
theorem atI_neg1 {α : Type} {l : List α} {x : α} : atI (l ++ [x]) (-1) = some x := by
  unfold atI ixN
  rw [if_neg (by decide), if_pos (by simp; omega), Option.bind_some, show (-1 + ((l ++ [x]).length : Int)).toNat = l.length by rw [List.length_append, List.length_singleton]; omega]
  simp
theorem cmul {a b : Int} (h : b.natAbs < 2 ^ 63) : CMul a b := .inr ⟨by omega, by omega⟩
theorem cmul' {a b : Int} (h : a.natAbs < 2 ^ 63) : CMul a b := .inl ⟨by omega, by omega⟩
end
theorem ex_ite {α : Type} {p : Prop} {a : α} {Q : α → Prop} : (∃ r, (p ∧ a = r) ∧ Q r) ↔ p ∧ Q a := ⟨fun ⟨_, ⟨h, e⟩, q⟩ => ⟨h, e ▸ q⟩, fun ⟨h, q⟩ => ⟨_, ⟨h, rfl⟩, q⟩⟩
/-! ### loops -/
section
variable {s : S} {t : D → S → Option S} {body : MS} {items : List D} {Q : Fl → S → Prop}
theorem wp_for {mi : M (List D)} : wp (mFor mi t body) s Q ↔ wp mi s fun items s1 => wp (mLoop t body items) s1 Q := by
  have h : wp (mFor mi t body) s Q ↔ ∃ r s', ((mi s).bind fun p => mLoop t body p.1 p.2) = some (r, s') ∧ Q r s' := Iff.rfl
  rw [h, wp_bind]
  exact Iff.rfl
theorem loop_nil : wp (mLoop t body []) s Q ↔ Q .nx s := wp_skip
theorem loop_cons {d : D} {ds : List D} : wp (mLoop t body (d :: ds)) s Q ↔ ∃ s1, t d s = some s1 ∧ wp body s1 fun fl s2 => match fl with
    | .nx => wp (mLoop t body ds) s2 Q
    | .ct => wp (mLoop t body ds) s2 Q
    | .bk => Q .nx s2
    | .rt r => Q (.rt r) s2 := by
  have bf : ∀ fl s2, (∃ a s', bodyF (mLoop t body ds) fl s2 = some (a, s') ∧ Q a s') ↔ match fl with
    | .nx => wp (mLoop t body ds) s2 Q
    | .ct => wp (mLoop t body ds) s2 Q
    | .bk => Q .nx s2
    | .rt r => Q (.rt r) s2 := fun fl s2 => by
    cases fl <;> first | exact Iff.rfl | exact ⟨fun ⟨_, _, e, q⟩ => (by cases e; exact q), fun q => ⟨_, _, rfl, q⟩⟩
  constructor
  · rintro ⟨a, s', e, q⟩
    have e : ((t d s).bind fun s1 => (body s1).bind fun p => bodyF (mLoop t body ds) p.1 p.2) = some (a, s') := e
    obtain ⟨s1, h1, e⟩ := Option.bind_eq_some_iff.mp e
    obtain ⟨⟨fl, s2⟩, h2, e⟩ := Option.bind_eq_some_iff.mp e
    exact ⟨s1, h1, fl, s2, h2, (bf fl s2).mp ⟨a, s', e, q⟩⟩
  · rintro ⟨s1, h1, fl, s2, h2, q⟩
    obtain ⟨a, s', e, q⟩ := (bf fl s2).mpr q
    exact ⟨a, s', by show ((t d s).bind fun s1 => (body s1).bind fun p => bodyF (mLoop t body ds) p.1 p.2) = _; rw [h1, Option.bind_some, h2]; exact e, q⟩
/-- a loop by an invariant; a break or a return ends it -/
theorem loop_inv (I : Nat → S → Prop) (h0 : I 0 s) (hs : ∀ (i : Nat) (d : D) (s : S), items[i]? = some d → I i s → ∃ s1, t d s = some s1 ∧ wp body s1 fun fl s2 => match fl with
    | .nx => I (i + 1) s2
    | .ct => I (i + 1) s2
    | .bk => Q .nx s2
    | .rt r => Q (.rt r) s2) (hd : ∀ s, I items.length s → Q .nx s) : wp (mLoop t body items) s Q := by
  induction items generalizing I s with
  | nil => exact loop_nil.mpr (hd s h0)
  | cons d ds ih =>
    obtain ⟨s1, h1, h2⟩ := hs 0 d s rfl h0
    refine loop_cons.mpr ⟨s1, h1, h2.mono fun fl s2 q => ?_⟩
    have recu : I 1 s2 → wp (mLoop t body ds) s2 Q := fun h => ih (fun i => I (i + 1)) h (fun i d' s' e hi => hs (i + 1) d' s' (by simpa using e) hi) fun s' h' => hd s' h'
    cases fl with
    | nx => exact recu q
    | ct => exact recu q
    | bk => exact q
    | rt r => exact q
variable {tt : M Bool} {te : M R} {vs : List Nat} {Ql : List D → S → Prop} {Qr : R → S → Prop}
theorem wp_lc {mi : M (List D)} : wp (mLc mi t tt te vs) s Qr ↔ wp mi s fun items s1 => wp (lcLoop t tt te vs items) (wipeS vs s1) fun ds s2 => ds.length ≤ sizeLine ∧ Qr (.t (.l ds)) ⟨restE s1.env vs s2.env, s2.ds⟩ := by
  have h : wp (mLc mi t tt te vs) s Qr ↔ ∃ r s', ((mi s).bind fun p => (lcLoop t tt te vs p.1 (wipeS vs p.2)).bind fun q => if q.1.length ≤ sizeLine then some (R.t (.l q.1), ⟨restE p.2.env vs q.2.env, q.2.ds⟩) else none) = some (r, s') ∧ Qr r s' := Iff.rfl
  rw [h, wp_bind]
  simp only [wp_bind]
  constructor <;> (rintro ⟨k, s1, e1, d, s2, e2, hh⟩; refine ⟨k, s1, e1, d, s2, e2, ?_⟩)
  · obtain ⟨r, s', e, q⟩ := hh
    split at e
    · rename_i hl; cases e; exact ⟨hl, q⟩
    · cases e
  · exact ⟨_, _, if_pos hh.1, hh.2⟩
theorem lc_nil : wp (lcLoop t tt te vs []) s Ql ↔ Ql [] s := ⟨fun ⟨_, _, e, q⟩ => by cases e; exact q, fun q => ⟨_, _, rfl, q⟩⟩
theorem lc_cons {d : D} {ds : List D} : wp (lcLoop t tt te vs (d :: ds)) s Ql ↔ ∃ s1, t d s = some s1 ∧ wp tt s1 fun k s2 => if k = true then wp te s2 fun r s3 => wp (mShare r) s3 fun x s4 => wp (lcLoop t tt te vs ds) (wipeS vs s4) fun xs s5 => Ql (x :: xs) s5 else wp (lcLoop t tt te vs ds) (wipeS vs s2) Ql := by
  constructor
  · rintro ⟨a, s', e, q⟩
    unfold lcLoop at e
    obtain ⟨s1, h1, e⟩ := Option.bind_eq_some_iff.mp e
    obtain ⟨⟨k, s2⟩, h2, e⟩ := Option.bind_eq_some_iff.mp e
    refine ⟨s1, h1, k, s2, h2, ?_⟩
    cases k with
    | false => exact ⟨a, s', e, q⟩
    | true =>
      obtain ⟨⟨r, s3⟩, h3, e⟩ := Option.bind_eq_some_iff.mp e
      obtain ⟨⟨x, s4⟩, h4, e⟩ := Option.bind_eq_some_iff.mp e
      obtain ⟨⟨xs, s5⟩, h5, e⟩ := Option.bind_eq_some_iff.mp e
      cases e
      exact ⟨r, s3, h3, x, s4, h4, xs, s5, h5, q⟩
  · rintro ⟨s1, h1, k, s2, h2, q⟩
    cases k with
    | false =>
      obtain ⟨a, s', e, q⟩ := q
      exact ⟨a, s', by unfold lcLoop; rw [h1, Option.bind_some, h2]; exact e, q⟩
    | true =>
      obtain ⟨r, s3, h3, x, s4, h4, xs, s5, h5, q⟩ := q
      exact ⟨_, _, by unfold lcLoop; simp [h1, h2, h3, h4, h5], q⟩
/-- a comprehension that only reads: what is kept, what is told -/
theorem lc_pure (p : D → Bool) (f : D → D) (hs : ∀ d ∈ items, ∃ s1, t d s = some s1 ∧ wp tt s1 fun k s2 => k = p d ∧ if k = true then wp te s2 fun r s3 => wp (mShare r) s3 fun x s4 => x = f d ∧ wipeS vs s4 = s else wipeS vs s2 = s) (q : Ql ((items.filter p).map f) s) : wp (lcLoop t tt te vs items) s Ql := by
  induction items generalizing Ql with
  | nil => exact lc_nil.mpr q
  | cons d ds ih =>
    obtain ⟨s1, h1, h2⟩ := hs d List.mem_cons_self
    refine lc_cons.mpr ⟨s1, h1, h2.mono fun k s2 ⟨hk, hh⟩ => ?_⟩
    cases k with
    | false =>
      have hh : wipeS vs s2 = s := hh
      rw [if_neg Bool.false_ne_true, hh]
      exact ih (fun d' hd' => hs d' (List.mem_cons_of_mem _ hd')) (by rw [List.filter_cons_of_neg (by rw [← hk]; exact Bool.false_ne_true)] at q; exact q)
    | true =>
      rw [if_pos rfl] at hh ⊢
      refine hh.mono fun r s3 h3 => h3.mono fun x s4 ⟨hx, hw⟩ => ?_
      rw [hw]
      refine ih (fun d' hd' => hs d' (List.mem_cons_of_mem _ hd')) ?_
      rw [List.filter_cons_of_pos hk.symm, List.map_cons] at q
      rw [hx]; exact q
/-- a comprehension by an invariant -/
theorem lc_inv (I : Nat → List D → S → Prop) (h0 : I 0 [] s) (hs : ∀ (i : Nat) (d : D) (acc : List D) (s : S), items[i]? = some d → I i acc s → ∃ s1, t d s = some s1 ∧ wp tt s1 fun k s2 => if k = true then wp te s2 fun r s3 => wp (mShare r) s3 fun x s4 => I (i + 1) (acc ++ [x]) (wipeS vs s4) else I (i + 1) acc (wipeS vs s2))
    (hd : ∀ acc s, I items.length acc s → Ql acc s) : wp (lcLoop t tt te vs items) s Ql := by
  have gen : ∀ (items : List D) (I : Nat → List D → S → Prop) (acc : List D) (s : S) (Ql : List D → S → Prop), I 0 acc s → (∀ (i : Nat) (d : D) (acc : List D) (s : S), items[i]? = some d → I i acc s → ∃ s1, t d s = some s1 ∧ wp tt s1 fun k s2 => if k = true then wp te s2 fun r s3 => wp (mShare r) s3 fun x s4 => I (i + 1) (acc ++ [x]) (wipeS vs s4) else I (i + 1) acc (wipeS vs s2)) →
      (∀ acc s, I items.length acc s → Ql acc s) → wp (lcLoop t tt te vs items) s fun xs s' => Ql (acc ++ xs) s' := by
    intro items
    induction items with
    | nil => intro I acc s Ql h0 _ hd; exact lc_nil.mpr (by rw [List.append_nil]; exact hd acc s h0)
    | cons d ds ih =>
      intro I acc s Ql h0 hs hd
      obtain ⟨s1, h1, h2⟩ := hs 0 d acc s rfl h0
      refine lc_cons.mpr ⟨s1, h1, h2.mono fun k s2 hh => ?_⟩
      cases k with
      | false => exact ih (fun i => I (i + 1)) acc _ Ql hh (fun i d' a' s' e hi => hs (i + 1) d' a' s' (by simpa using e) hi) hd
      | true =>
        rw [if_pos rfl] at hh ⊢
        refine hh.mono fun r s3 h3 => h3.mono fun x s4 h4 => ?_
        refine (ih (fun i => I (i + 1)) (acc ++ [x]) _ Ql h4 (fun i d' a' s' e hi => hs (i + 1) d' a' s' (by simpa using e) hi) hd).mono fun xs s5 q => ?_
        rw [List.append_assoc] at q; exact q
  have := gen items I [] s Ql h0 hs hd
  simpa using this
/-! iterables -/
theorem wp_it {m : M R} : wp (mIt m) s Ql ↔ wp m s fun r s1 => wp (mShare r) s1 fun d s2 => ∃ xs, itemsD d = some xs ∧ Ql xs s2 := by
  have h : wp (mIt m) s Ql ↔ ∃ r s', ((m s).bind fun p => (mShare p.1 p.2).bind fun q => (itemsD q.1).map fun is => (is, q.2)) = some (r, s') ∧ Ql r s' := Iff.rfl
  rw [h, wp_bind]
  simp only [wp_bind]
  constructor <;> (rintro ⟨k, s1, e1, d, s2, e2, hh⟩; refine ⟨k, s1, e1, d, s2, e2, ?_⟩)
  · obtain ⟨r, s', e, q⟩ := hh
    obtain ⟨xs, h1, h2⟩ := Option.map_eq_some_iff.mp e
    cases h2; exact ⟨_, h1, q⟩
  · obtain ⟨xs, h1, q⟩ := hh
    exact ⟨_, _, by simp [h1], q⟩
theorem wp_itV {m : M R} : wp (mItV m) s Ql ↔ wp m s fun r s1 => wp (mShare r) s1 fun d s2 => ∃ xs, valsD d = some xs ∧ Ql xs s2 := by
  have h : wp (mItV m) s Ql ↔ ∃ r s', ((m s).bind fun p => (mShare p.1 p.2).bind fun q => (valsD q.1).map fun is => (is, q.2)) = some (r, s') ∧ Ql r s' := Iff.rfl
  rw [h, wp_bind]
  simp only [wp_bind]
  constructor <;> (rintro ⟨k, s1, e1, d, s2, e2, hh⟩; refine ⟨k, s1, e1, d, s2, e2, ?_⟩)
  · obtain ⟨r, s', e, q⟩ := hh
    obtain ⟨xs, h1, h2⟩ := Option.map_eq_some_iff.mp e
    cases h2; exact ⟨_, h1, q⟩
  · obtain ⟨xs, h1, q⟩ := hh
    exact ⟨_, _, by simp [h1], q⟩
theorem wp_itI {m : M R} : wp (mItI m) s Ql ↔ wp m s fun r s1 => wp (mShare r) s1 fun d s2 => ∃ xs, itmsD d = some xs ∧ Ql xs s2 := by
  have h : wp (mItI m) s Ql ↔ ∃ r s', ((m s).bind fun p => (mShare p.1 p.2).bind fun q => (itmsD q.1).map fun is => (is, q.2)) = some (r, s') ∧ Ql r s' := Iff.rfl
  rw [h, wp_bind]
  simp only [wp_bind]
  constructor <;> (rintro ⟨k, s1, e1, d, s2, e2, hh⟩; refine ⟨k, s1, e1, d, s2, e2, ?_⟩)
  · obtain ⟨r, s', e, q⟩ := hh
    obtain ⟨xs, h1, h2⟩ := Option.map_eq_some_iff.mp e
    cases h2; exact ⟨_, h1, q⟩
  · obtain ⟨xs, h1, q⟩ := hh
    exact ⟨_, _, by simp [h1], q⟩
theorem wp_itA {f : List D → Option (List D)} {ms : List (M R)} : wp (mItA f ms) s Ql ↔ wp (mShs ms) s fun ds s1 => ∃ xs, f ds = some xs ∧ Ql xs s1 := by
  have h : wp (mItA f ms) s Ql ↔ ∃ r s', ((mShs ms s).bind fun p => (f p.1).map fun is => (is, p.2)) = some (r, s') ∧ Ql r s' := Iff.rfl
  rw [h, wp_bind]
  constructor <;> (rintro ⟨k, s1, e1, hh⟩; refine ⟨k, s1, e1, ?_⟩)
  · obtain ⟨r, s', e, q⟩ := hh
    obtain ⟨xs, h1, h2⟩ := Option.map_eq_some_iff.mp e
    cases h2; exact ⟨_, h1, q⟩
  · obtain ⟨xs, h1, q⟩ := hh
    exact ⟨_, _, by simp [h1], q⟩
/-- 0, 1, .. -/
def rgD (n : Int) : List D := (List.range n.toNat).map fun i => .int (i : Nat)
@[simp] theorem fRng1_i {n : Int} : fRng1 [.int n] = if rgB n = true then some (rgD n) else none := by
  show (if rgB n = true then some ((List.range n.toNat).map fun i => D.int (0 + (i : Nat))) else none) = _
  simp only [Int.zero_add]; rfl
@[simp] theorem itemsD_t {xs : List D} : itemsD (.tup xs) = some xs := rfl
@[simp] theorem itemsD_l {xs : List D} : itemsD (.lst xs) = some xs := rfl
@[simp] theorem itemsD_s {l : List Nat} : itemsD (.str l) = some (l.map fun c => .str [c]) := rfl
@[simp] theorem itemsD_d {kvs : List (D × D)} : itemsD (.dct kvs) = some (kvs.map (·.1)) := rfl
@[simp] theorem itmsD_d {kvs : List (D × D)} : itmsD (.dct kvs) = some (kvs.map fun p => .tup [p.1, p.2]) := rfl
@[simp] theorem rgD_len {n : Int} : (rgD n).length = n.toNat := by simp [rgD]
theorem rgD_at {n : Int} {i : Nat} {d : D} (h : (rgD n)[i]? = some d) : d = .int (i : Nat) ∧ (i : Int) < n := by
  have hi : i < n.toNat := by have := (List.getElem?_eq_some_iff.mp h).1; simpa using this
  unfold rgD at h
  simp [hi] at h
  exact ⟨h.symm, by omega⟩
@[simp] theorem wipeS_mk {env : List Sl} {ds : Option DS} : wipeS vs ⟨env, ds⟩ = ⟨wipeE vs env, ds⟩ := rfl
@[simp] theorem wipeE_nil {env : List Sl} : wipeE [] env = env := rfl
@[simp] theorem wipeE_cons {v : Nat} {env : List Sl} : wipeE (v :: vs) env = (wipeE vs env).set v .no := rfl
@[simp] theorem restE_nil {a b : List Sl} : restE a [] b = b := rfl
@[simp] theorem restE_cons {v : Nat} {a b : List Sl} : restE a (v :: vs) b = (restE a vs b).set v (a.getD v .no) := rfl
end
end PD
/-! PD: the same, head first (for simp): the continuations are marked, so that they are not looked into. -/
namespace PD
open PySem PySem.Spec PyProof.Rows L2

def Mk {α : Sort _} (_ : α) : Type := Unit
def mk {α : Sort _} {x : α} : Mk x := ()
def bq {α : Type} (o : Option α) (k : α → Prop) (_ : Mk k) : Prop := ∃ x, o = some x ∧ k x
def wq {α : Type} (m : M α) (s : S) (Q : α → S → Prop) (_ : Mk Q) : Prop := wp m s Q
def fq (f : Fn) (args : List D) (ds : Option DS) (Q : R → Option DS → Prop) (_ : Mk Q) : Prop := wf f args ds Q
theorem wf_of {f : Fn} {args : List D} {ds : Option DS} {Q : R → Option DS → Prop} (h : fq f args ds Q mk) : wf f args ds Q := h
theorem fq_mono {f : Fn} {args : List D} {ds : Option DS} {Q Q' : R → Option DS → Prop} (h : fq f args ds Q mk) (i : ∀ a s', Q a s' → Q' a s') : fq f args ds Q' mk := wf.mono h i
theorem wq_mono {α : Type} {m : M α} {s : S} {Q Q' : α → S → Prop} (h : wq m s Q mk) (i : ∀ a s', Q a s' → Q' a s') : wq m s Q' mk := wp.mono h i
section
variable {α β : Type}
@[simp ↓] theorem bO_some {x : α} {k : α → Prop} {h : Mk k} : bq (some x) k h ↔ k x := ⟨fun ⟨_, e, q⟩ => by cases e; exact q, fun q => ⟨_, rfl, q⟩⟩
@[simp] theorem bO_some' {x : α} {k : α → Prop} {h : Mk k} : bq (some x) k h ↔ k x := bO_some
@[simp] theorem bO_none {k : α → Prop} {h : Mk k} : bq none k h ↔ False := ⟨fun ⟨_, e, _⟩ => (by cases e), fun (q : False) => q.elim⟩
@[simp] theorem bO_ite {c : Prop} [Decidable c] {o o' : Option α} {k : α → Prop} {h : Mk k} : bq (if c then o else o') k h ↔ if c then bq o k h else bq o' k h := by split <;> exact Iff.rfl
@[simp ↓] theorem bO_itn {c : Prop} [Decidable c] {x : α} {k : α → Prop} {h : Mk k} : bq (if c then some x else none) k h ↔ c ∧ k x := by
  by_cases h : c
  · rw [if_pos h]; exact ⟨fun ⟨_, e, q⟩ => (by cases e; exact ⟨h, q⟩), fun q => ⟨_, rfl, q.2⟩⟩
  · rw [if_neg h]; exact ⟨fun ⟨_, e, q⟩ => (by cases e), fun q => absurd q.1 h⟩
@[simp] theorem bO_itn' {c : Prop} [Decidable c] {x : α} {k : α → Prop} {h : Mk k} : bq (if c then some x else none) k h ↔ c ∧ k x := bO_itn
@[simp ↓] theorem bO_map {o : Option α} {f : α → β} {k : β → Prop} {h : Mk k} : bq (o.map f) k h ↔ bq o (fun x => k (f x)) mk := by
  cases o with
  | none => exact ⟨fun ⟨_, e, _⟩ => (by cases e), fun ⟨_, e, _⟩ => (by cases e)⟩
  | some x => exact ⟨fun ⟨_, e, q⟩ => (by cases e; exact ⟨x, rfl, q⟩), fun ⟨_, e, q⟩ => (by cases e; exact ⟨_, rfl, q⟩)⟩
@[simp] theorem bO_map' {o : Option α} {f : α → β} {k : β → Prop} {h : Mk k} : bq (o.map f) k h ↔ bq o (fun x => k (f x)) mk := bO_map
@[simp ↓] theorem bO_bind {o : Option α} {f : α → Option β} {k : β → Prop} {h : Mk k} : bq (o.bind f) k h ↔ bq o (fun x => bq (f x) k mk) mk := by
  cases o with
  | none => exact ⟨fun ⟨_, e, _⟩ => (by cases e), fun ⟨_, e, _⟩ => (by cases e)⟩
  | some x => exact ⟨fun q => ⟨x, rfl, q⟩, fun ⟨_, e, q⟩ => (by cases e; exact q)⟩
@[simp] theorem bO_bind' {o : Option α} {f : α → Option β} {k : β → Prop} {h : Mk k} : bq (o.bind f) k h ↔ bq o (fun x => bq (f x) k mk) mk := bO_bind
theorem bO_mk {o : Option α} {x : α} {k : α → Prop} {m : Mk k} (h : o = some x) (q : k x) : bq o k m := ⟨x, h, q⟩
end
def Sl.own? : Sl → Option Own
  | .o x => some x
  | _ => none
def Sl.dat? : Sl → Option D
  | .d x => some x
  | _ => none
def R.slot? : R → Option Nat
  | .b i => some i
  | _ => none
def R.int? : R → Option Int
  | .d (.int i) => some i
  | _ => none
def slK (i : Nat) (Q : R → S → Prop) (s : S) (_ : Mk Q) : Sl → Prop
  | .d x => Q (.d x) s
  | .o _ => Q (.b i) s
  | .no => False
def shK (i : Nat) (Q : D → S → Prop) (s : S) (_ : Mk Q) : Sl → Prop
  | .d x => Q x s
  | .o o => Q o.toD { s with env := s.env.set i (.d o.toD) }
  | .no => False
def thK (y : MS) (Q : Fl → S → Prop) (_ : Mk Q) : Fl → S → Prop
  | .nx, s => wp y s Q
  | fl, s => Q fl s
def rnK (Q : R → Option DS → Prop) (_ : Mk Q) : Fl → Option DS → Prop
  | .nx, d => Q (.d .non) d
  | .rt r, d => Q r d
  | _, _ => False
def rtK (k : R → Prop) (_ : Mk k) : Sl → Prop
  | .d x => k (.d x)
  | .o o => k (.t o)
  | .no => False
section
variable {s : S} {i j : Nat} {x y : D} {o : Own} {env : List Sl} {r : R} {rs : List R} {d' : Option DS}
@[simp] theorem own?_o : Sl.own? (.o o) = some o := rfl
@[simp] theorem dat?_d : Sl.dat? (.d x) = some x := rfl
@[simp] theorem slot?_b : R.slot? (.b i) = some i := rfl
@[simp] theorem int?_i {k : Int} : R.int? (.d (.int k)) = some k := rfl
variable {Q : R → S → Prop} {Q1 : D → S → Prop} {Qs : Fl → S → Prop} {Qf : R → Option DS → Prop}
@[simp ↓] theorem slK_d {h : Mk Q} : slK i Q s h (.d x) ↔ Q (.d x) s := Iff.rfl
@[simp ↓] theorem slK_o {h : Mk Q} : slK i Q s h (.o o) ↔ Q (.b i) s := Iff.rfl
@[simp ↓] theorem shK_d {h : Mk Q1} : shK i Q1 s h (.d x) ↔ Q1 x s := Iff.rfl
@[simp ↓] theorem shK_o {h : Mk Q1} : shK i Q1 s h (.o o) ↔ Q1 o.toD { s with env := s.env.set i (.d o.toD) } := Iff.rfl
@[simp ↓] theorem thK_n {y : MS} {h : Mk Qs} : thK y Qs h .nx s ↔ wq y s Qs mk := Iff.rfl
@[simp ↓] theorem thK_b {y : MS} {h : Mk Qs} : thK y Qs h .bk s ↔ Qs .bk s := Iff.rfl
@[simp ↓] theorem thK_c {y : MS} {h : Mk Qs} : thK y Qs h .ct s ↔ Qs .ct s := Iff.rfl
@[simp ↓] theorem thK_r {y : MS} {h : Mk Qs} : thK y Qs h (.rt r) s ↔ Qs (.rt r) s := Iff.rfl
@[simp ↓] theorem rnK_n {h : Mk Qf} : rnK Qf h .nx d' ↔ Qf (.d .non) d' := Iff.rfl
@[simp ↓] theorem rnK_r {h : Mk Qf} : rnK Qf h (.rt r) d' ↔ Qf r d' := Iff.rfl
@[simp ↓] theorem rnK_b {h : Mk Qf} : rnK Qf h .bk d' ↔ False := Iff.rfl
@[simp ↓] theorem rnK_c {h : Mk Qf} : rnK Qf h .ct d' ↔ False := Iff.rfl
@[simp ↓] theorem rtK_d {k : R → Prop} {h : Mk k} : rtK k h (.d x) ↔ k (.d x) := Iff.rfl
@[simp ↓] theorem rtK_o {k : R → Prop} {h : Mk k} : rtK k h (.o o) ↔ k (.t o) := Iff.rfl
@[simp ↓] theorem q_var {h : Mk Q} : wq (mVar i) s Q h ↔ bq (s.env[i]?) (slK i Q s mk) mk := by
  show wp (mVar i) s Q ↔ _
  rw [wp_var]
  cases s.env[i]? with
  | none => exact bO_none.symm
  | some sl => rw [bO_some]; cases sl <;> exact Iff.rfl
@[simp ↓] theorem q_share_b {h : Mk Q1} : wq (mShare (.b i)) s Q1 h ↔ bq (s.env[i]?) (shK i Q1 s mk) mk := by
  show wp (mShare (.b i)) s Q1 ↔ _
  rw [wp_share_b]
  cases s.env[i]? with
  | none => exact bO_none.symm
  | some sl => rw [bO_some]; cases sl <;> exact Iff.rfl
@[simp ↓] theorem q_then {x y : MS} {h : Mk Qs} : wq (mThen x y) s Qs h ↔ wq x s (thK y Qs mk) mk := by
  show wp (mThen x y) s Qs ↔ _
  rw [wp_then]
  constructor <;> refine fun h => wp.mono h fun fl s1 h => ?_ <;> cases fl <;> exact h
@[simp ↓] theorem q_run {n l : Nat} {body : MS} {args : List D} {ds : Option DS} {h : Mk Qf} : fq (runFn n l body) args ds Qf h ↔ args.length = n ∧ wq body ⟨args.map .d ++ List.replicate l .no, ds⟩ (fun fl s' => rnK Qf mk fl s'.ds) mk := by
  show wf (runFn n l body) args ds Qf ↔ _
  rw [wf_run]
  refine and_congr Iff.rfl ?_
  constructor <;> refine fun h => wp.mono h fun fl s1 h => ?_ <;> cases fl <;> exact h
variable {m mi : M R} {ms : List (M R)}
@[simp ↓] theorem q_mut {T : String} {f : Own → List D → Option (D × Own)} {h : Mk Q} : wq (mMut T f m ms) s Q h ↔ wq m s (fun r s1 => bq r.slot? (fun i => bq ((s1.env[i]?).bind Sl.own?) (fun o0 => tyO T o0 = true ∧ wq (mShs ms) s1 (fun ds s2 => bq ((s2.env[i]?).bind Sl.own?) (fun o => bq (f o ds) (fun z => Q (.d z.1) ⟨s2.env.set i (.o z.2), s2.ds⟩) mk) mk) mk) mk) mk) mk := by
  show wp (mMut T f m ms) s Q ↔ _
  rw [wp_mut]
  have ow : ∀ {e : List Sl} {i : Nat} {o : Own}, (e[i]?).bind Sl.own? = some o → e[i]? = some (.o o) := fun {e i o} h => by
    obtain ⟨sl, h1, h2⟩ := Option.bind_eq_some_iff.mp h
    cases sl <;> cases h2
    exact h1
  constructor
  · refine fun h => wp.mono h fun r s1 ⟨i, o0, e1, h0, hT, h⟩ => ?_
    subst e1
    refine ⟨i, rfl, o0, by rw [h0]; rfl, hT, wp.mono h fun ds s2 ⟨o, h2, z, h3, q⟩ => ?_⟩
    exact ⟨o, by rw [h2]; rfl, z, h3, q⟩
  · refine fun h => wp.mono h fun r s1 ⟨i, e1, o0, h0, hT, h⟩ => ?_
    cases r <;> cases e1
    refine ⟨i, o0, rfl, ow h0, hT, wp.mono h fun ds s2 ⟨o, h2, z, h3, q⟩ => ?_⟩
    exact ⟨o, ow h2, z, h3, q⟩
@[simp ↓] theorem q_part {Qo : Option Int → S → Prop} {h : Mk Qo} : wq (mPart m) s Qo h ↔ wq m s (fun r s1 => bq r.int? (fun i => Qo (some i) s1) mk) mk := by
  show wp (mPart m) s Qo ↔ _
  rw [wp_part]
  constructor
  · exact fun h => wp.mono h fun r s1 ⟨i, e, q⟩ => ⟨i, by rw [e]; rfl, q⟩
  · refine fun h => wp.mono h fun r s1 ⟨i, e, q⟩ => ⟨i, ?_, q⟩
    cases r with
    | d x => cases x <;> cases e; rfl
    | t o => cases e
    | b i => cases e
@[simp ↓] theorem q_aug {f : D → D → Option D} {h : Mk Qs} : wq (mAug i f m) s Qs h ↔ bq ((s.env[i]?).bind Sl.dat?) (fun x => wq m s (fun r s1 => bq (r.peek s1.env) (fun y => bq (f x y) (fun z => Qs .nx ⟨s1.env.set i (.d z), s1.ds⟩) mk) mk) mk) mk := by
  show wp (mAug i f m) s Qs ↔ _
  rw [wp_aug]
  constructor
  · rintro ⟨x, e, h⟩
    exact ⟨x, by rw [e]; rfl, h⟩
  · rintro ⟨x, e, h⟩
    obtain ⟨sl, h1, h2⟩ := Option.bind_eq_some_iff.mp e
    cases sl <;> cases h2
    exact ⟨x, h1, h⟩
@[simp ↓] theorem q_call {f : Fn} {as : M (List R)} {h : Mk Q} : wq (mCall f as) s Q h ↔ wq as s (fun rs s1 => bq (peeks s1.env rs) (fun xs => fq f xs s1.ds (fun r ds' => bq (callR s1.env rs (r, ds')) (fun p => Q p.1 p.2) mk) mk) mk) mk := by
  show wp (mCall f as) s Q ↔ _
  rw [wp_call]
  constructor
  · exact fun h => wp.mono h fun rs s1 ⟨xs, h1, h2⟩ => ⟨xs, h1, wf.mono h2 fun r ds' ⟨r', s', e, q⟩ => ⟨(r', s'), e, q⟩⟩
  · exact fun h => wp.mono h fun rs s1 ⟨xs, h1, h2⟩ => ⟨xs, h1, wf.mono h2 fun r ds' ⟨p, e, q⟩ => ⟨p.1, p.2, e, q⟩⟩
@[simp ↓] theorem q_peeks_nil {k : List D → Prop} {h : Mk k} : bq (peeks env []) k h ↔ k [] := peeks_nil
@[simp ↓] theorem q_peeks_cons {k : List D → Prop} {h : Mk k} : bq (peeks env (r :: rs)) k h ↔ bq (r.peek env) (fun x => bq (peeks env rs) (fun xs => k (x :: xs)) mk) mk := peeks_cons
@[simp ↓] theorem q_setR_b {k : S → Prop} {h : Mk k} : bq (setR i (.b j) s) k h ↔ wq (mShare (.b j)) s (fun d s1 => k ⟨s1.env.set i (.d d), s1.ds⟩) mk := setR_b
@[simp ↓] theorem q_retR_b {k : R → Prop} {h : Mk k} : bq (retR env (.b i)) k h ↔ bq (env[i]?) (rtK k mk) mk := by
  refine Iff.trans retR_b ?_
  cases env[i]? with
  | none => exact bO_none.symm
  | some sl => rw [bO_some]; cases sl <;> exact Iff.rfl
@[simp ↓] theorem q_tgN {k : S → Prop} {h : Mk k} : bq (tgN i x s) k h ↔ k ⟨s.env.set i (.d x), s.ds⟩ := bO_some
@[simp ↓] theorem q_tgNil {k : S → Prop} {h : Mk k} : bq (tgNil [] s) k h ↔ k s := bO_some
@[simp ↓] theorem q_tgCons {k : S → Prop} {h : Mk k} {ds : List D} {t : D → S → Option S} {u : List D → S → Option S} : bq (tgCons t u (x :: ds) s) k h ↔ bq (t x s) (fun s1 => bq (u ds s1) k mk) mk := bO_bind
@[simp ↓] theorem q_tgT {k : S → Prop} {h : Mk k} {ds : List D} {u : List D → S → Option S} : bq (tgT u (.tup ds) s) k h ↔ bq (u ds s) k mk := Iff.rfl
@[simp ↓] theorem q_tgSub {k : S → Prop} {h : Mk k} {mo : M R} : bq (tgSub mo mi x s) k h ↔ wq mo s (fun r s1 => bq r.slot? (fun i => wq mi s1 (fun q s2 => wq (mShare q) s2 (fun d s3 => bq ((s3.env[i]?).bind Sl.own?) (fun o => bq (fSetI o [d, x]) (fun z => k ⟨s3.env.set i (.o z.2), s3.ds⟩) mk) mk) mk) mk) mk) mk := by
  refine Iff.trans tgSub_s ?_
  have ow : ∀ {e : List Sl} {i : Nat} {o : Own}, (e[i]?).bind Sl.own? = some o → e[i]? = some (.o o) := fun {e i o} h => by
    obtain ⟨sl, h1, h2⟩ := Option.bind_eq_some_iff.mp h
    cases sl <;> cases h2
    exact h1
  constructor
  · refine fun h => wp.mono h fun r s1 ⟨i, e1, h⟩ => ?_
    subst e1
    exact ⟨i, rfl, wp.mono h fun q s2 h => wp.mono h fun d s3 ⟨o, h2, z, h3, q⟩ => ⟨o, by rw [h2]; rfl, z, h3, q⟩⟩
  · refine fun h => wp.mono h fun r s1 ⟨i, e1, h⟩ => ?_
    cases r <;> cases e1
    exact ⟨i, rfl, wp.mono h fun q s2 h => wp.mono h fun d s3 ⟨o, h2, z, h3, q⟩ => ⟨o, ow h2, z, h3, q⟩⟩
end
section
variable {s : S} {Q : R → S → Prop} {a b m o : M R} {i : Nat} {ta tb : M Bool} {Qb : Bool → S → Prop} {ms : List (M R)} {Ql : List R → S → Prop} {Qd : List D → S → Prop} {Q1 : D → S → Prop} {lo hi : M (Option Int)} {Qo : Option Int → S → Prop} {Qs : Fl → S → Prop} {x y : MS} {t : M Bool} {Qn : R → S → Prop}
@[simp ↓] theorem q_c {d : D} {hm : Mk Q} : wq (mC d) s Q hm ↔ Q (.d d) s := wp_c
@[simp ↓] theorem q_bin {f : D → D → Option R} {hm : Mk Q} : wq (mBin f a b) s Q hm ↔ wq a s (fun ra s1 => wq b s1 (fun rb s2 => bq (ra.peek s2.env) (fun x => bq (rb.peek s2.env) (fun y => bq (f x y) (fun r => Q r s2) mk) mk) mk) mk) mk := wp_bin
@[simp ↓] theorem q_un {f : D → Option R} {hm : Mk Q} : wq (mUn f a) s Q hm ↔ wq a s (fun ra s1 => bq (ra.peek s1.env) (fun x => bq (f x) (fun r => Q r s1) mk) mk) mk := wp_un
@[simp ↓] theorem q_if {t : M Bool} {hm : Mk Q} : wq (mIf t a b) s Q hm ↔ wq t s (fun k s1 => if k = true then wq a s1 Q mk else wq b s1 Q mk) mk := wp_if
@[simp ↓] theorem q_test {Q : Bool → S → Prop} {hm : Mk Q} : wq (mTest m) s Q hm ↔ wq m s (fun r s1 => bq (r.bl?) (fun k => Q k s1) mk) mk := wp_test
@[simp ↓] theorem q_tru {Q : Bool → S → Prop} {hm : Mk Q} : wq (mTru m) s Q hm ↔ wq m s (fun r s1 => bq (r.peek s1.env) (fun d => bq (truD d) (fun k => Q k s1) mk) mk) mk := wp_tru
@[simp ↓] theorem q_and {hm : Mk Qb} : wq (mAnd ta tb) s Qb hm ↔ wq ta s (fun k s1 => if k = true then wq tb s1 Qb mk else Qb false s1) mk := wp_and
@[simp ↓] theorem q_or {hm : Mk Qb} : wq (mOr ta tb) s Qb hm ↔ wq ta s (fun k s1 => if k = true then Qb true s1 else wq tb s1 Qb mk) mk := wp_or
@[simp ↓] theorem q_not {hm : Mk Qb} : wq (mNot ta) s Qb hm ↔ wq ta s (fun k s1 => Qb (!k) s1) mk := wp_not
@[simp ↓] theorem q_yes {hm : Mk Qb} : wq mYes s Qb hm ↔ Qb true s := wp_yes
@[simp ↓] theorem q_blk {k : Bool → M R} {hm : Mk Q} : wq (mBlK k a) s Q hm ↔ wq a s (fun r s1 => bq (r.bl?) (fun c => wq (k c) s1 Q mk) mk) mk := wp_blk
@[simp ↓] theorem q_retR {r : R} {hm : Mk Q} : wq (mRetR r) s Q hm ↔ Q r s := wp_retR
@[simp ↓] theorem q_andV {hm : Mk Q} : wq (mAndV a b) s Q hm ↔ wq a s (fun r s1 => bq (r.bl?) (fun c => if c = true then wq b s1 Q mk else Q (.d (.bl false)) s1) mk) mk := wp_andV
@[simp ↓] theorem q_orV {hm : Mk Q} : wq (mOrV a b) s Q hm ↔ wq a s (fun r s1 => bq (r.bl?) (fun c => if c = true then Q (.d (.bl true)) s1 else wq b s1 Q mk) mk) mk := wp_orV
@[simp ↓] theorem q_notV {hm : Mk Q} : wq (mNotV a) s Q hm ↔ wq a s (fun r s1 => bq (r.bl?) (fun c => Q (.d (.bl (!c))) s1) mk) mk := wp_notV
@[simp ↓] theorem q_args_nil {hm : Mk Ql} : wq (mArgs []) s Ql hm ↔ Ql [] s := wp_args_nil
@[simp ↓] theorem q_args_cons {hm : Mk Ql} : wq (mArgs (m :: ms)) s Ql hm ↔ wq m s (fun r s1 => wq (mArgs ms) s1 (fun rs s2 => Ql (r :: rs) s2) mk) mk := wp_args_cons
@[simp ↓] theorem q_prim {f : List D → Option R} {as : M (List R)} {hm : Mk Q} : wq (mPrim f as) s Q hm ↔ wq as s (fun rs s1 => bq (peeks s1.env rs) (fun xs => bq (f xs) (fun r => Q r s1) mk) mk) mk := wp_prim
@[simp ↓] theorem q_shs_nil {hm : Mk Qd} : wq (mShs []) s Qd hm ↔ Qd [] s := wp_shs_nil
@[simp ↓] theorem q_shs_cons {hm : Mk Qd} : wq (mShs (m :: ms)) s Qd hm ↔ wq m s (fun r s1 => wq (mShare r) s1 (fun d s2 => wq (mShs ms) s2 (fun ds s3 => Qd (d :: ds) s3) mk) mk) mk := wp_shs_cons
@[simp ↓] theorem q_share_d {d : D} {hm : Mk Q1} : wq (mShare (.d d)) s Q1 hm ↔ Q1 d s := wp_share_d
@[simp ↓] theorem q_share_t {o : Own} {hm : Mk Q1} : wq (mShare (.t o)) s Q1 hm ↔ Q1 o.toD s := wp_share_t
@[simp ↓] theorem q_tup {hm : Mk Q} : wq (mTup ms) s Q hm ↔ wq (mShs ms) s (fun ds s1 => ds.length ≤ sizeLine ∧ Q (.d (.tup ds)) s1) mk := wp_tup
@[simp ↓] theorem q_lst {hm : Mk Q} : wq (mLst ms) s Q hm ↔ wq (mShs ms) s (fun ds s1 => ds.length ≤ sizeLine ∧ Q (.t (.l ds)) s1) mk := wp_lst
@[simp ↓] theorem q_dnew {hm : Mk Q} : wq mDNew s Q hm ↔ Q (.t (.k [])) s := wp_dnew
@[simp ↓] theorem q_meth {T : String} {f : D → List D → Option R} {hm : Mk Q} : wq (mMethT T f o ms) s Q hm ↔ wq o s (fun r s1 => bq (r.peek s1.env) (fun d0 => tyD T d0 = true ∧ wq (mShs ms) s1 (fun ds s2 => bq (r.peek s2.env) (fun d => bq (f d ds) (fun r' => Q r' s2) mk) mk) mk) mk) mk := wp_meth
@[simp ↓] theorem q_nopart {hm : Mk Qo} : wq mNoPart s Qo hm ↔ Qo none s := wp_nopart
@[simp ↓] theorem q_sl {hm : Mk Q} : wq (mSl m lo hi) s Q hm ↔ wq m s (fun r s1 => wq lo s1 (fun l s2 => wq hi s2 (fun h s3 => bq (r.peek s3.env) (fun x => bq (fSl x l h) (fun r' => Q r' s3) mk) mk) mk) mk) mk := wp_sl
@[simp ↓] theorem q_skip {hm : Mk Qs} : wq mSkip s Qs hm ↔ Qs .nx s := wp_skip
@[simp ↓] theorem q_break {hm : Mk Qs} : wq mBreak s Qs hm ↔ Qs .bk s := wp_break
@[simp ↓] theorem q_cont {hm : Mk Qs} : wq mCont s Qs hm ↔ Qs .ct s := wp_cont
@[simp ↓] theorem q_ifS {hm : Mk Qs} : wq (mIfS t x y) s Qs hm ↔ wq t s (fun k s1 => if k = true then wq x s1 Qs mk else wq y s1 Qs mk) mk := wp_ifS
@[simp ↓] theorem q_drop {hm : Mk Qs} : wq (mDrop m) s Qs hm ↔ wq m s (fun _ s1 => Qs .nx s1) mk := wp_drop
@[simp ↓] theorem q_ret {hm : Mk Qs} : wq (mRetS m) s Qs hm ↔ wq m s (fun r s1 => bq (retR s1.env r) (fun r' => Qs (.rt r') s1) mk) mk := wp_ret
@[simp ↓] theorem q_retN {hm : Mk Qs} : wq mRetN s Qs hm ↔ Qs (.rt (.d .non)) s := wp_retN
@[simp ↓] theorem q_set {hm : Mk Qs} : wq (mSet i m) s Qs hm ↔ wq m s (fun r s1 => bq (setR i r s1) (fun s' => Qs .nx s') mk) mk := wp_set
@[simp ↓] theorem q_asg {t : D → S → Option S} {hm : Mk Qs} : wq (mAsg t m) s Qs hm ↔ wq m s (fun r s1 => wq (mShare r) s1 (fun d s2 => bq (t d s2) (fun s' => Qs .nx s') mk) mk) mk := wp_asg
@[simp ↓] theorem q_norm_d {d : D} {hm : Mk Qn} : wq (normR (.d d)) s Qn hm ↔ Qn (.d d) s := wp_norm_d
@[simp ↓] theorem q_norm_t {d : Own} {hm : Mk Qn} : wq (normR (.t d)) s Qn hm ↔ Qn (.t d) s := wp_norm_t
@[simp ↓] theorem q_norm_b {hm : Mk Qn} : wq (normR (.b i)) s Qn hm ↔ wq (mShare (.b i)) s (fun d s1 => Qn (.d d) s1) mk := wp_norm_b
@[simp ↓] theorem q_par {j : Nat} {hm : Mk Qs} : wq (mPar i j a b) s Qs hm ↔ wq a s (fun ra s1 => wq b s1 (fun rb s2 => wq (normR ra) s2 (fun p1 s3 => wq (normR rb) s3 (fun q1 s4 => bq (setR i p1 s4) (fun s5 => bq (setR j q1 s5) (fun s6 => Qs .nx s6) mk) mk) mk) mk) mk) mk := wp_par
end
section
variable {s : S} {t : D → S → Option S} {body : MS} {items : List D} {Q : Fl → S → Prop} {tt : M Bool} {te : M R} {vs : List Nat} {Ql : List D → S → Prop} {Qr : R → S → Prop}
@[simp ↓] theorem q_for {mi : M (List D)} {hm : Mk Q} : wq (mFor mi t body) s Q hm ↔ wq mi s (fun items s1 => wq (mLoop t body items) s1 Q mk) mk := wp_for
@[simp ↓] theorem q_lc {mi : M (List D)} {hm : Mk Qr} : wq (mLc mi t tt te vs) s Qr hm ↔ wq mi s (fun items s1 => wq (lcLoop t tt te vs items) (wipeS vs s1) (fun ds s2 => ds.length ≤ sizeLine ∧ Qr (.t (.l ds)) ⟨restE s1.env vs s2.env, s2.ds⟩) mk) mk := wp_lc
@[simp ↓] theorem q_it {m : M R} {hm : Mk Ql} : wq (mIt m) s Ql hm ↔ wq m s (fun r s1 => wq (mShare r) s1 (fun d s2 => bq (itemsD d) (fun xs => Ql xs s2) mk) mk) mk := wp_it
@[simp ↓] theorem q_itV {m : M R} {hm : Mk Ql} : wq (mItV m) s Ql hm ↔ wq m s (fun r s1 => wq (mShare r) s1 (fun d s2 => bq (valsD d) (fun xs => Ql xs s2) mk) mk) mk := wp_itV
@[simp ↓] theorem q_itI {m : M R} {hm : Mk Ql} : wq (mItI m) s Ql hm ↔ wq m s (fun r s1 => wq (mShare r) s1 (fun d s2 => bq (itmsD d) (fun xs => Ql xs s2) mk) mk) mk := wp_itI
@[simp ↓] theorem q_itA {f : List D → Option (List D)} {ms : List (M R)} {hm : Mk Ql} : wq (mItA f ms) s Ql hm ↔ wq (mShs ms) s (fun ds s1 => bq (f ds) (fun xs => Ql xs s1) mk) mk := wp_itA
theorem q_loop (I : Nat → S → Prop) {h : Mk Q} (h0 : I 0 s) (hs : ∀ (i : Nat) (d : D) (s : S), items[i]? = some d → I i s → bq (t d s) (fun s1 => wq body s1 (fun fl s2 => match fl with
    | .nx => I (i + 1) s2
    | .ct => I (i + 1) s2
    | .bk => Q .nx s2
    | .rt r => Q (.rt r) s2) mk) mk) (hd : ∀ s, I items.length s → Q .nx s) : wq (mLoop t body items) s Q h := loop_inv I h0 hs hd
theorem q_lc_pure {h : Mk Ql} (p : D → Bool) (f : D → D) (hs : ∀ d ∈ items, bq (t d s) (fun s1 => wq tt s1 (fun k s2 => k = p d ∧ if k = true then wq te s2 (fun r s3 => wq (mShare r) s3 (fun x s4 => x = f d ∧ wipeS vs s4 = s) mk) mk else wipeS vs s2 = s) mk) mk) (q : Ql ((items.filter p).map f) s) : wq (lcLoop t tt te vs items) s Ql h := lc_pure p f hs q
theorem q_lc_inv {h : Mk Ql} (I : Nat → List D → S → Prop) (h0 : I 0 [] s) (hs : ∀ (i : Nat) (d : D) (acc : List D) (s : S), items[i]? = some d → I i acc s → bq (t d s) (fun s1 => wq tt s1 (fun k s2 => if k = true then wq te s2 (fun r s3 => wq (mShare r) s3 (fun x s4 => I (i + 1) (acc ++ [x]) (wipeS vs s4)) mk) mk else I (i + 1) acc (wipeS vs s2)) mk) mk)
    (hd : ∀ acc s, I items.length acc s → Ql acc s) : wq (lcLoop t tt te vs items) s Ql h := lc_inv I h0 hs hd
end
end PD
namespace PD
open PySem PySem.Spec PyProof.Rows L2
section
variable {f f' : D → D → Option R} {a b c : M R} {s : S} {Q : R → S → Prop}
@[simp ↓] theorem q_chain {h : Mk Q} : wq (mChain f f' a b c) s Q h ↔ wq a s (fun ra s1 => wq b s1 (fun rb s2 => bq (ra.peek s2.env) (fun x => bq (rb.peek s2.env) (fun y => bq (f x y) (fun z => bq z.bl? (fun k => if k = true then wq c s2 (fun rc s3 => bq (rb.peek s3.env) (fun y2 => bq (rc.peek s3.env) (fun w => bq (f' y2 w) (fun r => Q r s3) mk) mk) mk) mk else Q (.d (.bl false)) s2) mk) mk) mk) mk) mk) mk := by
  constructor
  · rintro ⟨r, s', e, q⟩
    unfold mChain at e
    obtain ⟨⟨ra, s1⟩, e1, e⟩ := Option.bind_eq_some_iff.mp e
    obtain ⟨⟨rb, s2⟩, e2, e⟩ := Option.bind_eq_some_iff.mp e
    obtain ⟨x, e3, e⟩ := Option.bind_eq_some_iff.mp e
    obtain ⟨y, e4, e⟩ := Option.bind_eq_some_iff.mp e
    obtain ⟨z, e5, e⟩ := Option.bind_eq_some_iff.mp e
    obtain ⟨k, e6, e⟩ := Option.bind_eq_some_iff.mp e
    refine ⟨ra, s1, e1, rb, s2, e2, x, e3, y, e4, z, e5, k, e6, ?_⟩
    simp only
    split at e
    · rename_i hk
      rw [if_pos hk]
      obtain ⟨⟨rc, s3⟩, e7, e⟩ := Option.bind_eq_some_iff.mp e
      obtain ⟨y2, e8, e⟩ := Option.bind_eq_some_iff.mp e
      obtain ⟨w, e9, e⟩ := Option.bind_eq_some_iff.mp e
      obtain ⟨r', h3, h4⟩ := Option.map_eq_some_iff.mp e
      cases h4
      exact ⟨rc, s3, e7, y2, e8, w, e9, _, h3, q⟩
    · rename_i hk
      rw [if_neg hk]
      cases e
      exact q
  · rintro ⟨ra, s1, e1, rb, s2, e2, x, e3, y, e4, z, e5, k, e6, q⟩
    split at q
    · rename_i hk
      obtain ⟨rc, s3, e7, y2, e8, w, e9, r', h3, q⟩ := q
      exact ⟨r', s3, by simp only [mChain, e1, e2, e3, e4, e5, e6, hk, if_true, e7, e8, e9, h3, Option.bind_some, Option.map_some], q⟩
    · rename_i hk
      exact ⟨.d (.bl false), s2, by simp only [mChain, e1, e2, e3, e4, e5, e6, hk, if_false, Option.bind_some]; rfl, q⟩
end
end PD
namespace PD
open PySem PySem.Spec PyProof.Rows L2
section
variable {t t1 : D → S → Option S} {tt tt1 : M Bool} {te : M R} {vs vs1 : List Nat} {s : S} {Qr : R → S → Prop} {Ql : List D → S → Prop} {mi1 : M (List D)} {items : List D}
theorem wp_lc2 {mi : M (List D)} : wp (mLc2 mi t tt mi1 t1 tt1 te vs vs1) s Qr ↔ wp mi s fun items s1 => wp (lc2Loop t tt mi1 t1 tt1 te vs vs1 items) (wipeS vs s1) fun ds s2 => ds.length ≤ sizeLine ∧ Qr (.t (.l ds)) ⟨restE s1.env vs s2.env, s2.ds⟩ := by
  have h : wp (mLc2 mi t tt mi1 t1 tt1 te vs vs1) s Qr ↔ ∃ r s', ((mi s).bind fun p => (lc2Loop t tt mi1 t1 tt1 te vs vs1 p.1 (wipeS vs p.2)).bind fun q => if q.1.length ≤ sizeLine then some (R.t (.l q.1), ⟨restE p.2.env vs q.2.env, q.2.ds⟩) else none) = some (r, s') ∧ Qr r s' := Iff.rfl
  rw [h, wp_bind]
  simp only [wp_bind]
  constructor <;> (rintro ⟨k, s1, e1, d, s2, e2, hh⟩; refine ⟨k, s1, e1, d, s2, e2, ?_⟩)
  · obtain ⟨r, s', e, q⟩ := hh
    split at e
    · rename_i hl; cases e; exact ⟨hl, q⟩
    · cases e
  · exact ⟨_, _, if_pos hh.1, hh.2⟩
@[simp ↓] theorem q_lc2 {mi : M (List D)} {h : Mk Qr} : wq (mLc2 mi t tt mi1 t1 tt1 te vs vs1) s Qr h ↔ wq mi s (fun items s1 => wq (lc2Loop t tt mi1 t1 tt1 te vs vs1 items) (wipeS vs s1) (fun ds s2 => ds.length ≤ sizeLine ∧ Qr (.t (.l ds)) ⟨restE s1.env vs s2.env, s2.ds⟩) mk) mk := wp_lc2
theorem lc2_pure (g : D → List D) (hs : ∀ d ∈ items, ∃ s1, t d s = some s1 ∧ wp tt s1 fun k s2 => k = true ∧ wp mi1 s2 fun its s3 => wp (lcLoop t1 tt1 te vs1 its) (wipeS vs1 s3) fun xs s4 => xs = g d ∧ wipeS vs s4 = s) (q : Ql (items.flatMap g) s) : wp (lc2Loop t tt mi1 t1 tt1 te vs vs1 items) s Ql := by
  induction items generalizing Ql with
  | nil => exact ⟨_, _, rfl, q⟩
  | cons d ds ih =>
    obtain ⟨s1, h1, k, s2, h2, hk, its, s3, h3, xs, s4, h4, hx, hw⟩ := hs d List.mem_cons_self
    subst hk
    obtain ⟨zs, s5, h5, q5⟩ := ih (Ql := fun zs s5 => zs = ds.flatMap g ∧ s5 = s) (fun d' hd' => hs d' (List.mem_cons_of_mem _ hd')) ⟨rfl, rfl⟩
    refine ⟨g d ++ ds.flatMap g, s, ?_, by rw [List.flatMap_cons] at q; exact q⟩
    show ((t d s).bind fun s1 => (tt s1).bind fun p => if p.1 = true then
      (mi1 p.2).bind fun p1 => (lcLoop t1 tt1 te vs1 p1.1 (wipeS vs1 p1.2)).bind fun q => (lc2Loop t tt mi1 t1 tt1 te vs vs1 ds (wipeS vs q.2)).bind fun z => some (q.1 ++ z.1, z.2)
      else lc2Loop t tt mi1 t1 tt1 te vs vs1 ds (wipeS vs p.2)) = _
    rw [h1, Option.bind_some, h2, Option.bind_some, if_pos rfl]
    show ((mi1 s2).bind _) = _
    rw [h3, Option.bind_some, h4, Option.bind_some]
    show ((lc2Loop t tt mi1 t1 tt1 te vs vs1 ds (wipeS vs s4)).bind _) = _
    rw [hw, h5, Option.bind_some, hx, q5.1, q5.2]
theorem q_lc2_pure {h : Mk Ql} (g : D → List D) (hs : ∀ d ∈ items, bq (t d s) (fun s1 => wq tt s1 (fun k s2 => k = true ∧ wq mi1 s2 (fun its s3 => wq (lcLoop t1 tt1 te vs1 its) (wipeS vs1 s3) (fun xs s4 => xs = g d ∧ wipeS vs s4 = s) mk) mk) mk) mk) (q : Ql (items.flatMap g) s) : wq (lc2Loop t tt mi1 t1 tt1 te vs vs1 items) s Ql h := lc2_pure g hs q
end
end PD
namespace PD
open PySem PySem.Spec PyProof.Rows L2
section
variable {t : D → S → Option S} {tt : M Bool} {tk tv : M R} {vs : List Nat} {s : S} {Qr : R → S → Prop} {Ql : List (D × D) → S → Prop} {items : List D}
theorem wp_dc {mi : M (List D)} : wp (mDc mi t tt tk tv vs) s Qr ↔ wp mi s fun items s1 => wp (dcLoop t tt tk tv vs items []) (wipeS vs s1) fun ds s2 => Qr (.t (.k ds)) ⟨restE s1.env vs s2.env, s2.ds⟩ := by
  have h : wp (mDc mi t tt tk tv vs) s Qr ↔ ∃ r s', ((mi s).bind fun p => (dcLoop t tt tk tv vs p.1 [] (wipeS vs p.2)).bind fun q => some (R.t (.k q.1), ⟨restE p.2.env vs q.2.env, q.2.ds⟩)) = some (r, s') ∧ Qr r s' := Iff.rfl
  rw [h, wp_bind]
  simp only [wp_bind]
  constructor <;> (rintro ⟨k, s1, e1, d, s2, e2, hh⟩; refine ⟨k, s1, e1, d, s2, e2, ?_⟩)
  · obtain ⟨r, s', e, q⟩ := hh
    cases e; exact q
  · exact ⟨_, _, rfl, hh⟩
@[simp ↓] theorem q_dc {mi : M (List D)} {h : Mk Qr} : wq (mDc mi t tt tk tv vs) s Qr h ↔ wq mi s (fun items s1 => wq (dcLoop t tt tk tv vs items []) (wipeS vs s1) (fun ds s2 => Qr (.t (.k ds)) ⟨restE s1.env vs s2.env, s2.ds⟩) mk) mk := wp_dc
theorem dc_pure (f : D → D × D) (hs : ∀ d ∈ items, ∃ s1, t d s = some s1 ∧ wp tt s1 fun k s2 => k = true ∧ wp tk s2 fun r s3 => wp (mShare r) s3 fun x s4 => x = (f d).1 ∧ wp tv s4 fun r' s5 => wp (mShare r') s5 fun y s6 => y = (f d).2 ∧ wipeS vs s6 = s) :
    ∀ (acc : List (D × D)), (∀ (i : Nat) (d : D), items[i]? = some d → (acc ++ (items.take i).map f).length < sizeLine ∧ ∃ nk, keyOk (acc ++ (items.take i).map f) (f d).1 = some nk ∧ getK (acc ++ (items.take i).map f) nk = none) → Ql (acc ++ items.map f) s → wp (dcLoop t tt tk tv vs items acc) s Ql := by
  induction items with
  | nil => intro acc _ q; exact ⟨_, _, rfl, by simpa using q⟩
  | cons d ds ih =>
    intro acc hk q
    obtain ⟨s1, h1, k, s2, h2, hkk, r, s3, h3, x, s4, h4, hx, r', s5, h5, y, s6, h6, hy, hw⟩ := hs d List.mem_cons_self
    subst hkk hx hy
    obtain ⟨hl, nk, e1, e2⟩ := hk 0 d rfl
    simp at hl e1 e2
    have hp : putK acc nk (f d).1 (f d).2 = acc ++ [f d] := by unfold putK; rw [e2]; rfl
    obtain ⟨zs, s7, h7, q7⟩ := ih (fun d' hd' => hs d' (List.mem_cons_of_mem _ hd')) (acc ++ [f d]) (fun i d' hd' => by have := hk (i + 1) d' (by simpa using hd'); simpa using this) (by simpa using q)
    refine ⟨zs, s7, ?_, q7⟩
    show ((t d s).bind fun s1 => (tt s1).bind fun p => if p.1 = true then
      (tk p.2).bind fun rk => (mShare rk.1 rk.2).bind fun k => (tv k.2).bind fun rv => (mShare rv.1 rv.2).bind fun v =>
        if acc.length < sizeLine then (keyOk acc k.1).bind fun nk => dcLoop t tt tk tv vs ds (putK acc nk k.1 v.1) (wipeS vs v.2) else none
      else dcLoop t tt tk tv vs ds acc (wipeS vs p.2)) = _
    simp only [h1, h2, h3, h4, h5, h6, Option.bind_some, if_true, if_pos hl, e1, hp, hw, h7]
end
end PD
namespace PD
open PySem PySem.Spec PyProof.Rows L2
section
variable {t : D → S → Option S} {tt : M Bool} {tk tv : M R} {vs : List Nat} {s : S} {Ql : List (D × D) → S → Prop} {items : List D}
theorem q_dc_pure {h : Mk Ql} (f : D → D × D) (hs : ∀ d ∈ items, bq (t d s) (fun s1 => wq tt s1 (fun k s2 => k = true ∧ wq tk s2 (fun r s3 => wq (mShare r) s3 (fun x s4 => x = (f d).1 ∧ wq tv s4 (fun r' s5 => wq (mShare r') s5 (fun y s6 => y = (f d).2 ∧ wipeS vs s6 = s) mk) mk) mk) mk) mk) mk)
    (hk : ∀ (i : Nat) (d : D), items[i]? = some d → ((items.take i).map f).length < sizeLine ∧ ∃ nk, keyOk ((items.take i).map f) (f d).1 = some nk ∧ getK ((items.take i).map f) nk = none) (q : Ql (items.map f) s) : wq (dcLoop t tt tk tv vs items []) s Ql h :=
  dc_pure f hs [] (by simpa using hk) (by simpa using q)
end
theorem keyOk_of {kvs : List (D × D)} {k : D} {nk : NestedKey} (h : toNK k = some nk) (hf : kfam k ≠ 0) (ha : ∀ p ∈ kvs, kfam p.1 = kfam k) (hd : nk.depth ≤ 8) : keyOk kvs k = some nk := by
  unfold keyOk
  rw [h, Option.bind_some, if_pos]
  simp only [Bool.and_eq_true, bne_iff_ne, ne_eq, List.all_eq_true, beq_iff_eq, decide_eq_true_eq]
  exact ⟨⟨hf, ha⟩, hd⟩
theorem getK_none {kvs : List (D × D)} {nk : NestedKey} (h : ∀ p ∈ kvs, toNK p.1 ≠ some nk) : getK kvs nk = none := by
  unfold getK
  rw [Option.map_eq_none_iff, List.find?_eq_none]
  intro p hp
  simpa using h p hp
theorem getK_cons {kvs : List (D × D)} {k v : D} {nk : NestedKey} : getK ((k, v) :: kvs) nk = if toNK k = some nk then some v else getK kvs nk := by
  unfold getK
  rw [List.find?_cons]
  by_cases h : toNK k = some nk
  · rw [decide_eq_true h, if_pos h]; rfl
  · rw [decide_eq_false h, if_neg h]
/-! keys that are tuples of numbers -/
def nkI (row : List Int) : NestedKey := .tup (row.map .num)
theorem toNKs_ints : ∀ row : List Int, toNKs (row.map D.int) = some (row.map NestedKey.num)
  | [] => by simp [toNKs]
  | x :: row => by
    rw [List.map_cons, List.map_cons, toNKs, toNKs_ints row]
    simp [toNK]
theorem toNK_ints (row : List Int) : toNK (.tup (row.map D.int)) = some (nkI row) := by
  rw [toNK, toNKs_ints]; rfl
theorem depth_ints (row : List Int) : (nkI row).depth ≤ 8 := by
  have : ∀ row : List Int, NestedKey.depthAll (row.map NestedKey.num) = 0 := by
    intro row
    induction row with
    | nil => rfl
    | cons x row ih => rw [List.map_cons, NestedKey.depthAll, ih, NestedKey.depth]; rfl
  unfold nkI
  rw [NestedKey.depth, this]
  decide
theorem nkI_inj {a b : List Int} : nkI a = nkI b ↔ a = b := by
  constructor
  · intro h
    unfold nkI at h
    injection h with h
    exact (List.map_inj_right (fun x y e => by injection e)).mp h
  · intro h; rw [h]
end PD
namespace PD
def onI {α : Type} (z : α) (p : Int → α) : D → α
  | .int k => p k
  | _ => z
@[simp] theorem onI_int {α : Type} {z : α} {p : Int → α} {k : Int} : onI z p (.int k) = p k := rfl
theorem filter_onI {p : Int → Bool} {n : Nat} : (rgD (n : Int)).filter (onI false p) = ((List.range n).filter fun (k : Nat) => p (k : Int)).map fun (k : Nat) => D.int (k : Int) := by
  unfold rgD
  rw [List.filter_map]
  rfl
theorem map_onI {α : Type} {z : α} {p : Int → α} {n : Nat} : (rgD (n : Int)).map (onI z p) = (List.range n).map fun (k : Nat) => p (k : Int) := by
  unfold rgD
  rw [List.map_map]
  rfl
end PD
namespace PD
theorem intsD_mapI : ∀ ns : List Int, intsD (ns.map .int) = some ns
  | [] => rfl
  | n :: ns => by
    show (intsD (ns.map .int)).map _ = _
    rw [intsD_mapI ns]; rfl
def onT {α : Type} (z : α) (p : List Int → α) : D → α
  | .tup xs => ((intsD xs).map p).getD z
  | _ => z
@[simp] theorem onT_tup {α : Type} {z : α} {p : List Int → α} {row : List Int} : onT z p (.tup (row.map D.int)) = p row := by
  unfold onT; simp only [intsD_mapI, Option.map_some, Option.getD_some]
end PD
namespace PD
open PySem PySem.Spec PyProof.Rows L2
theorem law_sp {w : World} {K : PySem.W.Frag} {fn : Fn} (h : ∀ ns : List Int, ns.length ≤ 63 → fq fn [.scr ns] none (fun r _ => r = .d (.bl true)) mk) (H : Hp) (a : Addr) (ns : List Int) (hl : ns.length ≤ 63) (hS : SqL K H a (ns.map V.int)) :
    spF w K fn 1 [.ref a] H (fun v _ => v = .bl true) fun _ _ _ => False := by
  obtain ⟨r, ds', e, rfl⟩ := h ns hl
  refine ⟨⟨H, none⟩, none, [.scr ns], ⟨Sub.refl _, rfl⟩, .cons (.scr hS) .nil, rfl, _, _, e, ?_⟩
  intro v g' H' _ _ hr
  cases hr with
  | d h => cases h; rfl
@[simp ↓] theorem w_state {ns : List Int} {Q : R → Option DS → Prop} {h : Mk Q} : fq f__law_state [.scr ns] none Q h ↔ ns.length ≤ sizeLine ∧ Q (.d .st) (some ⟨ns.map absI, seedOf ns + 1⟩) := by
  show (∃ r ds', (if ns.length ≤ sizeLine then _ else none) = some (r, ds') ∧ Q r ds') ↔ _
  by_cases hl : ns.length ≤ sizeLine
  · rw [if_pos hl]
    exact ⟨fun ⟨_, _, e, q⟩ => (by cases e; exact ⟨hl, q⟩), fun q => ⟨_, _, rfl, q.2⟩⟩
  · rw [if_neg hl]
    exact ⟨fun ⟨_, _, e, q⟩ => (by cases e), fun q => absurd q.1 hl⟩
end PD
/-! PD: sorted, over lists and tuples of data that can be compared. -/
namespace PD
open PySem PySem.Spec PyProof.Rows L2 PySem.W PySem.Calls

/-- one datum ahead of another, or level with it -/
def leD : D → D → Bool := dataLe false toPy
def insD (x : D) : List D → List D
  | [] => [x]
  | y :: l => if leD x y = true then x :: y :: l else y :: insD x l
def sortD : List D → List D
  | [] => []
  | x :: l => insD x (sortD l)
def aliB (x y : D) : Bool := alike (toPy x) (toPy y)
def aliR : List D → Bool
  | [] => true
  | x :: l => l.all (fun y => aliB x y && aliB y x) && aliR l
def oneK : D → Nat
  | .tup (_ :: _) => 1
  | .tup [] => 2
  | .non => 2
  | .dct _ => 2
  | .st => 2
  | .scr _ => 2
  | .cv _ => 2
  | _ => 0
/-- what can be sorted -/
def okSort (l : List D) : Bool := plAll 58 l && l.all (fun x => aliB x x) && aliR l && (l.all (fun x => oneK x == 1) || l.all (fun x => oneK x == 0))
def fSorted : List D → Option R
  | [.lst xs] => if okSort xs = true then some (.t (.l (sortD xs))) else none
  | [.tup xs] => if okSort xs = true then some (.t (.l (sortD xs))) else none
  | _ => none
theorem leD_total : TotalLe leD := sortLe_total (listOrd itemOrd) false fun b => keyToks (toPy b)
theorem insD_perm (x : D) : ∀ l, (insD x l).Perm (x :: l)
  | [] => .refl _
  | y :: l => by
    unfold insD
    split
    · exact .refl _
    · exact ((insD_perm x l).cons y).trans (.swap _ _ _)
theorem sortD_perm : ∀ l, (sortD l).Perm l
  | [] => .refl _
  | x :: l => (insD_perm x _).trans ((sortD_perm l).cons x)
theorem insD_pw (x : D) : ∀ l : List D, l.Pairwise (fun a b => leD a b = true) → (insD x l).Pairwise (fun a b => leD a b = true)
  | [], _ => List.pairwise_singleton _ _
  | y :: l, h => by
    have h1 := List.pairwise_cons.mp h
    unfold insD
    split
    · rename_i hxy
      refine List.pairwise_cons.mpr ⟨fun z hz => ?_, h⟩
      rcases List.mem_cons.mp hz with rfl | hz
      · exact hxy
      · exact leD_total.trans _ _ _ hxy (h1.1 z hz)
    · rename_i hxy
      refine List.pairwise_cons.mpr ⟨fun z hz => ?_, insD_pw x l h1.2⟩
      rcases List.mem_cons.mp ((insD_perm x l).mem_iff.mp hz) with rfl | hz
      · exact (Bool.or_eq_true _ _ |>.mp (by simpa using leD_total.total _ y)).resolve_left hxy
      · exact h1.1 z hz
theorem sortD_pw : ∀ l, (sortD l).Pairwise (fun a b => leD a b = true)
  | [] => .nil
  | x :: l => insD_pw x _ (sortD_pw l)
theorem insD_filter (x c : D) : ∀ l : List D, (insD x l).filter (sameRank leD c) = (x :: l).filter (sameRank leD c)
  | [] => rfl
  | y :: l => by
    unfold insD
    split
    · rfl
    · rename_i hxy
      rw [List.filter_cons, insD_filter x c l, List.filter_cons, List.filter_cons, List.filter_cons]
      by_cases h1 : sameRank leD c x = true
      · by_cases h2 : sameRank leD c y = true
        · have a := Bool.and_eq_true _ _ |>.mp h1
          have b := Bool.and_eq_true _ _ |>.mp h2
          exact absurd (leD_total.trans _ _ _ a.2 b.1) hxy
        · simp [h1, h2]
      · simp [h1]
theorem sortD_filter (c : D) : ∀ l : List D, (sortD l).filter (sameRank leD c) = l.filter (sameRank leD c)
  | [] => rfl
  | x :: l => by
    show (insD x (sortD l)).filter _ = _
    rw [insD_filter, List.filter_cons, List.filter_cons, sortD_filter c l]
theorem sortD_eq (l : List D) : sortD l = l.mergeSort leD := sort_unique leD_total (sortD_pw l) fun c => sortD_filter c l
/-! the rule -/
def rSortD (w : World) (K : PySem.W.Frag) : List V → Hp → VK → Prop := fun vs H Q => ∃ (a : Addr) (xs : List V) (ds : List D) (st : Option (Addr × Addr)) (F : Hp), vs = [V.ref a] ∧ (SqL K H a xs ∨ SqT K H a xs) ∧ Sub F H ∧ RepL w K st F xs ds ∧ okSort ds = true ∧
  ∀ (ys : List V) (p : Addr), RepL w K st F ys (sortD ds) → H p = none → Q (.ref p) (upd H p (.lst ys))
theorem aliR_all : ∀ {l : List D}, aliR l = true → (∀ x ∈ l, aliB x x = true) → ∀ x ∈ l, ∀ y ∈ l, aliB x y = true
  | [], _, _, _, h, _, _ => by cases h
  | z :: l, h, hs, x, hx, y, hy => by
    unfold aliR at h
    rw [Bool.and_eq_true, List.all_eq_true] at h
    rcases List.mem_cons.mp hx with rfl | hx'
    · rcases List.mem_cons.mp hy with rfl | hy'
      · exact hs _ hx
      · exact (Bool.and_eq_true _ _ |>.mp (h.1 y hy')).1
    · rcases List.mem_cons.mp hy with rfl | hy'
      · exact (Bool.and_eq_true _ _ |>.mp (h.1 x hx')).2
      · exact aliR_all h.2 (fun x hx => hs x (List.mem_cons_of_mem _ hx)) x hx' y hy'
theorem okSort_alike {l : List D} (h : okSort l = true) : AllAlike (l.map toPy) := by
  unfold okSort at h
  simp only [Bool.and_eq_true, List.all_eq_true] at h
  intro d hd d' hd'
  obtain ⟨x, hx, rfl⟩ := List.mem_map.mp hd
  obtain ⟨y, hy, rfl⟩ := List.mem_map.mp hd'
  exact aliR_all h.1.2 h.1.1.2 x hx y hy
theorem okSort_kind {l : List D} (h : okSort l = true) : Sortable (l.map toPy) := by
  unfold okSort at h
  simp only [Bool.and_eq_true, Bool.or_eq_true, List.all_eq_true, beq_iff_eq] at h
  rcases h.2 with h | h
  · refine .inl fun d hd => ?_
    obtain ⟨x, hx, rfl⟩ := List.mem_map.mp hd
    have := h x hx
    cases x <;> simp [oneK] at this
    rename_i xs
    cases xs with
    | nil => simp [oneK] at this
    | cons a l => exact ⟨toPy a, toPys l, by simp [toPy, toPys]⟩
  · refine .inr fun d hd => ?_
    obtain ⟨x, hx, rfl⟩ := List.mem_map.mp hd
    have := h x hx
    cases x <;> simp [oneK] at this <;> simp [toPy]
    rename_i xs
    cases xs <;> simp [oneK] at this
theorem plAll_mem {n : Nat} : ∀ {l : List D}, plAll n l = true → ∀ x ∈ l, pl n x = true
  | [], _, _, h => by cases h
  | y :: l, h, x, hx => by
    simp only [plAll, Bool.and_eq_true] at h
    rcases List.mem_cons.mp hx with rfl | hx
    · exact h.1
    · exact plAll_mem h.2 x hx
section
variable {w : World} {K : PySem.W.Frag} {st : Option (Addr × Addr)} {F H : Hp}
/-- what a value stands for -/
def Stands (w : World) (K : PySem.W.Frag) (st : Option (Addr × Addr)) (F : Hp) (u : Value) (d : D) : Prop := ∃ v, RelV v u ∧ Rep w K st F v d
theorem stands_each : ∀ {vs : List V} {us : List Value} {ds : List D}, Vals vs us → RepL w K st F vs ds → EachIs (Stands w K st F) us ds
  | _, _, _, .nil, h => by cases h; exact .nil
  | _, _, _, .cons r t, h => by
    cases h with
    | cons a b => exact .cons ⟨_, r, a⟩ (stands_each t b)
theorem stands_back : ∀ {us : List Value} {ds : List D}, EachIs (Stands w K st F) us ds → ∃ vs, Vals vs us ∧ RepL w K st F vs ds
  | _, _, .nil => ⟨[], .nil, .nil⟩
  | _, _, .cons ⟨v, r, a⟩ t => by
    obtain ⟨vs, h1, h2⟩ := stands_back t
    exact ⟨v :: vs, .cons r h1, .cons a h2⟩
theorem each_with {α β : Type} {R R' : α → β → Prop} : ∀ {as : List α} {bs : List β}, EachIs R as bs → (∀ a b, b ∈ bs → R a b → R' a b) → EachIs R' as bs
  | _, _, .nil, _ => .nil
  | _, _, .cons r t, h => .cons (h _ _ List.mem_cons_self r) (each_with t fun a b hb => h a b (List.mem_cons_of_mem _ hb))
theorem each_right {α β : Type} {R : α → β → Prop} : ∀ {as : List α} {bs : List β}, EachIs R as bs → ∀ b ∈ bs, ∃ a, R a b
  | _, _, .nil, _, h => by cases h
  | _, _, .cons r t, b, h => by
    rcases List.mem_cons.mp h with rfl | h
    · exact ⟨_, r⟩
    · exact each_right t b h
end
section
variable {prog : Program} {w : World} {A : Around} {E : Value → Shared → Prop} {s : Shared}
abbrev emptyL : Obj := { cls := .type "list", data := .seq ([] : List Value).toArray }
abbrev heapC (h : Heap) (items : Array Value) : Heap := (h.push emptyL).update h.objs.size (Obj.mapSeq (· ++ items))
theorem heapC_at (h : Heap) (items : Array Value) : ∃ c, (heapC h items).get? h.objs.size = some { cls := .type "list", data := .seq (#[] ++ items) c } :=
  ⟨_, Heap.get?_update_self (Obj.mapSeq (· ++ items)) (Heap.get?_push_size (o := { cls := .type "list", data := .seq #[] 0 }) h rfl) rfl⟩
theorem heapC_old {h : Heap} {items : Array Value} {b : Addr} {o : Obj} (e : h.get? b = some o) : (heapC h items).get? b = some o :=
  (Heap.get?_update_other _ _ (Nat.ne_of_gt (Heap.lt_size e))).trans (Heap.get?_push_of_some _ e)
theorem heapC_size (h : Heap) (items : Array Value) : (heapC h items).objs.size = h.objs.size + 1 := by
  unfold heapC
  rw [Heap.size_update, size_push']
/-- the items of a list or a tuple, the heap behind told -/
theorem collectS {Q : List Value → Shared → Prop} (it : Addr) {T : String} {o : Obj} {items : Array Value} {n : Nat} (hT : T = "list" ∨ T = "tuple") (ho : s.heap.get? it = some o)
    (hc : o.cls = .type T) (hd : o.data = .seq items n) (hsz : items.size ≤ sizeLine) (hQ : Q items.toList { s with heap := heapC s.heap items }) : wpAny (model prog w) A (collect (.ref it)) Q E s := by
  obtain ⟨c, at_⟩ := heapC_at s.heap items
  have back : wpAny (model prog w) A (load s.heap.objs.size >>= fun o => match o.data with
      | Data.seq xs _ => pure xs.toList
      | _ => unsupported "internal:collect") Q E { s with heap := heapC s.heap items } := by
    refine wpAny_bind (wpAny_load at_ (wpAny_pure ?_))
    simpa using hQ
  unfold collect
  refine wpAny_bind (wpAny_runValue (codeAny_builtin F.entry_proto_collect (Eq.mpr (congrArg (fun z => wpAny _ z _ _ _ _) (Around.under_plainId F.plain_proto_collect _)) ?_)))
  refine wpAny_bind (m := newList []) (wpAny_newObj_type (wpAny_pure ⟨plainId_quiet F.plain_list_iadd _, codeAny_builtin F.entry_list_iadd (Eq.mpr (congrArg (fun z => wpAny _ z _ _ _ _) (Around.under_plainId F.plain_list_iadd _)) ?_)⟩))
  have ext := wpAny_extend_seq (prog := prog) (w := w) (A := A) (s := { s with heap := s.heap.push emptyL }) (R := fun r s' => r = .ok (.ret (.ref s.heap.objs.size)) ∧ s' = { s with heap := heapC s.heap items })
    s.heap.objs.size it (.ref s.heap.objs.size) 0 hT (Heap.get?_push_size (o := { cls := .type "list", data := .seq #[] 0 }) _ rfl) (Heap.get?_push_of_some _ ho) hc hd ⟨rfl, rfl⟩ hsz
  refine wpAny_mono ext (fun fin s' h => ?_) (fun e s' h => by cases h.1)
  match fin, h with
  | .done f, h =>
    obtain ⟨e, rfl⟩ := h
    cases e
    exact back
  | .again c', h => exact ⟨h.1, codeAny_mono h.2 fun r s'' hr => by rw [hr.1, hr.2]; exact back⟩
end
theorem call_sorted {X : Cx} {w : World} (hu : X.A.units + 64 < cLine) : CallR X (.builtin "sorted") (rSortD w X.K) := by
  intro pins s σ H vs us Q I r h
  obtain ⟨a, xs, ds, st, F, rfl, hq, hs, rep, ok, q⟩ := h
  obtain ⟨u, rfl, ru⟩ := vals1 r
  cases ru
  have hal := okSort_alike ok
  have hk := okSort_kind ok
  have hpl : plAll 58 ds = true := by
    unfold okSort at ok
    simp only [Bool.and_eq_true] at ok
    exact ok.1.1.1
  have main : ∀ (T : String) (its : List Value), (T = "list" ∨ T = "tuple") → Vals xs its → xs.length ≤ sizeLine → (∃ o n, s.heap.get? a = some o ∧ o.cls = .type T ∧ o.data = .seq its.toArray n) → wpAny (model X.prog X.w) X.A (call (.builtin "sorted") [.ref a]) (EP X pins σ Q) X.xe s := by
    intro T its hT rv hz ⟨o, n, ho, hc, hd⟩
    have hl2 : its.length ≤ sizeLine := by rw [← rv.length]; exact hz
    have each := stands_each rv rep
    have er : EachIs (fun v b => ∃ as, Reads s.heap v (toPy b) as) its ds := each_with each fun u d hd ⟨v, r1, r2⟩ => Dp.reads I _ v u (Rep.dp hs 58 r2 (plAll_mem hpl d hd)).1 r1
    have hdep : ∀ d ∈ ds, (toPy d).depth ≤ 58 := fun d hd => by
      obtain ⟨v, v', _, r2⟩ := each_right each d hd
      exact (Rep.dp hs 58 r2 (plAll_mem hpl d hd)).2.2
    refine call_function_entry kind_sorted plain_sorted entry_sorted (args_sorted1 _) ?_
    unfold Builtin.«sorted»
    refine wpAny_bind (m := checkCount "sorted" 1 1 _) (wpAny_pure ?_)
    refine wpAny_bind (collectS a hT ho hc hd (by simpa using hl2) ?_)
    have kp : ∀ b o, s.heap.get? b = some o → (heapC s.heap its.toArray).get? b = some o := fun b o e => heapC_old e
    generalize hh : heapC s.heap its.toArray = h' at kp ⊢
    refine wpAny_bind (wpAny_newList ?_ (by simpa using hl2))
    have elt : its.toArray.toList.toArray = its.toArray := by simp
    have hle : s.heap.objs.size ≤ h'.objs.size := by rw [← hh, heapC_size]; exact Nat.le_succ _
    have hoL : (h'.push (seqObj "list" its.toArray 0)).get? h'.objs.size = some (seqObj "list" its.toArray 0) := Heap.get?_push_size _ rfl
    have old : ∀ b o, s.heap.get? b = some o → b ≠ h'.objs.size ∧ (h'.push (seqObj "list" its.toArray 0)).get? b = some o := fun b o e => ⟨Nat.ne_of_lt (Heap.lt_size (kp b o e)), Heap.get?_push_of_some _ (kp b o e)⟩
    have er2 : EachIs (fun v b => ∃ as, Reads (sortingHeap (h'.push (seqObj "list" its.toArray 0)) h'.objs.size its) v (toPy b) as) its ds := er.mono fun _ _ ⟨as, r⟩ => ⟨as, PyProof.Rows.Reads.keeps (fun b o e => sortingHeap_old (old b o e).1 (old b o e).2) r⟩
    have er3 : EachIs (Stands w X.K st F) (sortVals (dataKind (sortingHeap (h'.push (seqObj "list" its.toArray 0)) h'.objs.size its) (ds.map toPy)) false its its) (sortD ds) := by
      rw [sortD_eq]
      exact sortVals_data (R := Stands w X.K st F) (enc := toPy) false each er2 hal
    obtain ⟨ys, hy1, hy2⟩ := stands_back er3
    have hln : ys.length ≤ sizeLine := by
      rw [hy2.length, (sortD_perm ds).length_eq, ← rep.length]; exact hz
    refine wpAny_bind (wpAny_holding (wpAny_call_entry slot_list_sort ⟨_, hoL, rfl⟩ entry_list_sort ?body (args_list_sort _)))
    show wpAny (model X.prog X.w) X.A.in1.in1 (Builtin.«list.sort» ⟨[.ref h'.objs.size], []⟩) _ _ { s with heap := h'.push (seqObj "list" its.toArray 0) }
    refine list_sort_vals (s := { s with heap := h'.push (seqObj "list" its.toArray 0) }) (κ := dataKind (sortingHeap (h'.push (seqObj "list" its.toArray 0)) h'.objs.size its) (ds.map toPy)) hoL (SortsAt.data (s := { s with heap := sortingHeap (h'.push (seqObj "list" its.toArray 0)) h'.objs.size its }) (each_map (R := fun v d => ∃ as, Reads (sortingHeap (h'.push (seqObj "list" its.toArray 0)) h'.objs.size its) v d as) toPy er2) hal hk ?_) hl2 ⟨_, rfl, wpAny_pure ⟨_, rfl, ?_⟩⟩
    · intro d hd
      obtain ⟨x, hx, rfl⟩ := List.mem_map.mp hd
      have := hdep x hx
      show X.A.units + 2 + (toPy x).depth < cLine
      omega
    · obtain ⟨ep, hep⟩ := sortedHeap_at (h := h'.push (seqObj "list" its.toArray 0)) (a := h'.objs.size) (vs := its) (out := (sortVals (dataKind (sortingHeap (h'.push (seqObj "list" its.toArray 0)) h'.objs.size its) (ds.map toPy)) false its its).toArray) hoL
      refine ⟨.ref h'.objs.size, upd H h'.objs.size (.lst ys), I.laid (t' := s.toks) (fun b o e => ?_) hle ⟨hln, _, ep, hy1, hep⟩, rfl, q ys _ hy2 (I.hok.fresh hle)⟩
      have z := old b o e
      rw [sortedHeap_old z.1 (Heap.lt_size z.2)]
      exact z.2
  rcases hq with hq | hq
  · obtain ⟨its, rv, pl, hz⟩ := I.list hq
    obtain ⟨o, ho, hc, n, hd⟩ := pl.isList
    exact main "list" its (.inl rfl) rv hz ⟨o, n, ho, hc, hd⟩
  · obtain ⟨its, rv, ⟨o, ho, hc, n, hd⟩, hz⟩ := I.tuple hq
    exact main "tuple" its (.inr rfl) rv hz ⟨o, n, ho, hc, hd⟩
theorem o_sorted {w : World} {K : PySem.W.Frag} : OpN w K (rSortD w K) fSorted := fun g H xs ds res Q hf hx e q => by
  unfold fSorted at e
  split at e
  · split at e
    · rename_i hok
      cases e
      cases hx with
      | cons a b =>
        cases b
        cases a with
        | lst ha ra => exact ⟨_, _, _, g.st, g.F, rfl, .inl (SqL.of ha), hf, ra, hok, fun ys p hr hp => k_lst hr hf q p hp⟩
    · cases e
  · split at e
    · rename_i hok
      cases e
      cases hx with
      | cons a b =>
        cases b
        cases a with
        | tup ha ra => exact ⟨_, _, _, g.st, g.F, rfl, .inr (hf.seqT ha), hf, ra, hok, fun ys p hr hp => k_lst hr hf q p hp⟩
    · cases e
  · cases e
end PD
/-! PD: is with bools, ranges as lists and tuples, unpacking lists, len(set(..)), reversed slices. -/
namespace PD
open PySem PySem.Spec PyProof.Rows L2

section
variable {X : Cx} {a b c e o tg iter : Expr} {es rest : List Expr} {ma mb mc me mo : M R} {ms : List (M R)} {pos p p2 apos cpos : Pos} {w : World} {K : PySem.W.Frag}
/-! is -/
def fIsB (x y : D) : Option R := match x, y with
  | .bl i, .bl j => some (.d (.bl (decide (i = j))))
  | _, _ => none
def fNotB (x y : D) : Option R := match x, y with
  | .bl i, .bl j => some (.d (.bl (!decide (i = j))))
  | _, _ => none
theorem o_isB : Op2 w K rIsB fIsB := fun g H x y dx dy res Q hf hx hy e q => by
  unfold fIsB at e
  split at e
  · cases e; cases hx; cases hy
    exact ⟨_, _, rfl, rfl, k_bl hf q⟩
  · cases e
theorem o_notB : Op2 w K rNotB fNotB := fun g H x y dx dy res Q hf hx hy e q => by
  unfold fNotB at e
  split at e
  · cases e; cases hx; cases hy
    exact ⟨_, _, rfl, rfl, k_bl hf q⟩
  · cases e
theorem c_isB : CmpOk X .Is fIsB := ⟨⟨_, op_isBl, o_isB⟩⟩
theorem c_notB : CmpOk X .IsNot fNotB := ⟨⟨_, op_notBl, o_notB⟩⟩
/-! list(range(n)), tuple(range(n)) -/
instance (a b : Int) : Decidable (RgOk a b) := by unfold RgOk; infer_instance
theorem rep_rg {st : Option (Addr × Addr)} {F : Hp} (a b : Int) : RepL w K st F (rgV a b) ((List.range (b - a).toNat).map fun i => .int (a + (i : Nat))) := by
  unfold rgV
  induction List.range (b - a).toNat with
  | nil => exact .nil
  | cons i l ih => exact .cons (.int _) ih
def rgL (a b : Int) : List D := (List.range (b - a).toNat).map fun i => .int (a + (i : Nat))
def fLstRg1 : D → Option R
  | .int n => if RgOk 0 n then some (.t (.l (rgL 0 n))) else none
  | _ => none
def fTupRg1 : D → Option R
  | .int n => if RgOk 0 n then some (.d (.tup (rgL 0 n))) else none
  | _ => none
abbrev rLstRg1 : V → Hp → VK → Prop := fun x H Q => ∃ n, x = .int n ∧ RgOk 0 n ∧ ∀ q, H q = none → Q (.ref q) (upd H q (.lst (rgV 0 n)))
abbrev rTupRg1 : V → Hp → VK → Prop := fun x H Q => ∃ n, x = .int n ∧ RgOk 0 n ∧ ∀ q, H q = none → Q (.ref q) (upd H q (.tup (rgV 0 n)))
theorem o_lstRg1 : Op1 w K rLstRg1 fLstRg1 := fun g H x dx res Q hf hx e q => by
  unfold fLstRg1 at e
  split at e
  · split at e
    · rename_i hr
      cases e; cases hx
      exact ⟨_, rfl, hr, fun p hp => k_lst (rep_rg 0 _) hf q p hp⟩
    · cases e
  · cases e
theorem o_tupRg1 : Op1 w K rTupRg1 fTupRg1 := fun g H x dx res Q hf hx e q => by
  unfold fTupRg1 at e
  split at e
  · split at e
    · rename_i hr
      cases e; cases hx
      exact ⟨_, rfl, hr, fun p hp => k_tup (rep_rg 0 _) hf q p hp⟩
    · cases e
  · cases e
theorem e_lstRg1 (hc : X.calm = true) (hg : Gl X "list") (hm : X.mg "list" = none) (hg2 : Gl X "range") (hm2 : X.mg "range" = none) (ha : PX X a ma)
    (n1 : starEach [a] X.env = (false, eval a X.env) :: starEach [] X.env := by rfl) (n2 : starEach [.Call (.Name "range" p2) [a] [] apos] X.env = (false, eval (.Call (.Name "range" p2) [a] [] apos) X.env) :: starEach [] X.env := by rfl) :
    PX X (.Call (.Name "list" p) [.Call (.Name "range" p2) [a] [] apos] [] pos) (mUn fLstRg1 ma) :=
  PEi (pe_listRg hc hg hm (prg_1 hg2 hm2 ha n1) n2) fun σ H Q h => LE.imp (tUn_LE o_lstRg1 h) fun v H1 ⟨n, e1, e2, e3⟩ => ⟨n, e1, e2, e3⟩
theorem e_tupRg1 (hc : X.calm = true) (hg : Gl X "tuple") (hm : X.mg "tuple" = none) (hg2 : Gl X "range") (hm2 : X.mg "range" = none) (ha : PX X a ma)
    (n1 : starEach [a] X.env = (false, eval a X.env) :: starEach [] X.env := by rfl) (n2 : starEach [.Call (.Name "range" p2) [a] [] apos] X.env = (false, eval (.Call (.Name "range" p2) [a] [] apos) X.env) :: starEach [] X.env := by rfl) :
    PX X (.Call (.Name "tuple" p) [.Call (.Name "range" p2) [a] [] apos] [] pos) (mUn fTupRg1 ma) :=
  PEi (pe_tupRg hc hg hm (prg_1 hg2 hm2 ha n1) n2) fun σ H Q h => LE.imp (tUn_LE o_tupRg1 h) fun v H1 ⟨n, e1, e2, e3⟩ => ⟨n, e1, e2, e3⟩
/-! len(set(xs)), xs ints that differ -/
def fLenSet : D → Option R
  | .lst xs => (intsD xs).bind fun ns => if ns.Nodup ∧ ns.length ≤ 4000 then some (.d (.int (ns.length : Nat))) else none
  | _ => none
abbrev rLenSet (K : PySem.W.Frag) : V → Hp → VK → Prop := fun x H1 Q => ∃ (l : Addr) (ns : List Int), x = .ref l ∧ SqL K H1 l (ns.map V.int) ∧ ns.Nodup ∧ ns.length ≤ 4000 ∧ Q (.int (ns.length : Nat)) H1
theorem o_lenSet : Op1 w K (rLenSet K) fLenSet := fun g H x dx res Q hf hx e q => by
  unfold fLenSet at e
  split at e
  · obtain ⟨ns, h1, h2⟩ := Option.bind_eq_some_iff.mp e
    split at h2
    · rename_i hn
      cases h2
      cases hx with
      | lst ha ra => exact ⟨_, ns, rfl, SqL.of (by rw [← intsD_rep h1 ra]; exact ha), hn.1, hn.2, k_int hf q⟩
    · cases h2
  · cases e
theorem e_lenSet (hc : X.calm = true) (hg : Gl X "len") (hm : X.mg "len" = none) (hg2 : Gl X "set") (hm2 : X.mg "set" = none) (ha : PX X a ma)
    (na : starEach [a] X.env = (false, eval a X.env) :: starEach [] X.env := by rfl) : PX X (.Call (.Name "len" p) [.Call (.Name "set" p2) [a] [] apos] [] pos) (mUn fLenSet ma) :=
  PEi (RZ.pe_lenSetI hg hm hg2 hm2 ha hc na) fun σ H Q h => LE.imp (tUn_LE o_lenSet h) fun v H1 z => z
/-! a, b = xs, a tuple or a list -/
def tgU (t : List D → S → Option S) : D → S → Option S
  | .tup ds, s => t ds s
  | .lst ds, s => t ds s
  | _, _ => none
theorem pg_or {t t' : TG} (h : PG X tg t) (h' : PG X tg t') : PG X tg fun v σ H Q => t v σ H Q ∨ t' v σ H Q :=
  ⟨fun p s σ H v u Q I r q => q.elim (h.run p s σ H v u Q I r) (h'.run p s σ H v u Q I r)⟩
theorem gUn_LG {ts : List Nat} {n : Nat} {t : List D → S → Option S} {σ : L2.St} {H : Hp} {v : V} {Q : L2.St → Hp → Prop} (hn : ∀ ds s s', t ds s = some s' → ds.length = n) (h : LG w K ts (tgU t) v σ H Q) : gTup K n (LGs w K ts t) v σ H Q ∨ gUnl K n (LGs w K ts t) v σ H Q := by
  obtain ⟨g, s, d, G, r, s', e, q⟩ := h
  unfold tgU at e
  split at e
  · cases r with
    | tup hq hr => exact .inl ⟨_, _, rfl, G.fr.seqT hq, by rw [hr.length]; exact hn _ _ _ e, g, s, _, G, hr, s', e, q⟩
  · cases r with
    | lst hq hr => exact .inr ⟨_, _, rfl, SqL.of (G.fr _ _ hq), by rw [hr.length]; exact hn _ _ _ e, g, s, _, G, hr, s', e, q⟩
  · cases e
theorem g_u {ts : List Nat} {t : List D → S → Option S} {n k : Nat} (hc : X.calm = true) (h : XGs X es ts t) (hl : ∀ ds s s', t ds s = some s' → ds.length = n) (hn : (assignEach es X.env).length = n := by rfl) (hst : (assignEach es X.env).findIdx? (·.1) = none := by rfl) : XG X (.Tuple es k pos) ts (tgU t) :=
  PGi (pg_or (pg_tup hc h hn hst) (pg_unl hc h hn hst)) fun _ _ _ _ h => gUn_LG hl h
/-! xs[::-1], a list -/
def fRevL : D → Option R
  | .lst xs => some (.t (.l xs.reverse))
  | _ => none
abbrev rRevL (K : PySem.W.Frag) : V → Hp → VK → Prop := fun x H1 Q => ∃ a xs, x = .ref a ∧ SqL K H1 a xs ∧ ∀ p, H1 p = none → Q (.ref p) (upd H1 p (.lst xs.reverse))
theorem o_revL : Op1 w K (rRevL K) fRevL := fun g H x dx res Q hf hx e q => by
  unfold fRevL at e
  split at e
  · cases e
    cases hx with
    | lst ha ra => exact ⟨_, _, rfl, SqL.of ha, fun p hp => k_lst ra.reverse hf q p hp⟩
  · cases e
theorem e_revL {k : Nat} {p1 p2 p3 : Pos} (ha : PX X a ma) : PX X (.Subscript a (.Slice none none (some (.UnaryOp .USub (.Constant (.int 1) k p1) p2)) p3) pos) (mUn fRevL ma) :=
  PEi (pe_revL ha) fun σ H Q h => LE.imp (tUn_LE o_revL h) fun v H1 z => z
end
end PD
/-! PD: dict(xs), xs a list of pairs, the keys ints or texts. -/
namespace PD
open PySem PySem.Spec PyProof.Rows L2

def nkOf : Key → NestedKey
  | .inl i => .num i
  | .inr x => .text x
theorem nkKey_of (k : Key) : nkKey (nkOf k) = some k := by cases k <;> rfl
theorem nkOf_inj {a b : Key} : nkOf a = nkOf b ↔ a = b := by
  constructor
  · intro h
    have := nkKey_of a
    rw [h, nkKey_of] at this
    exact (Option.some.inj this).symm
  · intro h; rw [h]
def xeK (m : List (Key × V)) : List XE := m.map fun kv => (nkOf kv.1, kV kv.1, kv.2)
theorem getX_xeK (k : Key) : ∀ m : List (Key × V), (getX (xeK m) (nkOf k)).isSome = m.any fun kv => decide (kv.1 = k)
  | [] => rfl
  | p :: m => by
    have ih := getX_xeK k m
    unfold getX at ih ⊢
    unfold xeK at ih ⊢
    rw [List.map_cons, List.find?_cons, List.any_cons]
    by_cases h : p.1 = k
    · rw [decide_eq_true (by rw [h]), decide_eq_true h]; rfl
    · rw [decide_eq_false (by simpa [nkOf_inj] using h), decide_eq_false h, Bool.false_or]; exact ih
theorem xeK_put (m : List (Key × V)) (k : Key) (v : V) : xeK (L2.putK m k v) = putX (xeK m) (nkOf k) (kV k) v := by
  unfold L2.putK putX
  rw [getX_xeK]
  split
  · unfold xeK
    rw [List.map_map, List.map_map]
    refine List.map_congr_left fun p _ => ?_
    simp only [Function.comp, nkOf_inj]
    by_cases h : p.1 = k
    · rw [if_pos h, if_pos h]
    · rw [if_neg h, if_neg h]
  · unfold xeK
    rw [List.map_append]; rfl
theorem rk_xeK {m : List (Key × V)} {vs : List (Key × Value)} (h : KV m vs) : Paired Rk (xeK m) vs := by
  unfold KV at h
  induction h with
  | nil => exact .nil
  | cons r t ih => exact .cons ⟨by show nkKey (nkOf _) = _; rw [nkKey_of, r.1], by show kV _ = _; rw [r.1], r.2⟩ ih
def rDictX (w : World) (K : PySem.W.Frag) : List V → Hp → VK → Prop := fun xs H Q => ∃ (a : Addr) (ps : List Addr) (kvs : List (Key × V)), xs = [.ref a] ∧ SqL K H a (ps.map V.ref) ∧ Paired (fun p kv => SqT K H p [kV kv.1, kv.2]) ps kvs ∧
  ∀ (p : Addr) (es : Array DictEntry) (ep : Nat), H p = none → Paired (EntV w) es.toList (xeK (mergeK [] kvs)) → ((mergeK [] kvs).map (·.1)).Nodup → Q (.ref p) (upd H p (dxO p es ep))
theorem call_dictX {X : Cx} (hc : X.calm = true) : CallR X (.type "dict") (rDictX X.w X.K) := by
  intro pins s σ H xs us Q I r h
  obtain ⟨a, ps, kvs, rfl, hq, hp, q⟩ := h
  refine wpAny_mono (call_dictP hc pins s σ H _ us (fun v H' => ∃ p, v = .ref p ∧ H p = none ∧ H' = upd H p (.dK (mergeK [] kvs))) I r ⟨a, ps, kvs, rfl, hq, hp, fun p hp => ⟨p, rfl, hp, rfl⟩⟩) (fun u s' ⟨v, H', I', rv, p, ev, hp, eH⟩ => ?_) fun _ _ e => e
  subst ev eH
  obtain ⟨hlen, hm, vs, kv, D⟩ := I'.hok p _ upd_same
  obtain ⟨o, es, ep, ho, hx, hdat, hko, hpr, hnd⟩ := D
  have pe : Paired (EntV X.w) es.toList (xeK (mergeK [] kvs)) := back_k hpr (fun e he => hko e (by simpa using he)) (rk_xeK kv)
  have eo : o = { cls := .type "dict", data := .dict es ep } := by
    obtain ⟨c1, c2, c3, c4⟩ := o
    obtain ⟨h1, h2, h3⟩ := hx
    simp only at h1 h2 h3 hdat
    subst h1 h2 h3 hdat
    rfl
  rw [eo] at ho
  have hsz : es.size ≤ sizeLine := by
    have := pe.length
    simp only [Array.length_toList, xeK, List.length_map] at this
    omega
  have I2 : Inv X pins σ (upd (upd H p (.dK (mergeK [] kvs))) p (dxO p es ep)) s' := I'.write (x := p) (e := p) (t' := s'.toks) (h' := s'.heap) (by rw [upd_same]; exact True.intro) (.inl rfl) (fun b u hb z => z) ⟨_, ho⟩ ⟨⟨ho, hm, hsz⟩, ⟨_, ho⟩, fun h1 h2 q st => ⟨st _ q.1, q.2⟩⟩
  rw [upd_upd] at I2
  exact ⟨.ref p, _, I2, rv, q p es ep hp pe (by rw [kv.keys]; exact hnd)⟩
/-! data -/
def keyDn : D → Option Key
  | .int i => some (.inl i)
  | .str l => some (.inr (sOf l))
  | _ => none
def prsD : List D → Option (List (Key × D × D))
  | [] => some []
  | .tup [k, v] :: xs => (keyDn k).bind fun c => (prsD xs).map ((c, k, v) :: ·)
  | _ => none
def dictD (ps : List (Key × D × D)) : List (D × D) := ps.foldl (fun m p => PD.putK m (nkOf p.1) p.2.1 p.2.2) []
def fDictP : List D → Option R
  | [.lst xs] => (prsD xs).map fun ps => .t (.k (dictD ps))
  | _ => none
section
variable {w : World} {K : PySem.W.Frag} {st : Option (Addr × Addr)} {F H : Hp}
theorem keyDn_nk {k : D} {c : Key} (h : keyDn k = some c) : toNK k = some (nkOf c) ∧ kfam k = 1 := by
  cases k <;> first | (cases h; exact ⟨by simp [toNK, nkOf], rfl⟩) | cases h
theorem keyDn_rep {k : D} {c : Key} {v : V} (h : keyDn k = some c) (r : Rep w K st F v k) : v = kV c := by
  cases k <;> first | (cases h; cases r; rfl) | cases h
/-- the pairs of a list, by values -/
theorem prs_rep (hs : Sub F H) : ∀ {xs : List D} {vs : List V} {ps : List (Key × D × D)}, prsD xs = some ps → RepL w K st F vs xs →
    ∃ (as : List Addr) (kvs : List (Key × V)), vs = as.map V.ref ∧ Paired (fun p kv => SqT K H p [kV kv.1, kv.2]) as kvs ∧ Paired (fun (kv : Key × V) (p : Key × D × D) => kv.1 = p.1 ∧ keyDn p.2.1 = some p.1 ∧ Rep w K st F (kV kv.1) p.2.1 ∧ Rep w K st F kv.2 p.2.2) kvs ps
  | [], vs, ps, e, r => by
    cases e; cases r
    exact ⟨[], [], rfl, .nil, .nil⟩
  | x :: xs, vs, ps, e, r => by
    unfold prsD at e
    split at e
    · rename_i h; cases h
    · rename_i k v xs' heq
      cases heq
      obtain ⟨c, hc, e⟩ := Option.bind_eq_some_iff.mp e
      obtain ⟨ps', hps, rfl⟩ := Option.map_eq_some_iff.mp e
      cases r with
      | cons r1 rt =>
        obtain ⟨as, kvs, e1, h1, h2⟩ := prs_rep hs hps rt
        cases r1 with
        | tup hq hr =>
          cases hr with
          | cons ra rb =>
            cases rb with
            | cons rb rn =>
              cases rn
              have ek := keyDn_rep hc ra
              subst ek
              subst e1
              exact ⟨_ :: as, (c, _) :: kvs, rfl, .cons (hs.seqT hq) h1, .cons ⟨rfl, hc, ra, rb⟩ h2⟩
    · cases e
theorem merge_rep : ∀ {kvs : List (Key × V)} {ps : List (Key × D × D)} {m : List (Key × V)} {md : List (D × D)}, Paired (fun (kv : Key × V) (p : Key × D × D) => kv.1 = p.1 ∧ keyDn p.2.1 = some p.1 ∧ Rep w K st F (kV kv.1) p.2.1 ∧ Rep w K st F kv.2 p.2.2) kvs ps →
    RepX w K st F (xeK m) md → RepX w K st F (xeK (mergeK m kvs)) (ps.foldl (fun m p => PD.putK m (nkOf p.1) p.2.1 p.2.2) md)
  | _, _, m, md, .nil, h => h
  | _, _, m, md, .cons (a := kv) (b := p) r t, h => by
    obtain ⟨e, hk, r1, r2⟩ := r
    show RepX w K st F (xeK (mergeK (L2.putK m kv.1 kv.2) _)) _
    rw [List.foldl_cons]
    refine merge_rep t ?_
    rw [xeK_put, e]
    exact repX_put h (keyDn_nk hk).1 (by rw [← e]; exact r1) r2
theorem dictD_fam : ∀ {ps : List (Key × D × D)} {md : List (D × D)}, (∀ p ∈ ps, keyDn p.2.1 = some p.1) → (∀ p ∈ md, kfam p.1 = 1) → ∀ p ∈ ps.foldl (fun m p => PD.putK m (nkOf p.1) p.2.1 p.2.2) md, kfam p.1 = 1
  | [], md, _, h => h
  | q :: ps, md, hk, h => by
    rw [List.foldl_cons]
    refine dictD_fam (fun p hp => hk p (List.mem_cons_of_mem _ hp)) fun p hp => ?_
    rcases putK_keys _ _ _ _ p hp with ⟨z, hz, e⟩ | e
    · rw [e]; exact h z hz
    · rw [e]; exact (keyDn_nk (hk q List.mem_cons_self)).2
end
theorem paired_right {α β : Type} {R : α → β → Prop} : ∀ {as : List α} {bs : List β}, Paired R as bs → ∀ b ∈ bs, ∃ a, R a b
  | _, _, .nil, _, h => by cases h
  | _, _, .cons r t, b, h => by
    rcases List.mem_cons.mp h with rfl | h
    · exact ⟨_, r⟩
    · exact paired_right t b h
theorem o_dictP {w : World} {K : PySem.W.Frag} : OpN w K (rDictX w K) fDictP := fun g H xs ds res Q hf hx e q => by
  unfold fDictP at e
  split at e
  · obtain ⟨ps, hps, rfl⟩ := Option.map_eq_some_iff.mp e
    cases hx with
    | cons a b =>
      cases b
      cases a with
      | lst ha ra =>
        obtain ⟨as, kvs, rfl, h1, h2⟩ := prs_rep hf hps ra
        refine ⟨_, as, kvs, rfl, SqL.of ha, h1, fun p es ep hp pe nd => ?_⟩
        have rx : RepX w K g.st g.F (xeK (mergeK [] kvs)) (dictD ps) := merge_rep h2 .nil
        have hd : ∀ x ∈ xeK (mergeK [] kvs), x.1.depth ≤ 8 := by
          intro x hx
          obtain ⟨kv, _, rfl⟩ := List.mem_map.mp hx
          cases kv.1 <;> exact Nat.zero_le _
        obtain ⟨re, hkey⟩ := ofX pe rx hd
        have hl := congrArg List.length (repX_keys rx)
        simp only [List.length_map] at hl
        have ok : DctOk w es.toList (dictD ps) := by
          refine ⟨?_, hkey, .inl (dictD_fam (fun p hp => ?_) fun p hp => by cases hp), ?_⟩
          · rw [hl]; exact pe.length
          · obtain ⟨kv, r⟩ := paired_right h2 p hp
            exact r.2.1
          · rw [repX_keys rx, show ((xeK (mergeK [] kvs)).map fun x => some x.1) = ((mergeK [] kvs).map (·.1)).map (fun k => some (nkOf k)) by unfold xeK; rw [List.map_map, List.map_map]; rfl]
            exact List.pairwise_map.mpr (nd.imp fun hne e => hne (nkOf_inj.mp (Option.some.inj e)))
        exact q (.ref p) g _ (ExtP.new hf hp) (.t hp ⟨⟨es, ep, upd_same, ok, re⟩, hf.none hp⟩)
  · cases e
end PD
/-! PD: min, max over lists and tuples of data that can be compared. -/
namespace PD
open PySem PySem.Spec PyProof.Rows L2 PySem.W PySem.Calls

def minDat (x : D) (xs : List D) : D := xs.foldl (fun a y => if dataLt (toPy y) (toPy a) = true then y else a) x
def maxDat (x : D) (xs : List D) : D := xs.foldl (fun a y => if dataLt (toPy a) (toPy y) = true then y else a) x
def isNone : D → Bool
  | .non => true
  | .bl _ => false
  | .int _ => false
  | .str _ => false
  | .tup _ => false
  | .lst _ => false
  | _ => true
def okMin (l : List D) : Bool := plAll 58 l && l.all (fun x => aliB x x) && aliR l && l.all (fun x => !isNone x)
mutual
theorem toPy_inj : ∀ (n : Nat) (x y : D), pl n x = true → pl n y = true → toPy x = toPy y → x = y
  | n, .non, y, _, hy, e => by cases y <;> simp [toPy] at e <;> first | rfl | (cases n <;> simp [pl] at hy)
  | n, .bl b, y, _, hy, e => by cases y <;> simp [toPy] at e <;> first | (rw [e]) | (cases n <;> simp [pl] at hy)
  | n, .int b, y, _, hy, e => by cases y <;> simp [toPy] at e <;> first | (rw [e]) | (cases n <;> simp [pl] at hy)
  | n, .str b, y, _, hy, e => by cases y <;> simp [toPy] at e <;> first | (rw [sOf_inj e]) | (cases n <;> simp [pl] at hy)
  | 0, .tup xs, y, hx, hy, e => by simp [pl] at hx
  | 0, .lst xs, y, hx, hy, e => by simp [pl] at hx
  | n + 1, .tup xs, y, hx, hy, e => by
    cases y <;> simp [toPy] at e
    rename_i ys
    rw [toPys_inj n xs ys (by simpa [pl] using hx) (by simpa [pl] using hy) e]
  | n + 1, .lst xs, y, hx, hy, e => by
    cases y <;> simp [toPy] at e
    rename_i ys
    rw [toPys_inj n xs ys (by simpa [pl] using hx) (by simpa [pl] using hy) e]
  | n, .dct _, y, hx, _, _ => by cases n <;> simp [pl] at hx
  | n, .st, y, hx, _, _ => by cases n <;> simp [pl] at hx
  | n, .scr _, y, hx, _, _ => by cases n <;> simp [pl] at hx
  | n, .cv _, y, hx, _, _ => by cases n <;> simp [pl] at hx
theorem toPys_inj : ∀ (n : Nat) (x y : List D), plAll n x = true → plAll n y = true → toPys x = toPys y → x = y
  | n, [], [], _, _, _ => rfl
  | n, [], _ :: _, _, _, e => by simp [toPys] at e
  | n, _ :: _, [], _, _, e => by simp [toPys] at e
  | n, x :: xs, y :: ys, hx, hy, e => by
    simp only [toPys, List.cons.injEq] at e
    simp only [plAll, Bool.and_eq_true] at hx hy
    rw [toPy_inj n x y hx.1 hy.1 e.1, toPys_inj n xs ys hx.2 hy.2 e.2]
end
theorem toPys_map : ∀ xs : List D, toPys xs = xs.map toPy
  | [] => rfl
  | x :: xs => by rw [toPys, toPys_map xs]; rfl
theorem minDat_py : ∀ (xs : List D) (x : D), toPy (minDat x xs) = minD (toPy x) (xs.map toPy)
  | [], x => rfl
  | y :: xs, x => by
    have h := minDat_py xs (if dataLt (toPy y) (toPy x) = true then y else x)
    unfold minDat minD at h ⊢
    rw [List.foldl_cons, List.map_cons, List.foldl_cons, h]
    split <;> rfl
theorem maxDat_py : ∀ (xs : List D) (x : D), toPy (maxDat x xs) = maxD (toPy x) (xs.map toPy)
  | [], x => rfl
  | y :: xs, x => by
    have h := maxDat_py xs (if dataLt (toPy x) (toPy y) = true then y else x)
    unfold maxDat maxD at h ⊢
    rw [List.foldl_cons, List.map_cons, List.foldl_cons, h]
    split <;> rfl
theorem minDat_mem : ∀ (xs : List D) (x : D), minDat x xs ∈ x :: xs
  | [], x => List.mem_cons_self
  | y :: xs, x => by
    have h := minDat_mem xs (if dataLt (toPy y) (toPy x) = true then y else x)
    show minDat (if dataLt (toPy y) (toPy x) = true then y else x) xs ∈ _
    rcases List.mem_cons.mp h with e | h
    · rw [e]; split <;> simp
    · exact List.mem_cons_of_mem _ (List.mem_cons_of_mem _ h)
theorem maxDat_mem : ∀ (xs : List D) (x : D), maxDat x xs ∈ x :: xs
  | [], x => List.mem_cons_self
  | y :: xs, x => by
    have h := maxDat_mem xs (if dataLt (toPy x) (toPy y) = true then y else x)
    show maxDat (if dataLt (toPy x) (toPy y) = true then y else x) xs ∈ _
    rcases List.mem_cons.mp h with e | h
    · rw [e]; split <;> simp
    · exact List.mem_cons_of_mem _ (List.mem_cons_of_mem _ h)
def rPick (w : World) (K : PySem.W.Frag) (best : D → List D → D) : List V → Hp → VK → Prop := fun vs H Q => (∃ i j : Int, vs = [.int i, .int j] ∧ ∀ v, v = .int (match best (.int i) [.int j] with | .int k => k | _ => 0) → Q v H) ∨
  ∃ (a : Addr) (xs : List V) (d : D) (ds : List D) (st : Option (Addr × Addr)) (F : Hp), vs = [V.ref a] ∧ (SqL K H a xs ∨ SqT K H a xs) ∧ Sub F H ∧ RepL w K st F xs (d :: ds) ∧ okMin (d :: ds) = true ∧ ∀ v, Rep w K st F v (best d ds) → Q v H
theorem okMin_all {l : List D} (h : okMin l = true) : AlikeAll (l.map toPy) ∧ plAll 58 l = true := by
  unfold okMin at h
  simp only [Bool.and_eq_true, List.all_eq_true] at h
  refine ⟨⟨?_, ?_⟩, h.1.1.1⟩
  · intro d hd d' hd'
    obtain ⟨x, hx, rfl⟩ := List.mem_map.mp hd
    obtain ⟨y, hy, rfl⟩ := List.mem_map.mp hd'
    exact aliR_all h.1.2 h.1.1.2 x hx y hy
  · intro d hd
    obtain ⟨x, hx, rfl⟩ := List.mem_map.mp hd
    have := h.2 x hx
    cases x <;> simp [isNone] at this <;> simp [toPy]
section
variable {w : World} {K : PySem.W.Frag} {st : Option (Addr × Addr)} {F H : Hp}
theorem pick_back {X : Cx} {pins : List (Addr × Obj)} {σ : L2.St} {H : Hp} {s : Shared} (I : Inv X pins σ H s) (hs : Sub F H) {its : List Value} {ds : List D} {d : D} (each : EachIs (Stands w X.K st F) its ds) (hpl : plAll 58 ds = true) (hm : d ∈ ds) (hal : AlikeAll (ds.map toPy)) {i : Nat} {v : Value} (hv : its[i]? = some v)
    {h' : Heap} {bs : List Addr} (hr : Reads h' v (toPy d) bs) (hk : ∀ b o, s.heap.get? b = some o → h'.get? b = some o) : Stands w X.K st F v d := by
  have get : ∀ {its : List Value} {ds : List D} {i : Nat}, EachIs (Stands w X.K st F) its ds → its[i]? = some v → ∃ e, e ∈ ds ∧ Stands w X.K st F v e := by
    intro its ds i h
    induction h generalizing i with
    | nil => intro e; simp at e
    | cons r t ih =>
      intro e
      cases i with
      | zero => simp at e; subst e; exact ⟨_, List.mem_cons_self, r⟩
      | succ i => obtain ⟨z, h1, h2⟩ := ih (by simpa using e); exact ⟨z, List.mem_cons_of_mem _ h1, h2⟩
  obtain ⟨e, he, v', rv, rp⟩ := get each hv
  obtain ⟨as, r2⟩ := Dp.reads I _ v' v (Rep.dp hs 58 rp (plAll_mem hpl e he)).1 rv
  have r3 := PyProof.Rows.Reads.keeps hk r2
  have eq := alike_unique _ _ _ _ _ (hal.1 _ (List.mem_map_of_mem he) _ (List.mem_map_of_mem hm)) r3 hr
  have := toPy_inj 58 e d (plAll_mem hpl e he) (plAll_mem hpl d hm) eq
  subst this
  exact ⟨v', rv, rp⟩
end
theorem depthAll_le {n : Nat} : ∀ {l : List D}, (∀ d ∈ l, (toPy d).depth ≤ n) → PyData.depthAll (l.map toPy) ≤ n
  | [], _ => Nat.zero_le _
  | x :: l, h => by
    rw [List.map_cons, PyData.depthAll]
    have h1 := h x List.mem_cons_self
    have h2 := depthAll_le fun d hd => h d (List.mem_cons_of_mem _ hd)
    omega
theorem each_readsAll' {h : Heap} : ∀ {vs : List Value} {ds : List D}, EachIs (fun v b => ∃ as, Reads h v (toPy b) as) vs ds → ∃ as, ReadsAll h vs (ds.map toPy) as
  | _, _, .nil => ⟨[], .nil⟩
  | _, _, .cons ⟨as, h1⟩ t => by
    obtain ⟨bs, h2⟩ := each_readsAll' t
    exact ⟨as ++ bs, .cons h1 h2⟩
theorem call_minDX {X : Cx} {w : World} (hc : X.calm = true) (hu : X.A.units + 64 < cLine) : CallR X (.builtin "min") (rPick w X.K minDat) := by
  intro pins s σ H vs us Q I r h
  rcases h with ⟨i, j, rfl, q⟩ | ⟨a, xs, d, ds, st, F, rfl, hq, hs, rep, ok, q⟩
  · refine call_min2 hc pins s σ H _ us Q I r ⟨i, j, rfl, q _ ?_⟩
    have e : dataLt (toPy (.int j)) (toPy (.int i)) = decide (j < i) := by simp only [toPy]; exact dataLt_int j i
    show V.int _ = _
    unfold minDat
    rw [List.foldl_cons, List.foldl_nil, e]
    by_cases h : j < i <;> simp [h]
  · obtain ⟨u, rfl, ru⟩ := vals1 r
    cases ru
    obtain ⟨hal, hpl⟩ := okMin_all ok
    have go : ∀ (its : List Value), Vals xs its → EachIs (Stands w X.K st F) its (d :: ds) ∧ (∃ as, ReadsAll s.heap its ((d :: ds).map toPy) as) ∧ PyData.depthAll ((d :: ds).map toPy) ≤ 58 := by
      intro its rv
      have each := stands_each rv rep
      have er : EachIs (fun v b => ∃ as, Reads s.heap v (toPy b) as) its (d :: ds) := each_with each fun u d' hd ⟨v, r1, r2⟩ => Dp.reads I _ v u (Rep.dp hs 58 r2 (plAll_mem hpl d' hd)).1 r1
      refine ⟨each, each_readsAll' er, depthAll_le fun d' hd => ?_⟩
      obtain ⟨v, v', _, r2⟩ := each_right each d' hd
      exact (Rep.dp hs 58 r2 (plAll_mem hpl d' hd)).2.2
    have fin : ∀ (its : List Value), EachIs (Stands w X.K st F) its (d :: ds) → ∀ (i : Nat) v h' tk bs, its.toArray[i]? = some v → Reads h' v (minD (toPy d) (ds.map toPy)) bs → (∀ b o, s.heap.get? b = some o → h'.get? b = some o) → EP X pins σ Q v { s with heap := h', toks := tk } := by
      intro its each i v h' tk bs hv hr hk
      rw [← minDat_py] at hr
      obtain ⟨v', rv, rp⟩ := pick_back I hs each hpl (minDat_mem ds d) hal (i := i) (by simpa using hv) hr hk
      exact ⟨v', H, I.kept hk, rv, q v' rp⟩
    rcases hq with hq | hq
    · obtain ⟨its, rv, pl, hz⟩ := I.list hq
      obtain ⟨each, ⟨as, hr⟩, hd⟩ := go its rv
      exact min_list_data (x := toPy d) (xs := ds.map toPy) (I.ok.hd hc) pl.isList (by simpa using hr) hal (by rw [List.map_cons] at hd; omega) (fin its each)
    · obtain ⟨its, rv, tp, hz⟩ := I.tuple hq
      obtain ⟨each, ⟨as, hr⟩, hd⟩ := go its rv
      exact min_tuple_data (x := toPy d) (xs := ds.map toPy) (I.ok.hd hc) tp (by simpa using hr) hal (by rw [List.map_cons] at hd; omega) (fin its each)
theorem call_maxDX {X : Cx} {w : World} (hc : X.calm = true) (hu : X.A.units + 64 < cLine) : CallR X (.builtin "max") (rPick w X.K maxDat) := by
  intro pins s σ H vs us Q I r h
  rcases h with ⟨i, j, rfl, q⟩ | ⟨a, xs, d, ds, st, F, rfl, hq, hs, rep, ok, q⟩
  · refine call_max2 hc pins s σ H _ us Q I r ⟨i, j, rfl, q _ ?_⟩
    have e : dataLt (toPy (.int i)) (toPy (.int j)) = decide (i < j) := by simp only [toPy]; exact dataLt_int i j
    show V.int _ = _
    unfold maxDat
    rw [List.foldl_cons, List.foldl_nil, e]
    by_cases h : i < j <;> simp [h]
  · obtain ⟨u, rfl, ru⟩ := vals1 r
    cases ru
    obtain ⟨hal, hpl⟩ := okMin_all ok
    have go : ∀ (its : List Value), Vals xs its → EachIs (Stands w X.K st F) its (d :: ds) ∧ (∃ as, ReadsAll s.heap its ((d :: ds).map toPy) as) ∧ PyData.depthAll ((d :: ds).map toPy) ≤ 58 := by
      intro its rv
      have each := stands_each rv rep
      have er : EachIs (fun v b => ∃ as, Reads s.heap v (toPy b) as) its (d :: ds) := each_with each fun u d' hd ⟨v, r1, r2⟩ => Dp.reads I _ v u (Rep.dp hs 58 r2 (plAll_mem hpl d' hd)).1 r1
      refine ⟨each, each_readsAll' er, depthAll_le fun d' hd => ?_⟩
      obtain ⟨v, v', _, r2⟩ := each_right each d' hd
      exact (Rep.dp hs 58 r2 (plAll_mem hpl d' hd)).2.2
    have fin : ∀ (its : List Value), EachIs (Stands w X.K st F) its (d :: ds) → ∀ (i : Nat) v h' tk bs, its.toArray[i]? = some v → Reads h' v (maxD (toPy d) (ds.map toPy)) bs → (∀ b o, s.heap.get? b = some o → h'.get? b = some o) → EP X pins σ Q v { s with heap := h', toks := tk } := by
      intro its each i v h' tk bs hv hr hk
      rw [← maxDat_py] at hr
      obtain ⟨v', rv, rp⟩ := pick_back I hs each hpl (maxDat_mem ds d) hal (i := i) (by simpa using hv) hr hk
      exact ⟨v', H, I.kept hk, rv, q v' rp⟩
    rcases hq with hq | hq
    · obtain ⟨its, rv, pl, hz⟩ := I.list hq
      obtain ⟨each, ⟨as, hr⟩, hd⟩ := go its rv
      exact max_list_data (x := toPy d) (xs := ds.map toPy) (I.ok.hd hc) pl.isList (by simpa using hr) hal (by rw [List.map_cons] at hd; omega) (fin its each)
    · obtain ⟨its, rv, tp, hz⟩ := I.tuple hq
      obtain ⟨each, ⟨as, hr⟩, hd⟩ := go its rv
      exact max_tuple_data (x := toPy d) (xs := ds.map toPy) (I.ok.hd hc) tp (by simpa using hr) hal (by rw [List.map_cons] at hd; omega) (fin its each)
def fMinX : List D → Option R
  | [.int i, .int j] => some (.d (minDat (.int i) [.int j]))
  | [.lst (x :: xs)] => if okMin (x :: xs) = true then some (.d (minDat x xs)) else none
  | [.tup (x :: xs)] => if okMin (x :: xs) = true then some (.d (minDat x xs)) else none
  | _ => none
theorem minDat_ii (i j : Int) : minDat (.int i) [.int j] = .int (if j < i then j else i) := by
  have e : dataLt (toPy (.int j)) (toPy (.int i)) = decide (j < i) := by simp only [toPy]; exact dataLt_int j i
  unfold minDat
  rw [List.foldl_cons, List.foldl_nil, e]
  by_cases h : j < i <;> simp [h]
theorem o_minX {w : World} {K : PySem.W.Frag} : OpN w K (rPick w K minDat) fMinX := fun g H xs ds res Q hf hx e q => by
  unfold fMinX at e
  split at e
  · rename_i i j
    cases e
    cases hx with
    | cons a b => cases b with
      | cons b c =>
        cases c; cases a; cases b
        refine .inl ⟨i, j, rfl, fun v hv => ?_⟩
        rw [minDat_ii] at hv q
        subst hv
        exact k_int hf q
  · split at e
    · rename_i hok
      cases e
      cases hx with
      | cons a b =>
        cases b
        cases a with
        | lst ha ra => exact .inr ⟨_, _, _, _, g.st, g.F, rfl, .inl (SqL.of ha), hf, ra, hok, fun v r => k_rep r hf q⟩
    · cases e
  · split at e
    · rename_i hok
      cases e
      cases hx with
      | cons a b =>
        cases b
        cases a with
        | tup ha ra => exact .inr ⟨_, _, _, _, g.st, g.F, rfl, .inr (hf.seqT ha), hf, ra, hok, fun v r => k_rep r hf q⟩
    · cases e
  · cases e
def fMaxX : List D → Option R
  | [.int i, .int j] => some (.d (maxDat (.int i) [.int j]))
  | [.lst (x :: xs)] => if okMin (x :: xs) = true then some (.d (maxDat x xs)) else none
  | [.tup (x :: xs)] => if okMin (x :: xs) = true then some (.d (maxDat x xs)) else none
  | _ => none
theorem maxDat_ii (i j : Int) : maxDat (.int i) [.int j] = .int (if i < j then j else i) := by
  have e : dataLt (toPy (.int i)) (toPy (.int j)) = decide (i < j) := by simp only [toPy]; exact dataLt_int i j
  unfold maxDat
  rw [List.foldl_cons, List.foldl_nil, e]
  by_cases h : i < j <;> simp [h]
theorem o_maxX {w : World} {K : PySem.W.Frag} : OpN w K (rPick w K maxDat) fMaxX := fun g H xs ds res Q hf hx e q => by
  unfold fMaxX at e
  split at e
  · rename_i i j
    cases e
    cases hx with
    | cons a b => cases b with
      | cons b c =>
        cases c; cases a; cases b
        refine .inl ⟨i, j, rfl, fun v hv => ?_⟩
        rw [maxDat_ii] at hv q
        subst hv
        exact k_int hf q
  · split at e
    · rename_i hok
      cases e
      cases hx with
      | cons a b =>
        cases b
        cases a with
        | lst ha ra => exact .inr ⟨_, _, _, _, g.st, g.F, rfl, .inl (SqL.of ha), hf, ra, hok, fun v r => k_rep r hf q⟩
    · cases e
  · split at e
    · rename_i hok
      cases e
      cases hx with
      | cons a b =>
        cases b
        cases a with
        | tup ha ra => exact .inr ⟨_, _, _, _, g.st, g.F, rfl, .inr (hf.seqT ha), hf, ra, hok, fun v r => k_rep r hf q⟩
    · cases e
  · cases e
end PD
/-! PD: a tuple times 1. -/
namespace PD
open PySem PySem.Spec PyProof.Rows L2
theorem tuple_once (l : Addr) (items : Array Value) (n : Nat) (u : Tok) :
    Meets (Builtin.«tuple.__mul__» ⟨[.ref l, .int 1 u], []⟩) (fun _ R s => (∃ dd sl, s.heap.get? l = some { cls := .type "tuple", dict := dd, data := .seq items n, slots := sl }) ∧ R (.ok (.ret (.ref l))) s) :=
  .of_wp fun prog w A R s h => by
    obtain ⟨hp, g, d, tk, os⟩ := s
    obtain ⟨⟨dd, sl, hl⟩, h⟩ := h
    have f1 := AutoSeq1.idx_int
    wp_walk using wpAny_loadPart' hl
    exact ⟨_, rfl, h⟩
def rOnceT (K : PySem.W.Frag) : R2 := fun x y H Q => ∃ l xs, x = .ref l ∧ y = .int 1 ∧ SqT K H l xs ∧ Q (.ref l) H
section
variable {X : Cx} {a b : Expr} {ma mb : M R} {pos : Pos}
theorem op_onceT : OpR X (binaryOp .Mult) (rOnceT X.K) := by
  intro pins s σ H x y v u Q I rx ry h
  obtain ⟨l, xs, rfl, rfl, hT, q⟩ := h
  cases rx
  obtain ⟨t, rfl⟩ := ry
  obtain ⟨its, r, ⟨⟨cls, dd, data, sl⟩, ho, hc, n, hd⟩, hs⟩ := I.tuple hT
  simp only at hc hd
  subst hc hd
  have back : wpAny (model X.prog X.w) X.A (call (.builtin "tuple.__mul__") [.ref l, .int 1 t]) (EP X pins σ Q) X.xe s := call_meets F.slot_tuple_mul ⟨_, ho, rfl⟩ F.entry_tuple_mul (F.args_tuple_mul_2 _ _) (tuple_once l its.toArray n t) ⟨⟨dd, sl, ho⟩, ⟨.ref l, H, I, rfl, q⟩⟩
  exact wpAny_binaryOp_repeat_ref (T := "tuple") (U := "int") (by decide) ⟨_, ho, rfl⟩ (fun s' => typeIs_int s' 1 t) noFill_tuple_mul F.fills_int_mul F.slot_int_rmul repeat_tuple F.slot_int_index.lookup
    (call_meets F.slot_int_rmul (typeIs_int s 1 t) F.entry_int_rmul (F.args_int_rmul_2 _ _) (int_rmul_tuple 1 t l its.toArray n dd sl) ⟨ho, rfl, ⟨_, ho, rfl⟩, back⟩)
def fOnce (x y : D) : Option R := match x, y with
  | .tup xs, .int k => if k = 1 then some (.d (.tup xs)) else none
  | _, _ => none
theorem o_once {w : World} {K : PySem.W.Frag} : Op2 w K (rOnceT K) fOnce := fun g H x y dx dy res Q hf hx hy e q => by
  unfold fOnce at e
  split at e
  · split at e
    · rename_i hk
      subst hk
      cases e
      cases hy
      cases hx with
      | tup ha ra => exact ⟨_, _, rfl, rfl, hf.seqT ha, k_rep (.tup ha ra) hf q⟩
    · cases e
  · cases e
theorem op_or {op : Operator} {r r' : R2} (h : OpR X (binaryOp op) r) (h' : OpR X (binaryOp op) r') : OpR X (binaryOp op) fun x y H Q => r x y H Q ∨ r' x y H Q :=
  fun pins s σ H x y v u Q I rx ry q => q.elim (h pins s σ H x y v u Q I rx ry) (h' pins s σ H x y v u Q I rx ry)
def fMulX (x y : D) : Option R := match fOnce x y with
  | some r => some r
  | none => fMul x y
theorem o_mulX {w : World} {K : PySem.W.Frag} : Op2 w K (fun x y H Q => rOnceT K x y H Q ∨ rMulA K x y H Q) fMulX := fun g H x y dx dy res Q hf hx hy e q => by
  unfold fMulX at e
  split at e
  · rename_i r hr
    cases e
    exact .inl (o_once g H x y dx dy _ Q hf hx hy hr q)
  · exact .inr (o_mul g H x y dx dy _ Q hf hx hy e q)
theorem e_mulX (ha : PX X a ma) (hb : PX X b mb) : PX X (.BinOp a .Mult b pos) (mBin fMulX ma mb) := e_op (op_onceT.or r_mul) o_mulX ha hb
end
end PD
/-! PD: the new primitives as simp lemmas. -/
namespace PD
open PySem PySem.Spec PyProof.Rows L2
section
variable {env : List Sl} {x y z : D} {s : S} {xs ys : List D} {a b : Int} {k k' : Bool}
@[simp] theorem fSorted_l : fSorted [.lst xs] = if okSort xs = true then some (.t (.l (sortD xs))) else none := rfl
@[simp] theorem fSorted_t : fSorted [.tup xs] = if okSort xs = true then some (.t (.l (sortD xs))) else none := rfl
@[simp] theorem fMinX_i : fMinX [.int a, .int b] = some (.d (.int (if b < a then b else a))) := by rw [← minDat_ii]; rfl
@[simp] theorem fMaxX_i : fMaxX [.int a, .int b] = some (.d (.int (if a < b then b else a))) := by rw [← maxDat_ii]; rfl
@[simp] theorem fMinX_l : fMinX [.lst (x :: xs)] = if okMin (x :: xs) = true then some (.d (minDat x xs)) else none := rfl
@[simp] theorem fMaxX_l : fMaxX [.lst (x :: xs)] = if okMin (x :: xs) = true then some (.d (maxDat x xs)) else none := rfl
@[simp] theorem fMinX_t : fMinX [.tup (x :: xs)] = if okMin (x :: xs) = true then some (.d (minDat x xs)) else none := rfl
@[simp] theorem fMaxX_t : fMaxX [.tup (x :: xs)] = if okMin (x :: xs) = true then some (.d (maxDat x xs)) else none := rfl
@[simp] theorem fDictP_l : fDictP [.lst xs] = (prsD xs).map fun ps => .t (.k (dictD ps)) := rfl
@[simp] theorem fLstRg1_i : fLstRg1 (.int a) = if RgOk 0 a then some (.t (.l (rgL 0 a))) else none := rfl
@[simp] theorem fTupRg1_i : fTupRg1 (.int a) = if RgOk 0 a then some (.d (.tup (rgL 0 a))) else none := rfl
@[simp] theorem fLenSet_l : fLenSet (.lst xs) = (intsD xs).bind fun ns => if ns.Nodup ∧ ns.length ≤ 4000 then some (.d (.int (ns.length : Nat))) else none := rfl
@[simp] theorem fIsB_b : fIsB (.bl k) (.bl k') = some (.d (.bl (decide (k = k')))) := rfl
@[simp] theorem fNotB_b : fNotB (.bl k) (.bl k') = some (.d (.bl (!decide (k = k')))) := rfl
@[simp] theorem fRevL_l : fRevL (.lst xs) = some (.t (.l xs.reverse)) := rfl
@[simp] theorem fMulX_i : fMulX (.int a) (.int b) = if CMul a b then some (.d (.int (a * b))) else none := rfl
@[simp] theorem fMulX_l : fMulX (.lst xs) (.int b) = if -(2 ^ 63) ≤ b ∧ b < 2 ^ 63 ∧ xs.length * b.toNat ≤ sizeLine then some (.t (.l (List.replicate b.toNat xs).flatten)) else none := rfl
@[simp] theorem fMulX_t : fMulX (.tup xs) (.int b) = if b = 1 then some (.d (.tup xs)) else if xs ≠ [] ∧ 2 ≤ b ∧ b ≤ 1000 ∧ xs.length ≤ 1000 then some (.d (.tup (List.replicate b.toNat xs).flatten)) else none := by
  unfold fMulX fOnce
  by_cases h : b = 1
  · simp [h]
  · simp [h, fMul]
variable {u : List D → S → Option S}
@[simp ↓] theorem q_tgU_t {k : S → Prop} {h : Mk k} : bq (tgU u (.tup xs) s) k h ↔ bq (u xs s) k mk := Iff.rfl
@[simp ↓] theorem q_tgU_l {k : S → Prop} {h : Mk k} : bq (tgU u (.lst xs) s) k h ↔ bq (u xs s) k mk := Iff.rfl
@[simp] theorem fZ2_tt {xs ys : List D} : fZ2 [.tup xs, .tup ys] = some ((z2D xs ys).map .tup) := rfl
@[simp] theorem fZ2_ll {xs ys : List D} : fZ2 [.lst xs, .lst ys] = some ((z2D xs ys).map .tup) := rfl
@[simp] theorem fEn_t {xs : List D} : fEn [.tup xs] = some ((enD xs).map .tup) := rfl
@[simp] theorem fEn_l {xs : List D} : fEn [.lst xs] = some ((enD xs).map .tup) := rfl
end
theorem sz {n : Nat} (h : n ≤ 16777216) : n ≤ sizeLine := h
theorem rg_ok {z : Int} (h : z.natAbs ≤ 1000000) : rgB z = true := by
  unfold rgB
  rw [Bool.and_eq_true, decide_eq_true_eq, decide_eq_true_eq]
  omega
theorem rgOk_n {n : Nat} (h : n ≤ 1000000) : RgOk 0 (n : Int) := RgOk.of_le (by omega) (by omega) (by omega) (by omega)
end PD
/-! PD: a list of lists of our own, filled by told[i].append(x) in one loop, then told. -/
namespace PD
open PySem PySem.Spec PyProof.Rows L2

section
variable {w : World} {K : PySem.W.Frag} {g g' : Gh} {s s' : S} {σ σ' : L2.St} {H H' : Hp}
theorem Good.unset {i : Nat} {v : V} (G : Good w K g s σ H) : Good w K g { s with env := s.env.set i .no } (σ.set i (some v)) H where
  fr := G.fr
  ds := G.ds
  len := by rw [List.length_set, List.length_set]; exact G.len
  env := fun j sl x h1 h2 => by
    by_cases e : i = j
    · subst e
      have hi : i < s.env.length := by have := (List.getElem?_eq_some_iff.mp h1).1; simpa using this
      rw [List.getElem?_set_self hi] at h1
      cases h1
      exact .no
    · rw [List.getElem?_set_ne e] at h1 h2
      exact G.env j sl x h1 h2
  uniq := fun j k o o' a h1 h2 h3 h4 => by
    by_cases e : i = j
    · subst e
      have hi : i < s.env.length := by have := (List.getElem?_eq_some_iff.mp h1).1; simpa using this
      rw [List.getElem?_set_self hi] at h1
      cases h1
    · by_cases e' : i = k
      · subst e'
        have hi : i < s.env.length := by have := (List.getElem?_eq_some_iff.mp h2).1; simpa using this
        rw [List.getElem?_set_self hi] at h2
        cases h2
      · rw [List.getElem?_set_ne e] at h1 h3
        rw [List.getElem?_set_ne e'] at h2 h4
        exact G.uniq j k o o' a h1 h2 h3 h4
  apart := fun a ⟨j, o, h1, h2⟩ z => by
    by_cases e : i = j
    · subst e
      have hi : i < s.env.length := by have := (List.getElem?_eq_some_iff.mp h1).1; simpa using this
      rw [List.getElem?_set_self hi] at h1
      cases h1
    · rw [List.getElem?_set_ne e] at h1 h2
      exact G.apart a ⟨j, o, h1, h2⟩ z
theorem OwnA.unset {env : List Sl} {i : Nat} {v : V} {a : Addr} (h : OwnA (env.set i .no) (σ.set i (some v)) a) : OwnA env σ a := by
  obtain ⟨j, o, h1, h2⟩ := h
  by_cases e : i = j
  · subst e
    have hi : i < env.length := by have := (List.getElem?_eq_some_iff.mp h1).1; simpa using this
    rw [List.getElem?_set_self hi] at h1
    cases h1
  · rw [List.getElem?_set_ne e] at h1 h2
    exact ⟨j, o, h1, h2⟩
/-- objects that no slot knows: t holds ps, these hold the lists -/
structure Hid (w : World) (K : PySem.W.Frag) (g : Gh) (s : S) (σ : L2.St) (H : Hp) (t : Addr) (ps : List Addr) (xss : List (List D)) : Prop where
  top : H t = some (.lst (ps.map V.ref))
  at_ : ∀ (j : Nat) (p : Addr), ps[j]? = some p → ∃ vs xs, xss[j]? = some xs ∧ H p = some (.lst vs) ∧ RepL w K g.st g.F vs xs
  len : ps.length = xss.length
  nd : ps.Nodup
  nt : t ∉ ps
  nf : ∀ p, p = t ∨ p ∈ ps → g.F p = none
  nw : ∀ p, p = t ∨ p ∈ ps → ¬ PD.W g s.env σ p
variable {t : Addr} {ps : List Addr} {xss : List (List D)}
theorem Hid.there (h : Hid w K g s σ H t ps xss) {p : Addr} (hp : p = t ∨ p ∈ ps) : ∃ vs, H p = some (.lst vs) := by
  rcases hp with rfl | hp
  · exact ⟨_, h.top⟩
  · obtain ⟨j, hj⟩ := List.getElem?_of_mem hp
    obtain ⟨vs, xs, _, e, _⟩ := h.at_ j p hj
    exact ⟨vs, e⟩
theorem Hid.ext (h : Hid w K g s σ H t ps xss) (e : Ext (PD.W g s.env σ) g H (PD.W g' s'.env σ') g' H') : Hid w K g' s' σ' H' t ps xss where
  top := e.pr _ _ h.top (h.nw t (.inl rfl))
  at_ := fun j p hp => by
    obtain ⟨vs, xs, e1, e2, r⟩ := h.at_ j p hp
    exact ⟨vs, xs, e1, e.pr _ _ e2 (h.nw p (.inr (List.mem_of_getElem? hp))), r.mono e.st e.mono⟩
  len := h.len
  nd := h.nd
  nt := h.nt
  nf := fun p hp => by
    obtain ⟨vs, e2⟩ := h.there hp
    cases q : g'.F p with
    | none => rfl
    | some o =>
      rcases e.newF p o (h.nf p hp) q with z | z | ⟨xs, z⟩
      · rw [e2] at z; cases z
      · exact absurd z (h.nw p hp)
      · rw [e2] at z; cases z
  nw := fun p hp z => by
    obtain ⟨vs, e2⟩ := h.there hp
    rcases e.wsub p z with z | z
    · exact h.nw p hp z
    · rw [e2] at z; cases z
/-- from a start at which ours were not there -/
def Far (t : Addr) (ps : List Addr) (g : Gh) (s : S) (σ : L2.St) (H : Hp) (g' : Gh) (s' : S) (σ' : L2.St) (H' : Hp) : Prop :=
  ∀ (W0 : Addr → Prop) (g0 : Gh) (H0 : Hp), (∀ p, p = t ∨ p ∈ ps → H0 p = none) → Ext W0 g0 H0 (PD.W g s.env σ) g H → Ext W0 g0 H0 (PD.W g' s'.env σ') g' H'
theorem Far.of (e : Ext (PD.W g s.env σ) g H (PD.W g' s'.env σ') g' H') : Far t ps g s σ H g' s' σ' H' := fun _ _ _ _ e0 => e0.trans e
theorem Far.trans {g2 : Gh} {s2 : S} {σ2 : L2.St} {H2 : Hp} (a : Far t ps g s σ H g' s' σ' H') (b : Far t ps g' s' σ' H' g2 s2 σ2 H2) : Far t ps g s σ H g2 s2 σ2 H2 := fun W0 g0 H0 h e => b W0 g0 H0 h (a W0 g0 H0 h e)
theorem Far.refl : Far t ps g s σ H g s σ H := fun _ _ _ _ e => e
abbrev MH := S → List (List D) → Option (S × List (List D))
/-- a statement over ours -/
def LSH (w : World) (K : PySem.W.Frag) (i : Nat) (m : MH) : TS := fun D σ H => ∃ g s t ps xss, Good w K g s σ H ∧ Hid w K g s σ H t ps xss ∧ σ[i]? = some (some (.ref t)) ∧ ∃ s' xss', m s xss = some (s', xss') ∧
  ∀ σ' g' H', Good w K g' s' σ' H' → Hid w K g' s' σ' H' t ps xss' → Far t ps g s σ H g' s' σ' H' → σ'[i]? = some (some (.ref t)) → D.nx σ' H'
def mIfH (c : M Bool) (a b : MH) : MH := fun s xss => (c s).bind fun p => if p.1 = true then a p.2 xss else b p.2 xss
def mThenH (a b : MH) : MH := fun s xss => (a s xss).bind fun p => b p.1 p.2
def mAppH (ix val : M R) : MH := fun s xss => (ix s).bind fun p => match p.1 with
  | .d (.int k) => (ixN xss.length k).bind fun j => (mShs [val] p.2).bind fun q => match q.1, xss[j]? with
    | [v], some xs => if xs.length < sizeLine then some (q.2, xss.set j (xs ++ [v])) else none
    | _, _ => none
  | _ => none
theorem tIfS_LSH {i : Nat} {c : M Bool} {a b : MH} {D : Ends} (h : LSH w K i (mIfH c a b) D σ H) : tIfS (LT w K c) (LSH w K i a) (LSH w K i b) D σ H := by
  obtain ⟨g, s, t, ps, xss, G, hd, ht, s', xss', e, q⟩ := h
  unfold mIfH at e
  obtain ⟨⟨k, s1⟩, e1, e⟩ := Option.bind_eq_some_iff.mp e
  refine ⟨g, s, G, k, s1, e1, fun g1 H1 G1 E1 => ?_⟩
  cases k with
  | true => exact ⟨g1, s1, t, ps, xss, G1, hd.ext E1, ht, s', xss', e, fun σ' g' H' G' h' F' t' => q σ' g' H' G' h' ((Far.of E1).trans F') t'⟩
  | false => exact ⟨g1, s1, t, ps, xss, G1, hd.ext E1, ht, s', xss', e, fun σ' g' H' G' h' F' t' => q σ' g' H' G' h' ((Far.of E1).trans F') t'⟩
theorem tOne_LSH {i : Nat} {a : MH} {D : Ends} (h : LSH w K i a D σ H) : LSH w K i a D σ H := h
/-- told[ix].append(val) -/
theorem tApp_LSH {i : Nat} {ix val : M R} {D : Ends} (h : LSH w K i (mAppH ix val) D σ H) : tDrop (tBX K "list" rAppend (tOp (rIxX w K) (tVar i) (LE w K ix)) (LD w K (mShs [val]))) D σ H := by
  obtain ⟨g, s, t, ps, xss, G, hd, ht, s', xss', e, q⟩ := h
  unfold mAppH at e
  obtain ⟨⟨r1, s1⟩, e1, e⟩ := Option.bind_eq_some_iff.mp e
  split at e
  · rename_i k hk
    simp only at hk
    subst hk
    obtain ⟨j, e2, e⟩ := Option.bind_eq_some_iff.mp e
    obtain ⟨⟨vs1, s2⟩, e3, e⟩ := Option.bind_eq_some_iff.mp e
    split at e
    · rename_i v xs hv hx
      simp only at hv
      subst hv
      split at e
      · rename_i hlt
        cases e
        refine ⟨.ref t, ht, ?_⟩
        refine LE.use G e1 fun v1 g1 H1 G1 E1 R1 => ?_
        have hd1 := hd.ext E1
        cases R1 with
        | d r =>
          cases r
          have hjl : j < ps.length := by rw [hd.len]; exact (List.getElem?_eq_some_iff.mp hx).1
          obtain ⟨p, hp⟩ : ∃ p, ps[j]? = some p := ⟨_, List.getElem?_eq_getElem hjl⟩
          have ea : atI (ps.map V.ref) k = some (.ref p) := by
            unfold atI
            rw [List.length_map, hd.len, e2, Option.bind_some, List.getElem?_map, hp]; rfl
          refine .inl (.inl ⟨t, ps.map V.ref, k, .ref p, rfl, rfl, SqL.of hd1.top, ea, ?_⟩)
          obtain ⟨vs, xs', hx', hpv, hr⟩ := hd1.at_ j p hp
          refine ⟨.inl (.inl ⟨rfl, _, SqL.of hpv⟩), ?_⟩
          refine ⟨g1, s1, G1, [v], s2, e3, fun us g2 H2 G2 E2 R2 => ?_⟩
          have hd2 := hd1.ext E2
          obtain ⟨vs2, xs2, hx2, hpv2, hr2⟩ := hd2.at_ j p hp
          rw [hx] at hx2
          cases hx2
          cases R2 with
          | @cons u _ _ _ ru rn =>
            cases rn
            refine ⟨p, vs2, u, rfl, rfl, hpv2, by rw [hr2.length]; exact hlt, ?_⟩
            have pm : p ∈ ps := List.mem_of_getElem? hp
            have keep : ∀ b, b ≠ p → upd H2 p (.lst (vs2 ++ [u])) b = H2 b := fun b hb => upd_ne hb
            have notW : ∀ b, PD.W g2 s2.env σ b → b ≠ p := fun b hb z => hd2.nw p (.inr pm) (by rw [← z]; exact hb)
            have G3 : Good w K g2 s2 σ (upd H2 p (.lst (vs2 ++ [u]))) := acc_upd G2 (hd2.nf p (.inr pm)) (hd2.nw p (.inr pm))
            refine q σ g2 _ G3 ?_ ?_ ht
            · refine ⟨?_, fun m b hb => ?_, by rw [List.length_set]; exact hd.len, hd.nd, hd.nt, hd2.nf, hd2.nw⟩
              · rw [keep t (fun z => hd.nt (z ▸ pm))]; exact hd2.top
              · by_cases hmj : m = j
                · subst hmj
                  rw [hp] at hb; cases hb
                  exact ⟨_, _, by rw [List.getElem?_set_self (by rw [← hd.len]; exact hjl)], upd_same, hr2.append (.one ru)⟩
                · obtain ⟨vs3, xs3, h1, h2, h3⟩ := hd2.at_ m b hb
                  have hbp : b ≠ p := fun z => by
                    subst z
                    have h5 := (List.getElem?_eq_some_iff.mp hb)
                    have h6 := (List.getElem?_eq_some_iff.mp hp)
                    rcases Nat.lt_trichotomy m j with h | h | h
                    · exact List.pairwise_iff_getElem.mp hd.nd m j h5.1 h6.1 h (h5.2.trans h6.2.symm)
                    · exact hmj h
                    · exact List.pairwise_iff_getElem.mp hd.nd j m h6.1 h5.1 h (h6.2.trans h5.2.symm)
                  exact ⟨vs3, xs3, by rw [List.getElem?_set_ne (fun z => hmj z.symm)]; exact h1, by rw [keep b hbp]; exact h2, h3⟩
            · intro W0 g0 H0 hf e0
              have e1 := (e0.trans E1).trans E2
              refine ⟨fun b o hb n => ?_, fun b hb => ?_, e1.mono, e1.newF, e1.wsub, e1.st⟩
              · rw [keep b (fun z => by rw [z, hf p (.inr pm)] at hb; cases hb)]; exact e1.pr b o hb n
              · by_cases z : b = p
                · rw [z, upd_same] at hb; cases hb
                · rw [keep b z] at hb; exact e1.dom b hb
      · cases e
    · cases e
  · cases e
def mLoopH (t : D → S → Option S) (body : MH) : List D → MH
  | [] => fun s xss => some (s, xss)
  | d :: ds => fun s xss => (t d s).bind fun s1 => (body s1 xss).bind fun p => mLoopH t body ds p.1 p.2
/-- told = [[], ..]; for .. in ..: body; return told -/
def mNest (i n : Nat) (mi : M (List D)) (t : D → S → Option S) (body : MH) : MS := fun s => if i < s.env.length then (mi ⟨s.env.set i .no, s.ds⟩).bind fun p => (mLoopH t body p.1 p.2 (List.replicate n [])).bind fun q =>
  if n ≤ sizeLine then some (.rt (.t (.l (q.2.map .lst))), q.1) else none
  else none
def tEmp (n : Nat) : TA := fun σ H Q => ∀ (ps : List Addr) (H' : Hp), ps.length = n → ps.Nodup → (∀ p ∈ ps, H p = none) → (∀ b, b ∉ ps → H' b = H b) → (∀ p ∈ ps, H' p = some (.lst [])) → Q (ps.map V.ref) H'
/-- what is told: the lists frozen -/
def frzQ (g : Gh) (H : Hp) (ps : List Addr) : Gh := ⟨fun b => if b ∈ ps then H b else g.F b, g.st⟩
theorem hid_done {W0 : Addr → Prop} {g0 : Gh} {H0 : Hp} (G : Good w K g s σ H) (hd : Hid w K g s σ H t ps xss) (hf : ∀ p, p = t ∨ p ∈ ps → H0 p = none) (e : Ext W0 g0 H0 (PD.W g s.env σ) g H) :
    GoodH (frzQ g H ps) s.ds H ∧ Ext W0 g0 H0 (StA (frzQ g H ps)) (frzQ g H ps) H ∧ RF w K W0 H0 (frzQ g H ps) H (.ref t) (.t (.l (xss.map .lst))) := by
  have sub : Sub g.F (frzQ g H ps).F := fun b o h => by
    show (if b ∈ ps then H b else g.F b) = some o
    split
    · exact G.fr b o h
    · exact h
  have notin : ∀ b, PD.W g s.env σ b → b ∉ ps := fun b hb z => hd.nw b (.inr z) hb
  refine ⟨⟨fun b o h => ?_, ?_⟩, ⟨e.pr, e.dom, e.mono.trans sub, fun b o h1 h2 => ?_, fun b hb => e.wsub b (.inr hb), e.st⟩, ?_⟩
  · have h : (if b ∈ ps then H b else g.F b) = some o := h
    split at h
    · exact h
    · exact G.fr b o h
  · have := G.ds
    cases hds : s.ds with
    | none => rw [hds] at this; exact this
    | some d =>
      rw [hds] at this
      obtain ⟨sa, ca, e1, ne, h1, h2, f1, f2⟩ := this
      refine ⟨sa, ca, e1, ne, h1, h2, ?_, ?_⟩
      · show (if sa ∈ ps then H sa else g.F sa) = none
        rw [if_neg (notin sa (.inr ⟨sa, ca, e1, .inl rfl⟩))]; exact f1
      · show (if ca ∈ ps then H ca else g.F ca) = none
        rw [if_neg (notin ca (.inr ⟨sa, ca, e1, .inr rfl⟩))]; exact f2
  · have h2 : (if b ∈ ps then H b else g.F b) = some o := h2
    split at h2
    · rename_i hb; exact .inl (hf b (.inr hb))
    · exact e.newF b o h1 h2
  · refine .t (.inl (hf t (.inl rfl))) ⟨⟨ps.map V.ref, hd.top, ?_⟩, ?_⟩ fun z => hd.nw t (.inl rfl) (.inr z)
    · have go : ∀ (n : Nat) (qs : List Addr) (yss : List (List D)), qs.length = yss.length → (∀ (j : Nat) (p : Addr), qs[j]? = some p → p ∈ ps ∧ ∃ vs xs, yss[j]? = some xs ∧ H p = some (.lst vs) ∧ RepL w K g.st g.F vs xs) → RepL w K (frzQ g H ps).st (frzQ g H ps).F (qs.map V.ref) (yss.map .lst) := by
        intro n qs
        induction qs with
        | nil => intro yss hl _; cases yss with
          | nil => exact .nil
          | cons _ _ => cases hl
        | cons p qs ih =>
          intro yss hl h
          cases yss with
          | nil => cases hl
          | cons ys yss =>
            obtain ⟨pm, vs, xs, hx, hp, hr⟩ := h 0 p rfl
            cases hx
            refine .cons (.lst (show (if p ∈ ps then H p else g.F p) = _ by rw [if_pos pm]; exact hp) (hr.mono (StLe.refl _) sub)) (ih yss (by simpa using hl) fun j q hq => ?_)
            obtain ⟨a, vs', xs', b, c⟩ := h (j + 1) q (by simpa using hq)
            exact ⟨a, vs', xs', by simpa using b, c⟩
      exact go 0 ps xss hd.len fun j p hp => ⟨List.mem_of_getElem? hp, hd.at_ j p hp⟩
    · show (if t ∈ ps then H t else g.F t) = none
      rw [if_neg hd.nt]; exact hd.nf t (.inl rfl)
theorem tNest_LS {i n : Nat} {ts : List Nat} {mi : M (List D)} {t : D → S → Option S} {body : MH} {D : Ends} (hi : i ∉ ts) (h : LS w K (mNest i n mi t body) D σ H) :
    tSeq (tAsg (tLst (tEmp n)) (gName i)) (tSeq (tFor (LI w K mi) (LG w K ts t) (LSH w K i body)) (tRet (tVar i))) D σ H := by
  obtain ⟨g, s, G, fl, s', e, q⟩ := h
  unfold mNest at e
  split at e
  case isFalse => cases e
  rename_i hl0
  have hl : i < σ.length := by rw [← G.len]; exact hl0
  obtain ⟨⟨items, s2⟩, ea, e⟩ := Option.bind_eq_some_iff.mp e
  obtain ⟨⟨s3, xss3⟩, el, e⟩ := Option.bind_eq_some_iff.mp e
  split at e
  · rename_i hn
    cases e
    intro ps H1 hpl nd hfr keep at_
    refine ⟨by rw [List.length_map, hpl]; exact hn, fun a ha => ?_⟩
    have hat : a ∉ ps := fun z => by rw [at_ a z] at ha; cases ha
    have hHa : H a = none := by rw [keep a hat] at ha; exact ha
    have hf : ∀ p, p = a ∨ p ∈ ps → H p = none := fun p hp => hp.elim (fun z => by rw [z]; exact hHa) (hfr p)
    have hH2 : ∀ b o, H b = some o → upd H1 a (.lst (ps.map V.ref)) b = some o := fun b o hb => by
      rw [upd_ne (show b ≠ a from fun z => by rw [z, hHa] at hb; cases hb), keep b (fun z => by rw [hfr b z] at hb; cases hb)]; exact hb
    have EP : ExtP g H g (upd H1 a (.lst (ps.map V.ref))) := ⟨hH2, Sub.refl _, fun b o e e' => (by rw [e] at e'; cases e'), fun b o e => hH2 b o (G.fr b o e), rfl⟩
    have G0 : Good w K g ⟨s.env.set i .no, s.ds⟩ (σ.set i (some (.ref a))) H := G.unset
    have G1 : Good w K g ⟨s.env.set i .no, s.ds⟩ (σ.set i (some (.ref a))) (upd H1 a (.lst (ps.map V.ref))) := G0.pure EP
    have hd : Hid w K g ⟨s.env.set i .no, s.ds⟩ (σ.set i (some (.ref a))) (upd H1 a (.lst (ps.map V.ref))) a ps (List.replicate n []) := by
      refine ⟨upd_same, fun j p hp => ?_, by rw [hpl, List.length_replicate], nd, hat, fun p hp => ?_, fun p hp z => W_ne G0 z (hf p hp)⟩
      · have pm := List.mem_of_getElem? hp
        have hj : j < n := by rw [← hpl]; exact (List.getElem?_eq_some_iff.mp hp).1
        exact ⟨[], [], by simp [hj], by rw [upd_ne (show p ≠ a from fun z => hat (by rw [← z]; exact pm))]; exact at_ p pm, .nil⟩
      · exact G.fr.none (hf p hp)
    have E1 : Ext (PD.W g s.env σ) g H (PD.W g (s.env.set i .no) (σ.set i (some (.ref a)))) g (upd H1 a (.lst (ps.map V.ref))) :=
      (Ext.ofP EP).more (fun b hb => hb.imp OwnA.unset id) fun b hb => .inl (hb.imp OwnA.unset id)
    have ht : (σ.set i (some (V.ref a)))[i]? = some (some (.ref a)) := by rw [List.getElem?_set_self hl]
    refine ⟨g, ⟨s.env.set i .no, s.ds⟩, G1, items, s2, ea, fun J g1 H3 G3 E3 IT => ?_⟩
    let Inv (m : Nat) (σx : L2.St) (Hx : Hp) : Prop := ∃ gx sx xx, Good w K gx sx σx Hx ∧ Hid w K gx sx σx Hx a ps xx ∧ σx[i]? = some (some (.ref a)) ∧ Sub g1.F gx.F ∧ StLe g1.st gx.st ∧ Ext (PD.W g s.env σ) g H (PD.W gx sx.env σx) gx Hx ∧ mLoopH t body (items.drop m) sx xx = some (s3, xss3)
    refine ⟨fun m k σx Hx => k = items.length - m ∧ m ≤ items.length ∧ Inv m σx Hx, ⟨_, rfl, Nat.zero_le _, g1, s2, _, G3, hd.ext E3, ht, Sub.refl _, StLe.refl _, E1.trans E3, by rw [List.drop_zero]; exact el⟩, ?_⟩
    rintro m k σx Hx ⟨rfl, hm, gx, sx, xx, Gx, hx, tx, hF, hS, Ex, ex⟩
    by_cases hlt : m < items.length
    · have hdr : items.drop m = items[m] :: items.drop (m + 1) := List.drop_eq_getElem_cons hlt
      rw [hdr] at ex
      unfold mLoopH at ex
      obtain ⟨s4, et, ex⟩ := Option.bind_eq_some_iff.mp ex
      obtain ⟨⟨s5, xx5⟩, eb, ex⟩ := Option.bind_eq_some_iff.mp ex
      obtain ⟨hgo, hy⟩ := IT.go m gx Hx hF hS Gx.fr hlt
      refine .inr ⟨hgo, fun σ' H' => Inv (m + 1) σ' H', fun σ' H' h => ⟨items.length - (m + 1), by omega, rfl, hlt, h⟩, fun x H4 hx4 => ?_⟩
      obtain ⟨g2, EP2, d, hd2, rp⟩ := hy x H4 hx4
      rw [List.getElem?_eq_getElem hlt] at hd2
      cases hd2
      have G2 := Gx.pure EP2
      have E2 := Ext.ofP (env := sx.env) (σ := σx) EP2
      refine ⟨g2, sx, _, G2, rp, s4, et, fun σ3 g3 H5 G5 E5 O5 => ?_⟩
      refine ⟨g3, s4, a, ps, xx, G5, (hx.ext E2).ext E5, by rw [O5.at_ i hi]; exact tx, s5, xx5, eb, fun σ' g' H' G' h' F' t' => ?_⟩
      refine ⟨g', s5, xx5, G', h', t', ?_, ?_, F' _ _ _ hf ((Ex.trans E2).trans E5), ex⟩
      · have := (F' (PD.W g3 s4.env σ3) g3 (fun b => if b = a ∨ b ∈ ps then none else H5 b) (fun p hp => if_pos hp) ?_).mono
        · exact hF.trans (E2.mono.trans (E5.mono.trans this))
        · refine ⟨fun b o hb n => ?_, fun b hb => ?_, Sub.refl _, fun b o z z' => (by rw [z] at z'; cases z'), fun b hb => .inl hb, StLe.refl _⟩
          · split at hb
            · cases hb
            · exact hb
          · show (if b = a ∨ b ∈ ps then none else H5 b) = none
            split
            · rfl
            · exact hb
      · have := (F' (PD.W g3 s4.env σ3) g3 (fun b => if b = a ∨ b ∈ ps then none else H5 b) (fun p hp => if_pos hp) ?_).st
        · exact fun p hp => this p (E5.st p (E2.st p (hS p hp)))
        · refine ⟨fun b o hb n => ?_, fun b hb => ?_, Sub.refl _, fun b o z z' => (by rw [z] at z'; cases z'), fun b hb => .inl hb, StLe.refl _⟩
          · split at hb
            · cases hb
            · exact hb
          · show (if b = a ∨ b ∈ ps then none else H5 b) = none
            split
            · rfl
            · exact hb
    · have : m = items.length := by omega
      subst this
      rw [List.drop_length] at ex
      cases ex
      refine .inl ⟨IT.stop _ gx Hx hF hS Gx.fr rfl, ?_⟩
      refine ⟨.ref a, tx, ?_⟩
      obtain ⟨q1, q2, q3⟩ := hid_done Gx hx hf Ex
      exact q (.ref a) _ Hx q1 q2 q3
  · cases e
end
section
variable {X : Cx} {a b c e o tg iter ix val : Expr} {es : List Expr} {mi mv : M R} {tc : M Bool} {pos p p2 p3 p4 apos cpos : Pos} {sts st2 : List Stmt} {i n : Nat} {m m2 : MH}
abbrev XH (X : Cx) (sts : List Stmt) (i : Nat) (m : MH) : Prop := PSs X sts (LSH X.w X.K i m)
theorem pa_e0 : PA X [] (tEmp 0) := ⟨fun pos pins s σ H Q I h => pa_nil.run pos pins s σ H Q I (by
  have := h [] H rfl List.nodup_nil (fun p hp => by cases hp) (fun _ _ => rfl) (fun p hp => by cases hp)
  exact this)⟩
theorem pa_e (h : PA X es (tEmp n)) (hs : starEach (.List [] pos :: es) X.env = (false, eval (.List [] pos) X.env) :: starEach es X.env := by rfl) : PA X (.List [] pos :: es) (tEmp (n + 1)) :=
  ⟨fun pos' pins s σ H Q I q => (pa_cons (pe_lst pa_nil) h hs).run pos' pins s σ H Q I (by
    refine ⟨Nat.zero_le _, fun p hp ps H' hl nd fr keep at_ => ?_⟩
    have hne : ∀ q ∈ ps, q ≠ p := fun q hq z => by
      have := fr q hq
      rw [z, upd_same] at this; cases this
    refine q (p :: ps) H' (by rw [List.length_cons, hl]) (List.nodup_cons.mpr ⟨fun z => hne p z rfl, nd⟩) (fun q hq => ?_) (fun b hb => ?_) (fun q hq => ?_)
    · rcases List.mem_cons.mp hq with rfl | hq
      · exact hp
      · have := fr q hq
        rw [upd_ne (hne q hq)] at this; exact this
    · rw [keep b (fun z => hb (List.mem_cons_of_mem _ z)), upd_ne (fun z => hb (by rw [z]; exact List.mem_cons_self))]
    · rcases List.mem_cons.mp hq with rfl | hq
      · rw [keep q (fun z => hne q z rfl), upd_same]
      · exact at_ q hq)⟩
theorem h_one {st : Stmt} {T : TS} (h : PS X st T) (j : ∀ D σ H, LSH X.w X.K i m D σ H → T D σ H) : XH X [st] i m := ⟨fun pins s σ H D I q => (pss_one h).run pins s σ H D I (j D σ H q)⟩
theorem h_if (hc : XT X c tc) (ha : XH X sts i m) (hb : XH X st2 i m2) : XH X [.If c sts st2 pos] i (mIfH tc m m2) := h_one (ps_if hc ha hb) fun _ _ _ h => tIfS_LSH h
theorem h_app {x : Str} (hu : X.A.units + 64 < cLine) (hix : PX X ix mi) (hv : PX X val mv) (hN : X.N[i]? = some x := by rfl) (hvis : Vis X.env.scope x := by first | exact Or.inl rfl | exact Or.inr (Or.inl rfl) | exact Or.inr (Or.inr rfl)) (hd : (x == ("__debug__" : Str)) = false := by decide) (hcd : (x == ("__classdict__" : Str)) = false := by decide) (hpl : PlainIx ix := by exact fun _ _ => rfl)
    (hbase : attributeBase (.Subscript (.Name x p2) ix p3) "append" X.env (eval (.Subscript (.Name x p2) ix p3) X.env) = eval (.Subscript (.Name x p2) ix p3) X.env := by rfl)
    (hfew : ((backTo cpos (starEach [val] X.env)).all (fun x => !x.1) && (backToKw cpos (keywordEach [] X.env)).all (fun x => x.1.isSome) && decide ([val].length + ([] : List Keyword).length + (if ([] : List Keyword).isEmpty then 0 else 1) < 30)) = true := by rfl)
    (hline : (apos.endLine == cpos.line) = true := by rfl) (hs : starEach [val] X.env = (false, eval val X.env) :: starEach [] X.env := by rfl) (hplain : (backTo cpos (starEach [] X.env)).any (·.1) = false := by rfl)
    (hsw : swapsWith (.Call (.Attribute (.Subscript (.Name x p2) ix p3) "append" apos) [val] [] cpos) none pos.line X.env = pure false := by rfl) :
    XH X [.Expr (.Call (.Attribute (.Subscript (.Name x p2) ix p3) "append" apos) [val] [] cpos) pos] i (mAppH mi mv) :=
  h_one (ps_expr (pe_bx PySem.F.plainAttrs_list PySem.F.slot_list_append PySem.F.type_list_append mt_append (pe_ix (ix_x hu) (pe_var hN hvis hd hcd) hix hpl) (d_cons hv d_nil hs) hbase hfew hline hs hplain) hsw) fun _ _ _ h => tApp_LSH h
theorem ss_nest {x : Str} {ts : List Nat} {t : D → S → Option S} {mit : M (List D)} {tpos fpos rpos npos : Pos} (hc : X.calm = true) (hN : X.N.Nodup) (he : PA X es (tEmp n)) (hI : XI X tg iter mit) (hg : XG X tg ts t) (hb : XH X sts i m) (hi : X.N[i]? = some x := by rfl) (hx : X.env.scope.names.lookup x = some .local := by rfl)
    (hp : PassesOwn (model X.prog X.w) X.A X.env X.xe) (hts : i ∉ ts := by decide) (hd : (x == ("__debug__" : Str)) = false := by decide) (hcd : (x == ("__classdict__" : Str)) = false := by decide) (hs : swapsWith (.List es p) (some (.Name x npos)) pos.line X.env = pure false := by rfl)
    (hsf : ∀ y, foldedSetIterable iter X.env y = pure y := by intro _; rfl) :
    XSs X [.Assign [.Name x npos] (.List es p) pos, .For tg iter sts [] fpos, .Return (some (.Name x tpos)) rpos] (mNest i n mit t m) :=
  ⟨fun pins s σ H D I q => (pss_cons (ps_set (i := i) hN hi (.inl hx) (pe_lst he) hs (.inr hx)) (pss_cons (ps_for hp hc hI hg hb hsf) (pss_one (ps_ret (pe_var hi (Or.inl hx) hd hcd))))).run pins s σ H D I (tNest_LS hts q)⟩
end
/-! evaluation -/
def hq (m : MH) (s : S) (xss : List (List D)) (Q : S → List (List D) → Prop) (_ : Mk Q) : Prop := ∃ s' xss', m s xss = some (s', xss') ∧ Q s' xss'
def one? : List D → Option D
  | [v] => some v
  | _ => none
@[simp] theorem one?_one {v : D} : one? [v] = some v := rfl
section
variable {s : S} {xss : List (List D)} {Q : S → List (List D) → Prop} {c : M Bool} {a b : MH} {ix v : M R} {t : D → S → Option S} {items : List D}
@[simp ↓] theorem q_ifH {h : Mk Q} : hq (mIfH c a b) s xss Q h ↔ wq c s (fun k s1 => if k = true then hq a s1 xss Q mk else hq b s1 xss Q mk) mk := by
  constructor
  · rintro ⟨s', xss', e, q⟩
    obtain ⟨⟨k, s1⟩, e1, e⟩ := Option.bind_eq_some_iff.mp e
    refine ⟨k, s1, e1, ?_⟩
    cases k
    · exact ⟨s', xss', e, q⟩
    · exact ⟨s', xss', e, q⟩
  · rintro ⟨k, s1, e1, hh⟩
    cases k
    · obtain ⟨s', xss', e, q⟩ := hh
      exact ⟨s', xss', by unfold mIfH; rw [e1]; exact e, q⟩
    · obtain ⟨s', xss', e, q⟩ := hh
      exact ⟨s', xss', by unfold mIfH; rw [e1]; exact e, q⟩
@[simp ↓] theorem q_appH {h : Mk Q} : hq (mAppH ix v) s xss Q h ↔ wq ix s (fun r s1 => bq r.int? (fun k => bq (ixN xss.length k) (fun j => wq (mShs [v]) s1 (fun vs s2 => bq (one? vs) (fun x => bq (xss[j]?) (fun xs => xs.length < sizeLine ∧ Q s2 (xss.set j (xs ++ [x]))) mk) mk) mk) mk) mk) mk := by
  constructor
  · rintro ⟨s', xss', e, q⟩
    unfold mAppH at e
    obtain ⟨⟨r1, s1⟩, e1, e⟩ := Option.bind_eq_some_iff.mp e
    split at e
    · rename_i k hk
      simp only at hk
      subst hk
      obtain ⟨j, e2, e⟩ := Option.bind_eq_some_iff.mp e
      obtain ⟨⟨vs1, s2⟩, e3, e⟩ := Option.bind_eq_some_iff.mp e
      split at e
      · rename_i x xs hv hx
        simp only at hv
        subst hv
        split at e
        · rename_i hlt
          cases e
          exact ⟨_, s1, e1, k, rfl, j, e2, _, _, e3, x, rfl, xs, hx, hlt, q⟩
        · cases e
      · cases e
    · cases e
  · rintro ⟨r1, s1, e1, k, hk, j, e2, vs1, s2, e3, x, hv, xs, hx, hlt, q⟩
    have hr : r1 = .d (.int k) := by
      cases r1 with
      | d y => cases y <;> cases hk; rfl
      | t o => cases hk
      | b i => cases hk
    have hvs : vs1 = [x] := by
      unfold one? at hv
      split at hv
      · cases hv; rfl
      · cases hv
    subst hr hvs
    refine ⟨s2, _, ?_, q⟩
    unfold mAppH
    rw [e1, Option.bind_some]
    simp only
    rw [e2, Option.bind_some, e3, Option.bind_some]
    simp only [hx]
    rw [if_pos hlt]
theorem loopH_inv (I : Nat → S → List (List D) → Prop) (h0 : I 0 s xss) (hs : ∀ (i : Nat) (d : D) (s : S) (xss : List (List D)), items[i]? = some d → I i s xss → bq (t d s) (fun s1 => hq a s1 xss (fun s2 xss2 => I (i + 1) s2 xss2) mk) mk) : hq (mLoopH t a items) s xss (fun s xss => I items.length s xss) mk := by
  induction items generalizing I s xss with
  | nil => exact ⟨s, xss, rfl, h0⟩
  | cons d ds ih =>
    obtain ⟨s1, h1, s2, xss2, h2, h3⟩ := hs 0 d s xss rfl h0
    obtain ⟨s3, xss3, h4, h5⟩ := ih (fun i => I (i + 1)) h3 (fun i d' s' xss' e hi => hs (i + 1) d' s' xss' (by simpa using e) hi)
    exact ⟨s3, xss3, by unfold mLoopH; simp only [h1, h2, h4, Option.bind_some], h5⟩
theorem q_nest {i n : Nat} {mi : M (List D)} {Qs : Fl → S → Prop} {h : Mk Qs} (I : List D → Nat → S → List (List D) → Prop) (hi : i < s.env.length) (hn : n ≤ sizeLine)
    (h0 : wq mi ⟨s.env.set i .no, s.ds⟩ (fun items s1 => I items 0 s1 (List.replicate n []) ∧ (∀ (k : Nat) (d : D) (s : S) (xss : List (List D)), items[k]? = some d → I items k s xss → bq (t d s) (fun s1 => hq a s1 xss (fun s2 xss2 => I items (k + 1) s2 xss2) mk) mk) ∧ ∀ s xss, I items items.length s xss → Qs (.rt (.t (.l (xss.map .lst)))) s) mk) : wq (mNest i n mi t a) s Qs h := by
  obtain ⟨items, s1, e1, q0, q1, q2⟩ := h0
  obtain ⟨s3, xss3, h4, h5⟩ := loopH_inv (I items) q0 q1
  refine ⟨_, s3, ?_, q2 s3 xss3 h5⟩
  unfold mNest
  rw [if_pos hi, e1, Option.bind_some]
  show ((mLoopH t a items s1 _).bind _) = _
  rw [h4, Option.bind_some, if_pos hn]
end
end PD
/-! PD: sorting, least ones, of typed lists. -/
namespace PD
open PySem PySem.Spec PyProof.Rows L2 PySem.W
def insBy {α : Type} (le : α → α → Bool) (x : α) : List α → List α
  | [] => [x]
  | y :: l => if le x y = true then x :: y :: l else y :: insBy le x l
def sortBy {α : Type} (le : α → α → Bool) : List α → List α
  | [] => []
  | x :: l => insBy le x (sortBy le l)
section
variable {α : Type} {le : α → α → Bool} {f : α → D}
theorem insD_map (h : ∀ a b, leD (f a) (f b) = le a b) (x : α) : ∀ l : List α, insD (f x) (l.map f) = (insBy le x l).map f
  | [] => rfl
  | y :: l => by
    rw [List.map_cons]
    unfold insD insBy
    rw [h]
    split
    · rfl
    · rw [insD_map h x l]; rfl
theorem sortD_map (h : ∀ a b, leD (f a) (f b) = le a b) : ∀ l : List α, sortD (l.map f) = (sortBy le l).map f
  | [] => rfl
  | x :: l => by
    rw [List.map_cons]
    unfold sortD sortBy
    rw [sortD_map h l, insD_map h]
theorem insBy_perm (x : α) : ∀ l, (insBy le x l).Perm (x :: l)
  | [] => .refl _
  | y :: l => by
    unfold insBy
    split
    · exact .refl _
    · exact ((insBy_perm x l).cons y).trans (.swap _ _ _)
theorem sortBy_perm : ∀ l : List α, (sortBy le l).Perm l
  | [] => .refl _
  | x :: l => (insBy_perm x _).trans ((sortBy_perm l).cons x)
theorem aliR_map (h : ∀ a b, aliB (f a) (f b) = true) : ∀ l : List α, aliR (l.map f) = true
  | [] => rfl
  | x :: l => by
    rw [List.map_cons]
    unfold aliR
    rw [aliR_map h l, Bool.and_true, List.all_eq_true]
    intro y hy
    obtain ⟨b, _, rfl⟩ := List.mem_map.mp hy
    rw [h, h]; rfl
theorem plAll_map {n : Nat} (h : ∀ a, pl n (f a) = true) : ∀ l : List α, plAll n (l.map f) = true
  | [] => rfl
  | x :: l => by rw [List.map_cons, plAll_cons, h, plAll_map h l]; rfl
theorem okSort_map (k : Nat) (hk : k = 0 ∨ k = 1) (hp : ∀ a, pl 58 (f a) = true) (ha : ∀ a b, aliB (f a) (f b) = true) (ho : ∀ a, oneK (f a) = k) (l : List α) : okSort (l.map f) = true := by
  unfold okSort
  rw [plAll_map hp, aliR_map ha]
  have h1 : (l.map f).all (fun x => aliB x x) = true := by
    rw [List.all_eq_true]
    intro y hy
    obtain ⟨b, _, rfl⟩ := List.mem_map.mp hy
    exact ha b b
  have h2 : ((l.map f).all (fun x => oneK x == 1) || (l.map f).all (fun x => oneK x == 0)) = true := by
    rcases hk with rfl | rfl
    · rw [Bool.or_eq_true]; right
      rw [List.all_eq_true]
      intro y hy
      obtain ⟨b, _, rfl⟩ := List.mem_map.mp hy
      rw [ho]; rfl
    · rw [Bool.or_eq_true]; left
      rw [List.all_eq_true]
      intro y hy
      obtain ⟨b, _, rfl⟩ := List.mem_map.mp hy
      rw [ho]; rfl
  rw [h1, h2]; rfl
theorem okMin_map (hp : ∀ a, pl 58 (f a) = true) (ha : ∀ a b, aliB (f a) (f b) = true) (ho : ∀ a, isNone (f a) = false) (l : List α) : okMin (l.map f) = true := by
  unfold okMin
  rw [plAll_map hp, aliR_map ha]
  have h1 : (l.map f).all (fun x => aliB x x) = true := by
    rw [List.all_eq_true]
    intro y hy
    obtain ⟨b, _, rfl⟩ := List.mem_map.mp hy
    exact ha b b
  have h2 : (l.map f).all (fun x => !isNone x) = true := by
    rw [List.all_eq_true]
    intro y hy
    obtain ⟨b, _, rfl⟩ := List.mem_map.mp hy
    rw [ho]; rfl
  rw [h1, h2]; rfl
end
theorem leD_lt (x y : D) : leD x y = !dataLt (toPy y) (toPy x) := by
  show dataLe false toPy x y = _
  rw [dataLe_eq]; rfl
theorem sortD_head : ∀ (l : List D) (x : D), (sortD (x :: l)).head? = some (minDat x l)
  | [], x => rfl
  | y :: l, x => by
    have ih := sortD_head l (if dataLt (toPy y) (toPy x) = true then y else x)
    have em : minDat x (y :: l) = minDat (if dataLt (toPy y) (toPy x) = true then y else x) l := rfl
    rw [em, ← ih]
    have e2 : leD x y = !dataLt (toPy y) (toPy x) := leD_lt x y
    have tot := leD_total.total
    have tr := leD_total.trans
    have ins : ∀ (z : D) (s : List D), (insD z s).head? = some (match s.head? with | some h => if leD z h = true then z else h | none => z) := by
      intro z s
      cases s with
      | nil => rfl
      | cons h s =>
        unfold insD
        split
        · rename_i q; simp [q]
        · rename_i q; simp [q]
    show (insD x (insD y (sortD l))).head? = (insD _ (sortD l)).head?
    rw [ins, ins, ins]
    cases (sortD l).head? with
    | none =>
      simp only
      by_cases h : dataLt (toPy y) (toPy x) = true
      · rw [if_pos h, e2, h]; rfl
      · rw [if_neg h, e2, Bool.eq_false_iff.mpr h]; rfl
    | some m =>
      simp only
      by_cases h : dataLt (toPy y) (toPy x) = true
      · have hxy : leD x y = false := by rw [e2, h]; rfl
        have hyx : leD y x = true := (tot x y).resolve_left (by rw [hxy]; exact Bool.false_ne_true)
        rw [if_pos h]
        by_cases hy : leD y m = true
        · rw [if_pos hy, hxy]; rfl
        · rw [if_neg hy]
          have : ¬ leD x m = true := fun z => hy (tr _ _ _ hyx z)
          rw [if_neg this]
      · have hxy : leD x y = true := by rw [e2, Bool.eq_false_iff.mpr h]; rfl
        rw [if_neg h]
        by_cases hy : leD y m = true
        · rw [if_pos hy, if_pos hxy, if_pos (tr _ _ _ hxy hy)]
        · rw [if_neg hy]
/-! ints -/
theorem leD_int (a b : Int) : leD (.int a) (.int b) = decide (a ≤ b) := by
  rw [leD_lt, show dataLt (toPy (.int b)) (toPy (.int a)) = decide (b < a) from by simp only [toPy]; exact dataLt_int b a]
  by_cases h : a ≤ b
  · rw [decide_eq_true h, decide_eq_false (by omega)]; rfl
  · rw [decide_eq_false h, decide_eq_true (by omega)]; rfl
theorem okSort_ints (l : List Int) : okSort (l.map D.int) = true := okSort_map 0 (.inl rfl) (fun _ => pl_int) (fun _ _ => by simp [aliB, toPy, alike]) (fun _ => rfl) l
theorem eqDs_ints : ∀ a b : List Int, eqDs (a.map D.int) (b.map D.int) = decide (a = b)
  | [], [] => by simp
  | [], _ :: _ => by simp
  | _ :: _, [] => by simp
  | x :: a, y :: b => by
    rw [List.map_cons, List.map_cons, eqDs_c, eqDs_ints a b, eqD_i]
    by_cases h1 : x = y <;> by_cases h2 : a = b <;> simp [h1, h2]
theorem eqD_nil {xs : List D} : eqDs xs [] = decide (xs = []) := by cases xs <;> simp
theorem pla {l : List Int} {n : Nat} : plAll n (l.map D.int) = true := plAll_map (fun _ => pl_int) l
end PD
/-! PD: len(set(xs)), xs ints in a list or a tuple. -/
namespace PD
open PySem PySem.Spec PyProof.Rows L2
def dedupL : List Int → List Int
  | [] => []
  | x :: l => if x ∈ l then dedupL l else x :: dedupL l
theorem mem_dedupL {x : Int} : ∀ {l : List Int}, x ∈ dedupL l ↔ x ∈ l
  | [] => Iff.rfl
  | y :: l => by
    unfold dedupL
    split
    · rename_i h
      rw [mem_dedupL (l := l), List.mem_cons]
      exact ⟨.inr, fun z => z.elim (fun e => e ▸ h) id⟩
    · rw [List.mem_cons, List.mem_cons, mem_dedupL (l := l)]
theorem dedupL_nd : ∀ l : List Int, (dedupL l).Nodup
  | [] => List.nodup_nil
  | y :: l => by
    unfold dedupL
    split
    · exact dedupL_nd l
    · rename_i h
      exact List.nodup_cons.mpr ⟨fun z => h (mem_dedupL.mp z), dedupL_nd l⟩
theorem dedupL_of_nd : ∀ {l : List Int}, l.Nodup → dedupL l = l
  | [], _ => rfl
  | y :: l, h => by
    have h1 := List.nodup_cons.mp h
    unfold dedupL
    rw [if_neg h1.1, dedupL_of_nd h1.2]
theorem len_unique {a b : List Int} (ha : a.Nodup) (hb : b.Nodup) (h : ∀ x, x ∈ a ↔ x ∈ b) : a.length = b.length :=
  Nat.le_antisymm (List.Nodup.length_le_of_subset ha fun x hx => (h x).mp hx) (List.Nodup.length_le_of_subset hb fun x hx => (h x).mpr hx)
theorem met_facts (val : Nat → Int) : ∀ i, (PyProof.Rows.firstMet val i).Nodup ∧ ∀ x, x ∈ PyProof.Rows.firstMet val i ↔ ∃ j, j < i ∧ val j = x
  | 0 => ⟨List.nodup_nil, fun x => ⟨fun h => (by cases h), fun ⟨j, h, _⟩ => absurd h (Nat.not_lt_zero _)⟩⟩
  | i + 1 => by
    obtain ⟨h1, h2⟩ := met_facts val i
    rw [PyProof.Rows.firstMet_succ]
    unfold PyProof.Rows.step_dedup
    by_cases h : val i ∈ PyProof.Rows.firstMet val i
    · have e : ((PyProof.Rows.firstMet val i).any (· == val i)) = true := List.any_eq_true.mpr ⟨_, h, by simp⟩
      simp only [e, if_true]
      refine ⟨h1, fun x => (h2 x).trans ⟨fun ⟨j, a, b⟩ => ⟨j, by omega, b⟩, fun ⟨j, a, b⟩ => ?_⟩⟩
      by_cases hj : j < i
      · exact ⟨j, hj, b⟩
      · have : j = i := by omega
        subst this
        rw [b] at h
        exact (h2 x).mp h
    · have e : ((PyProof.Rows.firstMet val i).any (· == val i)) = false := by
        cases q : (PyProof.Rows.firstMet val i).any (· == val i) with
        | false => rfl
        | true =>
          obtain ⟨z, hz, ez⟩ := List.any_eq_true.mp q
          rw [beq_iff_eq] at ez
          exact absurd (ez ▸ hz) h
      simp only [e, Bool.false_eq_true, if_false]
      refine ⟨List.nodup_append.mpr ⟨h1, by simp, fun a ha b hb z => h (by rw [List.mem_singleton] at hb; rw [← hb, ← z]; exact ha)⟩, fun x => ?_⟩
      rw [List.mem_append, List.mem_singleton, h2]
      constructor
      · rintro (⟨j, a, b⟩ | rfl)
        · exact ⟨j, by omega, b⟩
        · exact ⟨i, by omega, rfl⟩
      · rintro ⟨j, a, b⟩
        by_cases hj : j < i
        · exact .inl ⟨j, hj, b⟩
        · exact .inr (by rw [← b]; congr 1; omega)
theorem met_len (ns : List Int) : (PyProof.Rows.firstMet (fun i => ns.getD i 0) ns.length).length = (dedupL ns).length := by
  obtain ⟨h1, h2⟩ := met_facts (fun i => ns.getD i 0) ns.length
  refine len_unique h1 (dedupL_nd ns) fun x => ?_
  rw [h2, mem_dedupL]
  constructor
  · rintro ⟨j, a, b⟩
    have : ns[j]? = some x := by rw [← b, List.getD_eq_getElem?_getD, List.getElem?_eq_getElem a]; rfl
    exact List.mem_of_getElem? this
  · intro h
    obtain ⟨j, hj, e⟩ := List.getElem_of_mem h
    exact ⟨j, hj, by rw [List.getD_eq_getElem?_getD, List.getElem?_eq_getElem hj, e]; rfl⟩
section
variable {X : Cx} {a : Expr} {ma : M R} {p p2 q apos pos : Pos} {w : World} {K : PySem.W.Frag}
abbrev rLenSetX (K : PySem.W.Frag) : V → Hp → VK → Prop := fun x H1 Q => ∃ (l : Addr) (ns : List Int), x = .ref l ∧ (SqL K H1 l (ns.map V.int) ∨ SqT K H1 l (ns.map V.int)) ∧ ns.length ≤ 4000 ∧ Q (.int ((dedupL ns).length : Nat)) H1
theorem pe_lenSetX {ta : TE} (hg : Gl X "len") (hm : X.mg "len" = none) (hg2 : Gl X "set") (hm2 : X.mg "set" = none) (ha : PE X a ta) (hc : X.calm = true := by rfl)
    (na : starEach [a] X.env = (false, eval a X.env) :: starEach [] X.env := by rfl) : PE X (.Call (.Name "len" p) [.Call (.Name "set" p2) [a] [] q] [] pos) (fun σ H Q => ta σ H fun x H1 => rLenSetX X.K x H1 Q) := by
  refine ⟨fun pins s σ H Q I h => ?_⟩
  refine Call_ (ld_blt I hg hm boot_len ?_)
  refine PyProof.Rows.callWith_builtin1 (PyProof.Rows.args_cons ?_ rfl) rfl rfl
  refine Call_ (ld_blt I hg2 hm2 boot_set ?_)
  refine PyProof.Rows.callWith_type1 (PyProof.Rows.args_cons (thn (ha.run pins s σ H _ I h) fun v s1 ⟨x, H1, I1, r1, q1⟩ => PyProof.Rows.args_nil ?_) na) na rfl
  obtain ⟨l, ns, rfl, hq, hl, q1⟩ := q1
  cases r1
  have hb : (dedupL ns).length ≤ ns.length := List.Nodup.length_le_of_subset (dedupL_nd ns) fun x hx => mem_dedupL.mp hx
  rcases hq with hq | hq
  · obtain ⟨its, r, pl, hz⟩ := I1.list hq
    have hlen : its.toArray.size = ns.length := by rw [List.size_toArray, ← r.length, List.length_map]
    refine call_set_list (I1.ok.hd hc) pl.isList (by simpa using RZ.intsAre_vals r) (by rw [hlen]; unfold scanBound; omega) fun h' tk hS hk => ?_
    refine PyProof.Rows.args_nil ?_
    rw [hlen, met_len] at hS
    obtain ⟨o, es, ep, t, ho, hex, hd, _, _, _, hf, hn⟩ := hS
    have I2 : Inv X pins σ H1 { s1 with heap := h', toks := tk } := I1.kept fun b o e => hk b o (Heap.lt_size e) e
    exact call_len_set ho hex hd hf (by rw [hn]; omega) ⟨.int (dedupL ns).length, H1, I2.tok _, ⟨_, by rw [hn]⟩, q1⟩
  · obtain ⟨its, r, tp, hz⟩ := I1.tuple hq
    refine call_set_tupI ns (I1.ok.hd hc) tp (by simpa using RZ.intsAre_vals r) (by unfold scanBound; omega) fun h' tk c hS hc2 hk => ?_
    refine PyProof.Rows.args_nil ?_
    obtain ⟨o, es, ep, t, ho, hex, hd, hg3, hnd, hmem, hsz, hf, hn, _⟩ := hS
    have I2 : Inv X pins σ H1 { s1 with heap := h', toks := tk } := I1.kept hk
    have ec : es.size = (dedupL ns).length := by
      have := len_unique hnd (dedupL_nd ns) fun x => (hmem x).symm.trans (by rw [decide_eq_true_eq, mem_dedupL])
      rw [List.length_map, Array.length_toList] at this
      exact this
    exact call_len_set ho hex hd hf (by rw [ec]; omega) ⟨.int (dedupL ns).length, H1, I2.tok _, ⟨_, by rw [ec]⟩, q1⟩
def fLenSetX : D → Option R
  | .lst xs => (intsD xs).bind fun ns => if ns.length ≤ 4000 then some (.d (.int ((dedupL ns).length : Nat))) else none
  | .tup xs => (intsD xs).bind fun ns => if ns.length ≤ 4000 then some (.d (.int ((dedupL ns).length : Nat))) else none
  | _ => none
theorem o_lenSetX : Op1 w K (rLenSetX K) fLenSetX := fun g H x dx res Q hf hx e q => by
  unfold fLenSetX at e
  split at e
  · obtain ⟨ns, h1, h2⟩ := Option.bind_eq_some_iff.mp e
    split at h2
    · rename_i hn
      cases h2
      cases hx with
      | lst ha ra => exact ⟨_, ns, rfl, .inl (SqL.of (by rw [← intsD_rep h1 ra]; exact ha)), hn, k_int hf q⟩
    · cases h2
  · obtain ⟨ns, h1, h2⟩ := Option.bind_eq_some_iff.mp e
    split at h2
    · rename_i hn
      cases h2
      cases hx with
      | tup ha ra => exact ⟨_, ns, rfl, .inr (by rw [← intsD_rep h1 ra]; exact hf.seqT ha), hn, k_int hf q⟩
    · cases h2
  · cases e
theorem e_lenSetX (hc : X.calm = true) (hg : Gl X "len") (hm : X.mg "len" = none) (hg2 : Gl X "set") (hm2 : X.mg "set" = none) (ha : PX X a ma)
    (na : starEach [a] X.env = (false, eval a X.env) :: starEach [] X.env := by rfl) : PX X (.Call (.Name "len" p) [.Call (.Name "set" p2) [a] [] apos] [] pos) (mUn fLenSetX ma) :=
  PEi (pe_lenSetX hg hm hg2 hm2 ha hc na) fun σ H Q h => LE.imp (tUn_LE o_lenSetX h) fun v H1 z => z
@[simp] theorem fLenSetX_l {xs : List D} : fLenSetX (.lst xs) = (intsD xs).bind fun ns => if ns.length ≤ 4000 then some (.d (.int ((dedupL ns).length : Nat))) else none := rfl
@[simp] theorem fLenSetX_t {xs : List D} : fLenSetX (.tup xs) = (intsD xs).bind fun ns => if ns.length ≤ 4000 then some (.d (.int ((dedupL ns).length : Nat))) else none := rfl
end
end PD
/-! PD: {i: b}. -/
namespace PD
open PySem PySem.Spec PyProof.Rows L2
def tDOne (w : World) (i : Int) (b : Bool) : TE := fun _ H Q => ∀ (p : Addr) (es : Array DictEntry) (ep : Nat), H p = none → Paired (EntV w) es.toList (xeK [(.inl i, V.bl b)]) → Q (.ref p) (upd H p (dxO p es ep))
theorem pe_dOne {X : Cx} {i : Int} {b : Bool} {j1 j2 : Nat} {p1 p2 pos : Pos} : PE X (.Dict [some (.Constant (.int i) j1 p1)] [.Constant (.bool b) j2 p2] pos) (tDOne X.w i b) := by
  refine ⟨fun pins s σ H Q I q => ?_⟩
  have pps : PPs X pos [some (.Constant (.int i) j1 p1)] [.Constant (.bool b) j2 p2] _ := pps_cons pe_int pe_bl pps_nil
  have P := pe_disp pps rfl rfl (List.cons_ne_nil _ _) (by show 1 ≤ 15; decide)
  refine wpAny_mono (P.run pins s σ H (fun v H' => ∃ p, v = .ref p ∧ H p = none ∧ H' = upd H p (.dK [(.inl i, V.bl b)])) I ?_) (fun u s' ⟨v, H', I', rv, p, ev, hp, eH⟩ => ?_) fun _ _ e => e
  · intro p hp
    refine ⟨upd_same, [(.inl i, V.bl b)], rfl, (show 1 ≤ 15 by decide), p, rfl, hp, ?_⟩
    rw [upd_upd]; rfl
  · subst ev eH
    obtain ⟨hlen, hm, vs, kv, D⟩ := I'.hok p _ upd_same
    obtain ⟨o, es, ep, ho, hx, hdat, hko, hpr, hnd⟩ := D
    have pe : Paired (EntV X.w) es.toList (xeK [(.inl i, V.bl b)]) := back_k hpr (fun e he => hko e (by simpa using he)) (rk_xeK kv)
    have eo : o = { cls := .type "dict", data := .dict es ep } := by
      obtain ⟨c1, c2, c3, c4⟩ := o
      obtain ⟨h1, h2, h3⟩ := hx
      simp only at h1 h2 h3 hdat
      subst h1 h2 h3 hdat
      rfl
    rw [eo] at ho
    have hsz : es.size ≤ sizeLine := by
      have := pe.length
      simp only [Array.length_toList, xeK, List.length_map] at this
      omega
    have I2 := I'.write (x := p) (e := p) (o := dxO p es ep) (t' := s'.toks) (h' := s'.heap) (by rw [upd_same]; exact True.intro) (.inl rfl) (fun b u hb z => z) ⟨_, ho⟩ ⟨⟨ho, hm, hsz⟩, ⟨_, ho⟩, fun h1 h2 q st => ⟨st _ q.1, q.2⟩⟩
    rw [upd_upd] at I2
    exact ⟨.ref p, _, I2, rv, q p es ep hp pe⟩
def mDOne (i : Int) (b : Bool) : M R := fun s => some (.t (.k [(.int i, .bl b)]), s)
section
variable {w : World} {K : PySem.W.Frag} {g : Gh} {s : S} {σ : St} {H : Hp}
theorem tDOne_LE {i : Int} {b : Bool} {Q : VK} (h : LE w K (mDOne i b) σ H Q) : tDOne w i b σ H Q := by
  obtain ⟨g, s, G, res, s', e, q⟩ := h
  cases e
  intro p es ep hp pe
  have EP : ExtP g H g (upd H p (dxO p es ep)) := ExtP.new G.fr hp
  have rx : RepX w K g.st g.F (xeK [(.inl i, V.bl b)]) [(.int i, .bl b)] := .cons rfl (.int _) (.bl _) .nil
  obtain ⟨re, hkey⟩ := ofX pe rx (fun x hx => by
    rw [List.mem_singleton.mp hx]; exact Nat.zero_le _)
  have hl := pe.length
  have ok : DctOk w es.toList [((D.int i, D.bl b) : D × D)] := ⟨hl, hkey, .inl fun p hp => by rw [List.mem_singleton.mp hp]; rfl, List.pairwise_singleton _ _⟩
  have hr : RP w K H g (upd H p (dxO p es ep)) (.ref p) (.t (.k [(.int i, .bl b)])) := .t hp ⟨⟨es, ep, upd_same, ok, re⟩, G.fr.none hp⟩
  exact q (.ref p) _ _ (G.pure EP) (Ext.ofP EP) (hr.rr G EP)
end
theorem e_dOne {X : Cx} {i : Int} {b : Bool} {j1 j2 : Nat} {p1 p2 pos : Pos} : PX X (.Dict [some (.Constant (.int i) j1 p1)] [.Constant (.bool b) j2 p2] pos) (mDOne i b) := PEi pe_dOne fun _ _ _ h => tDOne_LE h
theorem wp_dOne {i : Int} {b : Bool} {s : S} {Q : R → S → Prop} : wp (mDOne i b) s Q ↔ Q (.t (.k [(.int i, .bl b)])) s := ⟨fun ⟨_, _, e, q⟩ => by cases e; exact q, fun q => ⟨_, _, rfl, q⟩⟩
@[simp ↓] theorem q_dOne {i : Int} {b : Bool} {s : S} {Q : R → S → Prop} {hm : Mk Q} : wq (mDOne i b) s Q hm ↔ Q (.t (.k [(.int i, .bl b)])) s := wp_dOne
end PD
/-! PD: min(d.values()), texts. -/
namespace PD
open PySem PySem.Spec PyProof.Rows L2 PySem.W PySem.Calls
theorem CmpOf.strs_lt {prog : Program} {w : World} {A : Around} {P : Nat → Value → Prop} (val : Nat → Str) (hval : ∀ i v, P i v → ∃ t, v = .str (val i) t) :
    CmpOf prog w A .Lt P (fun i j => decide ((val i).cps.toList < (val j).cps.toList)) := fun i j vi vj s Q E hi hj h => by
  obtain ⟨t, rfl⟩ := hval i vi hi
  obtain ⟨u, rfl⟩ := hval j vj hj
  exact (PyProof.Rows.lt_str h : wpAny (model prog w) A (compareOp .Lt (.str _ t) (.str _ u)) Q E s)
def rMinV : List V → Hp → VK → Prop := fun vs H Q => ∃ r a es ep, ∃ (x : Str) (ls : List Str), vs = [.ref r] ∧ H r = some (viewO r a) ∧ H a = some (dxO a es ep) ∧ Paired EVv es.toList ((x :: ls).map V.str) ∧ Q (.str (ls.foldl (fun a y => if decide (y.cps.toList < a.cps.toList) = true then y else a) x)) H
theorem call_minV {X : Cx} (hc : X.calm = true) : CallR X (.builtin "min") rMinV := by
  intro pins s σ H xs us Q I r h
  obtain ⟨rv, a, es, ep, x, ls, rfl, hr, ha, hp, q⟩ := h
  obtain ⟨u, rfl, ru⟩ := Vals.one r
  cases ru
  obtain ⟨raw, hS, hz⟩ := dx_raw I ha
  obtain ⟨hv, _⟩ := I.hok rv _ hr
  have hv : s.heap.get? rv = some { cls := .type "dict_values", data := .fields #[.ref a] } := hv
  have hl : es.size = (x :: ls).length := by simpa using hp.length
  refine call_min_walk (wpAny_pyIter_values_raw (d := a) ⟨_, hv, rfl, rfl⟩ raw ?_)
  have hal : a < s.heap.objs.size := by obtain ⟨o, e, _⟩ := raw; exact Heap.lt_size e
  have hval : ∀ (i : Nat) (v : Value), (∃ hi : i < es.size, v = es[i].val) → ∃ t, v = .str ((x :: ls).getD i x) t := by
    rintro i v ⟨hi, rfl⟩
    obtain ⟨y, hx, rx⟩ := paired_at hp (ent_at hi)
    rw [List.getElem?_map] at hx
    obtain ⟨n, hn, rfl⟩ := Option.map_eq_some_iff.mp hx
    obtain ⟨t, e⟩ := rx
    exact ⟨t, by rw [e, List.getD_eq_getElem?_getD, hn]; rfl⟩
  refine ⟨s.heap.objs.size, _, _, _, _, _, _, rfl, Walks.rawValues (prog := X.prog) (w := X.w) (A := X.A.in1) (show X.A.in1.handled = none from I.ok.hd hc) _ a (Nat.ne_of_lt hal) es ep, ⟨⟨_, Heap.get?_push_size _ rfl, rfl, rfl⟩, raw.at fun o e => Heap.get?_push_of_some _ e⟩, fun b hb => ?_, by rw [hl]; exact Nat.succ_pos _, CmpOf.strs_lt (fun i => (x :: ls).getD i x) (fun i v hv => ?_), fun v h' tk hP hk => ?_⟩
  · rw [Heap.size_push]
    have : b = s.heap.objs.size ∨ b = a := by simpa using hb
    rcases this with rfl | rfl
    · exact Nat.lt_succ_self _
    · exact Nat.lt_succ_of_lt hal
  · exact hval i v hv
  · obtain ⟨t, rfl⟩ := hval _ v hP
    have e1 : es.size - 1 = ls.length := by rw [hl]; rfl
    have e2 := (PySem.W.argBest_fold (fun a b : Str => decide (a.cps.toList < b.cps.toList)) x x ls ls.length (Nat.le_refl _)).2
    rw [List.take_length] at e2
    rw [e1, e2]
    refine ⟨.str _, H, I.kept (fun b o e => ?_), ⟨_, rfl⟩, q⟩
    exact hk b o (fun z => by rw [List.mem_singleton.mp z] at e; exact absurd (Heap.lt_size e) (Nat.lt_irrefl _)) (Heap.get?_push_of_some _ e)
def fMinV : D → Option R
  | .dct kvs => (strsD (kvs.map (·.2))).bind fun ls => match ls with
    | [] => none
    | l :: ls => some (.d (minDat (.str l) (ls.map .str)))
  | _ => none
theorem minDat_s : ∀ (ls : List (List Nat)) (l : List Nat), (∀ x ∈ l :: ls, StrG x) → minDat (.str l) (ls.map .str) = .str (ls.foldl (fun a y => if decide (y < a) = true then y else a) l) ∧
    sOf (ls.foldl (fun a y => if decide (y < a) = true then y else a) l) = (ls.map sOf).foldl (fun a y => if decide (y.cps.toList < a.cps.toList) = true then y else a) (sOf l)
  | [], l, _ => ⟨rfl, rfl⟩
  | y :: ls, l, h => by
    have e : dataLt (toPy (.str y)) (toPy (.str l)) = decide (y < l) := by
      simp only [toPy]
      rw [PySem.W.dataLt_str]
      rfl
    have e2 : decide ((sOf y).cps.toList < (sOf l).cps.toList) = decide (y < l) := rfl
    have hx : ∀ z ∈ (if decide (y < l) = true then y else l) :: ls, StrG z := by
      intro z hz
      rcases List.mem_cons.mp hz with rfl | hz
      · split
        · exact h y (by simp)
        · exact h l (by simp)
      · exact h z (by simp [hz])
    obtain ⟨h1, h2⟩ := minDat_s ls (if decide (y < l) = true then y else l) hx
    rw [List.foldl_cons, List.map_cons, List.map_cons, List.foldl_cons, e2]
    have e3 : minDat (.str l) (.str y :: ls.map D.str) = minDat (.str (if decide (y < l) = true then y else l)) (ls.map D.str) := by
      unfold minDat
      rw [List.foldl_cons, e]
      congr 1
      split <;> rfl
    have e4 : (if decide (y < l) = true then sOf y else sOf l) = sOf (if decide (y < l) = true then y else l) := by split <;> rfl
    rw [e3, e4]
    exact ⟨h1, h2⟩
theorem fold_mem : ∀ (ls : List (List Nat)) (l : List Nat), ls.foldl (fun a y => if decide (y < a) = true then y else a) l ∈ l :: ls
  | [], l => List.mem_singleton.mpr rfl
  | y :: ls, l => by
    rw [List.foldl_cons]
    have := fold_mem ls (if decide (y < l) = true then y else l)
    rcases List.mem_cons.mp this with h | h
    · rw [h]; split <;> simp
    · exact List.mem_cons_of_mem _ (List.mem_cons_of_mem _ h)
section
variable {w : World} {K : PySem.W.Frag} {σ : St} {H : Hp}
theorem tMinV_LE {m : M R} {Q : VK} (h : LE w K (mUn fMinV m) σ H Q) : tCB rMinV (tCons (tVals (LE w K m)) tNil) σ H Q := by
  obtain ⟨g, s, G, res, s', e, q⟩ := h
  unfold mUn at e
  cases ea : m s with
  | none => rw [ea] at e; cases e
  | some p =>
    obtain ⟨ra, s1⟩ := p
    rw [ea] at e
    simp only [Option.bind_some] at e
    split at e
    · rename_i x e1
      obtain ⟨res', e2, e3⟩ := Option.map_eq_some_iff.mp e
      simp only [Prod.mk.injEq] at e3
      obtain ⟨rfl, rfl⟩ := e3
      refine LE.use G ea fun v1 g1 H1 G1 E1 R1 => ?_
      have r1 := R1.peek G1 e1
      unfold fMinV at e2
      split at e2
      · obtain ⟨ls, e4, e5⟩ := Option.bind_eq_some_iff.mp e2
        cases ls with
        | nil => cases e5
        | cons l ls =>
        cases e5
        cases r1 with
        | dct ha ok re =>
          obtain ⟨xs, hp, rl⟩ := repE_v re
          obtain ⟨e6, e7⟩ := strsD_rep e4 rl
          obtain ⟨e8, e9⟩ := minDat_s ls l e7
          refine ⟨_, _, _, rfl, ha, fun r hr => ?_⟩
          have hne := ne_of_none ha hr
          refine ⟨r, _, _, _, sOf l, ls.map sOf, rfl, upd_same, by rw [upd_ne hne]; exact ha, by rw [← List.map_cons (f := sOf), ← e6]; exact hp, ?_⟩
          rw [e8] at q
          rw [← e9]
          refine q _ g1 _ (G1.pure (ExtP.new G1.fr hr)) (E1.trans (Ext.ofP (ExtP.new G1.fr hr))) (.d ?_)
          exact .str (e7 _ (fold_mem ls l))
      · cases e2
    · cases e
end
section
variable {X : Cx} {a : Expr} {ma : M R} {p apos cpos pos : Pos}
theorem e_minV (hc : X.calm = true) (hg : Gl X "min") (hm : X.mg "min" = none) (hv : bootBuiltins "min" = some (.builtin "min")) (ha : PX X a ma) (hbase : attributeBase a "values" X.env (eval a X.env) = eval a X.env := by rfl) (hline : (apos.endLine == cpos.line) = true := by rfl)
    (he : starEach [.Call (.Attribute a "values" apos) [] [] cpos] X.env = [(false, eval (.Call (.Attribute a "values" apos) [] [] cpos) X.env)] := by rfl) : PX X (.Call (.Name "min" p) [.Call (.Attribute a "values" apos) [] [] cpos] [] pos) (mUn fMinV ma) :=
  PEi (pe_callB (call_minV hc) hg hm hv (pa_cons (pe_vals ha hbase hline) pa_nil he) (by decide) (by decide) he rfl) fun _ _ _ h => tMinV_LE h
@[simp] theorem fMinV_d {kvs : List (D × D)} : fMinV (.dct kvs) = (strsD (kvs.map (·.2))).bind fun ls => match ls with
    | [] => none
    | l :: ls => some (.d (minDat (.str l) (ls.map .str))) := rfl
end
end PD
/-! PD: dict(d), keys ints or texts. -/
namespace PD
open PySem PySem.Spec PyProof.Rows L2
def rDictC (w : World) (K : PySem.W.Frag) : List V → Hp → VK → Prop := fun xs H Q => ∃ (a : Addr) (ks : List XE), xs = [.ref a] ∧ DV w K H a ks ∧ (∀ x ∈ ks, (nkKey x.1).isSome = true) ∧
  ∀ (p : Addr) (es : Array DictEntry) (ep : Nat), H p = none → Paired (EntV w) es.toList ks → Q (.ref p) (upd H p (dxO p es ep))
theorem call_dictC {X : Cx} : CallR X (.type "dict") (rDictC X.w X.K) := by
  intro pins s σ H xs us Q I r h
  obtain ⟨a, ks, rfl, D, hk, q⟩ := h
  obtain ⟨u, rfl, rx⟩ := vals1 r
  cases rx
  obtain ⟨lo, z, hf⟩ := D.forms (k := .num 0) I (.inl ⟨rfl, hk⟩)
  rcases hf with ⟨c, vs, hc, dd, rel⟩ | ⟨ht, _⟩
  · refine kt_call_dict lo dd (by rw [← rel.length]; exact z) fun h' d' hs => ?_
    have hm : (s.heap.objs.size == sysModules) = false := beq_eq_false_iff_ne.mpr (Nat.ne_of_gt I.big)
    obtain ⟨o, es, ep, ho, hx, hdat, hko, hpr, hnd⟩ := d'
    have pe : Paired (EntV X.w) es.toList ks := back_k hpr (fun e he => hko e (by simpa using he)) rel
    have eo : o = { cls := .type "dict", data := .dict es ep } := by
      obtain ⟨c1, c2, c3, c4⟩ := o
      obtain ⟨h1, h2, h3⟩ := hx
      simp only at h1 h2 h3 hdat
      subst h1 h2 h3 hdat
      rfl
    rw [eo] at ho
    have hsz : es.size ≤ sizeLine := by
      have := pe.length
      simp only [Array.length_toList] at this
      omega
    exact ⟨.ref s.heap.objs.size, upd H s.heap.objs.size (dxO s.heap.objs.size es ep), I.laid (t' := s.toks) (fun b u e => (hs.2 b (Nat.ne_of_lt (Heap.lt_size e))).trans (Heap.get?_push_of_some _ e)) (Nat.le_refl _)
      ⟨⟨ho, hm, hsz⟩, ⟨_, ho⟩, fun h1 h2 q st => ⟨st _ q.1, q.2⟩⟩, rfl, q _ es ep (I.hok.fresh (Nat.le_refl _)) pe⟩
  · cases ht
def fDictC : List D → Option R
  | [.dct kvs] => if kvs.all (fun p => kfam p.1 == 1) = true then some (.t (.k kvs)) else none
  | _ => none
theorem nk_fam {d : D} {nk : NestedKey} (h : toNK d = some nk) (hf : kfam d = 1) : (nkKey nk).isSome = true := by
  cases d <;> simp [kfam] at hf <;> (simp [toNK] at h; subst h; rfl)
theorem repX_all {w : World} {K : PySem.W.Frag} {st : Option (Addr × Addr)} {F : Hp} : ∀ {ks : List XE} {kvs : List (D × D)}, RepX w K st F ks kvs → (∀ p ∈ kvs, kfam p.1 = 1) → ∀ x ∈ ks, (nkKey x.1).isSome = true
  | _, _, .nil, _, x, h => by cases h
  | _, _, .cons a b c d, hk, x, h => by
    rcases List.mem_cons.mp h with rfl | h
    · exact nk_fam a (hk _ List.mem_cons_self)
    · exact repX_all d (fun p hp => hk p (List.mem_cons_of_mem _ hp)) x h
theorem o_dictC {w : World} {K : PySem.W.Frag} : OpN w K (rDictC w K) fDictC := fun g H xs ds res Q hf hx e q => by
  unfold fDictC at e
  split at e
  · split at e
    · rename_i kvs hall
      cases e
      have hall : ∀ p ∈ kvs, kfam p.1 = 1 := fun p hp => by
        have := List.all_eq_true.mp hall p hp
        exact beq_iff_eq.mp this
      cases hx with
      | cons a b =>
        cases b
        cases a with
        | dct ha ok re =>
          obtain ⟨ks, dv, rx⟩ := repX_dv hf ha ok re
          refine ⟨_, ks, rfl, dv, repX_all rx hall, fun p es' ep' hp pe => ?_⟩
          obtain ⟨re2, hkey⟩ := ofX pe rx (fun x hx => (dv.key x hx).2)
          have hl := congrArg List.length (repX_keys rx)
          simp only [List.length_map] at hl
          have ok2 : DctOk w es'.toList kvs := ⟨by rw [hl]; exact pe.length, hkey, .inl hall, ok.nd⟩
          exact q (.ref p) g _ (ExtP.new hf hp) (.t hp ⟨⟨es', ep', upd_same, ok2, re2⟩, hf.none hp⟩)
    · cases e
  · cases e
/-! dict of pairs or of a dict -/
def rDictZ (w : World) (K : PySem.W.Frag) : List V → Hp → VK → Prop := fun xs H Q => rDictX w K xs H Q ∨ rDictC w K xs H Q
theorem call_dictZ {X : Cx} (hc : X.calm = true) : CallR X (.type "dict") (rDictZ X.w X.K) := fun pins s σ H xs us Q I r h => h.elim (fun h => call_dictX hc pins s σ H xs us Q I r h) fun h => call_dictC pins s σ H xs us Q I r h
def fDictZ : List D → Option R
  | [.dct kvs] => fDictC [.dct kvs]
  | xs => fDictP xs
theorem o_dictZ {w : World} {K : PySem.W.Frag} : OpN w K (rDictZ w K) fDictZ := fun g H xs ds res Q hf hx e q => by
  unfold fDictZ at e
  split at e
  · exact .inr (o_dictC g H xs _ res Q hf hx e q)
  · exact .inl (o_dictP g H xs _ res Q hf hx e q)
@[simp] theorem fDictZ_d {kvs : List (D × D)} : fDictZ [.dct kvs] = if kvs.all (fun p => kfam p.1 == 1) = true then some (.t (.k kvs)) else none := rfl
@[simp] theorem fDictZ_l {xs : List D} : fDictZ [.lst xs] = (prsD xs).map fun ps => .t (.k (dictD ps)) := rfl
end PD
/-! PD: sorted(set(xs)), ints in a list. -/
namespace PD
open PySem PySem.Spec PyProof.Rows L2
section
variable {P : Program} {w : World} {A : Around} {E : Value → Shared → Prop} {s : Shared}
/-- an empty set as it is made -/
abbrev set0 (w : World) : Obj := { cls := .type "set", dict := none, data := .set #[] 0 (.fresh 0 0 (!w.params.followText "set-order")) }
abbrev atSet (w : World) (s : Shared) : Heap := s.heap.push (set0 w)
set_option maxHeartbeats 3200000 in
theorem call_set_lstI {l : Addr} {us : Array Value} (ns : List Int) {Q : Value → Shared → Prop} (calm : A.handled = none) (isl : s.heap.IsList l us) (numb : IntsAre us.toList ns) (few : ns.length + 1 < scanBound)
    (fin : ∀ (h' : Heap) (tk c : Nat), SetR w h' s.heap.objs.size (fun j => decide (j ∈ ns)) c → c ≤ ns.length → (∀ b o, s.heap.get? b = some o → h'.get? b = some o) → Q (.ref s.heap.objs.size) { s with heap := h', toks := tk }) :
    wpAny (model P w) A (call (.type "set") [.ref l]) Q E s := by
  have size : us.size = ns.length := by
    have q := IntsAre.length numb
    rwa [Array.length_toList] at q
  have mk := F.called_set.made
  have sb := F.called_set.sub
  obtain ⟨c, tl, mro⟩ := F.called_set.mro
  have new : (atSet w s).get? s.heap.objs.size = some (set0 w) := Heap.get?_push_size _ rfl
  have old : ∀ b o, s.heap.get? b = some o → (atSet w s).get? b = some o := fun b o e => Heap.get?_push_of_some _ e
  refine wpAny_call (codeAny_of_tree ?_)
  show wpAny _ _ (callAny (.type "set") _) _ _ _
  refine wpAny_pure ⟨Code.quiet_builtin _ (by decide +kernel), codeAny_builtin F.entry_type_call ?_⟩
  rw [Around.under_plain (weight_type_call_type "set" [.ref l] []) rfl]
  have a1 := F.called_set.notType
  have a2 := F.called_set.canCreate
  have a3 := F.typeCall_set_1 (.ref l)
  repeat (any_goals (first | assumption | wp_step))
  refine codeAny_mono (code_set_led1 (.ref l) (E := E) (Q₁ := fun o t => o = .ref s.heap.objs.size ∧ t = { s with heap := atSet w s }) ⟨rfl, rfl⟩) fun r t hr => ?_
  match r, hr with
  | .error e, hr => exact hr
  | .ok (.ret o), hr =>
    obtain ⟨rfl, rfl⟩ := hr
    have ty : Shared.TypeIs { s with heap := atSet w s } (.ref s.heap.objs.size) "set" := ⟨_, new, rfl⟩
    have b1 := F.called_set.init.lookup
    have b2 := F.called_set.init.bind (.ref s.heap.objs.size)
    repeat (any_goals (first | assumption | wp_step))
    refine codeAny_mono (codeAny_call_builtin (R := wants (fun r t => r = .none ∧ ∃ h' tk c, t = { s with heap := h', toks := tk } ∧ SetR w h' s.heap.objs.size (fun j => decide (j ∈ ns)) c ∧ c ≤ ns.length ∧ ∀ b o, s.heap.get? b = some o → h'.get? b = some o) E)
      F.called_set.init.plain F.entry_set_init (check_set_init_1 ty ?_)) fun r t hr => ?_
    · have isl1 : (atSet w s).IsList l us := isl.push _
      obtain ⟨⟨k1, k2, k3, k4⟩, at_, e1, m, e2⟩ := isl
      simp only at e1 e2
      subst e1 e2
      have at1 := old _ _ at_
      have c1 := F.sub_list_set
      have c2 := F.sub_list_frozenset
      have c3 : (Value.type "list" == Value.type "dict") = false := by decide
      unfold Builtin.«set.__init__» noKeywords Builtin.Frozenset.updateFrom
      generalize walk : pyIter = PI
      wp_walk
      subst walk
      have lo : l < s.heap.objs.size := Heap.lt_size at_
      have lo1 : s.heap.objs.size < (atSet w s).objs.size := by rw [Heap.size_push]; exact Nat.lt_succ_self _
      refine wpAny_pyIter_list isl1 (wpAny_bind (wpAny_runValue ?_))
      have apart : s.heap.objs.size ∉ [(atSet w s).objs.size, l] := by
        intro z
        rcases List.mem_cons.mp z with z | z
        · exact absurd z (Nat.ne_of_lt lo1)
        · exact absurd (List.mem_singleton.mp z) (Nat.ne_of_gt lo)
      have each : ∀ (i : Nat) (v : Value), us[i]? = some v → ∃ k t, ns[i]? = some k ∧ v = .int k t := fun i v q => by
        have q2 : i < ns.length := by rw [← size]; exact (Array.getElem?_eq_some_iff.mp q).1
        obtain ⟨t, e⟩ := PyProof.Rows.IntsAre.int_at numb i v (by rw [Array.getElem?_toList]; exact q)
        exact ⟨ns[i], t, List.getElem?_eq_getElem q2, by rw [e, List.getD_eq_getElem?_getD, List.getElem?_eq_getElem q2]; rfl⟩
      have W := (Walks.list (prog := P) (w := w) (A := A.in1.in1.in1) (by simp [calm]) (atSet w s).objs.size l (Nat.ne_of_lt (Nat.lt_trans lo lo1)) us).toS
      refine set_update_ints W s.heap.objs.size apart ns size few each _ 0 _ rfl (Nat.zero_le _) ⟨⟨_, Heap.get?_push_size _ rfl, rfl, rfl⟩, isl1.push _⟩ ⟨0, Nat.le_refl 0, setR_new_at (Heap.get?_push_of_some _ new)⟩ ?_
      rintro ⟨h', g', d', t', o'⟩ c' mv hc hS
      have z1 := mv.gens
      have z2 := mv.drawn
      have z3 := mv.os
      simp only at z1 z2 z3
      subst z1 z2 z3
      show wpAny _ _ _ _ _ _
      refine wpAny_pure ?_
      show wpAny _ _ (ret Value.none) _ _ _
      refine wpAny_pure ⟨rfl, h', t', c', rfl, hS, by rw [← size]; exact hc, fun b o e => ?_⟩
      have lb := Heap.lt_size e
      refine mv.heap b o (fun z => ?_) (Heap.get?_push_of_some _ (old b o e))
      rcases List.mem_cons.mp z with z | z
      · exact absurd z (Nat.ne_of_lt lb)
      · exact absurd (List.mem_singleton.mp z) (Nat.ne_of_lt (Nat.lt_trans lb lo1))
    · match r, hr with
      | .error e, hr => exact hr
      | .ok (.ret o), hr =>
        obtain ⟨rfl, h', tk, c, rfl, hS, hc, keep⟩ := hr
        repeat (any_goals (first | assumption | wp_step))
        exact fin _ _ _ hS hc keep
      | .ok .next, hr => exact hr.elim
      | .ok .brk, hr => exact hr.elim
      | .ok .cont, hr => exact hr.elim
  | .ok .next, hr => exact hr.elim
  | .ok .brk, hr => exact hr.elim
  | .ok .cont, hr => exact hr.elim
/-- sorted(S), a set of any size -/
theorem sorted_setN {a : Addr} {S : Int → Bool} {n : Nat} {Q : Value → Shared → Prop} (R : SetR w s.heap a S n) (calm : A.handled = none) (hn : n ≤ sizeLine)
    (fin : ∀ s' p (out : Array Value) (c : Nat) (ns : List Int), (∀ b o, s.heap.get? b = some o → s'.heap.get? b = some o) → s'.gens = s.gens → s'.os = s.os → s.heap.objs.size ≤ p →
      s'.heap.get? p = some (seqObj "list" out c) → IntsAre out.toList ns → ns.Pairwise (· < ·) → (∀ k, k ∈ ns ↔ S k = true) → ns.length = n → Q (.ref p) s') :
    wpAny (model P w) A (call (.builtin "sorted") [.ref a]) Q E s := by
  obtain ⟨o, es, ep, t, at_, ex, dat, good, nd, mem, sz, fits, card, ris, led⟩ := R
  refine Calls.call_function_entry kind_sorted plain_sorted entry_sorted (args_sorted1 _) ?_
  unfold Builtin.«sorted»
  refine wpAny_bind (m := checkCount "sorted" 1 1 _) (wpAny_pure ?_)
  refine wpAny_bind (collect_set (A := A.in1) calm ⟨o, at_, ex.1, dat⟩ fits sz ris led fun s1 vs keep grow g1 o1 perm => ?_)
  have vl : vs.length = n := by rw [perm.length_eq, List.length_map, Array.length_toList]; exact card
  have hI : IntsAre vs (vs.map Builtin.Re.reRawOf) := ints_of vs fun v hv => by
    obtain ⟨e, he, q⟩ := List.mem_map.mp (perm.mem_iff.mp hv)
    obtain ⟨k, tk, z, _⟩ := good e he
    exact ⟨k, tk, by rw [← q]; exact z⟩
  have pk : (vs.map Builtin.Re.reRawOf).Perm (es.toList.map keyOf) := by
    have q := perm.map Builtin.Re.reRawOf
    rwa [List.map_map] at q
  refine wpAny_bind (wpAny_newList ?_ (by rw [vl]; exact hn))
  have atL : (s1.heap.push (seqObj "list" vs.toArray 0)).get? s1.heap.objs.size = some (seqObj "list" vs.toArray 0) := Heap.get?_push_size _ rfl
  refine wpAny_bind (wpAny_holding (wpAny_call_entry slot_list_sort ⟨_, atL, rfl⟩ entry_list_sort (list_sort_treeAny atL hI (by rw [vl]; exact hn) fun out ns' i1 i2 i3 => ⟨_, rfl, ?_⟩) (args_list_sort _)))
  obtain ⟨c, hc⟩ := sortedHeap_at (vs := vs) (out := out) atL
  have pn := i2.trans pk
  refine wpAny_pure ⟨_, rfl, fin _ s1.heap.objs.size out c ns' (fun b u e => ?_) g1 o1 grow hc i1 (lt_of_le_nodup ns' i3 (pn.nodup_iff.mpr nd)) (fun k => by rw [pn.mem_iff, ← mem k]) (by rw [pn.length_eq, List.length_map, Array.length_toList]; exact card)⟩
  have q := keep b u e
  have ql := Heap.lt_size q
  show (sortedHeap (s1.heap.push (seqObj "list" vs.toArray 0)) s1.heap.objs.size vs out).get? b = some u
  rw [sortedHeap_old (Nat.ne_of_lt ql) (by rw [Heap.size_push]; exact Nat.lt_succ_of_lt ql)]
  exact Heap.get?_push_of_some _ q
end
end PD
/-! PD: sorted(set(xs)) as data. -/
namespace PD
open PySem PySem.Spec PyProof.Rows L2
def insI (x : Int) : List Int → List Int
  | [] => [x]
  | y :: l => if x < y then x :: y :: l else if x = y then y :: l else y :: insI x l
def sdL : List Int → List Int
  | [] => []
  | x :: l => insI x (sdL l)
theorem mem_insI {x z : Int} : ∀ {l : List Int}, z ∈ insI x l ↔ z = x ∨ z ∈ l
  | [] => by unfold insI; simp
  | y :: l => by
    unfold insI
    split
    · simp
    · split
      · rename_i h; subst h; simp
      · rw [List.mem_cons, mem_insI (l := l), List.mem_cons]
        constructor
        · rintro (h | h | h) <;> simp [h]
        · rintro (h | h | h) <;> simp [h]
theorem mem_sdL {z : Int} : ∀ {l : List Int}, z ∈ sdL l ↔ z ∈ l
  | [] => Iff.rfl
  | x :: l => by
    unfold sdL
    rw [mem_insI, mem_sdL (l := l), List.mem_cons]
theorem insI_pw {x : Int} : ∀ {l : List Int}, l.Pairwise (· < ·) → (insI x l).Pairwise (· < ·)
  | [], _ => by unfold insI; simp
  | y :: l, h => by
    have h1 := List.pairwise_cons.mp h
    unfold insI
    split
    · rename_i hxy
      refine List.pairwise_cons.mpr ⟨fun z hz => ?_, h⟩
      rcases List.mem_cons.mp hz with rfl | hz
      · exact hxy
      · exact Int.lt_trans hxy (h1.1 z hz)
    · split
      · exact h
      · rename_i h2 h3
        refine List.pairwise_cons.mpr ⟨fun z hz => ?_, insI_pw h1.2⟩
        rcases mem_insI.mp hz with rfl | hz
        · omega
        · exact h1.1 z hz
theorem sdL_pw : ∀ l : List Int, (sdL l).Pairwise (· < ·)
  | [] => .nil
  | x :: l => insI_pw (sdL_pw l)
theorem asc_unique : ∀ {a b : List Int}, a.Pairwise (· < ·) → b.Pairwise (· < ·) → (∀ z, z ∈ a ↔ z ∈ b) → a = b
  | [], [], _, _, _ => rfl
  | [], y :: b, _, _, h => absurd ((h y).mpr List.mem_cons_self) List.not_mem_nil
  | x :: a, [], _, _, h => absurd ((h x).mp List.mem_cons_self) List.not_mem_nil
  | x :: a, y :: b, ha, hb, h => by
    have h1 := List.pairwise_cons.mp ha
    have h2 := List.pairwise_cons.mp hb
    have e : x = y := by
      rcases List.mem_cons.mp ((h x).mp List.mem_cons_self) with e | m1
      · exact e
      · rcases List.mem_cons.mp ((h y).mpr List.mem_cons_self) with e | m2
        · exact e.symm
        · have := h2.1 x m1
          have := h1.1 y m2
          omega
    subst e
    rw [asc_unique h1.2 h2.2 fun z => ?_]
    constructor
    · intro hz
      rcases List.mem_cons.mp ((h z).mp (List.mem_cons_of_mem _ hz)) with e | m
      · have := h1.1 z hz; omega
      · exact m
    · intro hz
      rcases List.mem_cons.mp ((h z).mpr (List.mem_cons_of_mem _ hz)) with e | m
      · have := h2.1 z hz; omega
      · exact m
theorem insI_len {x : Int} : ∀ {l : List Int}, (insI x l).length ≤ l.length + 1
  | [] => Nat.le_refl _
  | y :: l => by
    unfold insI
    have := insI_len (x := x) (l := l)
    split
    · simp
    · split
      · simp
      · simp only [List.length_cons]; omega
theorem sdL_len : ∀ l : List Int, (sdL l).length ≤ l.length
  | [] => Nat.le_refl _
  | x :: l => by
    have h1 := insI_len (x := x) (l := sdL l)
    have h2 := sdL_len l
    unfold sdL
    rw [List.length_cons]; omega
section
variable {X : Cx} {a : Expr} {ma : M R} {p p2 q apos pos : Pos} {w : World} {K : PySem.W.Frag}
abbrev rSortSet (K : PySem.W.Frag) : V → Hp → VK → Prop := fun x H1 Q => ∃ (l : Addr) (ns : List Int), x = .ref l ∧ SqL K H1 l (ns.map V.int) ∧ ns.length ≤ 4000 ∧ ∀ p, H1 p = none → Q (.ref p) (upd H1 p (.lst ((sdL ns).map V.int)))
theorem pe_sortSet {ta : TE} (hg : Gl X "sorted") (hm : X.mg "sorted" = none) (hg2 : Gl X "set") (hm2 : X.mg "set" = none) (ha : PE X a ta) (hc : X.calm = true := by rfl)
    (na : starEach [a] X.env = (false, eval a X.env) :: starEach [] X.env := by rfl) : PE X (.Call (.Name "sorted" p) [.Call (.Name "set" p2) [a] [] q] [] pos) (fun σ H Q => ta σ H fun x H1 => rSortSet X.K x H1 Q) := by
  refine ⟨fun pins s σ H Q I h => ?_⟩
  refine Call_ (ld_blt I hg hm (u := .builtin "sorted") (by first | rfl | decide +kernel) ?_)
  refine PyProof.Rows.callWith_builtin1 (PyProof.Rows.args_cons ?_ rfl) rfl rfl
  refine Call_ (ld_blt I hg2 hm2 boot_set ?_)
  refine PyProof.Rows.callWith_type1 (PyProof.Rows.args_cons (thn (ha.run pins s σ H _ I h) fun v s1 ⟨x, H1, I1, r1, q1⟩ => PyProof.Rows.args_nil ?_) na) na rfl
  obtain ⟨l, ns, rfl, hq, hl, q1⟩ := q1
  cases r1
  obtain ⟨its, r, pl, hz⟩ := I1.list hq
  refine call_set_lstI ns (I1.ok.hd hc) pl.isList (by simpa using RZ.intsAre_vals r) (by unfold scanBound; omega) fun h' tk c hS hc2 hk => ?_
  refine PyProof.Rows.args_nil ?_
  have hs4 : (4000 : Nat) ≤ sizeLine := by decide
  have I2 : Inv X pins σ H1 { s1 with heap := h', toks := tk } := I1.kept hk
  refine sorted_setN hS (I1.ok.hd hc) (by omega) fun s' p out c' ns' k g o hp hg hi hs hm hl2 => ?_
  have en : ns' = sdL ns := asc_unique hs (sdL_pw ns) fun z => by rw [hm z, decide_eq_true_eq, mem_sdL]
  subst en
  have hlen : ((sdL ns).map V.int).length ≤ sizeLine := by rw [List.length_map, hl2]; omega
  have hn : H1 p = none := I2.hok.fresh hp
  obtain ⟨sh, hsh⟩ : ∃ sh : Shared, sh = { s1 with heap := h', toks := tk } := ⟨_, rfl⟩
  rw [← hsh] at I2 k g o hp
  have J : Inv X pins σ (upd H1 p (.lst ((sdL ns).map V.int))) { sh with heap := s'.heap, gens := s'.gens, drawn := s'.drawn, toks := s'.toks } :=
    I2.call (ch := []) (Un.laid k hp hn) (I2.hok.laid k hp ⟨hlen, out.toList, c', vals_of_ints hi, hg⟩) (by rw [g]; exact I2.bare) (fun _ z => nomatch z)
  have e : s' = { sh with heap := s'.heap, gens := s'.gens, drawn := s'.drawn, toks := s'.toks } := by
    cases s'
    cases sh
    cases o
    rfl
  rw [e]
  exact ⟨.ref p, _, J, rfl, q1 p hn⟩
def fSortSet : D → Option R
  | .lst xs => (intsD xs).bind fun ns => if ns.length ≤ 4000 then some (.t (.l ((sdL ns).map .int))) else none
  | _ => none
theorem rep_ints {st : Option (Addr × Addr)} {F : Hp} : ∀ ns : List Int, RepL w K st F (ns.map V.int) (ns.map D.int)
  | [] => .nil
  | n :: ns => .cons (.int _) (rep_ints ns)
theorem o_sortSet : Op1 w K (rSortSet K) fSortSet := fun g H x dx res Q hf hx e q => by
  unfold fSortSet at e
  split at e
  · obtain ⟨ns, h1, h2⟩ := Option.bind_eq_some_iff.mp e
    split at h2
    · rename_i hn
      cases h2
      cases hx with
      | lst ha ra => exact ⟨_, ns, rfl, SqL.of (by rw [← intsD_rep h1 ra]; exact ha), hn, fun p hp => k_lst (rep_ints _) hf q p hp⟩
    · cases h2
  · cases e
theorem e_sortSet (hc : X.calm = true) (hg : Gl X "sorted") (hm : X.mg "sorted" = none) (hg2 : Gl X "set") (hm2 : X.mg "set" = none) (ha : PX X a ma)
    (na : starEach [a] X.env = (false, eval a X.env) :: starEach [] X.env := by rfl) : PX X (.Call (.Name "sorted" p) [.Call (.Name "set" p2) [a] [] apos] [] pos) (mUn fSortSet ma) :=
  PEi (pe_sortSet hg hm hg2 hm2 ha hc na) fun σ H Q h => LE.imp (tUn_LE o_sortSet h) fun v H1 z => z
@[simp] theorem fSortSet_l {xs : List D} : fSortSet (.lst xs) = (intsD xs).bind fun ns => if ns.length ≤ 4000 then some (.t (.l ((sdL ns).map .int))) else none := rfl
end
end PD
/-! PD: xs[::-1] of lists and tuples. -/
namespace HT
open PySem PySem.Spec PyProof.Rows L2 PySem.W
section
variable {prog : Program} {w : World} {A : Around} {E : Value → Shared → Prop} {s : Shared}
theorem adj_back (n : Nat) : Builtin.Slice.sliceAdjust none none (-1) (n : Int) = ((n : Int) - 1, -1) := rfl
theorem places_back (n : Nat) : Builtin.Slice.slicePlaces ((n : Int) - 1) (-1) (-1) = n := by
  unfold Builtin.Slice.slicePlaces
  have h1 : ¬ ((-1 : Int) > 0) := by omega
  rw [if_neg h1]
  by_cases h : (n : Int) - 1 > -1
  · rw [if_pos h, show (-(-1) : Int) = 1 from rfl, Int.ediv_one]; omega
  · rw [if_neg h]; omega
theorem applied_back {sl : Addr} {vs : Value} {n : Nat} {Q : Int × Int × Nat → Shared → Prop} (hs : s.heap.IsSliceOf sl .none .none vs) (pv : IsPart vs (some (-1))) (q : Q ((n : Int) - 1, -1, n) s) :
    wpAny (model prog w) A (Builtin.Slice.sliceApplied (.ref sl) (pure (n : Int))) Q E s := by
  obtain ⟨o, at_, _, dat⟩ := hs
  unfold Builtin.Slice.sliceApplied Builtin.Slice.sliceFields
  refine wpAny_bind (wpAny_bind (wpAny_field at_ dat (x := .none) rfl (wpAny_bind (wpAny_field at_ dat (x := .none) rfl (wpAny_bind (wpAny_field at_ dat (x := vs) rfl (wpAny_pure ?_)))))))
  refine wpAny_bind (slicePart_ pv ?_)
  show wpAny _ _ (if ((-1 : Int) == 0) = true then _ else _) _ _ s
  rw [if_neg (by decide)]
  refine wpAny_bind (slicePart_none (wpAny_bind (slicePart_none (wpAny_bind (wpAny_pure ?_)))))
  show wpAny _ _ (pure ((n : Int) - 1, (-1 : Int), Builtin.Slice.slicePlaces ((n : Int) - 1) (-1) (-1))) _ _ s
  rw [places_back]
  exact wpAny_pure q
theorem fm_congr {α β : Type} {f g : α → Option β} : ∀ {l : List α}, (∀ a ∈ l, f a = g a) → l.filterMap f = l.filterMap g
  | [], _ => rfl
  | a :: l, h => by
    rw [List.filterMap_cons, List.filterMap_cons, h a List.mem_cons_self, fm_congr fun b hb => h b (List.mem_cons_of_mem _ hb)]
theorem fm_id {α : Type} : ∀ (n : Nat) (ys : List α), ys.length = n → (List.range ys.length).filterMap (fun x => ys[x]?) = ys
  | 0, ys, h => by rw [List.eq_nil_of_length_eq_zero h]; rfl
  | n + 1, ys, h => by
    obtain ⟨zs, y, rfl⟩ : ∃ zs y, ys = zs ++ [y] := by
      cases e : ys.reverse with
      | nil => rw [List.reverse_eq_nil_iff] at e; rw [e] at h; cases h
      | cons y l => exact ⟨l.reverse, y, by rw [← List.reverse_reverse ys, e, List.reverse_cons]⟩
    rw [List.length_append, List.length_singleton] at h
    have := fm_id n zs (by omega)
    rw [List.length_append, List.length_singleton, List.range_succ, List.filterMap_append]
    rw [fm_congr (g := fun x => zs[x]?) fun k hk => List.getElem?_append_left (List.mem_range.mp hk), this]
    simp
theorem fm_back {α : Type} : ∀ (xs : List α), (List.range xs.length).filterMap (fun (k : Nat) => xs[((xs.length : Int) - 1 + (k : Int) * -1).toNat]?) = xs.reverse := by
  intro xs
  have h : ∀ k ∈ List.range xs.length, xs[((xs.length : Int) - 1 + (k : Int) * -1).toNat]? = xs.reverse[k]? := by
    intro k hk
    have := List.mem_range.mp hk
    rw [List.getElem?_reverse this]
    congr 1
    omega
  rw [fm_congr h]
  have := fm_id xs.reverse.length xs.reverse rfl
  rw [List.length_reverse] at this
  exact this
theorem pick_back (xs : Array Value) : ((List.range xs.size).filterMap fun (k : Nat) => xs[((xs.size : Int) - 1 + (k : Int) * -1).toNat]?).toArray = xs.toList.reverse.toArray := by
  have := fm_back xs.toList
  rw [Array.length_toList] at this
  rw [← this]
  congr 1
  refine fm_congr fun k _ => ?_
  rw [Array.getElem?_toList]
theorem item_back {t sl : Addr} {us : Array Value} {vs : Value} {Q : Value → Shared → Prop} (ht : IsTup s.heap t us) (hs : s.heap.IsSliceOf sl .none .none vs) (pv : IsPart vs (some (-1)))
    (q : Q (.ref s.heap.objs.size) { s with heap := s.heap.push { cls := .type "tuple", data := .seq us.toList.reverse.toArray } }) (few : us.size ≤ sizeLine) : wpAny (model prog w) A (getItem (.ref t) (.ref sl)) Q E s := by
  have ok : sizeOk (.seq us.toList.reverse.toArray) := by
    show us.toList.reverse.toArray.size ≤ sizeLine
    rw [List.size_toArray, List.length_reverse, Array.length_toList]; exact few
  have ty : s.TypeIs (.ref sl) "slice" := by obtain ⟨o, at_, c, _⟩ := hs; exact ⟨o, at_, c⟩
  have is := ht.typeIs
  unfold getItem
  try with_reducible refine wpAny_holding ?_
  first | refine wpAny_bind (wpAny_pure ?_) | skip
  refine wpAny_bind (wpAny_sequenceKey is (by decide) ?_)
  refine wpAny_bind (wpAny_callSpecial?_slot (name := Str.ofString "__getitem__") is PyProof.Rows.slot_tuple_getitem (wpAny_call_entry PyProof.Rows.slot_tuple_getitem is entry_tuple_getitem ?_ (args_tuple_getitem _ _)))
  show wpAny _ _ (Builtin.Tuple.tupleItemsOf (.ref t) >>= _) _ _ s
  refine wpAny_bind (tupleItemsOf_ ht (wpAny_bind (wpAny_typeOf ty ?_)))
  rw [if_pos (by decide)]
  refine wpAny_bind (applied_back hs pv ?_)
  show wpAny _ _ (if (((us.size : Int) - 1) == 0 && (-1 : Int) == 1 && us.size == us.size) = true then _ else _) _ _ s
  rw [if_neg (by simp), pick_back]
  first
    | exact wpAny_bind (m := Builtin.Tuple.tupleExact _) (wpAny_newObj_type (wpAny_pure ⟨_, rfl, wpAny_pure q⟩) ok)
    | exact wpAny_bind (wpAny_bind (m := Builtin.Tuple.tupleExact _) (wpAny_newObj_type (wpAny_pure ⟨_, rfl, wpAny_pure q⟩) ok))
    | exact wpAny_bind (m := Builtin.Tuple.tupleExact _) (wpAny_newObj_type (wpAny_bind (wpAny_pure (wpAny_pure ⟨_, rfl, wpAny_pure q⟩))) ok)
end
end HT
namespace PD
open PySem PySem.Spec PyProof.Rows L2
section
variable {X : Cx} {e a : Expr} {ma : M R} {te : TE} {k : Nat} {p1 p2 p3 pos : Pos} {w : World} {K : PySem.W.Frag}
abbrev rRevT (K : PySem.W.Frag) : V → Hp → VK → Prop := fun x H1 Q => ∃ a xs, x = .ref a ∧ SqT K H1 a xs ∧ ∀ p, H1 p = none → Q (.ref p) (upd H1 p (.tup xs.reverse))
theorem pe_revT (he : PE X e te) : PE X (.Subscript e (.Slice none none (some (.UnaryOp .USub (.Constant (.int 1) k p1) p2)) p3) pos) (fun σ H Q => te σ H fun x H1 => rRevT X.K x H1 Q) := by
  refine ⟨fun pins s σ H Q I h => ?_⟩
  refine Subscript_ (thn (he.run pins s σ H _ I h) fun v s1 ⟨x, H1, I1, r1, a, xs, ex, hx, q⟩ => ?_)
  subst ex
  cases r1
  have back : PO X (some (.UnaryOp .USub (.Constant (.int 1) k p1) p2)) (tPart (tUn (rU fun i => .int (-i)) (tC (.int 1)))) := po_some (pe_un un_neg pe_int)
  refine wpAny_Slice (thn (po_none.run pins s1 σ H1 (fun o H2 => o = none ∧ H2 = H1) I1 ⟨rfl, rfl⟩) fun vl s2 ⟨l, H2, I2, pl, el, e2⟩ => ?_)
  subst el e2
  refine thn (po_none.run pins s2 σ H2 (fun o H3 => o = none ∧ H3 = H2) I2 ⟨rfl, rfl⟩) fun vu s3 ⟨u, H3, I3, pu, eu, e3⟩ => ?_
  subst eu e3
  refine thn (back.run pins s3 σ H3 (fun o H4 => o = some (-1) ∧ H4 = H3) I3 ⟨1, rfl, -1, rfl, rfl, rfl⟩) fun vs s4 ⟨o, H4, I4, ps, eo, e4⟩ => ?_
  subst eo e4
  cases pl
  cases pu
  have I5 : Inv X pins σ H4 { s4 with heap := s4.heap.push { cls := .type "slice", data := .fields #[.none, .none, vs] } } := I4.kept (t' := s4.toks) fun b ob q => Heap.get?_push_of_some _ q
  obtain ⟨its, r, ht, hz⟩ := I5.tuple hx
  have hlen := r.length
  show wpAny (model X.prog X.w) X.A (subscriptTail e (.Slice none none (some (.UnaryOp .USub (.Constant (.int 1) k p1) p2)) p3) (.ref a) (.ref s4.heap.objs.size)) (EP X pins σ Q) X.xe _
  refine tail_any (ops := [.ref a, .ref s4.heap.objs.size]) ht.typeIs PyProof.Rows.slot_tuple_getitem.lookup ?_ (by with_unfolding_all rfl)
  refine HT.item_back ht (Heap.IsSliceOf.new _ .none .none vs) ps ?_ (by rw [List.size_toArray]; omega)
  refine ⟨.ref _, _, I5.laid (t' := s4.toks) (o := .tup xs.reverse) (fun b ob q => Heap.get?_push_of_some _ q) (Nat.le_refl _) ?_, rfl, q _ (I5.hok.fresh (Nat.le_refl _))⟩
  exact ⟨by rw [List.length_reverse]; exact hz, _, r.reverse, IsTup.new _ _⟩
def fRevX : D → Option R
  | .lst xs => some (.t (.l xs.reverse))
  | .tup xs => some (.d (.tup xs.reverse))
  | _ => none
def fRevT : D → Option R
  | .tup xs => some (.d (.tup xs.reverse))
  | _ => none
theorem o_revT : Op1 w K (rRevT K) fRevT := fun g H x dx res Q hf hx e q => by
  unfold fRevT at e
  split at e
  · cases e
    cases hx with
    | tup ha ra => exact ⟨_, _, rfl, hf.seqT ha, fun p hp => k_tup ra.reverse hf q p hp⟩
  · cases e
theorem pe_or {t t' : TE} (h : PE X e t) (h' : PE X e t') : PE X e fun σ H Q => t σ H Q ∨ t' σ H Q :=
  ⟨fun p s σ H Q I q => q.elim (h.run p s σ H Q I) (h'.run p s σ H Q I)⟩
theorem revX_LE {m : M R} {σ : St} {H : Hp} {Q : VK} (h : LE w K (mUn fRevX m) σ H Q) : (LE w K m σ H fun x H1 => rRevL K x H1 Q) ∨ (LE w K m σ H fun x H1 => rRevT K x H1 Q) := by
  obtain ⟨g, s, G, res, s', e, q⟩ := h
  unfold mUn at e
  cases ea : m s with
  | none => rw [ea] at e; cases e
  | some p =>
    obtain ⟨ra, s1⟩ := p
    rw [ea] at e
    simp only [Option.bind_some] at e
    split at e
    · rename_i x e1
      cases x with
      | lst xs =>
        refine .inl (LE.imp (tUn_LE o_revL ⟨g, s, G, res, s', ?_, q⟩) fun v H1 z => z)
        unfold mUn
        rw [ea]
        simp only [Option.bind_some, e1]
        exact e
      | tup xs =>
        refine .inr (LE.imp (tUn_LE o_revT ⟨g, s, G, res, s', ?_, q⟩) fun v H1 z => z)
        unfold mUn
        rw [ea]
        simp only [Option.bind_some, e1]
        exact e
      | _ => cases e
    · cases e
theorem e_revX (ha : PX X a ma) : PX X (.Subscript a (.Slice none none (some (.UnaryOp .USub (.Constant (.int 1) k p1) p2)) p3) pos) (mUn fRevX ma) :=
  PEi (pe_or (pe_revL ha) (pe_revT ha)) fun σ H Q h => revX_LE h
@[simp] theorem fRevX_l {xs : List D} : fRevX (.lst xs) = some (.t (.l xs.reverse)) := rfl
@[simp] theorem fRevX_t {xs : List D} : fRevX (.tup xs) = some (.d (.tup xs.reverse)) := rfl
end
end PD
/-! PD: a, b, c = x, y, z; b a datum. -/
namespace PD
open PySem PySem.Spec PyProof.Rows L2
def isData : R → Bool
  | .d _ => true
  | _ => false
def mPar3 (i j l : Nat) (a b c : M R) : MS := fun s => (a s).bind fun p => (b p.2).bind fun q => (c q.2).bind fun r => (normR p.1 r.2).bind fun p1 => (normR q.1 p1.2).bind fun q1 => (normR r.1 q1.2).bind fun r1 =>
  if isData q1.1 = true then (setR i p1.1 r1.2).bind fun s1 => (setR j q1.1 s1).bind fun s2 => (setR l r1.1 s2).bind fun s3 => some (.nx, s3) else none
theorem par3_some {i j l : Nat} {a b c : M R} {s s' : S} {fl : Fl} (e : mPar3 i j l a b c s = some (fl, s')) : fl = .nx ∧ ∃ ra s1, a s = some (ra, s1) ∧ ∃ rb s2, b s1 = some (rb, s2) ∧ ∃ rc s3, c s2 = some (rc, s3) ∧
    ∃ ra' s4, normR ra s3 = some (ra', s4) ∧ ∃ rb' s5, normR rb s4 = some (rb', s5) ∧ ∃ rc' s6, normR rc s5 = some (rc', s6) ∧ isData rb' = true ∧ ∃ s7, setR i ra' s6 = some s7 ∧ ∃ s8, setR j rb' s7 = some s8 ∧ setR l rc' s8 = some s' := by
  unfold mPar3 at e
  obtain ⟨⟨ra, s1⟩, ea, e⟩ := Option.bind_eq_some_iff.mp e
  obtain ⟨⟨rb, s2⟩, eb, e⟩ := Option.bind_eq_some_iff.mp e
  obtain ⟨⟨rc, s3⟩, ec, e⟩ := Option.bind_eq_some_iff.mp e
  obtain ⟨⟨ra', s4⟩, na, e⟩ := Option.bind_eq_some_iff.mp e
  obtain ⟨⟨rb', s5⟩, nb, e⟩ := Option.bind_eq_some_iff.mp e
  obtain ⟨⟨rc', s6⟩, nc, e⟩ := Option.bind_eq_some_iff.mp e
  simp only at ea eb ec na nb nc e
  split at e
  · rename_i hd
    obtain ⟨s7, f1, e⟩ := Option.bind_eq_some_iff.mp e
    obtain ⟨s8, f2, e⟩ := Option.bind_eq_some_iff.mp e
    obtain ⟨s9, f3, e⟩ := Option.bind_eq_some_iff.mp e
    cases e
    exact ⟨rfl, _, _, ea, _, _, eb, _, _, ec, _, _, na, _, _, nb, _, _, nc, hd, _, f1, _, f2, f3⟩
  · cases e
section
variable {w : World} {K : PySem.W.Frag} {H : Hp} {σ : St}
theorem tPar3_LS {i j l : Nat} {a b c : M R} {D : Ends} (h : LS w K (mPar3 i j l a b c) D σ H) : tPar3 i j l (tCons (LE w K a) (tCons (LE w K b) (tCons (LE w K c) tNil))) D σ H := by
  obtain ⟨g, s, G, fl, s', e, q⟩ := h
  obtain ⟨rfl, ra, s1, ea, rb, s2, eb, rc, s3, ec, ra', s4, na, rb', s5, nb, rc', s6, nc, hd, s7, f1, s8, f2, f3⟩ := par3_some e
  clear e
  refine LE.use G ea fun v1 g1 H1 G1 E1 R1 => ?_
  refine LE.use G1 eb fun v2 g2 H2 G2 E2 R2 => ?_
  refine LE.use G2 ec fun v3 g3 H3 G3 E3 R3 => ?_
  refine ⟨v1, v2, v3, rfl, ?_⟩
  have R1' := (R1.step E2).step E3
  have R2' := R2.step E3
  have far : ∀ o1 o3 b, ra = .t o1 → rc = .t o3 → v1 = .ref b → v3 = .ref b → False := fun o1 o3 b e1 e2 e3 e4 => by
    subst e1 e2 e3 e4
    cases R1.step E2 with
    | t _ ho _ =>
      cases R3 with
      | t h0 _ _ =>
        obtain ⟨x, hx, _⟩ := ho.at_.there
        rw [hx] at h0; cases h0
  have E13 := (E1.trans E2).trans E3
  obtain ⟨g4, G4, E4, R4, nb4, keep4, t4⟩ := norm_ok G3 R1' E13 na
  obtain ⟨g5, G5, E5, R5, nb5, keep5, t5⟩ := norm_ok G4 (keep4 _ _ _ (R2'.sooner E1.dom)) E4 nb
  obtain ⟨g6, G6, E6, R6, nb6, keep6, t6⟩ := norm_ok G5 (keep5 _ _ _ (keep4 _ _ _ (R3.sooner (E1.trans E2).dom))) E5 nc
  have Ra := keep6 _ _ _ (keep5 _ _ _ R4)
  have Rb := keep6 _ _ _ R5
  cases Rb with
  | t _ _ _ => cases hd
  | b _ => cases hd
  | d hb =>
    rename_i x2
    have done : ∀ σ' s7 g7, Good w K g7 s7 σ' H3 → Ext (PD.W g s.env σ) g H (PD.W g7 s7.env σ') g7 H3 → RR w K H g7 H3 s7 σ' v3 rc' → Rep w K g7.st g7.F v2 x2 → setR j (.d x2) s7 = some s8 → D.nx ((σ'.set j (some v2)).set l (some v3)) H3 := fun σ' s7 g7 G7 E7 R7 h7 f2 => by
      cases f2
      have R8 : RR w K H g7 H3 { s7 with env := s7.env.set j (.d x2) } (σ'.set j (some v2)) v3 rc' := by
        cases R7 with
        | d h => exact .d h
        | t h0 ho hn => exact .t h0 ho fun z => hn (z.elim (fun y => .inl y.setD) .inr)
        | b _ => exact absurd rfl (nb6 _)
      obtain ⟨g9, G9, E9, _, _⟩ := setR_ok (G7.setD h7) R8 (E7.less fun b hb => .inl (hb.elim (fun z => .inl z.setD) .inr)) f3
      exact q _ g9 H3 G9 E9
    cases Ra with
    | d h =>
      cases f1
      refine done _ _ g6 (G6.setD h) (E6.less fun b hb => .inl (hb.elim (fun z => .inl z.setD) .inr)) ?_ hb f2
      cases R6 with
      | d h => exact .d h
      | t h0 ho hn => exact .t h0 ho fun z => hn (z.elim (fun y => .inl y.setD) .inr)
      | b _ => exact absurd rfl (nb6 _)
    | t h0 ho hn =>
      cases f1
      rename_i a1 o1
      have hW : ∀ b, PD.W g6 (s6.env.set i (.o o1)) (σ.set i (some (.ref a1))) b → PD.W g6 s6.env σ b ∨ b = a1 := fun b hb => by
        rcases hb with hb | hb
        · exact hb.setO.elim (fun z => .inl (.inl z)) .inr
        · exact .inl (.inr hb)
      refine done _ _ g6 (G6.setO ho hn) ⟨E6.pr, E6.dom, E6.mono, E6.newF, fun b hb => (hW b hb).elim (E6.wsub b) fun z => .inr (by rw [z]; exact h0), E6.st⟩ ?_ hb f2
      cases R6 with
      | d h => exact .d h
      | t h02 ho2 hn2 =>
        refine .t h02 ho2 fun z => ?_
        rcases hW _ z with y | y
        · exact hn2 y
        · exact far _ _ _ (t4 _ rfl) (t6 _ rfl) rfl (by rw [y])
      | b _ => exact absurd rfl (nb6 _)
    | b _ => exact absurd rfl (nb4 _)
end
section
variable {X : Cx} {a b c : Expr} {ma mb mc : M R} {pos : Pos}
theorem s_par3 {i j l : Nat} {x y z : Str} {px py pz pt : Pos} {kt k2 : Nat} {pt2 : Pos} (hc : X.calm = true) (hN : X.N.Nodup) (ha : PX X a ma) (hb : PX X b mb) (he : PX X c mc) (hi : X.N[i]? = some x := by rfl) (hj : X.N[j]? = some y := by rfl) (hl : X.N[l]? = some z := by rfl) (hij : i ≠ j := by decide) (hil : i ≠ l := by decide) (hjl : j ≠ l := by decide)
    (hx : X.env.scope.names.lookup x = some .local := by rfl) (hy : X.env.scope.names.lookup y = some .local := by rfl) (hz : X.env.scope.names.lookup z = some .local := by rfl) (h1 : starEach [a, b, c] X.env = (false, eval a X.env) :: starEach [b, c] X.env := by rfl) (h2 : starEach [b, c] X.env = (false, eval b X.env) :: starEach [c] X.env := by rfl) (h3 : starEach [c] X.env = (false, eval c X.env) :: starEach [] X.env := by rfl)
    (hw : swappedStores [.Tuple [.Name x px, .Name y py, .Name z pz] kt pt] (.Tuple [a, b, c] k2 pt2) X.env = pure (some [x, y, z]) := by rfl) (hs : swapsWithSole [.Tuple [.Name x px, .Name y py, .Name z pz] kt pt] (.Tuple [a, b, c] k2 pt2) pos.line X.env = pure false := by rfl) :
    XS X (.Assign [.Tuple [.Name x px, .Name y py, .Name z pz] kt pt] (.Tuple [a, b, c] k2 pt2) pos) (mPar3 i j l ma mb mc) :=
  PSi (ps_par3 hc hN hi hj hl hij hil hjl hx hy hz (pa_cons ha (pa_cons hb (pa_cons he pa_nil h3) h2) h1) hw hs) fun _ _ _ h => tPar3_LS h
end
section
variable {s : S} {Q : Fl → S → Prop} {i j l : Nat} {a b c : M R}
theorem wp_par3 : wp (mPar3 i j l a b c) s Q ↔ wp a s fun ra s1 => wp b s1 fun rb s2 => wp c s2 fun rc s3 => wp (normR ra) s3 fun p1 s4 => wp (normR rb) s4 fun q1 s5 => wp (normR rc) s5 fun r1 s6 => isData q1 = true ∧ ∃ s7, setR i p1 s6 = some s7 ∧ ∃ s8, setR j q1 s7 = some s8 ∧ ∃ s9, setR l r1 s8 = some s9 ∧ Q .nx s9 := by
  unfold wp
  constructor
  · rintro ⟨fl, s', e, q⟩
    obtain ⟨rfl, ra, s1, ea, rb, s2, eb, rc, s3, ec, ra', s4, na, rb', s5, nb, rc', s6, nc, hd, s7, f1, s8, f2, f3⟩ := par3_some e
    exact ⟨_, _, ea, _, _, eb, _, _, ec, _, _, na, _, _, nb, _, _, nc, hd, _, f1, _, f2, _, f3, q⟩
  · rintro ⟨ra, s1, ea, rb, s2, eb, rc, s3, ec, ra', s4, na, rb', s5, nb, rc', s6, nc, hd, s7, f1, s8, f2, s9, f3, q⟩
    refine ⟨.nx, s9, ?_, q⟩
    unfold mPar3
    simp only [ea, eb, ec, na, nb, nc, Option.bind_some, hd, if_true, f1, f2, f3]
@[simp ↓] theorem q_par3 {hm : Mk Q} : wq (mPar3 i j l a b c) s Q hm ↔ wq a s (fun ra s1 => wq b s1 (fun rb s2 => wq c s2 (fun rc s3 => wq (normR ra) s3 (fun p1 s4 => wq (normR rb) s4 (fun q1 s5 => wq (normR rc) s5 (fun r1 s6 => isData q1 = true ∧ bq (setR i p1 s6) (fun s7 => bq (setR j q1 s7) (fun s8 => bq (setR l r1 s8) (fun s9 => Q .nx s9) mk) mk) mk) mk) mk) mk) mk) mk) mk := wp_par3
@[simp] theorem isData_d {x : D} : isData (.d x) = true := rfl
end
end PD
/-! PD: while loops as plain steps; least and greatest of whole numbers. -/
namespace PD
open PySem PySem.Spec PyProof.Rows L2
section
variable {t : M Bool} {b : MS} {Q : Fl → S → Prop}
theorem wp_while (I : Nat → S → Prop) (hs : ∀ n s, I n s → wp t s fun k s1 => if k = true then wp b s1 fun fl s2 => (match fl with
    | .nx => ∃ m, m < n ∧ I m s2
    | .ct => ∃ m, m < n ∧ I m s2
    | .bk => Q .nx s2
    | .rt r => Q (.rt r) s2) else Q .nx s1) : ∀ (n : Nat) (s : S), I n s → wp (mWhile t b) s Q := by
  intro n
  induction n using Nat.strongRecOn with
  | ind n ih =>
    intro s h
    obtain ⟨k, s1, e1, h1⟩ := hs n s h
    unfold wp
    rw [mWhile_eq, e1]
    simp only [Option.bind_some]
    cases k with
    | false =>
      simp only [Bool.false_eq_true, if_false] at h1 ⊢
      exact ⟨_, _, rfl, h1⟩
    | true =>
      simp only [if_true] at h1 ⊢
      obtain ⟨fl, s2, e2, h2⟩ := h1
      rw [e2]
      simp only [Option.bind_some]
      cases fl with
      | nx => obtain ⟨m, hm, hI⟩ := h2; exact ih m hm s2 hI
      | ct => obtain ⟨m, hm, hI⟩ := h2; exact ih m hm s2 hI
      | bk => exact ⟨_, _, rfl, h2⟩
      | rt r => exact ⟨_, _, rfl, h2⟩
theorem q_while (I : Nat → S → Prop) {s : S} {hm : Mk Q} {n : Nat} (h0 : I n s) (hs : ∀ n s, I n s → wq t s (fun k s1 => if k = true then wq b s1 (fun fl s2 => match fl with
    | .nx => ∃ m, m < n ∧ I m s2
    | .ct => ∃ m, m < n ∧ I m s2
    | .bk => Q .nx s2
    | .rt r => Q (.rt r) s2) mk else Q .nx s1) mk) : wq (mWhile t b) s Q hm := wp_while I hs n s h0
end
theorem okMin_ints (l : List Int) : okMin (l.map D.int) = true := okMin_map (fun _ => pl_int) (fun _ _ => by simp [aliB, toPy, PySem.W.alike]) (fun _ => rfl) l
theorem minDat_ints (l : List Int) (a : Int) : minDat (.int a) (l.map D.int) = .int (l.foldl (fun a y => if y < a then y else a) a) := by
  induction l generalizing a with
  | nil => rfl
  | cons y l ih =>
    rw [List.map_cons, List.foldl_cons, ← ih]
    have := minDat_ii a y
    unfold minDat at this ⊢
    rw [List.foldl_cons]
    rw [List.foldl_cons, List.foldl_nil] at this
    rw [this]
theorem maxDat_ints (l : List Int) (a : Int) : maxDat (.int a) (l.map D.int) = .int (l.foldl (fun a y => if a < y then y else a) a) := by
  induction l generalizing a with
  | nil => rfl
  | cons y l ih =>
    rw [List.map_cons, List.foldl_cons, ← ih]
    have := maxDat_ii a y
    unfold maxDat at this ⊢
    rw [List.foldl_cons]
    rw [List.foldl_cons, List.foldl_nil] at this
    rw [this]
end PD
/-! PD: sum of a tuple's or a list's whole numbers. -/
namespace PD
open PySem PySem.Spec PyProof.Rows L2
def rSumT (K : PySem.W.Frag) : List V → Hp → VK → Prop := fun vs H Q => ∃ (a : Addr) (ns : List Int), vs = [V.ref a] ∧ SqT K H a (ns.map V.int) ∧ Q (.int ns.sum) H
theorem call_sumT {X : Cx} (hc : X.calm = true) : CallR X (.builtin "sum") (rSumT X.K) := by
  intro pins s σ H xs us Q I r h
  obtain ⟨a, ns, rfl, hq, q⟩ := h
  obtain ⟨u, rfl, ru⟩ := Vals.one r
  cases ru
  obtain ⟨its, rv, tp, hz⟩ := I.tuple hq
  have isT : s.heap.IsTuple a its.toArray := tp
  have hl : its.toArray.size = ns.length := by rw [List.size_toArray, ← rv.length, List.length_map]
  have hi : IntsAre its ns := RZ.intsAre_vals rv
  have hal : a < s.heap.objs.size := by obtain ⟨o, e, _⟩ := isT; exact Heap.lt_size e
  refine call_sum_walkG (wpAny_pyIter_tuple isT ?_)
  refine ⟨s.heap.objs.size, _, _, _, _, _, fun i => ns.getD i 0, rfl, Walks.tuple (prog := X.prog) (w := X.w) (A := X.A.in1) (show X.A.in1.handled = none from I.ok.hd hc) _ a (Nat.ne_of_lt hal) its.toArray, ⟨⟨_, Heap.get?_push_size _ rfl, rfl, rfl⟩, isT.push _⟩, fun b hb => ?_, fun i v hv => ?_, fun h' tk t' hk => ?_⟩
  · rw [Heap.size_push]
    have : b = s.heap.objs.size ∨ b = a := by simpa using hb
    rcases this with rfl | rfl
    · exact Nat.lt_succ_self _
    · exact Nat.lt_succ_of_lt hal
  · obtain ⟨t, e⟩ := PyProof.Rows.IntsAre.int_at hi i v (by simpa using hv)
    exact ⟨t, e⟩
  · rw [PyProof.Rows.preSum_getD, hl, List.take_length]
    refine ⟨.int ns.sum, H, I.kept (fun b o e => ?_), ⟨_, rfl⟩, q⟩
    exact hk b o (fun z => by rw [List.mem_singleton.mp z] at e; exact absurd (Heap.lt_size e) (Nat.lt_irrefl _)) (Heap.get?_push_of_some _ e)
def rSumX (K : PySem.W.Frag) : List V → Hp → VK → Prop := fun vs H Q => rSum K vs H Q ∨ rSumT K vs H Q
theorem call_sumX {X : Cx} (hc : X.calm = true) : CallR X (.builtin "sum") (rSumX X.K) := fun pins s σ H xs us Q I r h => h.elim (fun h => cr_sum hc pins s σ H xs us Q I r h) fun h => call_sumT hc pins s σ H xs us Q I r h
def fSumX : List D → Option R
  | [.tup xs] => (intsD xs).map fun ns => .d (.int ns.sum)
  | xs => fSum xs
theorem o_sumX {w : World} {K : PySem.W.Frag} : OpN w K (rSumX K) fSumX := fun g H xs ds res Q hf hx e q => by
  unfold fSumX at e
  split at e
  · obtain ⟨ns, e1, rfl⟩ := Option.map_eq_some_iff.mp e
    cases hx with
    | cons a b =>
      cases b
      cases a with
      | tup ha ra => exact .inr ⟨_, ns, rfl, by rw [← intsD_rep e1 ra]; exact hf.seqT ha, k_int hf q⟩
  · exact .inl (o_sum g H xs _ res Q hf hx e q)
@[simp] theorem fSumX_t {xs : List D} : fSumX [.tup xs] = (intsD xs).map fun ns => .d (.int ns.sum) := rfl
@[simp] theorem fSumX_l {xs : List D} : fSumX [.lst xs] = (intsD xs).map fun ns => .d (.int ns.sum) := rfl
end PD
/-! PD: wide shifts. -/
namespace PD
open PySem PySem.Spec PyProof.Rows L2
def fShlW : D → D → Option R
  | .int i, .int j => if 0 ≤ j ∧ j ≤ 1000000 ∧ Builtin.Int.intBits i ≤ 1000000 then some (.d (.int (i * 2 ^ j.toNat))) else none
  | _, _ => none
theorem o_shlW {w : World} {K : PySem.W.Frag} : Op2 w K (rI CShl fun i j => .int (i * 2 ^ j.toNat)) fShlW := fun g H x y dx dy res Q hf hx hy e q => by
  unfold fShlW at e
  split at e
  · split at e
    · rename_i hc
      cases e; cases hx; cases hy
      refine ⟨_, _, rfl, rfl, ⟨hc.1, ?_⟩, k_int hf q⟩
      have e : (2 : Int) ^ 27 = 134217728 := by decide
      rw [e]; omega
    · cases e
  · cases e
theorem e_shlW {X : Cx} {a b : Expr} {ma mb : M R} {pos : Pos} (ha : PX X a ma) (hb : PX X b mb) : PX X (.BinOp a .LShift b pos) (mBin fShlW ma mb) := e_op op_shlW o_shlW ha hb
theorem fShlW_n {n j k : Nat} (hn : n < 2 ^ k) (hk : k ≤ 1000000) (hj : j ≤ 1000000) : fShlW (.int (n : Nat)) (.int (j : Nat)) = some (.d (.int ((n * 2 ^ j : Nat) : Int))) := by
  unfold fShlW
  have b := PyProof.Rows.intBits_le (a := (n : Int)) (k := k) (by rw [Int.natAbs_natCast]; exact hn)
  simp only []
  rw [if_pos ⟨by omega, by omega, by omega⟩, Int.toNat_natCast]
  congr 3
theorem fShr_n {n j : Nat} : fShr (.int (n : Nat)) (.int (j : Nat)) = some (.d (.int ((n / 2 ^ j : Nat) : Int))) := by
  unfold fShr
  simp only []
  rw [if_pos (by omega), Int.toNat_natCast]
  congr 3
theorem fAnd_n {a b : Nat} : fAnd (.int (a : Nat)) (.int (b : Nat)) = some (.d (.int ((a &&& b : Nat) : Int))) := by
  unfold fAnd
  simp only []
  rw [PySem.W.os_band]
theorem bitOr_n {a b : Nat} : Builtin.bitOr (a : Int) (b : Int) = ((a ||| b : Nat) : Int) := by
  have nn : ∀ x : Int, Builtin.bitNot (Builtin.bitNot x) = x := fun x => by unfold Builtin.bitNot; omega
  have h1 : ∀ c : Nat, decide (0 ≤ Builtin.bitNot (c : Int)) = false := fun c => decide_eq_false (by unfold Builtin.bitNot; omega)
  unfold Builtin.bitOr Builtin.bitAnd
  rw [h1, h1]
  simp only [nn, Int.toNat_natCast]
theorem fOr_n {a b : Nat} : fOr (.int (a : Nat)) (.int (b : Nat)) = some (.d (.int ((a ||| b : Nat) : Int))) := by
  unfold fOr
  simp only []
  rw [bitOr_n]
end PD
namespace K02
open PySem PySem.Spec PyProof.Rows L2 PD
def topS (i : Nat) : Stmt := PySem.Challenge.pw_foldedflat_k02_whole_least_lays_of_ruler.main.body.getD i (.Pass ⟨0, 0, 0, 0⟩)
abbrev s_case_of : Stmt := topS 1
abbrev s_kept_rows : Stmt := topS 2
abbrev s_lay_within : Stmt := topS 3
abbrev s_least_case : Stmt := topS 4
abbrev s_told_lay : Stmt := topS 5
abbrev s_halves_ruler : Stmt := topS 6
abbrev s_half_of : Stmt := topS 7
abbrev s__law_state : Stmt := topS 9
abbrev s__law_draw : Stmt := topS 10
abbrev s__law_one : Stmt := topS 11
abbrev s__law_case : Stmt := topS 12
abbrev s__law_lay : Stmt := topS 13
abbrev s__law_half : Stmt := topS 14
abbrev s_law : Stmt := topS 15
theorem sc_case_of : FnScope ["ruler", "lay", "here", "least", "greatest", "length", "way"] ["ruler", "lay"] (defScope s_case_of) := ⟨rfl, rfl, rfl, by decide +kernel, rfl, by decide +kernel, by decide +kernel⟩
theorem sc_kept_rows : FnScope ["ruler", "size", "told", "length", "good", "place"] ["ruler", "size"] (defScope s_kept_rows) := ⟨rfl, rfl, rfl, by decide +kernel, rfl, by decide +kernel, by decide +kernel⟩
theorem sc_lay_within : FnScope ["ruler", "size", "rows", "found", "at", "length", "good", "steps", "place", "lay"] ["ruler", "size"] (defScope s_lay_within) := ⟨rfl, rfl, rfl, by decide +kernel, rfl, by decide +kernel, by decide +kernel⟩
theorem sc_least_case : FnScope ["ruler", "size"] ["ruler"] (defScope s_least_case) := ⟨rfl, rfl, rfl, by decide +kernel, rfl, by decide +kernel, by decide +kernel⟩
theorem sc_told_lay : FnScope ["ruler", "length", "size", "here", "told"] ["ruler"] (defScope s_told_lay) := ⟨rfl, rfl, rfl, by decide +kernel, rfl, by decide +kernel, by decide +kernel⟩
theorem sc_halves_ruler : FnScope ["numbers", "whole"] ["numbers"] (defScope s_halves_ruler) := ⟨rfl, rfl, rfl, by decide +kernel, rfl, by decide +kernel, by decide +kernel⟩
theorem sc_half_of : FnScope ["numbers", "whole", "left", "number", "here", "total", "need", "told", "at"] ["numbers"] (defScope s_half_of) := ⟨rfl, rfl, rfl, by decide +kernel, rfl, by decide +kernel, by decide +kernel⟩
theorem sc__law_state : FnScope ["script", "seed", "cell"] ["script"] (defScope s__law_state) := ⟨rfl, rfl, rfl, by decide +kernel, rfl, by decide +kernel, by decide +kernel⟩
theorem sc__law_draw : FnScope ["state", "many", "cells", "mixed", "value"] ["state", "many"] (defScope s__law_draw) := ⟨rfl, rfl, rfl, by decide +kernel, rfl, by decide +kernel, by decide +kernel⟩
theorem sc__law_one : FnScope ["state", "some"] ["state", "some"] (defScope s__law_one) := ⟨rfl, rfl, rfl, by decide +kernel, rfl, by decide +kernel, by decide +kernel⟩
theorem sc__law_case : FnScope ["ruler", "lay", "here", "row", "one", "letter"] ["ruler", "lay"] (defScope s__law_case) := ⟨rfl, rfl, rfl, by decide +kernel, rfl, by decide +kernel, by decide +kernel⟩
theorem sc__law_lay : FnScope ["ruler", "size", "full", "kept", "one", "here", "told", "k", "left"] ["ruler", "size"] (defScope s__law_lay) := ⟨rfl, rfl, rfl, by decide +kernel, rfl, by decide +kernel, by decide +kernel⟩
theorem sc__law_half : FnScope ["numbers", "whole", "left", "one", "need", "told", "k", "total"] ["numbers"] (defScope s__law_half) := ⟨rfl, rfl, rfl, by decide +kernel, rfl, by decide +kernel, by decide +kernel⟩
theorem sc_law : FnScope ["script", "state", "turn", "most", "ruler", "top", "least", "size", "lay", "one", "numbers", "here", "told", "right", "s", "k"] ["script"] (defScope s_law) := ⟨rfl, rfl, rfl, by decide +kernel, rfl, by decide +kernel, by decide +kernel⟩
noncomputable def b_case_of_1 : MS := (mThen (mAug 2 addI (mIf (mTest (mBin fEq (mVar 6) (mC (.str [114])))) (mVar 5) (mUn fNeg (mVar 5))))
    (mPar 3 4 (mPrim fMinX (mArgs [(mVar 3), (mVar 2)])) (mPrim fMaxX (mArgs [(mVar 4), (mVar 2)]))))
noncomputable def m_case_of : MS := (mThen (mAsg (tgT (tgCons (tgN 2) (tgCons (tgN 3) (tgCons (tgN 4) tgNil)))) (mTup [(mC (.int 0)), (mC (.int 0)), (mC (.int 0))]))
    (mThen (mFor (mItA fZ2 [(mVar 0), (mVar 1)]) (tgT (tgCons (tgN 5) (tgCons (tgN 6) tgNil))) b_case_of_1)
    (mRetS (mBin fSub (mVar 4) (mVar 3)))))
noncomputable def f_case_of : Fn := runFn 2 5 m_case_of
noncomputable def b_kept_rows_1 : MS := (mThen (mSet 4 (mDc (mIt (mBin fIx (mVar 2) (mUn fNeg (mC (.int 1))))) (tgN 5) mYes (mVar 5) (mC (.bl true)) [5]))
    (mDrop (mMut "list" fAppend (mVar 2) [(mLc (mItA fRng1 [(mBin fAdd (mVar 1) (mC (.int 1)))]) (tgN 5) (mOr (mTest (mBin fIn (mBin fAdd (mVar 5) (mVar 3)) (mVar 4))) (mTest (mBin fIn (mBin fSub (mVar 5) (mVar 3)) (mVar 4)))) (mVar 5) [5])])))
noncomputable def m_kept_rows : MS := (mThen (mSet 2 (mLst [(mUn fLstRg1 (mBin fAdd (mVar 1) (mC (.int 1))))]))
    (mThen (mFor (mIt (mUn fRevX (mVar 0))) (tgN 3) b_kept_rows_1)
    (mRetS (mUn fRevX (mVar 2)))))
noncomputable def f_kept_rows : Fn := runFn 2 4 m_kept_rows
noncomputable def b_lay_within_1 : MS := (mThen (mIfS (mTest (mBin fIn (mBin fSub (mVar 8) (mVar 5)) (mVar 6))) (mDrop (mMut "list" fAppend (mVar 7) [(mTup [(mBin fAdd (mVar 9) (mC (.str [108]))), (mBin fSub (mVar 8) (mVar 5))])])) mSkip)
    (mIfS (mTest (mBin fIn (mBin fAdd (mVar 8) (mVar 5)) (mVar 6))) (mDrop (mMut "list" fAppend (mVar 7) [(mTup [(mBin fAdd (mVar 9) (mC (.str [114]))), (mBin fAdd (mVar 8) (mVar 5))])])) mSkip))
noncomputable def b_lay_within_2 : MS := (mAsg (tgSub (mVar 3) (mVar 8)) (mVar 9))
noncomputable def b_lay_within_3 : MS := (mThen (mSet 6 (mDc (mIt (mBin fIx (mVar 2) (mBin fAdd (mVar 4) (mC (.int 1))))) (tgN 8) mYes (mVar 8) (mC (.bl true)) [8]))
    (mThen (mSet 7 (mLst []))
    (mThen (mFor (mItI (mVar 3)) (tgT (tgCons (tgN 8) (tgCons (tgN 9) tgNil))) b_lay_within_1)
    (mThen (mSet 3 mDNew)
    (mFor (mIt (mUn fRevX (mPrim fSorted (mArgs [(mVar 7)])))) (tgT (tgCons (tgN 9) (tgCons (tgN 8) tgNil))) b_lay_within_2)))))
noncomputable def m_lay_within : MS := (mThen (mSet 2 (mCall f_kept_rows (mArgs [(mVar 0), (mVar 1)])))
    (mThen (mIfS (mTest (mBin fEq (mPrim fLen (mArgs [(mBin fIx (mVar 2) (mC (.int 0)))])) (mC (.int 0)))) (mRetS (mC .non)) mSkip)
    (mThen (mSet 3 (mDc (mIt (mBin fIx (mVar 2) (mC (.int 0)))) (tgN 8) mYes (mVar 8) (mC (.str [])) [8]))
    (mThen (mFor (mItA fEn [(mVar 0)]) (tgT (tgCons (tgN 4) (tgCons (tgN 5) tgNil))) b_lay_within_3)
    (mRetS (mUn fMinV (mVar 3)))))))
noncomputable def f_lay_within : Fn := runFn 2 8 m_lay_within
noncomputable def b_least_case_1 : MS := (mAug 1 addI (mC (.int 1)))
noncomputable def m_least_case : MS := (mThen (mSet 1 (mPrim fMaxX (mArgs [(mVar 0)])))
    (mThen (mWhile (mTest (mBin fEq (mPrim fLen (mArgs [(mBin fIx (mCall f_kept_rows (mArgs [(mVar 0), (mVar 1)])) (mC (.int 0)))])) (mC (.int 0)))) b_least_case_1)
    (mRetS (mVar 1))))
noncomputable def f_least_case : Fn := runFn 1 1 m_least_case
noncomputable def b_told_lay_1 : MS := (mIfS (mTest (mBin fLe (mBin fAdd (mVar 3) (mVar 1)) (mVar 2))) (mPar 3 4 (mBin fAdd (mVar 3) (mVar 1)) (mBin fAdd (mVar 4) (mC (.str [114])))) (mPar 3 4 (mBin fSub (mVar 3) (mVar 1)) (mBin fAdd (mVar 4) (mC (.str [108])))))
noncomputable def m_told_lay : MS := (mThen (mPar3 2 3 4 (mBin fMulX (mC (.int 2)) (mPrim fMaxX (mArgs [(mVar 0)]))) (mC (.int 0)) (mC (.str [])))
    (mThen (mFor (mIt (mVar 0)) (tgN 1) b_told_lay_1)
    (mRetS (mVar 4))))
noncomputable def f_told_lay : Fn := runFn 1 4 m_told_lay
noncomputable def m_halves_ruler : MS := (mThen (mSet 1 (mPrim fSumX (mArgs [(mVar 0)])))
    (mRetS (mBin fAdd (mBin fAdd (mTup [(mVar 1), (mBin fDiv (mVar 1) (mC (.int 2)))]) (mPrim fTuple (mArgs [(mVar 0)]))) (mTup [(mBin fDiv (mVar 1) (mC (.int 2))), (mVar 1)]))))
noncomputable def f_halves_ruler : Fn := runFn 1 1 m_halves_ruler
noncomputable def b_half_of_1 : MS := (mAsg (tgSub (mVar 4) (mBin fAdd (mVar 5) (mVar 3))) (mC (.bl true)))
noncomputable def b_half_of_2 : MS := (mThen (mSet 4 (mPrim fDictZ (mArgs [(mBin fIx (mVar 2) (mUn fNeg (mC (.int 1))))])))
    (mThen (mFor (mIt (mBin fIx (mVar 2) (mUn fNeg (mC (.int 1))))) (tgN 5) b_half_of_1)
    (mDrop (mMut "list" fAppend (mVar 2) [(mVar 4)]))))
noncomputable def b_half_of_3 : MS := (mIfS (mAnd (mTest (mBin fGe (mVar 6) (mVar 3))) (mAnd (mTest (mBin fIn (mBin fSub (mVar 6) (mVar 3)) (mBin fIx (mVar 2) (mBin fAdd (mVar 8) (mC (.int 1)))))) (mTest (mBin fGt (mVar 6) (mC (.int 0)))))) (mThen (mDrop (mMut "list" fAppend (mVar 7) [(mVar 8)]))
    (mAug 6 subI (mVar 3))) mSkip)
noncomputable def m_half_of : MS := (mThen (mSet 1 (mPrim fSumX (mArgs [(mVar 0)])))
    (mThen (mIfS (mTest (mBin fEq (mBin fMod (mVar 1) (mC (.int 2))) (mC (.int 1)))) (mRetS (mC .non)) mSkip)
    (mThen (mSet 2 (mLst [(mDOne 0 true)]))
    (mThen (mFor (mIt (mUn fRevX (mVar 0))) (tgN 3) b_half_of_2)
    (mThen (mSet 2 (mUn fRevX (mVar 2)))
    (mThen (mPar 6 7 (mBin fDiv (mVar 1) (mC (.int 2))) (mLst []))
    (mThen (mIfS (mTest (mBin fNotIn (mVar 6) (mBin fIx (mVar 2) (mC (.int 0))))) (mRetS (mC .non)) mSkip)
    (mThen (mFor (mItA fEn [(mVar 0)]) (tgT (tgCons (tgN 8) (tgCons (tgN 3) tgNil))) b_half_of_3)
    (mRetS (mPrim fTuple (mArgs [(mVar 7)])))))))))))
noncomputable def f_half_of : Fn := runFn 1 8 m_half_of
noncomputable def m__law_one : MS := (mRetS (mBin fIx (mVar 1) (mCall f__law_draw (mArgs [(mVar 0), (mPrim fLen (mArgs [(mVar 1)]))]))))
noncomputable def f__law_one : Fn := runFn 2 0 m__law_one
noncomputable def b__law_case_1 : MS := (mThen (mSet 2 (mIf (mTest (mBin fEq (mVar 5) (mC (.str [114])))) (mBin fAdd (mVar 2) (mVar 4)) (mBin fSub (mVar 2) (mVar 4))))
    (mDrop (mMut "list" fAppend (mVar 3) [(mVar 2)])))
noncomputable def m__law_case : MS := (mThen (mPar 2 3 (mC (.int 0)) (mLst [(mC (.int 0))]))
    (mThen (mFor (mItA fZ2 [(mVar 0), (mVar 1)]) (tgT (tgCons (tgN 4) (tgCons (tgN 5) tgNil))) b__law_case_1)
    (mRetS (mBin fSub (mPrim fMaxX (mArgs [(mVar 3)])) (mPrim fMinX (mArgs [(mVar 3)]))))))
noncomputable def f__law_case : Fn := runFn 2 4 m__law_case
noncomputable def b__law_lay_1 : MS := (mDrop (mMut "list" fAppend (mVar 3) [(mBin fAnd (mBin fOr (mBin fShlW (mBin fIx (mVar 3) (mUn fNeg (mC (.int 1)))) (mVar 4)) (mBin fShr (mBin fIx (mVar 3) (mUn fNeg (mC (.int 1)))) (mVar 4))) (mVar 2))]))
noncomputable def b__law_lay_2 : MS := (mThen (mSet 8 (mBin fAnd (mBin fShr (mVar 5) (mVar 4)) (mBin fIx (mVar 3) (mBin fAdd (mVar 7) (mC (.int 1))))))
    (mThen (mSet 5 (mIf (mTest (mBin fGt (mVar 8) (mC (.int 0)))) (mVar 8) (mBin fAnd (mBin fShlW (mVar 5) (mVar 4)) (mBin fIx (mVar 3) (mBin fAdd (mVar 7) (mC (.int 1)))))))
    (mSet 6 (mBin fAdd (mVar 6) (mIf (mTest (mBin fGt (mVar 8) (mC (.int 0)))) (mC (.str [108])) (mC (.str [114])))))))
noncomputable def m__law_lay : MS := (mThen (mSet 2 (mBin fSub (mBin fShlW (mC (.int 1)) (mBin fAdd (mPrim fMaxX (mArgs [(mVar 1), (mUn fNeg (mC (.int 1)))])) (mC (.int 1)))) (mC (.int 1))))
    (mThen (mSet 3 (mLst [(mVar 2)]))
    (mThen (mFor (mIt (mUn fRevX (mVar 0))) (tgN 4) b__law_lay_1)
    (mThen (mSet 3 (mUn fRevX (mVar 3)))
    (mThen (mPar 5 6 (mBin fIx (mVar 3) (mC (.int 0))) (mC (.str [])))
    (mThen (mIfS (mTest (mBin fEq (mVar 5) (mC (.int 0)))) (mRetS (mC .non)) mSkip)
    (mThen (mFor (mItA fEn [(mVar 0)]) (tgT (tgCons (tgN 7) (tgCons (tgN 4) tgNil))) b__law_lay_2)
    (mRetS (mVar 6)))))))))
noncomputable def f__law_lay : Fn := runFn 2 7 m__law_lay
noncomputable def b__law_half_1 : MS := (mDrop (mMut "list" fAppend (mVar 2) [(mUn fSortSet (mBin fAdd (mBin fIx (mVar 2) (mUn fNeg (mC (.int 1)))) (mLc (mIt (mBin fIx (mVar 2) (mUn fNeg (mC (.int 1))))) (tgN 7) mYes (mBin fAdd (mVar 7) (mVar 3)) [7])))]))
noncomputable def b__law_half_2 : MS := (mIfS (mAnd (mTest (mBin fGt (mVar 4) (mC (.int 0)))) (mTest (mBin fIn (mBin fSub (mVar 4) (mVar 3)) (mBin fIx (mVar 2) (mBin fAdd (mVar 6) (mC (.int 1))))))) (mThen (mDrop (mMut "list" fAppend (mVar 5) [(mVar 6)]))
    (mSet 4 (mBin fSub (mVar 4) (mVar 3)))) mSkip)
noncomputable def m__law_half : MS := (mThen (mSet 1 (mPrim fSumX (mArgs [(mVar 0)])))
    (mThen (mIfS (mTest (mBin fEq (mBin fMod (mVar 1) (mC (.int 2))) (mC (.int 1)))) (mRetS (mC .non)) mSkip)
    (mThen (mSet 2 (mLst [(mLst [(mC (.int 0))])]))
    (mThen (mFor (mIt (mUn fRevX (mVar 0))) (tgN 3) b__law_half_1)
    (mThen (mPar3 2 4 5 (mUn fRevX (mVar 2)) (mPrim fInt (mArgs [(mBin fDiv (mVar 1) (mC (.int 2)))])) (mLst []))
    (mThen (mIfS (mTest (mBin fNotIn (mVar 4) (mBin fIx (mVar 2) (mC (.int 0))))) (mRetS (mC .non)) mSkip)
    (mThen (mFor (mItA fEn [(mVar 0)]) (tgT (tgCons (tgN 6) (tgCons (tgN 3) tgNil))) b__law_half_2)
    (mRetS (mPrim fTuple (mArgs [(mVar 5)]))))))))))
noncomputable def f__law_half : Fn := runFn 1 7 m__law_half
noncomputable def b_law_1 : MS := (mAug 6 addI (mC (.int 1)))
noncomputable def b_law_2 : MS := (mIfS (mTest (mBin fNe (mCall f_lay_within (mArgs [(mVar 4), (mVar 7)])) (mCall f__law_lay (mArgs [(mVar 4), (mVar 7)])))) (mRetS (mC (.bl false))) mSkip)
noncomputable def b_law_3 : MS := (mThen (mSet 13 (mBin fLe (mBin fAdd (mVar 11) (mVar 9)) (mVar 5)))
    (mPar 11 12 (mIf (mTru (mVar 13)) (mBin fAdd (mVar 11) (mVar 9)) (mBin fSub (mVar 11) (mVar 9))) (mBin fAdd (mVar 12) (mIf (mTru (mVar 13)) (mC (.str [114])) (mC (.str [108]))))))
noncomputable def b_law_4 : MS := (mThen (mSet 3 (mCall f__law_one (mArgs [(mVar 1), (mLst [(mC (.int 3)), (mC (.int 12)), (mC (.int 60)), (mC (.int 300))])])))
    (mThen (mSet 4 (mPrim fTuple (mArgs [(mLc (mItA fRng1 [(mBin fAdd (mC (.int 1)) (mCall f__law_draw (mArgs [(mVar 1), (mCall f__law_one (mArgs [(mVar 1), (mLst [(mC (.int 7)), (mC (.int 20)), (mC (.int 40))])]))])))]) (tgN 15) mYes (mBin fAdd (mC (.int 1)) (mCall f__law_draw (mArgs [(mVar 1), (mVar 3)]))) [15])])))
    (mThen (mSet 5 (mBin fMulX (mC (.int 2)) (mPrim fMaxX (mArgs [(mVar 4)]))))
    (mThen (mSet 6 (mPrim fMaxX (mArgs [(mVar 4)])))
    (mThen (mWhile (mTest (mBin fIsN (mCall f__law_lay (mArgs [(mVar 4), (mVar 6)])) (mC .non))) b_law_1)
    (mThen (mIfS (mOr (mTest (mBin fNe (mCall f_least_case (mArgs [(mVar 4)])) (mVar 6))) (mTest (mBin fGt (mVar 6) (mVar 5)))) (mRetS (mC (.bl false))) mSkip)
    (mThen (mFor (mIt (mTup [(mBin fSub (mVar 6) (mC (.int 1))), (mVar 6), (mBin fAdd (mVar 6) (mCall f__law_draw (mArgs [(mVar 1), (mC (.int 9))]))), (mVar 5)])) (tgN 7) b_law_2)
    (mThen (mSet 8 (mMethT "str" fJoin (mC (.str [])) [(mLc (mIt (mVar 4)) (tgN 9) mYes (mCall f__law_one (mArgs [(mVar 1), (mLst [(mC (.str [108])), (mC (.str [114]))])])) [9])]))
    (mThen (mIfS (mOr (mTest (mBin fNe (mCall f_case_of (mArgs [(mVar 4), (mVar 8)])) (mCall f__law_case (mArgs [(mVar 4), (mVar 8)])))) (mTest (mBin fNe (mCall f__law_case (mArgs [(mVar 4), (mCall f__law_lay (mArgs [(mVar 4), (mVar 6)]))])) (mVar 6)))) (mRetS (mC (.bl false))) mSkip)
    (mThen (mAsg (tgT (tgCons (tgN 11) (tgCons (tgN 12) tgNil))) (mTup [(mC (.int 0)), (mC (.str []))]))
    (mThen (mFor (mIt (mVar 4)) (tgN 9) b_law_3)
    (mThen (mIfS (mTest (mBin fNe (mCall f_told_lay (mArgs [(mVar 4)])) (mVar 12))) (mRetS (mC (.bl false))) mSkip)
    (mThen (mSet 10 (mPrim fTuple (mArgs [(mLc (mItA fRng1 [(mBin fAdd (mC (.int 1)) (mCall f__law_draw (mArgs [(mVar 1), (mC (.int 16))])))]) (tgN 15) mYes (mBin fAdd (mC (.int 1)) (mCall f__law_draw (mArgs [(mVar 1), (mCall f__law_one (mArgs [(mVar 1), (mLst [(mC (.int 4)), (mC (.int 12))])]))]))) [15])])))
    (mThen (mIfS (mTest (mBin fNe (mCall f_half_of (mArgs [(mVar 10)])) (mCall f__law_half (mArgs [(mVar 10)])))) (mRetS (mC (.bl false))) mSkip)
    (mIfS (mTest (mBin fEq (mBin fMod (mPrim fSumX (mArgs [(mVar 10)])) (mC (.int 2))) (mC (.int 0)))) (mThen (mSet 14 (mPrim fInt (mArgs [(mBin fDiv (mPrim fSumX (mArgs [(mVar 10)])) (mC (.int 2)))])))
    (mThen (mIfS (mTest (mBin fNe (mCall f_halves_ruler (mArgs [(mVar 10)])) (mBin fAdd (mBin fAdd (mTup [(mBin fMulX (mC (.int 2)) (mVar 14)), (mVar 14)]) (mVar 10)) (mTup [(mVar 14), (mBin fMulX (mC (.int 2)) (mVar 14))])))) (mRetS (mC (.bl false))) mSkip)
    (mIfS (mAnd (mTest (mBin fLe (mBin fMulX (mC (.int 2)) (mVar 14)) (mC (.int 300)))) (mAnd (mTest (mBin fLe (mPrim fLen (mArgs [(mVar 10)])) (mC (.int 12)))) (mTest (mBin fNe (mBin fEq (mCall f_least_case (mArgs [(mBin fAdd (mBin fAdd (mTup [(mBin fMulX (mC (.int 2)) (mVar 14)), (mVar 14)]) (mVar 10)) (mTup [(mVar 14), (mBin fMulX (mC (.int 2)) (mVar 14))]))])) (mBin fMulX (mC (.int 2)) (mVar 14))) (mBin fNotN (mCall f__law_half (mArgs [(mVar 10)])) (mC .non)))))) (mRetS (mC (.bl false))) mSkip))) mSkip)))))))))))))))
noncomputable def m_law : MS := (mThen (mSet 1 (mCall f__law_state (mArgs [(mVar 0)])))
    (mThen (mFor (mItA fRng1 [(mC (.int 3))]) (tgN 2) b_law_4)
    (mRetS (mBin fEq (mCall f_lay_within (mArgs [(mTup [(mC (.int 1)), (mC (.int 2)), (mC (.int 3)), (mC (.int 4)), (mC (.int 5)), (mC (.int 4)), (mC (.int 3)), (mC (.int 2)), (mC (.int 1))]), (mC (.int 5))])) (mCall f__law_lay (mArgs [(mTup [(mC (.int 1)), (mC (.int 2)), (mC (.int 3)), (mC (.int 4)), (mC (.int 5)), (mC (.int 4)), (mC (.int 3)), (mC (.int 2)), (mC (.int 1))]), (mC (.int 5))]))))))
noncomputable def f_law : Fn := runFn 1 15 m_law
section
variable {P : Program} {w : World} {K : PySem.W.Frag} {mg : Str → Option Value} {base : Heap}
abbrev bodySeed : MS := mSet 1 (mBin fMod (mPrim fInt (mArgs [mBin fAdd (mBin fMul (mVar 1) (mC (.int 31))) (mVar 2)])) (mC (.int 1000003)))
theorem seed_step (sd n : Int) (x : D) : bodySeed ⟨[.d x, .d (.int sd), .d (.int n)], none⟩ = some (.nx, ⟨[.d x, .d (.int ((sd * 31 + n).fmod 1000003)), .d (.int n)], none⟩) := by
  have hm : CMul sd 31 := .inr ⟨by decide, by decide⟩
  simp [bodySeed, mSet, mBin, mPrim, mArgs, mVar, mC, peeks, R.peek, Sl.peek, fMul, fAdd, fInt, fMod, hm, setR]
theorem seed_loop : ∀ (ns : List Int) (sd : Int) (x : D) (o : Sl), ∃ o', mLoop (tgN 2) bodySeed (ns.map .int) ⟨[.d x, .d (.int sd), o], none⟩ = some (.nx, ⟨[.d x, .d (.int (ns.foldl (fun s c => (s * 31 + c).fmod 1000003) sd)), o'], none⟩)
  | [], sd, x, o => ⟨o, rfl⟩
  | n :: ns, sd, x, o => by
    obtain ⟨o', e⟩ := seed_loop ns ((sd * 31 + n).fmod 1000003) x (.d (.int n))
    refine ⟨o', ?_⟩
    rw [List.map_cons, List.foldl_cons, ← e]
    show ((tgN 2 (.int n) ⟨[.d x, .d (.int sd), o], none⟩).bind fun s1 => (bodySeed s1).bind fun p => bodyF (mLoop (tgN 2) bodySeed (ns.map .int)) p.1 p.2) = _
    have e1 : tgN 2 (.int n) ⟨[.d x, .d (.int sd), o], none⟩ = some ⟨[.d x, .d (.int sd), .d (.int n)], none⟩ := rfl
    rw [e1, Option.bind_some, seed_step]; rfl
abbrev eltAbs : M R := mPrim fAbs (mArgs [mVar 2])
theorem abs_loop : ∀ (ns : List Int) (x y : D), lcLoop (tgN 2) mYes eltAbs [2] (ns.map .int) ⟨[.d x, .d y, .no], none⟩ = some (ns.map fun n => .int (absI n), ⟨[.d x, .d y, .no], none⟩)
  | [], x, y => rfl
  | n :: ns, x, y => by
    have ih := abs_loop ns x y
    have e1 : eltAbs ⟨[.d x, .d y, .d (.int n)], none⟩ = some (.d (.int (absI n)), ⟨[.d x, .d y, .d (.int n)], none⟩) := rfl
    show ((tgN 2 (.int n) ⟨[.d x, .d y, .no], none⟩).bind fun s1 => (mYes s1).bind fun p => if p.1 = true then (eltAbs p.2).bind fun r => (mShare r.1 r.2).bind fun q => (lcLoop (tgN 2) mYes eltAbs [2] (ns.map .int) (wipeS [2] q.2)).bind fun z => some (q.1 :: z.1, z.2) else lcLoop (tgN 2) mYes eltAbs [2] (ns.map .int) (wipeS [2] p.2)) = _
    have e0 : tgN 2 (.int n) ⟨[.d x, .d y, .no], none⟩ = some ⟨[.d x, .d y, .d (.int n)], none⟩ := rfl
    rw [e0, Option.bind_some]
    show ((eltAbs ⟨[.d x, .d y, .d (.int n)], none⟩).bind fun r => (mShare r.1 r.2).bind fun q => (lcLoop (tgN 2) mYes eltAbs [2] (ns.map .int) (wipeS [2] q.2)).bind fun z => some (q.1 :: z.1, z.2)) = _
    rw [e1, Option.bind_some]
    have e2 : mShare (.d (.int (absI n))) ⟨[.d x, .d y, .d (.int n)], none⟩ = some (.int (absI n), ⟨[.d x, .d y, .d (.int n)], none⟩) := rfl
    show ((mShare (.d (.int (absI n))) ⟨[.d x, .d y, .d (.int n)], none⟩).bind fun q => _) = _
    rw [e2, Option.bind_some]
    have e3 : wipeS [2] ⟨[.d x, .d y, .d (.int n)], none⟩ = ⟨[.d x, .d y, .no], none⟩ := rfl
    show ((lcLoop (tgN 2) mYes eltAbs [2] (ns.map .int) (wipeS [2] ⟨[.d x, .d y, .d (.int n)], none⟩)).bind fun z => _) = _
    rw [e3, ih]; rfl
abbrev pre1 : MS := mSet 1 (mC (.int 7))
abbrev pre2 : MS := mFor (mIt (mVar 0)) (tgN 2) bodySeed
theorem pre_run (ns : List Int) : ∃ o', mThen pre1 pre2 ⟨[.d (.scr ns), .no, .no], none⟩ = some (.nx, ⟨[.d (.scr ns), .d (.int (seedOf ns)), o'], none⟩) := by
  obtain ⟨o', e⟩ := seed_loop ns 7 (.scr ns) .no
  exact ⟨o', e⟩
abbrev mCells : M R := mLc (mIt (mVar 0)) (tgN 2) mYes eltAbs [2]
theorem cells_run (ns : List Int) (y : D) (o : Sl) (h : ns.length ≤ sizeLine) : mCells ⟨[.d (.scr ns), .d y, o], none⟩ = some (.t (.l (ns.map fun n => .int (absI n))), ⟨[.d (.scr ns), .d y, o], none⟩) := by
  show ((lcLoop (tgN 2) mYes eltAbs [2] (ns.map .int) (wipeS [2] ⟨[.d (.scr ns), .d y, o], none⟩)).bind fun q => _) = _
  have e3 : wipeS [2] ⟨[.d (.scr ns), .d y, o], none⟩ = ⟨[.d (.scr ns), .d y, .no], none⟩ := rfl
  rw [e3, abs_loop, Option.bind_some, if_pos (by simpa using h)]
  rfl
theorem intsD_map : ∀ ns : List Int, intsD (ns.map .int) = some ns
  | [] => rfl
  | n :: ns => by rw [List.map_cons]; unfold intsD; rw [intsD_map ns]; rfl
theorem ok_law_stateS {f : Addr} {fd : FuncData} {k : Nat} (F : Fun K "_law_state" "_law_state" s__law_state f fd) (za : mg "abs" = none) (zi : mg "int" = none) : FnOk P w K mg base CX0 (k + 1) f fd ["script"] (spF w K f__law_state 1) := by
  refine F.ok sc__law_state (fun vs H Q E ⟨g, ds, xs, _, _, hl, _⟩ => hl) (fun cdv A outer s H vs Q E hr h => ?_)
  refine ⟨_, pss_cons (s_set (i := 1) (me := mC (.int 7)) sc__law_state.nd e_int)
    (pss_cons (s_for (ts := [2]) PassesOwn.never rfl (i_val (e_v 0)) (g_n 2 sc__law_state.nd) (ss_one (s_set (i := 1) sc__law_state.nd (e_mod (e_ct call_int1 o_int (by rfl) zi rfl (a_cons (e_add (e_mul (e_v 1) e_int) (e_v 2)) a_nil)) e_int))))
    (pss_one (ps_ret (pe_lst (pa_cons (e_lc (ts := [2]) rfl sc__law_state.nd (blkOk_by (own := [("cell", 2)]) (by kernel_rfl)) (i_val (e_v 0)) (fun _ _ _ _ _ => g_n 2 sc__law_state.nd) (fun _ _ _ _ _ => ts_nil) (fun _ _ _ _ _ => e_cb call_abs o_abs (by rfl) za rfl (a_cons (e_v 2) a_nil))) (pa_cons (e_add (e_v 1) e_int) pa_nil)))))), ?_⟩
  obtain ⟨g, ds, xs, GH, RL, hl, r, ds', e, q⟩ := h
  obtain ⟨G, own⟩ := fn_start (N := ["script", "seed", "cell"]) GH RL hl (by decide)
  unfold f__law_state at e
  split at e
  · rename_i ns
    split at e
    · rename_i hz
      cases e
      obtain ⟨o', e1⟩ := pre_run ns
      unfold mThen at e1
      obtain ⟨⟨fl, s1⟩, e2, e3⟩ := Option.bind_eq_some_iff.mp e1
      cases e2
      refine ⟨g, _, G, .nx, _, rfl, fun σ1 g1 H1 G1 E1 => ?_⟩
      refine ⟨g1, _, G1, .nx, _, e3, fun σ2 g2 H2 G2 E2 => ?_⟩
      refine LE.use G2 (cells_run ns _ o' hz) fun v3 g3 H3 G3 E3 R3 => ?_
      cases R3 with
      | t h0 ho hn =>
        rename_i A0
        have e4 : mBin fAdd (mVar 1) (mC (.int 1)) ⟨[.d (.scr ns), .d (.int (seedOf ns)), o'], none⟩ = some (.d (.int (seedOf ns + 1)), ⟨[.d (.scr ns), .d (.int (seedOf ns)), o'], none⟩) := rfl
        refine LE.use G3 e4 fun v4 g4 H4 G4 E4 R4 => ?_
        have R3' := (RR.t h0 ho hn).step E4
        cases R4 with
        | d h4 =>
          cases h4
          refine ⟨by show 2 ≤ sizeLine; decide, fun p hp => ?_⟩
          cases R3' with
          | t _ ho4 hn4 =>
            obtain ⟨vs5, hA, ra⟩ := ho4.at_
            have hne : p ≠ A0 := fun z => by rw [z, hA] at hp; cases hp
            have E24 := ((E1.trans E2).trans E3).trans E4
            have hst : g4.st = none := G4.ds
            have hcells : vs5 = (ns.map absI).map V.int := intsD_rep (by have := intsD_map (ns.map absI); rw [List.map_map] at this; exact this) ra
            have hnone : H A0 = none := E1.dom _ (E2.dom _ h0)
            have hpn : H p = none := E24.dom p hp
            have hFp : g4.F p = none := G4.fr.none hp
            have ext : Ext (StA g) g H (StA ⟨g4.F, some (p, A0)⟩) ⟨g4.F, some (p, A0)⟩ (upd H4 p (.lst [.ref A0, .int (seedOf ns + 1)])) := by
              refine ⟨fun b o hb n => ?_, fun b hb => ?_, E24.mono, fun b o h1 h2 => ?_, fun b hb => ?_, fun z hz => ?_⟩
              · rw [upd_ne (show b ≠ p from fun z => by rw [z, hpn] at hb; cases hb)]
                exact E24.pr b o hb fun z => n (own b z)
              · by_cases z : b = p
                · rw [z]; exact hpn
                · rw [upd_ne z] at hb; exact E24.dom b hb
              · exact (E24.newF b o h1 h2).elim .inl fun z => z.elim (fun y => .inr (.inl (own b y))) fun y => .inr (.inr y)
              · obtain ⟨sa, ca, e9, hh⟩ := hb
                cases e9
                exact hh.elim (fun z => .inr (by rw [z]; exact hpn)) fun z => .inr (by rw [z]; exact hnone)
              · have : g.st = none := GH.ds
                rw [this] at hz; cases hz
            have gh : GoodH ⟨g4.F, some (p, A0)⟩ (some ⟨ns.map absI, seedOf ns + 1⟩) (upd H4 p (.lst [.ref A0, .int (seedOf ns + 1)])) := by
              refine ⟨fun b o hb => ?_, p, A0, rfl, hne, upd_same, ?_, hFp, ho4.nf⟩
              · rw [upd_ne (show b ≠ p from fun z => by rw [z] at hb; rw [show g4.F p = some o from hb] at hFp; cases hFp)]
                exact G4.fr b o hb
              · rw [upd_ne hne.symm, hA, hcells]
            exact q (.ref p) _ _ ext gh (.d (.st rfl))
    · cases e
  · cases e

theorem iteP {c : Prop} [Decidable c] {a b : Prop} (h : c) (x : a) : if c then a else b := by rw [if_pos h]; exact x
theorem len_pos {α : Type} (c : α) (l : List α) : decide ((0 : Int) < ((c :: l).length : Nat)) = true := decide_eq_true (by rw [List.length_cons]; omega)
theorem ixN_0 (c : Int) (l : List Int) : ixN ((c :: l).map V.int).length 0 = some 0 := by
  unfold ixN
  rw [if_pos (by decide), if_pos (by rw [List.length_map, List.length_cons]; omega)]; rfl
theorem draw_fin {g : Gh} {d d' : DS} {H H' : Hp} {sa ca : Addr} (GH : GoodH g (some d) H) (hst : g.st = some (sa, ca)) (h1 : H' sa = some (.lst [.ref ca, .int d'.seed])) (h2 : H' ca = some (.lst (d'.cells.map V.int))) (h3 : ∀ b, b ≠ sa → b ≠ ca → H' b = H b) :
    Ext (StA g) g H (StA g) g H' ∧ GoodH g (some d') H' := by
  obtain ⟨sa', ca', e1, ne, q1, q2, f1, f2⟩ := GH.ds
  rw [hst] at e1
  cases e1
  refine ⟨⟨fun b o hb n => ?_, fun b hb => ?_, Sub.refl _, fun b o z z' => (by rw [z] at z'; cases z'), fun b hb => .inl hb, StLe.refl _⟩, fun b o hb => ?_, sa, ca, hst, ne, h1, h2, f1, f2⟩
  · rw [h3 b (fun z => n ⟨sa, ca, hst, .inl z⟩) (fun z => n ⟨sa, ca, hst, .inr z⟩)]; exact hb
  · by_cases z : b = sa
    · rw [z, h1] at hb; cases hb
    · by_cases z2 : b = ca
      · rw [z2, h2] at hb; cases hb
      · rw [← h3 b z z2]; exact hb
  · have z : b ≠ sa := fun z => by rw [z, f1] at hb; cases hb
    have z2 : b ≠ ca := fun z => by rw [z, f2] at hb; cases hb
    rw [h3 b z z2]; exact GH.fr b o hb
theorem ok_law_drawS {f : Addr} {fd : FuncData} {k : Nat} (F : Fun K "_law_draw" "_law_draw" s__law_draw f fd) (zl : mg "len" = none) (zi : mg "int" = none) : FnOk P w K mg base CX0 (k + 1) f fd ["state", "many"] (spF w K f__law_draw 2) := by
  have nd := sc__law_draw.nd
  refine F.ok sc__law_draw (fun vs H Q E ⟨g, ds, xs, _, _, hl, _⟩ => hl) (fun cdv A outer s H vs Q E hr h => ?_)
  refine ⟨_, pss_cons (ps_set (i := 2) nd rfl (.inl rfl) (pe_ix ix_list (pv 0) pe_int (fun _ _ => rfl)))
    (pss_cons (ps_while PassesOwn.never (pw_and (pt_cmpR op_gt (pe_callB call_len (by rfl) zl PySem.boot_len (pa_cons (pv 2) pa_nil)) pe_int (nomark _)) (pw_and1 (pt_cmpR op_eq (pe_ix ix_list (pv 2) pe_int (fun _ _ => rfl)) pe_int (nomark _)))).pt
      (pss_one (ps_expr (pe_bm PySem.F.plainAttrs_list PySem.F.slot_list_pop PySem.F.type_list_pop mt_popAt (pv 2) (pa_cons pe_int pa_nil)))))
    (pss_cons (ps_if (pt_cmpR op_gt (pe_callB call_len (by rfl) zl PySem.boot_len (pa_cons (pv 2) pa_nil)) pe_int (nomark _))
      (pss_cons (ps_set (i := 4) nd rfl (.inl rfl) (pe_ix ix_list (pv 2) pe_int (fun _ _ => rfl)))
        (pss_cons (ps_asg (pe_op op_fdivN (pv 4) (pv 1)) (pg_sub (pv 2) pe_int set_list))
          (pss_one (ps_ret (pe_op op_modN (pe_callTy call_int1 (by rfl) zi rfl (pa_cons (pv 4) pa_nil)) (pv 1)))))) pss_nil)
    (pss_cons (ps_set (i := 3) nd rfl (.inl rfl) (pe_op op_modN (pe_callTy call_int1 (by rfl) zi rfl (pa_cons (pe_op op_add (pe_op op_mul (pe_ix ix_list (pv 0) pe_int (fun _ _ => rfl)) pe_int) pe_int) pa_nil)) pe_int))
    (pss_cons (ps_asg (pv 3) (pg_sub (pv 0) pe_int set_list))
    (pss_one (ps_ret (pe_op op_modN (pe_callTy call_int1 (by rfl) zi rfl (pa_cons (pe_op op_fdivN (pv 3) pe_int) pa_nil)) (pv 1)))))))), ?_⟩
  obtain ⟨g, ds, xs, GH, RL, hl, r, ds', e, q⟩ := h
  unfold f__law_draw at e
  split at e
  · rename_i many d
    split at e
    · rename_i hm
      cases e
      obtain ⟨sa, ca, hst, ne, h1, h2, f1, f2⟩ := GH.ds
      have ev : vs = [.ref sa, .int many] := by
        cases RL with
        | cons a b =>
          cases b with
          | cons b c =>
            cases c
            cases b
            cases a with
            | st e => rw [hst] at e; cases e; rfl
      subst ev
      -- cells = state[0]
      refine ⟨.ref sa, rfl, sa, [.ref ca, .int d.seed], 0, .ref ca, rfl, rfl, SqL.of h1, rfl, ?_⟩
      -- while
      refine ⟨fun m σ H1 => ∃ l : List Int, σ = [some (.ref sa), some (.int many), some (.ref ca), none, none] ∧ m = l.length ∧ H1 sa = some (.lst [.ref ca, .int d.seed]) ∧ H1 ca = some (.lst (l.map V.int)) ∧ (∀ b, b ≠ sa → b ≠ ca → H1 b = H b) ∧ dropZ l = dropZ d.cells,
        ⟨_, d.cells, rfl, rfl, h1, h2, fun _ _ _ => rfl, rfl⟩, ?_⟩
      rintro m σ H1 ⟨l, rfl, rfl, q1, q2, q3, q4⟩
      refine ⟨.ref ca, rfl, .ref ca, (l.map V.int).length, rfl, .inl ⟨_, SqL.of q2, rfl⟩, ?_⟩
      refine ⟨_, 0, rfl, rfl, _, rfl, ?_⟩
      cases l with
      | nil =>
        refine iteF (iteF ?_)
        -- the cells are used up
        refine ⟨.ref ca, rfl, .ref ca, 0, rfl, .inl ⟨_, SqL.of q2, rfl⟩, ?_⟩
        refine ⟨_, 0, rfl, rfl, _, rfl, iteF ?_⟩
        refine ⟨.ref sa, rfl, sa, _, 1, .int d.seed, rfl, rfl, SqL.of q1, rfl, ?_⟩
        refine ⟨d.seed, 48271, rfl, rfl, .inr ⟨by decide, by decide⟩, ?_⟩
        refine ⟨_, _, rfl, rfl, .inl ⟨_, rfl, ?_⟩⟩
        refine ⟨_, _, rfl, rfl, show (2147483647 : Int) ≠ 0 by decide, ?_⟩
        refine ⟨_, rfl, .ref sa, rfl, sa, _, _, 1, rfl, rfl, q1, rfl, ?_⟩
        have e0 : drawR d.cells d.seed many = ((((d.seed * 48271 + 12345).fmod 2147483647).fdiv 64).fmod many, ⟨[], (d.seed * 48271 + 12345).fmod 2147483647⟩) := by
          unfold drawR; rw [← q4]; rfl
        refine ⟨_, rfl, _, _, rfl, rfl, ⟨by decide, by decide⟩, ?_⟩
        refine .inl ⟨_, rfl, .int many, rfl, _, _, rfl, rfl, by omega, ?_⟩
        rw [e0] at q
        have := draw_fin (d' := ⟨[], (d.seed * 48271 + 12345).fmod 2147483647⟩) (H' := upd H1 sa (.lst [.ref ca, .int ((d.seed * 48271 + 12345).fmod 2147483647)])) GH hst upd_same (by rw [upd_ne ne.symm]; exact q2) (fun b n1 n2 => by rw [upd_ne n1]; exact q3 b n1 n2)
        exact q _ g _ this.1 this.2 (.d (.int _))
      | cons c l =>
        refine iteP (by rw [List.length_map]; exact len_pos c l) ?_
        refine ⟨.ref ca, rfl, ca, _, 0, .int c, rfl, rfl, SqL.of q2, atI_nat (j := 0) rfl, ?_⟩
        refine ⟨rfl, _, rfl, ?_⟩
        by_cases hc : c = 0
        · subst hc
          refine iteT ⟨fun σ' H' => ∃ m', m' < (0 :: l).length ∧ ∃ l' : List Int, σ' = [some (.ref sa), some (.int many), some (.ref ca), none, none] ∧ m' = l'.length ∧ H' sa = some (.lst [.ref ca, .int d.seed]) ∧ H' ca = some (.lst (l'.map V.int)) ∧ (∀ b, b ≠ sa → b ≠ ca → H' b = H b) ∧ dropZ l' = dropZ d.cells, fun σ' H' h => h, ?_⟩
          refine ⟨.ref ca, rfl, .inl ⟨rfl, _, SqL.of q2⟩, ca, _, 0, 0, _, rfl, rfl, q2, by decide, by decide, by rw [List.length_map]; exact seqIndex_of (k := 0) (by decide) (by rw [List.length_cons]; omega), rfl, ?_⟩
          refine ⟨l.length, Nat.lt_succ_self _, l, rfl, rfl, by rw [upd_ne ne]; exact q1, upd_same, fun b n1 n2 => by rw [upd_ne n2]; exact q3 b n1 n2, q4⟩
        · have e1 : decide (V.int c = V.int 0) = false := decide_eq_false fun z => hc (V.int.inj z)
          rw [e1]
          refine iteF ?_
          refine ⟨.ref ca, rfl, .ref ca, _, rfl, .inl ⟨_, SqL.of q2, rfl⟩, ?_⟩
          refine ⟨_, 0, rfl, rfl, _, rfl, iteP (by rw [List.length_map]; exact len_pos c l) ?_⟩
          refine ⟨.ref ca, rfl, ca, _, 0, .int c, rfl, rfl, SqL.of q2, atI_nat (j := 0) rfl, ?_⟩
          have hd : drawR d.cells d.seed many = (c.fmod many, ⟨c.fdiv many :: l, d.seed⟩) := by
            have ez : dropZ (c :: l) = c :: l := by
              unfold dropZ
              split
              · rename_i e9; cases e9; exact absurd rfl hc
              · rfl
            unfold drawR; rw [← q4, ez]
          rw [hd] at q
          refine ⟨_, rfl, .int many, rfl, _, _, rfl, rfl, ⟨by omega, by omega⟩, ?_⟩
          refine ⟨.ref ca, rfl, ca, _, 0, 0, rfl, rfl, q2, ixN_0 _ _, ?_⟩
          refine ⟨_, rfl, .inl ⟨_, rfl, .int many, rfl, _, _, rfl, rfl, by omega, ?_⟩⟩
          have := draw_fin (d' := ⟨c.fdiv many :: l, d.seed⟩) (H' := upd H1 ca (.lst (((c :: l).map V.int).set 0 (.int (c.fdiv many))))) GH hst (by rw [upd_ne ne]; exact q1) upd_same (fun b n1 n2 => by rw [upd_ne n2]; exact q3 b n1 n2)
          exact q _ g _ this.1 this.2 (.d (.int _))
    · cases e
  · cases e
end

structure Txt (K : PySem.W.Frag) (mg : Str → Option Value) where
  f_case_of : Addr
  d_case_of : FuncData
  f_kept_rows : Addr
  d_kept_rows : FuncData
  f_lay_within : Addr
  d_lay_within : FuncData
  f_least_case : Addr
  d_least_case : FuncData
  f_told_lay : Addr
  d_told_lay : FuncData
  f_halves_ruler : Addr
  d_halves_ruler : FuncData
  f_half_of : Addr
  d_half_of : FuncData
  f__law_state : Addr
  d__law_state : FuncData
  f__law_draw : Addr
  d__law_draw : FuncData
  f__law_one : Addr
  d__law_one : FuncData
  f__law_case : Addr
  d__law_case : FuncData
  f__law_lay : Addr
  d__law_lay : FuncData
  f__law_half : Addr
  d__law_half : FuncData
  f_law : Addr
  d_law : FuncData
  h_case_of : Has K mg "case_of" s_case_of ["ruler", "lay"] f_case_of d_case_of
  h_kept_rows : Has K mg "kept_rows" s_kept_rows ["ruler", "size"] f_kept_rows d_kept_rows
  h_lay_within : Has K mg "lay_within" s_lay_within ["ruler", "size"] f_lay_within d_lay_within
  h_least_case : Has K mg "least_case" s_least_case ["ruler"] f_least_case d_least_case
  h_told_lay : Has K mg "told_lay" s_told_lay ["ruler"] f_told_lay d_told_lay
  h_halves_ruler : Has K mg "halves_ruler" s_halves_ruler ["numbers"] f_halves_ruler d_halves_ruler
  h_half_of : Has K mg "half_of" s_half_of ["numbers"] f_half_of d_half_of
  h__law_state : Has K mg "_law_state" s__law_state ["script"] f__law_state d__law_state
  h__law_draw : Has K mg "_law_draw" s__law_draw ["state", "many"] f__law_draw d__law_draw
  h__law_one : Has K mg "_law_one" s__law_one ["state", "some"] f__law_one d__law_one
  h__law_case : Has K mg "_law_case" s__law_case ["ruler", "lay"] f__law_case d__law_case
  h__law_lay : Has K mg "_law_lay" s__law_lay ["ruler", "size"] f__law_lay d__law_lay
  h__law_half : Has K mg "_law_half" s__law_half ["numbers"] f__law_half d__law_half
  h_law : Has K mg "law" s_law ["script"] f_law d_law
  z_abs : mg "abs" = none
  z_dict : mg "dict" = none
  z_enumerate : mg "enumerate" = none
  z_int : mg "int" = none
  z_len : mg "len" = none
  z_list : mg "list" = none
  z_max : mg "max" = none
  z_min : mg "min" = none
  z_range : mg "range" = none
  z_set : mg "set" = none
  z_sorted : mg "sorted" = none
  z_sum : mg "sum" = none
  z_tuple : mg "tuple" = none
  z_zip : mg "zip" = none
section
variable {P : Program} {w : World} {K : PySem.W.Frag} {mg : Str → Option Value} {base : Heap} (T : Txt K mg)
include T
theorem ok_case_of : FnOk P w K mg base CX0 1 T.f_case_of T.d_case_of ["ruler", "lay"] (spF w K f_case_of 2) :=
  fn_ok (N := ["ruler", "lay", "here", "least", "greatest", "length", "way"]) (k := 0) T.h_case_of.fn sc_case_of (by decide) (fun cdv A outer s H E hr =>
    (ss_cons (s_asg (ts := [2, 3, 4]) (e_tup (d_cons e_int (d_cons e_int (d_cons e_int d_nil)))) (g_t rfl (gs_cons (g_n 2 sc_case_of.nd) (gs_cons (g_n 3 sc_case_of.nd) (gs_cons (g_n 4 sc_case_of.nd) gs_nil))) (tgCons_len (tgCons_len (tgCons_len (fun _ _ _ h => tgNil_len h))))))
    (ss_cons (s_for (ts := [5, 6]) PassesOwn.never rfl (i_z2 (by rfl) T.z_zip (d_cons (e_v 0) (d_cons (e_v 1) d_nil))) (g_t rfl (gs_cons (g_n 5 sc_case_of.nd) (gs_cons (g_n 6 sc_case_of.nd) gs_nil)) (tgCons_len (tgCons_len (fun _ _ _ h => tgNil_len h)))) (ss_cons (s_aug (i := 2) ip_add addI_ok sc_case_of.nd (e_if (t_cmp (c_eq hr.units) (e_v 6) (e_str [114])) (e_v 5) (e_neg (e_v 5))))
    (ss_one (s_par (i := 3) (j := 4) rfl sc_case_of.nd (e_cb (call_minDX rfl hr.units) o_minX (by rfl) T.z_min rfl (a_cons (e_v 3) (a_cons (e_v 2) a_nil))) (e_cb (call_maxDX rfl hr.units) o_maxX (by rfl) T.z_max rfl (a_cons (e_v 4) (a_cons (e_v 2) a_nil)))))))
    (ss_one (s_ret (e_sub (e_v 4) (e_v 3)))))))
theorem ok_kept_rows : FnOk P w K mg base CX0 1 T.f_kept_rows T.d_kept_rows ["ruler", "size"] (spF w K f_kept_rows 2) :=
  fn_ok (N := ["ruler", "size", "told", "length", "good", "place"]) (k := 0) T.h_kept_rows.fn sc_kept_rows (by decide) (fun cdv A outer s H E hr =>
    (ss_cons (s_set (i := 2) sc_kept_rows.nd (e_lst (d_cons (e_lstRg1 rfl (by rfl) T.z_list (by rfl) T.z_range (e_add (e_v 1) e_int)) d_nil)))
    (ss_cons (s_for (ts := [3]) PassesOwn.never rfl (i_val (e_revX (e_v 0))) (g_n 3 sc_kept_rows.nd) (ss_cons (s_set (i := 4) sc_kept_rows.nd (e_dc (ts := [5]) hr.units rfl sc_kept_rows.nd (blkOk_by (own := [("place", 5)]) (by kernel_rfl)) (i_val (e_ix hr.units (e_v 2) (e_neg e_int))) (fun _ _ _ _ _ => (g_n 5 sc_kept_rows.nd)) (fun _ _ _ _ _ => ts_nil) (fun _ _ _ _ _ => (e_v 5)) (fun _ _ _ _ _ => e_bl)))
    (ss_one (s_expr (e_mm PySem.F.plainAttrs_list PySem.F.slot_list_append PySem.F.type_list_append mt_append o_append (e_v 2) (d_cons (e_lc (ts := [5]) rfl sc_kept_rows.nd (blkOk_by (own := [("place", 5)]) (by kernel_rfl)) (i_rng1 (by rfl) T.z_range (d_cons (e_add (e_v 1) e_int) d_nil)) (fun _ _ _ _ _ => (g_n 5 sc_kept_rows.nd)) (fun _ _ _ _ _ => (ts_one (t_w (t_or (t_cmp (c_in (room65 hr)) (e_add (e_v 5) (e_v 3)) (e_v 4)) (t_or1 (t_cmp (c_in (room65 hr)) (e_sub (e_v 5) (e_v 3)) (e_v 4))))))) (fun _ _ _ _ _ => (e_v 5))) d_nil))))))
    (ss_one (s_ret (e_revX (e_v 2)))))))
theorem ok_lay_within : FnOk P w K mg base CX0 2 T.f_lay_within T.d_lay_within ["ruler", "size"] (spF w K f_lay_within 2) :=
  fn_ok (N := ["ruler", "size", "rows", "found", "at", "length", "good", "steps", "place", "lay"]) (k := 1) T.h_lay_within.fn sc_lay_within (by decide) (fun cdv A outer s H E hr =>
    (ss_cons (s_set (i := 2) sc_lay_within.nd (e_call ((ok_kept_rows T).mono (by decide)) hr (by rfl) T.h_kept_rows.mg T.h_kept_rows.fn.kp T.h_kept_rows.bd (a_cons (e_v 0) (a_cons (e_v 1) a_nil))))
    (ss_cons (s_if (t_cmp (c_eq hr.units) (e_cb call_len o_len (by rfl) T.z_len rfl (a_cons (e_ix hr.units (e_v 2) e_int) a_nil)) e_int) (ss_one (s_ret e_non)) ss_nil)
    (ss_cons (s_dc (i := 3) (ts := [8]) hr.units rfl sc_lay_within.nd (blkOk_by (own := [("place", 8)]) (by kernel_rfl)) (i_val (e_ix hr.units (e_v 2) e_int)) (fun _ _ _ _ _ => (g_n 8 sc_lay_within.nd)) (fun _ _ _ _ _ => ts_nil) (fun _ _ _ _ _ => (e_v 8)) (fun _ _ _ _ _ => (e_str [])))
    (ss_cons (s_for (ts := [4, 5]) PassesOwn.never rfl (i_en (by rfl) T.z_enumerate (d_cons (e_v 0) d_nil)) (g_t rfl (gs_cons (g_n 4 sc_lay_within.nd) (gs_cons (g_n 5 sc_lay_within.nd) gs_nil)) (tgCons_len (tgCons_len (fun _ _ _ h => tgNil_len h)))) (ss_cons (s_dc (i := 6) (ts := [8]) hr.units rfl sc_lay_within.nd (blkOk_by (own := [("place", 8)]) (by kernel_rfl)) (i_val (e_ix hr.units (e_v 2) (e_add (e_v 4) e_int))) (fun _ _ _ _ _ => (g_n 8 sc_lay_within.nd)) (fun _ _ _ _ _ => ts_nil) (fun _ _ _ _ _ => (e_v 8)) (fun _ _ _ _ _ => e_bl))
    (ss_cons (s_set (i := 7) sc_lay_within.nd (e_lst d_nil))
    (ss_cons (s_for (ts := [8, 9]) PassesOwn.never rfl (i_itm (e_v 3)) (g_t rfl (gs_cons (g_n 8 sc_lay_within.nd) (gs_cons (g_n 9 sc_lay_within.nd) gs_nil)) (tgCons_len (tgCons_len (fun _ _ _ h => tgNil_len h)))) (ss_cons (s_if (t_cmp (c_in (room65 hr)) (e_sub (e_v 8) (e_v 5)) (e_v 6)) (ss_one (s_expr (e_mm PySem.F.plainAttrs_list PySem.F.slot_list_append PySem.F.type_list_append mt_append o_append (e_v 7) (d_cons (e_tup (d_cons (e_add (e_v 9) (e_str [108])) (d_cons (e_sub (e_v 8) (e_v 5)) d_nil))) d_nil)))) ss_nil)
    (ss_one (s_if (t_cmp (c_in (room65 hr)) (e_add (e_v 8) (e_v 5)) (e_v 6)) (ss_one (s_expr (e_mm PySem.F.plainAttrs_list PySem.F.slot_list_append PySem.F.type_list_append mt_append o_append (e_v 7) (d_cons (e_tup (d_cons (e_add (e_v 9) (e_str [114])) (d_cons (e_add (e_v 8) (e_v 5)) d_nil))) d_nil)))) ss_nil))))
    (ss_cons (s_set (i := 3) sc_lay_within.nd e_dnew)
    (ss_one (s_for (ts := [9, 8]) PassesOwn.never rfl (i_val (e_revX (e_cb (call_sorted hr.units) o_sorted (by rfl) T.z_sorted rfl (a_cons (e_v 7) a_nil)))) (g_t rfl (gs_cons (g_n 9 sc_lay_within.nd) (gs_cons (g_n 8 sc_lay_within.nd) gs_nil)) (tgCons_len (tgCons_len (fun _ _ _ h => tgNil_len h)))) (ss_one (s_asg (ts := []) (e_v 9) (g_sub hr.units (e_v 3) (e_v 8)))))))))))
    (ss_one (s_ret (e_minV rfl (by rfl) T.z_min rfl (e_v 3)))))))))
theorem ok_least_case : FnOk P w K mg base CX0 2 T.f_least_case T.d_least_case ["ruler"] (spF w K f_least_case 1) :=
  fn_ok (N := ["ruler", "size"]) (k := 1) T.h_least_case.fn sc_least_case (by decide) (fun cdv A outer s H E hr =>
    (ss_cons (s_set (i := 1) sc_least_case.nd (e_cb (call_maxDX rfl hr.units) o_maxX (by rfl) T.z_max rfl (a_cons (e_v 0) a_nil)))
    (ss_cons (s_while PassesOwn.never (t_cmp (c_eq hr.units) (e_cb call_len o_len (by rfl) T.z_len rfl (a_cons (e_ix hr.units (e_call ((ok_kept_rows T).mono (by decide)) hr (by rfl) T.h_kept_rows.mg T.h_kept_rows.fn.kp T.h_kept_rows.bd (a_cons (e_v 0) (a_cons (e_v 1) a_nil))) e_int) a_nil)) e_int) (ss_one (s_aug (i := 1) ip_add addI_ok sc_least_case.nd e_int)))
    (ss_one (s_ret (e_v 1))))))
theorem ok_told_lay : FnOk P w K mg base CX0 1 T.f_told_lay T.d_told_lay ["ruler"] (spF w K f_told_lay 1) :=
  fn_ok (N := ["ruler", "length", "size", "here", "told"]) (k := 0) T.h_told_lay.fn sc_told_lay (by decide) (fun cdv A outer s H E hr =>
    (ss_cons (s_par3 (i := 2) (j := 3) (l := 4) rfl sc_told_lay.nd (e_mulX e_int (e_cb (call_maxDX rfl hr.units) o_maxX (by rfl) T.z_max rfl (a_cons (e_v 0) a_nil))) e_int (e_str []))
    (ss_cons (s_for (ts := [1]) PassesOwn.never rfl (i_val (e_v 0)) (g_n 1 sc_told_lay.nd) (ss_one (s_if (t_cmp c_le (e_add (e_v 3) (e_v 1)) (e_v 2)) (ss_one (s_par (i := 3) (j := 4) rfl sc_told_lay.nd (e_add (e_v 3) (e_v 1)) (e_add (e_v 4) (e_str [114])))) (ss_one (s_par (i := 3) (j := 4) rfl sc_told_lay.nd (e_sub (e_v 3) (e_v 1)) (e_add (e_v 4) (e_str [108])))))))
    (ss_one (s_ret (e_v 4))))))
theorem ok_halves_ruler : FnOk P w K mg base CX0 1 T.f_halves_ruler T.d_halves_ruler ["numbers"] (spF w K f_halves_ruler 1) :=
  fn_ok (N := ["numbers", "whole"]) (k := 0) T.h_halves_ruler.fn sc_halves_ruler (by decide) (fun cdv A outer s H E hr =>
    (ss_cons (s_set (i := 1) sc_halves_ruler.nd (e_cb (call_sumX rfl) o_sumX (by rfl) T.z_sum rfl (a_cons (e_v 0) a_nil)))
    (ss_one (s_ret (e_add (e_add (e_tup (d_cons (e_v 1) (d_cons (e_div (e_v 1) e_int) d_nil))) (e_ct call_tuple_of o_tuple (by rfl) T.z_tuple rfl (a_cons (e_v 0) a_nil))) (e_tup (d_cons (e_div (e_v 1) e_int) (d_cons (e_v 1) d_nil))))))))
theorem ok_half_of : FnOk P w K mg base CX0 1 T.f_half_of T.d_half_of ["numbers"] (spF w K f_half_of 1) :=
  fn_ok (N := ["numbers", "whole", "left", "number", "here", "total", "need", "told", "at"]) (k := 0) T.h_half_of.fn sc_half_of (by decide) (fun cdv A outer s H E hr =>
    (ss_cons (s_set (i := 1) sc_half_of.nd (e_cb (call_sumX rfl) o_sumX (by rfl) T.z_sum rfl (a_cons (e_v 0) a_nil)))
    (ss_cons (s_if (t_cmp (c_eq hr.units) (e_mod (e_v 1) e_int) e_int) (ss_one (s_ret e_non)) ss_nil)
    (ss_cons (s_set (i := 2) sc_half_of.nd (e_lst (d_cons e_dOne d_nil)))
    (ss_cons (s_for (ts := [3]) PassesOwn.never rfl (i_val (e_revX (e_v 0))) (g_n 3 sc_half_of.nd) (ss_cons (s_set (i := 4) sc_half_of.nd (e_ct (call_dictZ rfl) o_dictZ (by rfl) T.z_dict rfl (a_cons (e_ix hr.units (e_v 2) (e_neg e_int)) a_nil)))
    (ss_cons (s_for (ts := [5]) PassesOwn.never rfl (i_val (e_ix hr.units (e_v 2) (e_neg e_int))) (g_n 5 sc_half_of.nd) (ss_one (s_asg (ts := []) e_bl (g_sub hr.units (e_v 4) (e_add (e_v 5) (e_v 3))))))
    (ss_one (s_expr (e_mm PySem.F.plainAttrs_list PySem.F.slot_list_append PySem.F.type_list_append mt_append o_append (e_v 2) (d_cons (e_v 4) d_nil)))))))
    (ss_cons (s_set (i := 2) sc_half_of.nd (e_revX (e_v 2)))
    (ss_cons (s_par (i := 6) (j := 7) rfl sc_half_of.nd (e_div (e_v 1) e_int) (e_lst d_nil))
    (ss_cons (s_if (t_cmp (c_notin (room65 hr)) (e_v 6) (e_ix hr.units (e_v 2) e_int)) (ss_one (s_ret e_non)) ss_nil)
    (ss_cons (s_for (ts := [8, 3]) PassesOwn.never rfl (i_en (by rfl) T.z_enumerate (d_cons (e_v 0) d_nil)) (g_t rfl (gs_cons (g_n 8 sc_half_of.nd) (gs_cons (g_n 3 sc_half_of.nd) gs_nil)) (tgCons_len (tgCons_len (fun _ _ _ h => tgNil_len h)))) (ss_one (s_if (t_w (t_and (t_cmp c_ge (e_v 6) (e_v 3)) (t_and (t_cmp (c_in (room65 hr)) (e_sub (e_v 6) (e_v 3)) (e_ix hr.units (e_v 2) (e_add (e_v 8) e_int))) (t_and1 (t_cmp c_gt (e_v 6) e_int))))) (ss_cons (s_expr (e_mm PySem.F.plainAttrs_list PySem.F.slot_list_append PySem.F.type_list_append mt_append o_append (e_v 7) (d_cons (e_v 8) d_nil)))
    (ss_one (s_aug (i := 6) ip_sub subI_ok sc_half_of.nd (e_v 3)))) ss_nil)))
    (ss_one (s_ret (e_ct call_tuple_of o_tuple (by rfl) T.z_tuple rfl (a_cons (e_v 7) a_nil)))))))))))))
theorem ok__law_state : FnOk P w K mg base CX0 1 T.f__law_state T.d__law_state ["script"] (spF w K f__law_state 1) := ok_law_stateS (k := 0) T.h__law_state.fn T.z_abs T.z_int
theorem ok__law_draw : FnOk P w K mg base CX0 1 T.f__law_draw T.d__law_draw ["state", "many"] (spF w K f__law_draw 2) := ok_law_drawS (k := 0) T.h__law_draw.fn T.z_len T.z_int
theorem ok__law_one : FnOk P w K mg base CX0 2 T.f__law_one T.d__law_one ["state", "some"] (spF w K f__law_one 2) :=
  fn_ok (N := ["state", "some"]) (k := 1) T.h__law_one.fn sc__law_one (by decide) (fun cdv A outer s H E hr =>
    (ss_one (s_ret (e_ix hr.units (e_v 1) (e_call ((ok__law_draw T).mono (by decide)) hr (by rfl) T.h__law_draw.mg T.h__law_draw.fn.kp T.h__law_draw.bd (a_cons (e_v 0) (a_cons (e_cb call_len o_len (by rfl) T.z_len rfl (a_cons (e_v 1) a_nil)) a_nil)))))))
theorem ok__law_case : FnOk P w K mg base CX0 1 T.f__law_case T.d__law_case ["ruler", "lay"] (spF w K f__law_case 2) :=
  fn_ok (N := ["ruler", "lay", "here", "row", "one", "letter"]) (k := 0) T.h__law_case.fn sc__law_case (by decide) (fun cdv A outer s H E hr =>
    (ss_cons (s_par (i := 2) (j := 3) rfl sc__law_case.nd e_int (e_lst (d_cons e_int d_nil)))
    (ss_cons (s_for (ts := [4, 5]) PassesOwn.never rfl (i_z2 (by rfl) T.z_zip (d_cons (e_v 0) (d_cons (e_v 1) d_nil))) (g_t rfl (gs_cons (g_n 4 sc__law_case.nd) (gs_cons (g_n 5 sc__law_case.nd) gs_nil)) (tgCons_len (tgCons_len (fun _ _ _ h => tgNil_len h)))) (ss_cons (s_set (i := 2) sc__law_case.nd (e_if (t_cmp (c_eq hr.units) (e_v 5) (e_str [114])) (e_add (e_v 2) (e_v 4)) (e_sub (e_v 2) (e_v 4))))
    (ss_one (s_expr (e_mm PySem.F.plainAttrs_list PySem.F.slot_list_append PySem.F.type_list_append mt_append o_append (e_v 3) (d_cons (e_v 2) d_nil))))))
    (ss_one (s_ret (e_sub (e_cb (call_maxDX rfl hr.units) o_maxX (by rfl) T.z_max rfl (a_cons (e_v 3) a_nil)) (e_cb (call_minDX rfl hr.units) o_minX (by rfl) T.z_min rfl (a_cons (e_v 3) a_nil))))))))
theorem ok__law_lay : FnOk P w K mg base CX0 1 T.f__law_lay T.d__law_lay ["ruler", "size"] (spF w K f__law_lay 2) :=
  fn_ok (N := ["ruler", "size", "full", "kept", "one", "here", "told", "k", "left"]) (k := 0) T.h__law_lay.fn sc__law_lay (by decide) (fun cdv A outer s H E hr =>
    (ss_cons (s_set (i := 2) sc__law_lay.nd (e_sub (e_shlW e_int (e_add (e_cb (call_maxDX rfl hr.units) o_maxX (by rfl) T.z_max rfl (a_cons (e_v 1) (a_cons (e_neg e_int) a_nil))) e_int)) e_int))
    (ss_cons (s_set (i := 3) sc__law_lay.nd (e_lst (d_cons (e_v 2) d_nil)))
    (ss_cons (s_for (ts := [4]) PassesOwn.never rfl (i_val (e_revX (e_v 0))) (g_n 4 sc__law_lay.nd) (ss_one (s_expr (e_mm PySem.F.plainAttrs_list PySem.F.slot_list_append PySem.F.type_list_append mt_append o_append (e_v 3) (d_cons (e_band (e_bor (e_shlW (e_ix hr.units (e_v 3) (e_neg e_int)) (e_v 4)) (e_shr (e_ix hr.units (e_v 3) (e_neg e_int)) (e_v 4))) (e_v 2)) d_nil)))))
    (ss_cons (s_set (i := 3) sc__law_lay.nd (e_revX (e_v 3)))
    (ss_cons (s_par (i := 5) (j := 6) rfl sc__law_lay.nd (e_ix hr.units (e_v 3) e_int) (e_str []))
    (ss_cons (s_if (t_cmp (c_eq hr.units) (e_v 5) e_int) (ss_one (s_ret e_non)) ss_nil)
    (ss_cons (s_for (ts := [7, 4]) PassesOwn.never rfl (i_en (by rfl) T.z_enumerate (d_cons (e_v 0) d_nil)) (g_t rfl (gs_cons (g_n 7 sc__law_lay.nd) (gs_cons (g_n 4 sc__law_lay.nd) gs_nil)) (tgCons_len (tgCons_len (fun _ _ _ h => tgNil_len h)))) (ss_cons (s_set (i := 8) sc__law_lay.nd (e_band (e_shr (e_v 5) (e_v 4)) (e_ix hr.units (e_v 3) (e_add (e_v 7) e_int))))
    (ss_cons (s_set (i := 5) sc__law_lay.nd (e_if (t_cmp c_gt (e_v 8) e_int) (e_v 8) (e_band (e_shlW (e_v 5) (e_v 4)) (e_ix hr.units (e_v 3) (e_add (e_v 7) e_int)))))
    (ss_one (s_set (i := 6) sc__law_lay.nd (e_add (e_v 6) (e_if (t_cmp c_gt (e_v 8) e_int) (e_str [108]) (e_str [114]))))))))
    (ss_one (s_ret (e_v 6)))))))))))
theorem ok__law_half : FnOk P w K mg base CX0 1 T.f__law_half T.d__law_half ["numbers"] (spF w K f__law_half 1) :=
  fn_ok (N := ["numbers", "whole", "left", "one", "need", "told", "k", "total"]) (k := 0) T.h__law_half.fn sc__law_half (by decide) (fun cdv A outer s H E hr =>
    (ss_cons (s_set (i := 1) sc__law_half.nd (e_cb (call_sumX rfl) o_sumX (by rfl) T.z_sum rfl (a_cons (e_v 0) a_nil)))
    (ss_cons (s_if (t_cmp (c_eq hr.units) (e_mod (e_v 1) e_int) e_int) (ss_one (s_ret e_non)) ss_nil)
    (ss_cons (s_set (i := 2) sc__law_half.nd (e_lst (d_cons (e_lst (d_cons e_int d_nil)) d_nil)))
    (ss_cons (s_for (ts := [3]) PassesOwn.never rfl (i_val (e_revX (e_v 0))) (g_n 3 sc__law_half.nd) (ss_one (s_expr (e_mm PySem.F.plainAttrs_list PySem.F.slot_list_append PySem.F.type_list_append mt_append o_append (e_v 2) (d_cons (e_sortSet rfl (by rfl) T.z_sorted (by rfl) T.z_set (e_add (e_ix hr.units (e_v 2) (e_neg e_int)) (e_lc (ts := [7]) rfl sc__law_half.nd (blkOk_by (own := [("total", 7)]) (by kernel_rfl)) (i_val (e_ix hr.units (e_v 2) (e_neg e_int))) (fun _ _ _ _ _ => (g_n 7 sc__law_half.nd)) (fun _ _ _ _ _ => ts_nil) (fun _ _ _ _ _ => (e_add (e_v 7) (e_v 3)))))) d_nil)))))
    (ss_cons (s_par3 (i := 2) (j := 4) (l := 5) rfl sc__law_half.nd (e_revX (e_v 2)) (e_ct call_int1 o_int (by rfl) T.z_int rfl (a_cons (e_div (e_v 1) e_int) a_nil)) (e_lst d_nil))
    (ss_cons (s_if (t_cmp (c_notin (room65 hr)) (e_v 4) (e_ix hr.units (e_v 2) e_int)) (ss_one (s_ret e_non)) ss_nil)
    (ss_cons (s_for (ts := [6, 3]) PassesOwn.never rfl (i_en (by rfl) T.z_enumerate (d_cons (e_v 0) d_nil)) (g_t rfl (gs_cons (g_n 6 sc__law_half.nd) (gs_cons (g_n 3 sc__law_half.nd) gs_nil)) (tgCons_len (tgCons_len (fun _ _ _ h => tgNil_len h)))) (ss_one (s_if (t_w (t_and (t_cmp c_gt (e_v 4) e_int) (t_and1 (t_cmp (c_in (room65 hr)) (e_sub (e_v 4) (e_v 3)) (e_ix hr.units (e_v 2) (e_add (e_v 6) e_int)))))) (ss_cons (s_expr (e_mm PySem.F.plainAttrs_list PySem.F.slot_list_append PySem.F.type_list_append mt_append o_append (e_v 5) (d_cons (e_v 6) d_nil)))
    (ss_one (s_set (i := 4) sc__law_half.nd (e_sub (e_v 4) (e_v 3))))) ss_nil)))
    (ss_one (s_ret (e_ct call_tuple_of o_tuple (by rfl) T.z_tuple rfl (a_cons (e_v 5) a_nil))))))))))))
theorem ok_law : FnOk P w K mg base CX0 3 T.f_law T.d_law ["script"] (spF w K f_law 1) :=
  fn_ok (N := ["script", "state", "turn", "most", "ruler", "top", "least", "size", "lay", "one", "numbers", "here", "told", "right", "s", "k"]) (k := 2) T.h_law.fn sc_law (by decide) (fun cdv A outer s H E hr =>
    (ss_cons (s_set (i := 1) sc_law.nd (e_call ((ok__law_state T).mono (by decide)) hr (by rfl) T.h__law_state.mg T.h__law_state.fn.kp T.h__law_state.bd (a_cons (e_v 0) a_nil)))
    (ss_cons (s_for (ts := [2]) PassesOwn.never rfl (i_rng1 (by rfl) T.z_range (d_cons e_int d_nil)) (g_n 2 sc_law.nd) (ss_cons (s_set (i := 3) sc_law.nd (e_call ((ok__law_one T).mono (by decide)) hr (by rfl) T.h__law_one.mg T.h__law_one.fn.kp T.h__law_one.bd (a_cons (e_v 1) (a_cons (e_lst (d_cons e_int (d_cons e_int (d_cons e_int (d_cons e_int d_nil))))) a_nil))))
    (ss_cons (s_set (i := 4) sc_law.nd (e_ct call_tuple_of o_tuple (by rfl) T.z_tuple rfl (a_cons (e_lc (ts := [15]) rfl sc_law.nd (blkOk_by (own := [("k", 15)]) (by kernel_rfl)) (i_rng1 (by rfl) T.z_range (d_cons (e_add e_int (e_call ((ok__law_draw T).mono (by decide)) hr (by rfl) T.h__law_draw.mg T.h__law_draw.fn.kp T.h__law_draw.bd (a_cons (e_v 1) (a_cons (e_call ((ok__law_one T).mono (by decide)) hr (by rfl) T.h__law_one.mg T.h__law_one.fn.kp T.h__law_one.bd (a_cons (e_v 1) (a_cons (e_lst (d_cons e_int (d_cons e_int (d_cons e_int d_nil)))) a_nil))) a_nil)))) d_nil)) (fun _ _ _ _ _ => (g_n 15 sc_law.nd)) (fun _ _ _ _ _ => ts_nil) (fun _ _ _ _ _ => (e_add e_int (e_call ((ok__law_draw T).mono (by decide)) hr (by rfl) T.h__law_draw.mg T.h__law_draw.fn.kp T.h__law_draw.bd (a_cons (e_v 1) (a_cons (e_v 3) a_nil)))))) a_nil)))
    (ss_cons (s_set (i := 5) sc_law.nd (e_mulX e_int (e_cb (call_maxDX rfl hr.units) o_maxX (by rfl) T.z_max rfl (a_cons (e_v 4) a_nil))))
    (ss_cons (s_set (i := 6) sc_law.nd (e_cb (call_maxDX rfl hr.units) o_maxX (by rfl) T.z_max rfl (a_cons (e_v 4) a_nil)))
    (ss_cons (s_while PassesOwn.never (t_cmp c_is (e_call ((ok__law_lay T).mono (by decide)) hr (by rfl) T.h__law_lay.mg T.h__law_lay.fn.kp T.h__law_lay.bd (a_cons (e_v 4) (a_cons (e_v 6) a_nil))) e_non) (ss_one (s_aug (i := 6) ip_add addI_ok sc_law.nd e_int)))
    (ss_cons (s_if (t_w (t_or (t_cmp (c_ne hr.units) (e_call ((ok_least_case T).mono (by decide)) hr (by rfl) T.h_least_case.mg T.h_least_case.fn.kp T.h_least_case.bd (a_cons (e_v 4) a_nil)) (e_v 6)) (t_or1 (t_cmp c_gt (e_v 6) (e_v 5))))) (ss_one (s_ret e_bl)) ss_nil)
    (ss_cons (s_for (ts := [7]) PassesOwn.never rfl (i_val (e_tup (d_cons (e_sub (e_v 6) e_int) (d_cons (e_v 6) (d_cons (e_add (e_v 6) (e_call ((ok__law_draw T).mono (by decide)) hr (by rfl) T.h__law_draw.mg T.h__law_draw.fn.kp T.h__law_draw.bd (a_cons (e_v 1) (a_cons e_int a_nil)))) (d_cons (e_v 5) d_nil)))))) (g_n 7 sc_law.nd) (ss_one (s_if (t_cmp (c_ne hr.units) (e_call ((ok_lay_within T).mono (by decide)) hr (by rfl) T.h_lay_within.mg T.h_lay_within.fn.kp T.h_lay_within.bd (a_cons (e_v 4) (a_cons (e_v 7) a_nil))) (e_call ((ok__law_lay T).mono (by decide)) hr (by rfl) T.h__law_lay.mg T.h__law_lay.fn.kp T.h__law_lay.bd (a_cons (e_v 4) (a_cons (e_v 7) a_nil)))) (ss_one (s_ret e_bl)) ss_nil)))
    (ss_cons (s_set (i := 8) sc_law.nd (e_mr PySem.F.plainAttrs_str PySem.F.slot_str_join PySem.F.type_str_join mt_join o_join (e_str []) (d_cons (e_lc (ts := [9]) rfl sc_law.nd (blkOk_by (own := [("one", 9)]) (by kernel_rfl)) (i_val (e_v 4)) (fun _ _ _ _ _ => (g_n 9 sc_law.nd)) (fun _ _ _ _ _ => ts_nil) (fun _ _ _ _ _ => (e_call ((ok__law_one T).mono (by decide)) hr (by rfl) T.h__law_one.mg T.h__law_one.fn.kp T.h__law_one.bd (a_cons (e_v 1) (a_cons (e_lst (d_cons (e_str [108]) (d_cons (e_str [114]) d_nil))) a_nil))))) d_nil)))
    (ss_cons (s_if (t_w (t_or (t_cmp (c_ne hr.units) (e_call ((ok_case_of T).mono (by decide)) hr (by rfl) T.h_case_of.mg T.h_case_of.fn.kp T.h_case_of.bd (a_cons (e_v 4) (a_cons (e_v 8) a_nil))) (e_call ((ok__law_case T).mono (by decide)) hr (by rfl) T.h__law_case.mg T.h__law_case.fn.kp T.h__law_case.bd (a_cons (e_v 4) (a_cons (e_v 8) a_nil)))) (t_or1 (t_cmp (c_ne hr.units) (e_call ((ok__law_case T).mono (by decide)) hr (by rfl) T.h__law_case.mg T.h__law_case.fn.kp T.h__law_case.bd (a_cons (e_v 4) (a_cons (e_call ((ok__law_lay T).mono (by decide)) hr (by rfl) T.h__law_lay.mg T.h__law_lay.fn.kp T.h__law_lay.bd (a_cons (e_v 4) (a_cons (e_v 6) a_nil))) a_nil))) (e_v 6))))) (ss_one (s_ret e_bl)) ss_nil)
    (ss_cons (s_asg (ts := [11, 12]) (e_tup (d_cons e_int (d_cons (e_str []) d_nil))) (g_t rfl (gs_cons (g_n 11 sc_law.nd) (gs_cons (g_n 12 sc_law.nd) gs_nil)) (tgCons_len (tgCons_len (fun _ _ _ h => tgNil_len h)))))
    (ss_cons (s_for (ts := [9]) PassesOwn.never rfl (i_val (e_v 4)) (g_n 9 sc_law.nd) (ss_cons (s_set (i := 13) sc_law.nd (e_cmp c_le (e_add (e_v 11) (e_v 9)) (e_v 5)))
    (ss_one (s_par (i := 11) (j := 12) rfl sc_law.nd (e_if (t_tru (e_v 13)) (e_add (e_v 11) (e_v 9)) (e_sub (e_v 11) (e_v 9))) (e_add (e_v 12) (e_if (t_tru (e_v 13)) (e_str [114]) (e_str [108])))))))
    (ss_cons (s_if (t_cmp (c_ne hr.units) (e_call ((ok_told_lay T).mono (by decide)) hr (by rfl) T.h_told_lay.mg T.h_told_lay.fn.kp T.h_told_lay.bd (a_cons (e_v 4) a_nil)) (e_v 12)) (ss_one (s_ret e_bl)) ss_nil)
    (ss_cons (s_set (i := 10) sc_law.nd (e_ct call_tuple_of o_tuple (by rfl) T.z_tuple rfl (a_cons (e_lc (ts := [15]) rfl sc_law.nd (blkOk_by (own := [("k", 15)]) (by kernel_rfl)) (i_rng1 (by rfl) T.z_range (d_cons (e_add e_int (e_call ((ok__law_draw T).mono (by decide)) hr (by rfl) T.h__law_draw.mg T.h__law_draw.fn.kp T.h__law_draw.bd (a_cons (e_v 1) (a_cons e_int a_nil)))) d_nil)) (fun _ _ _ _ _ => (g_n 15 sc_law.nd)) (fun _ _ _ _ _ => ts_nil) (fun _ _ _ _ _ => (e_add e_int (e_call ((ok__law_draw T).mono (by decide)) hr (by rfl) T.h__law_draw.mg T.h__law_draw.fn.kp T.h__law_draw.bd (a_cons (e_v 1) (a_cons (e_call ((ok__law_one T).mono (by decide)) hr (by rfl) T.h__law_one.mg T.h__law_one.fn.kp T.h__law_one.bd (a_cons (e_v 1) (a_cons (e_lst (d_cons e_int (d_cons e_int d_nil))) a_nil))) a_nil)))))) a_nil)))
    (ss_cons (s_if (t_cmp (c_ne hr.units) (e_call ((ok_half_of T).mono (by decide)) hr (by rfl) T.h_half_of.mg T.h_half_of.fn.kp T.h_half_of.bd (a_cons (e_v 10) a_nil)) (e_call ((ok__law_half T).mono (by decide)) hr (by rfl) T.h__law_half.mg T.h__law_half.fn.kp T.h__law_half.bd (a_cons (e_v 10) a_nil))) (ss_one (s_ret e_bl)) ss_nil)
    (ss_one (s_if (t_cmp (c_eq hr.units) (e_mod (e_cb (call_sumX rfl) o_sumX (by rfl) T.z_sum rfl (a_cons (e_v 10) a_nil)) e_int) e_int) (ss_cons (s_set (i := 14) sc_law.nd (e_ct call_int1 o_int (by rfl) T.z_int rfl (a_cons (e_div (e_cb (call_sumX rfl) o_sumX (by rfl) T.z_sum rfl (a_cons (e_v 10) a_nil)) e_int) a_nil)))
    (ss_cons (s_if (t_cmp (c_ne hr.units) (e_call ((ok_halves_ruler T).mono (by decide)) hr (by rfl) T.h_halves_ruler.mg T.h_halves_ruler.fn.kp T.h_halves_ruler.bd (a_cons (e_v 10) a_nil)) (e_add (e_add (e_tup (d_cons (e_mulX e_int (e_v 14)) (d_cons (e_v 14) d_nil))) (e_v 10)) (e_tup (d_cons (e_v 14) (d_cons (e_mulX e_int (e_v 14)) d_nil))))) (ss_one (s_ret e_bl)) ss_nil)
    (ss_one (s_if (t_w (t_and (t_cmp c_le (e_mulX e_int (e_v 14)) e_int) (t_and (t_cmp c_le (e_cb call_len o_len (by rfl) T.z_len rfl (a_cons (e_v 10) a_nil)) e_int) (t_and1 (t_cmp (c_ne hr.units) (e_cmp (c_eq hr.units) (e_call ((ok_least_case T).mono (by decide)) hr (by rfl) T.h_least_case.mg T.h_least_case.fn.kp T.h_least_case.bd (a_cons (e_add (e_add (e_tup (d_cons (e_mulX e_int (e_v 14)) (d_cons (e_v 14) d_nil))) (e_v 10)) (e_tup (d_cons (e_v 14) (d_cons (e_mulX e_int (e_v 14)) d_nil)))) a_nil)) (e_mulX e_int (e_v 14))) (e_cmp c_isnot (e_call ((ok__law_half T).mono (by decide)) hr (by rfl) T.h__law_half.mg T.h__law_half.fn.kp T.h__law_half.bd (a_cons (e_v 10) a_nil)) e_non)))))) (ss_one (s_ret e_bl)) ss_nil)))) ss_nil)))))))))))))))))
    (ss_one (s_ret (e_cmp (c_eq hr.units) (e_call ((ok_lay_within T).mono (by decide)) hr (by rfl) T.h_lay_within.mg T.h_lay_within.fn.kp T.h_lay_within.bd (a_cons (e_tup (d_cons e_int (d_cons e_int (d_cons e_int (d_cons e_int (d_cons e_int (d_cons e_int (d_cons e_int (d_cons e_int (d_cons e_int d_nil)))))))))) (a_cons e_int a_nil))) (e_call ((ok__law_lay T).mono (by decide)) hr (by rfl) T.h__law_lay.mg T.h__law_lay.fn.kp T.h__law_lay.bd (a_cons (e_tup (d_cons e_int (d_cons e_int (d_cons e_int (d_cons e_int (d_cons e_int (d_cons e_int (d_cons e_int (d_cons e_int (d_cons e_int d_nil)))))))))) (a_cons e_int a_nil)))))))))
end
theorem all_F {P : Program} {w : World} {K : PySem.W.Frag} {h : Heap} {mg : Str → Option Value} {fa : Addr} (X : K.In h) (G : h.Ns mainGlobals mg) (hfa : mg "law" = some (.ref fa))
    {f0 f1 f2 f3 f4 f5 f6 f7 f8 f9 f10 f11 f12 f13 : Addr} {od0 an0 od1 an1 od2 an2 od3 an3 od4 an4 od5 an5 od6 an6 od7 an7 od8 an8 od9 an9 od10 an10 od11 an11 od12 an12 od13 an13 : Option Addr} {sl0 sl1 sl2 sl3 sl4 sl5 sl6 sl7 sl8 sl9 sl10 sl11 sl12 sl13 : Array (Option Value)} {oc0 kV0 dc0 pm0 cd0 ct0 oc1 kV1 dc1 pm1 cd1 ct1 oc2 kV2 dc2 pm2 cd2 ct2 oc3 kV3 dc3 pm3 cd3 ct3 oc4 kV4 dc4 pm4 cd4 ct4 oc5 kV5 dc5 pm5 cd5 ct5 oc6 kV6 dc6 pm6 cd6 ct6 oc7 kV7 dc7 pm7 cd7 ct7 oc8 kV8 dc8 pm8 cd8 ct8 oc9 kV9 dc9 pm9 cd9 ct9 oc10 kV10 dc10 pm10 cd10 ct10 oc11 kV11 dc11 pm11 cd11 ct11 oc12 kV12 dc12 pm12 cd12 ct12 oc13 kV13 dc13 pm13 cd13 ct13 : Value}
    (a0 : PySem.W.nsIn K mainGlobals "case_of" = some (some (.ref f0))) (l0 : K.lookup f0 = some ⟨oc0, od0, .func (PySem.W.fnOf "case_of" "case_of" (defArgs s_case_of) (defBody s_case_of) (defScope s_case_of) .none kV0 dc0 pm0 an0 cd0 ct0), sl0⟩) (c0 : PySem.W.codeIn K cd0 "case_of" = true) (k0 : PySem.W.keepIn K (.ref f0) = true)
    (a1 : PySem.W.nsIn K mainGlobals "kept_rows" = some (some (.ref f1))) (l1 : K.lookup f1 = some ⟨oc1, od1, .func (PySem.W.fnOf "kept_rows" "kept_rows" (defArgs s_kept_rows) (defBody s_kept_rows) (defScope s_kept_rows) .none kV1 dc1 pm1 an1 cd1 ct1), sl1⟩) (c1 : PySem.W.codeIn K cd1 "kept_rows" = true) (k1 : PySem.W.keepIn K (.ref f1) = true)
    (a2 : PySem.W.nsIn K mainGlobals "lay_within" = some (some (.ref f2))) (l2 : K.lookup f2 = some ⟨oc2, od2, .func (PySem.W.fnOf "lay_within" "lay_within" (defArgs s_lay_within) (defBody s_lay_within) (defScope s_lay_within) .none kV2 dc2 pm2 an2 cd2 ct2), sl2⟩) (c2 : PySem.W.codeIn K cd2 "lay_within" = true) (k2 : PySem.W.keepIn K (.ref f2) = true)
    (a3 : PySem.W.nsIn K mainGlobals "least_case" = some (some (.ref f3))) (l3 : K.lookup f3 = some ⟨oc3, od3, .func (PySem.W.fnOf "least_case" "least_case" (defArgs s_least_case) (defBody s_least_case) (defScope s_least_case) .none kV3 dc3 pm3 an3 cd3 ct3), sl3⟩) (c3 : PySem.W.codeIn K cd3 "least_case" = true) (k3 : PySem.W.keepIn K (.ref f3) = true)
    (a4 : PySem.W.nsIn K mainGlobals "told_lay" = some (some (.ref f4))) (l4 : K.lookup f4 = some ⟨oc4, od4, .func (PySem.W.fnOf "told_lay" "told_lay" (defArgs s_told_lay) (defBody s_told_lay) (defScope s_told_lay) .none kV4 dc4 pm4 an4 cd4 ct4), sl4⟩) (c4 : PySem.W.codeIn K cd4 "told_lay" = true) (k4 : PySem.W.keepIn K (.ref f4) = true)
    (a5 : PySem.W.nsIn K mainGlobals "halves_ruler" = some (some (.ref f5))) (l5 : K.lookup f5 = some ⟨oc5, od5, .func (PySem.W.fnOf "halves_ruler" "halves_ruler" (defArgs s_halves_ruler) (defBody s_halves_ruler) (defScope s_halves_ruler) .none kV5 dc5 pm5 an5 cd5 ct5), sl5⟩) (c5 : PySem.W.codeIn K cd5 "halves_ruler" = true) (k5 : PySem.W.keepIn K (.ref f5) = true)
    (a6 : PySem.W.nsIn K mainGlobals "half_of" = some (some (.ref f6))) (l6 : K.lookup f6 = some ⟨oc6, od6, .func (PySem.W.fnOf "half_of" "half_of" (defArgs s_half_of) (defBody s_half_of) (defScope s_half_of) .none kV6 dc6 pm6 an6 cd6 ct6), sl6⟩) (c6 : PySem.W.codeIn K cd6 "half_of" = true) (k6 : PySem.W.keepIn K (.ref f6) = true)
    (a7 : PySem.W.nsIn K mainGlobals "_law_state" = some (some (.ref f7))) (l7 : K.lookup f7 = some ⟨oc7, od7, .func (PySem.W.fnOf "_law_state" "_law_state" (defArgs s__law_state) (defBody s__law_state) (defScope s__law_state) .none kV7 dc7 pm7 an7 cd7 ct7), sl7⟩) (c7 : PySem.W.codeIn K cd7 "_law_state" = true) (k7 : PySem.W.keepIn K (.ref f7) = true)
    (a8 : PySem.W.nsIn K mainGlobals "_law_draw" = some (some (.ref f8))) (l8 : K.lookup f8 = some ⟨oc8, od8, .func (PySem.W.fnOf "_law_draw" "_law_draw" (defArgs s__law_draw) (defBody s__law_draw) (defScope s__law_draw) .none kV8 dc8 pm8 an8 cd8 ct8), sl8⟩) (c8 : PySem.W.codeIn K cd8 "_law_draw" = true) (k8 : PySem.W.keepIn K (.ref f8) = true)
    (a9 : PySem.W.nsIn K mainGlobals "_law_one" = some (some (.ref f9))) (l9 : K.lookup f9 = some ⟨oc9, od9, .func (PySem.W.fnOf "_law_one" "_law_one" (defArgs s__law_one) (defBody s__law_one) (defScope s__law_one) .none kV9 dc9 pm9 an9 cd9 ct9), sl9⟩) (c9 : PySem.W.codeIn K cd9 "_law_one" = true) (k9 : PySem.W.keepIn K (.ref f9) = true)
    (a10 : PySem.W.nsIn K mainGlobals "_law_case" = some (some (.ref f10))) (l10 : K.lookup f10 = some ⟨oc10, od10, .func (PySem.W.fnOf "_law_case" "_law_case" (defArgs s__law_case) (defBody s__law_case) (defScope s__law_case) .none kV10 dc10 pm10 an10 cd10 ct10), sl10⟩) (c10 : PySem.W.codeIn K cd10 "_law_case" = true) (k10 : PySem.W.keepIn K (.ref f10) = true)
    (a11 : PySem.W.nsIn K mainGlobals "_law_lay" = some (some (.ref f11))) (l11 : K.lookup f11 = some ⟨oc11, od11, .func (PySem.W.fnOf "_law_lay" "_law_lay" (defArgs s__law_lay) (defBody s__law_lay) (defScope s__law_lay) .none kV11 dc11 pm11 an11 cd11 ct11), sl11⟩) (c11 : PySem.W.codeIn K cd11 "_law_lay" = true) (k11 : PySem.W.keepIn K (.ref f11) = true)
    (a12 : PySem.W.nsIn K mainGlobals "_law_half" = some (some (.ref f12))) (l12 : K.lookup f12 = some ⟨oc12, od12, .func (PySem.W.fnOf "_law_half" "_law_half" (defArgs s__law_half) (defBody s__law_half) (defScope s__law_half) .none kV12 dc12 pm12 an12 cd12 ct12), sl12⟩) (c12 : PySem.W.codeIn K cd12 "_law_half" = true) (k12 : PySem.W.keepIn K (.ref f12) = true)
    (a13 : PySem.W.nsIn K mainGlobals "law" = some (some (.ref f13))) (l13 : K.lookup f13 = some ⟨oc13, od13, .func (PySem.W.fnOf "law" "law" (defArgs s_law) (defBody s_law) (defScope s_law) .none kV13 dc13 pm13 an13 cd13 ct13), sl13⟩) (c13 : PySem.W.codeIn K cd13 "law" = true) (k13 : PySem.W.keepIn K (.ref f13) = true)
    (z0 : PySem.W.nsIn K mainGlobals "abs" = some none)
    (z1 : PySem.W.nsIn K mainGlobals "dict" = some none)
    (z2 : PySem.W.nsIn K mainGlobals "enumerate" = some none)
    (z3 : PySem.W.nsIn K mainGlobals "int" = some none)
    (z4 : PySem.W.nsIn K mainGlobals "len" = some none)
    (z5 : PySem.W.nsIn K mainGlobals "list" = some none)
    (z6 : PySem.W.nsIn K mainGlobals "max" = some none)
    (z7 : PySem.W.nsIn K mainGlobals "min" = some none)
    (z8 : PySem.W.nsIn K mainGlobals "range" = some none)
    (z9 : PySem.W.nsIn K mainGlobals "set" = some none)
    (z10 : PySem.W.nsIn K mainGlobals "sorted" = some none)
    (z11 : PySem.W.nsIn K mainGlobals "sum" = some none)
    (z12 : PySem.W.nsIn K mainGlobals "tuple" = some none)
    (z13 : PySem.W.nsIn K mainGlobals "zip" = some none)
    : ∃ fd : FuncData, (∀ (s : Shared) (v : Value), BindsTo s fd ⟨[v], []⟩ [("script", v)]) ∧ ∀ base : Heap, K.In base → base.Ns mainGlobals mg → FnOk P w K mg base CX0 3 fa fd ["script"] (spF w K f_law 1) := by
  have e := hfa.symm.trans (PySem.W.mg_of X G a13)
  cases e
  let T : Txt K mg := {
    f_case_of := _, d_case_of := _, f_kept_rows := _, d_kept_rows := _, f_lay_within := _, d_lay_within := _, f_least_case := _, d_least_case := _, f_told_lay := _, d_told_lay := _, f_halves_ruler := _, d_halves_ruler := _, f_half_of := _, d_half_of := _, f__law_state := _, d__law_state := _, f__law_draw := _, d__law_draw := _, f__law_one := _, d__law_one := _, f__law_case := _, d__law_case := _, f__law_lay := _, d__law_lay := _, f__law_half := _, d__law_half := _, f_law := _, d_law := _,
    h_case_of := has_mk (st := s_case_of) l0 c0 k0 (PySem.W.mg_of X G a0) (fun _ _ _ _ _ _ us hl => match us, hl with | [_, _], _ => rfl),
    h_kept_rows := has_mk (st := s_kept_rows) l1 c1 k1 (PySem.W.mg_of X G a1) (fun _ _ _ _ _ _ us hl => match us, hl with | [_, _], _ => rfl),
    h_lay_within := has_mk (st := s_lay_within) l2 c2 k2 (PySem.W.mg_of X G a2) (fun _ _ _ _ _ _ us hl => match us, hl with | [_, _], _ => rfl),
    h_least_case := has_mk (st := s_least_case) l3 c3 k3 (PySem.W.mg_of X G a3) (fun _ _ _ _ _ _ us hl => match us, hl with | [_], _ => rfl),
    h_told_lay := has_mk (st := s_told_lay) l4 c4 k4 (PySem.W.mg_of X G a4) (fun _ _ _ _ _ _ us hl => match us, hl with | [_], _ => rfl),
    h_halves_ruler := has_mk (st := s_halves_ruler) l5 c5 k5 (PySem.W.mg_of X G a5) (fun _ _ _ _ _ _ us hl => match us, hl with | [_], _ => rfl),
    h_half_of := has_mk (st := s_half_of) l6 c6 k6 (PySem.W.mg_of X G a6) (fun _ _ _ _ _ _ us hl => match us, hl with | [_], _ => rfl),
    h__law_state := has_mk (st := s__law_state) l7 c7 k7 (PySem.W.mg_of X G a7) (fun _ _ _ _ _ _ us hl => match us, hl with | [_], _ => rfl),
    h__law_draw := has_mk (st := s__law_draw) l8 c8 k8 (PySem.W.mg_of X G a8) (fun _ _ _ _ _ _ us hl => match us, hl with | [_, _], _ => rfl),
    h__law_one := has_mk (st := s__law_one) l9 c9 k9 (PySem.W.mg_of X G a9) (fun _ _ _ _ _ _ us hl => match us, hl with | [_, _], _ => rfl),
    h__law_case := has_mk (st := s__law_case) l10 c10 k10 (PySem.W.mg_of X G a10) (fun _ _ _ _ _ _ us hl => match us, hl with | [_, _], _ => rfl),
    h__law_lay := has_mk (st := s__law_lay) l11 c11 k11 (PySem.W.mg_of X G a11) (fun _ _ _ _ _ _ us hl => match us, hl with | [_, _], _ => rfl),
    h__law_half := has_mk (st := s__law_half) l12 c12 k12 (PySem.W.mg_of X G a12) (fun _ _ _ _ _ _ us hl => match us, hl with | [_], _ => rfl),
    h_law := has_mk (st := s_law) l13 c13 k13 (PySem.W.mg_of X G a13) (fun _ _ _ _ _ _ us hl => match us, hl with | [_], _ => rfl),
    z_abs := PySem.W.mg_none_of X G z0, z_dict := PySem.W.mg_none_of X G z1, z_enumerate := PySem.W.mg_none_of X G z2, z_int := PySem.W.mg_none_of X G z3, z_len := PySem.W.mg_none_of X G z4, z_list := PySem.W.mg_none_of X G z5, z_max := PySem.W.mg_none_of X G z6, z_min := PySem.W.mg_none_of X G z7, z_range := PySem.W.mg_none_of X G z8, z_set := PySem.W.mg_none_of X G z9, z_sorted := PySem.W.mg_none_of X G z10, z_sum := PySem.W.mg_none_of X G z11, z_tuple := PySem.W.mg_none_of X G z12, z_zip := PySem.W.mg_none_of X G z13 }
  exact ⟨T.d_law, fun s v => .of_eq rfl, fun base _ _ => ok_law T⟩
end K02
/-! k02: rulers, plain. -/
namespace K02
/-- from the place p the rest of the ruler can be laid in a case of the size S -/
def fitP (S : Nat) : List Nat → Nat → Bool
  | [], p => decide (p ≤ S)
  | x :: l, p => decide (p ≤ S) && (fitP S l (p + x) || (decide (x ≤ p) && fitP S l (p - x)))
theorem fitP_le {S : Nat} : ∀ {l : List Nat} {p : Nat}, fitP S l p = true → p ≤ S
  | [], p, h => of_decide_eq_true h
  | x :: l, p, h => by
    unfold fitP at h
    rw [Bool.and_eq_true] at h
    exact of_decide_eq_true h.1
theorem fitP_big {S M : Nat} (hS : 2 * M ≤ S) : ∀ {l : List Nat}, (∀ x ∈ l, x ≤ M) → ∀ p ≤ S, fitP S l p = true
  | [], _, p, h => decide_eq_true h
  | x :: l, hl, p, h => by
    have hx := hl x List.mem_cons_self
    have hl' : ∀ y ∈ l, y ≤ M := fun y hy => hl y (List.mem_cons_of_mem _ hy)
    unfold fitP
    rw [Bool.and_eq_true, Bool.or_eq_true, Bool.and_eq_true]
    refine ⟨decide_eq_true h, ?_⟩
    by_cases h2 : p + x ≤ S
    · exact .inl (fitP_big hS hl' _ h2)
    · exact .inr ⟨decide_eq_true (by omega), fitP_big hS hl' _ (by omega)⟩
/-- it fits from some place -/
def fitsR (S : Nat) (l : List Nat) : Bool := (List.range (S + 1)).any (fitP S l)
theorem fitsR_iff {S : Nat} {l : List Nat} : fitsR S l = true ↔ ∃ p, fitP S l p = true := by
  unfold fitsR
  rw [List.any_eq_true]
  constructor
  · rintro ⟨p, _, h⟩; exact ⟨p, h⟩
  · rintro ⟨p, h⟩; exact ⟨p, List.mem_range.mpr (Nat.lt_succ_of_le (fitP_le h)), h⟩
def rowsS (S : Nat) (l : List Nat) : List Nat := (List.range (S + 1)).filter (fitP S l)
theorem mem_rows {S : Nat} {l : List Nat} {p : Nat} : p ∈ rowsS S l ↔ fitP S l p = true := by
  unfold rowsS
  rw [List.mem_filter, List.mem_range]
  exact ⟨fun h => h.2, fun h => ⟨Nat.lt_succ_of_le (fitP_le h), h⟩⟩
/-- the least word that leads to q, after some pieces (the last one first) -/
abbrev Wd := List Nat
def minO : Option Wd → Option Wd → Option Wd
  | none, b => b
  | some a, none => some a
  | some a, some b => if b < a then some b else some a
theorem minO_or {o1 o2 : Option Wd} {w : Wd} (e : minO o1 o2 = some w) : o1 = some w ∨ o2 = some w := by
  cases o1 with
  | none => exact .inr e
  | some a =>
    cases o2 with
    | none => exact .inl e
    | some b =>
      have e : (if b < a then some b else some a) = some w := e
      by_cases h : b < a
      · rw [if_pos h] at e; exact .inr e
      · rw [if_neg h] at e; exact .inl e
theorem lt_irr (a : Wd) : ¬ a < a := List.lt_irrefl a
theorem minO_le {o1 o2 : Option Wd} {w v : Wd} (e : minO o1 o2 = some w) (h : o1 = some v ∨ o2 = some v) : ¬ v < w := by
  cases o1 with
  | none =>
    rcases h with h | h
    · cases h
    · rw [show minO none o2 = o2 from rfl, h] at e; cases e; exact lt_irr _
  | some a =>
    cases o2 with
    | none =>
      rcases h with h | h
      · cases h; cases e; exact lt_irr _
      · cases h
    | some b =>
      have e : (if b < a then some b else some a) = some w := e
      by_cases hb : b < a
      · rw [if_pos hb] at e
        cases e
        rcases h with h | h
        · cases h; exact fun z => lt_irr _ (List.lt_trans hb z)
        · cases h; exact lt_irr _
      · rw [if_neg hb] at e
        cases e
        rcases h with h | h
        · cases h; exact lt_irr _
        · cases h; exact hb
theorem minO_some {o1 o2 : Option Wd} {v : Wd} (h : o1 = some v ∨ o2 = some v) : ∃ w, minO o1 o2 = some w := by
  cases o1 with
  | none => rcases h with h | h; (· cases h); exact ⟨v, h⟩
  | some a =>
    cases o2 with
    | none => exact ⟨a, rfl⟩
    | some b =>
      by_cases hb : b < a
      · exact ⟨b, if_pos hb⟩
      · exact ⟨a, if_neg hb⟩
theorem tri {a b : Wd} (h1 : ¬ a < b) (h2 : ¬ b < a) : a = b := List.le_antisymm (List.not_lt.mp h2) (List.not_lt.mp h1)
/-- pieces done, the last one first; rest: the pieces to come -/
def best (S : Nat) : List Nat → List Nat → Nat → Option Wd
  | [], rest, q => if fitP S rest q = true then some [] else none
  | x :: done, rest, q => if fitP S rest q = true then minO ((best S done (x :: rest) (q + x)).map (· ++ [108])) (if x ≤ q then (best S done (x :: rest) (q - x)).map (· ++ [114]) else none) else none
theorem best_fit {S : Nat} {done rest : List Nat} {q : Nat} {w : Wd} (h : best S done rest q = some w) : fitP S rest q = true := by
  cases done with
  | nil => unfold best at h; split at h; (· assumption); cases h
  | cons x d => unfold best at h; split at h; (· assumption); cases h
theorem best_len {S : Nat} : ∀ {done rest : List Nat} {q : Nat} {w : Wd}, best S done rest q = some w → w.length = done.length
  | [], rest, q, w, h => by
    unfold best at h
    split at h
    · cases h; rfl
    · cases h
  | x :: d, rest, q, w, h => by
    unfold best at h
    split at h
    · have go : ∀ o1 o2 : Option Wd, (∀ a, o1 = some a → a.length = d.length + 1) → (∀ a, o2 = some a → a.length = d.length + 1) → minO o1 o2 = some w → w.length = d.length + 1 := by
        intro o1 o2 h1 h2 e
        rcases minO_or e with e | e
        · exact h1 _ e
        · exact h2 _ e
      refine go _ _ ?_ ?_ h
      · intro a ha
        obtain ⟨v, hv, rfl⟩ := Option.map_eq_some_iff.mp ha
        rw [List.length_append, best_len hv]; rfl
      · intro a ha
        split at ha
        · obtain ⟨v, hv, rfl⟩ := Option.map_eq_some_iff.mp ha
          rw [List.length_append, best_len hv]; rfl
        · cases ha
    · cases h
/-- words of one length -/
theorem lt_app {a b : Wd} (h : a.length = b.length) {x y : Nat} : a ++ [x] < b ++ [y] ↔ a < b ∨ (a = b ∧ x < y) := by
  induction a generalizing b with
  | nil =>
    cases b with
    | nil => show [x] < [y] ↔ [] < [] ∨ _; rw [List.cons_lt_cons_iff]; simp
    | cons c b => cases h
  | cons c a ih =>
    cases b with
    | nil => cases h
    | cons d b =>
      have h' : a.length = b.length := by simpa using h
      rw [List.cons_append, List.cons_append, List.cons_lt_cons_iff, List.cons_lt_cons_iff, ih h']
      simp only [List.cons.injEq]
      constructor
      · rintro (h1 | ⟨h1, h2 | ⟨h2, h3⟩⟩)
        · exact .inl (.inl h1)
        · exact .inl (.inr ⟨h1, h2⟩)
        · exact .inr ⟨⟨h1, h2⟩, h3⟩
      · rintro ((h1 | ⟨h1, h2⟩) | ⟨⟨h1, h2⟩, h3⟩)
        · exact .inl h1
        · exact .inr ⟨h1, .inl h2⟩
        · exact .inr ⟨h1, .inr ⟨h2, h3⟩⟩
theorem best_cons {S x : Nat} {done rest : List Nat} {q : Nat} {w : Wd} (h : best S (x :: done) rest q = some w) : fitP S rest q = true ∧ ((∃ v, best S done (x :: rest) (q + x) = some v ∧ w = v ++ [108]) ∨ (x ≤ q ∧ ∃ v, best S done (x :: rest) (q - x) = some v ∧ w = v ++ [114])) := by
  have hf := best_fit h
  unfold best at h
  rw [if_pos hf] at h
  refine ⟨hf, ?_⟩
  rcases minO_or h with h | h
  · obtain ⟨v, hv, rfl⟩ := Option.map_eq_some_iff.mp h
    exact .inl ⟨v, hv, rfl⟩
  · by_cases hx : x ≤ q
    · rw [if_pos hx] at h
      obtain ⟨v, hv, rfl⟩ := Option.map_eq_some_iff.mp h
      exact .inr ⟨hx, v, hv, rfl⟩
    · rw [if_neg hx] at h; cases h
theorem best_step {S x : Nat} {done rest : List Nat} {q : Nat} {v : Wd} {c : Nat} (hf : fitP S rest q = true) (h : (best S done (x :: rest) (q + x) = some v ∧ c = 108) ∨ (x ≤ q ∧ best S done (x :: rest) (q - x) = some v ∧ c = 114)) :
    ∃ w, best S (x :: done) rest q = some w ∧ ¬ v ++ [c] < w := by
  have hm : (best S done (x :: rest) (q + x)).map (· ++ [108]) = some (v ++ [c]) ∨ (if x ≤ q then (best S done (x :: rest) (q - x)).map (· ++ [114]) else none) = some (v ++ [c]) := by
    rcases h with ⟨h1, rfl⟩ | ⟨hx, h1, rfl⟩
    · exact .inl (by rw [h1]; rfl)
    · exact .inr (by rw [if_pos hx, h1]; rfl)
  obtain ⟨w, hw⟩ := minO_some hm
  refine ⟨w, ?_, minO_le hw hm⟩
  unfold best
  rw [if_pos hf]
  exact hw
/-- the law's way: the least letter each time; H are the places where one may be -/
def grd (S : Nat) : List Nat → (Nat → Bool) → Wd → Wd
  | [], _, w => w
  | x :: l, H, w =>
    if (List.range (S + 1)).any (fun q => H (q + x) && fitP S l q) = true then grd S l (fun q => H (q + x) && fitP S l q) (w ++ [108])
    else grd S l (fun q => decide (x ≤ q) && H (q - x) && fitP S l q) (w ++ [114])
structure Inv (S : Nat) (done rest : List Nat) (H : Nat → Bool) (g : Wd) : Prop where
  ne : ∃ q, H q = true
  eq : ∀ q, H q = true ↔ best S done rest q = some g
  le : ∀ q w, best S done rest q = some w → ¬ w < g
theorem any_q {S : Nat} {f : Nat → Bool} {l : List Nat} (hf : ∀ q, f q = true → fitP S l q = true) : (List.range (S + 1)).any f = true ↔ ∃ q, f q = true := by
  rw [List.any_eq_true]
  exact ⟨fun ⟨q, _, h⟩ => ⟨q, h⟩, fun ⟨q, h⟩ => ⟨q, List.mem_range.mpr (Nat.lt_succ_of_le (fitP_le (hf q h))), h⟩⟩
theorem Inv.len {S : Nat} {done rest : List Nat} {H : Nat → Bool} {g : Wd} (I : Inv S done rest H g) : g.length = done.length := by
  obtain ⟨q, h⟩ := I.ne
  exact best_len ((I.eq q).mp h)
theorem Inv.step {S x : Nat} {done l : List Nat} {H : Nat → Bool} {g : Wd} (I : Inv S done (x :: l) H g) :
    if (List.range (S + 1)).any (fun q => H (q + x) && fitP S l q) = true then Inv S (x :: done) l (fun q => H (q + x) && fitP S l q) (g ++ [108])
    else Inv S (x :: done) l (fun q => decide (x ≤ q) && H (q - x) && fitP S l q) (g ++ [114]) := by
  have hl := I.len
  have any := any_q (S := S) (l := l) (f := fun q => H (q + x) && fitP S l q) fun q h => by simp only [Bool.and_eq_true] at h; exact h.2
  -- whatever comes is no less than the least with a letter behind it
  have low : ∀ q w, best S (x :: done) l q = some w → ∃ v c, best S done (x :: l) (if c = 108 then q + x else q - x) = some v ∧ w = v ++ [c] ∧ (c = 108 ∨ (c = 114 ∧ x ≤ q)) := fun q w h => by
    rcases (best_cons h).2 with ⟨v, h1, h2⟩ | ⟨hx, v, h1, h2⟩
    · exact ⟨v, 108, by rw [if_pos rfl]; exact h1, h2, .inl rfl⟩
    · exact ⟨v, 114, by rw [if_neg (by decide)]; exact h1, h2, .inr ⟨rfl, hx⟩⟩
  have lv : ∀ {q v}, best S done (x :: l) q = some v → v.length = g.length := fun h => by rw [best_len h, hl]
  by_cases ha : (List.range (S + 1)).any (fun q => H (q + x) && fitP S l q) = true
  · rw [if_pos ha]
    have le : ∀ q w, best S (x :: done) l q = some w → ¬ w < g ++ [108] := by
      intro q w h
      obtain ⟨v, c, h1, rfl, hc⟩ := low q w h
      rw [lt_app (lv h1)]
      rintro (z | ⟨_, z⟩)
      · exact I.le _ _ h1 z
      · rcases hc with rfl | ⟨rfl, _⟩ <;> omega
    refine ⟨any.mp ha, fun q => ?_, le⟩
    simp only [Bool.and_eq_true]
    constructor
    · rintro ⟨h1, h2⟩
      obtain ⟨w, hw, hn⟩ := best_step (done := done) (v := g) (c := 108) h2 (.inl ⟨(I.eq _).mp h1, rfl⟩)
      rw [hw, tri (le q w hw) hn]
    · intro h
      obtain ⟨v, c, h1, e, hc⟩ := low q _ h
      have e2 := List.append_inj' e rfl
      obtain ⟨rfl, e3⟩ := e2
      simp only [List.cons.injEq, and_true] at e3
      subst e3
      rw [if_pos rfl] at h1
      exact ⟨(I.eq _).mpr h1, best_fit h⟩
  · rw [if_neg ha]
    have no : ∀ q, ¬ (H (q + x) = true ∧ fitP S l q = true) := fun q h => ha (any.mpr ⟨q, by simp only [Bool.and_eq_true]; exact h⟩)
    have le : ∀ q w, best S (x :: done) l q = some w → ¬ w < g ++ [114] := by
      intro q w h
      obtain ⟨v, c, h1, rfl, hc⟩ := low q w h
      rw [lt_app (lv h1)]
      rintro (z | ⟨e, z⟩)
      · exact I.le _ _ h1 z
      · rcases hc with rfl | ⟨rfl, _⟩
        · rw [if_pos rfl] at h1
          exact no q ⟨(I.eq _).mpr (by rw [h1, e]), best_fit h⟩
        · omega
    refine ⟨?_, fun q => ?_, le⟩
    · obtain ⟨q, h⟩ := I.ne
      have hb := (I.eq q).mp h
      have hf := best_fit hb
      unfold fitP at hf
      rw [Bool.and_eq_true, Bool.or_eq_true, Bool.and_eq_true] at hf
      rcases hf.2 with h2 | ⟨h2, h3⟩
      · refine ⟨q + x, ?_⟩
        simp only [Bool.and_eq_true, decide_eq_true_eq]
        exact ⟨⟨by omega, by rw [Nat.add_sub_cancel]; exact h⟩, h2⟩
      · refine absurd ⟨?_, h3⟩ (no (q - x))
        have := of_decide_eq_true h2
        rw [Nat.sub_add_cancel this]; exact h
    · simp only [Bool.and_eq_true, decide_eq_true_eq]
      constructor
      · rintro ⟨⟨hx, h1⟩, h2⟩
        obtain ⟨w, hw, hn⟩ := best_step (done := done) (v := g) (c := 114) h2 (.inr ⟨hx, (I.eq _).mp h1, rfl⟩)
        rw [hw, tri (le q w hw) hn]
      · intro h
        obtain ⟨v, c, h1, e, hc⟩ := low q _ h
        have e2 := List.append_inj' e rfl
        obtain ⟨rfl, e3⟩ := e2
        simp only [List.cons.injEq, and_true] at e3
        subst e3
        rw [if_neg (by decide)] at h1
        rcases hc with hc | ⟨_, hx⟩
        · exact absurd hc (by decide)
        · exact ⟨⟨hx, (I.eq _).mpr h1⟩, best_fit h⟩
theorem Inv.first {S : Nat} {l : List Nat} (h : fitsR S l = true) : Inv S [] l (fitP S l) [] := by
  refine ⟨fitsR_iff.mp h, fun q => ?_, fun q w hw => ?_⟩
  · unfold best
    by_cases hf : fitP S l q = true
    · rw [if_pos hf]; exact ⟨fun _ => rfl, fun _ => hf⟩
    · rw [if_neg hf]; exact ⟨fun z => absurd z hf, fun z => by cases z⟩
  · rw [List.eq_nil_of_length_eq_zero (best_len hw)]
    exact lt_irr _
theorem grd_inv {S : Nat} : ∀ {rest done : List Nat} {H : Nat → Bool} {g : Wd}, Inv S done rest H g → ∃ H', Inv S (rest.reverse ++ done) [] H' (grd S rest H g)
  | [], done, H, g, I => ⟨H, I⟩
  | x :: l, done, H, g, I => by
    have := I.step
    unfold grd
    split
    · rename_i h
      rw [if_pos h] at this
      obtain ⟨H', I'⟩ := grd_inv this
      exact ⟨H', by rw [List.reverse_cons, List.append_assoc]; exact I'⟩
    · rename_i h
      rw [if_neg h] at this
      obtain ⟨H', I'⟩ := grd_inv this
      exact ⟨H', by rw [List.reverse_cons, List.append_assoc]; exact I'⟩
/-- the least lay -/
def layS (S : Nat) (l : List Nat) : Option Wd := if fitsR S l = true then some (grd S l (fitP S l) []) else none
theorem grd_best {S : Nat} {l : List Nat} (h : fitsR S l = true) : (∃ q, best S l.reverse [] q = some (grd S l (fitP S l) [])) ∧ ∀ q w, best S l.reverse [] q = some w → ¬ w < grd S l (fitP S l) [] := by
  obtain ⟨H', I⟩ := grd_inv (Inv.first h)
  rw [List.append_nil] at I
  obtain ⟨q, hq⟩ := I.ne
  exact ⟨⟨q, (I.eq q).mp hq⟩, I.le⟩
end K02
/-! k02: cases, halves, plain. -/
namespace K02
def stp (c : Nat) (h : Int) (x : Nat) : Int := if c = 114 then h + x else h - x
/-- where one comes -/
def pz : List Nat → Wd → Int → List Int
  | x :: l, c :: w, h => stp c h x :: pz l w (stp c h x)
  | _, _, _ => []
def pe : List Nat → Wd → Int → Int
  | x :: l, c :: w, h => pe l w (stp c h x)
  | _, _, h => h
theorem stp_add (c : Nat) (h d : Int) (x : Nat) : stp c (h + d) x = stp c h x + d := by
  unfold stp; split <;> omega
theorem pz_add : ∀ (l : List Nat) (w : Wd) (h d : Int), pz l w (h + d) = (pz l w h).map (· + d)
  | [], _, _, _ => by simp [pz]
  | _ :: _, [], _, _ => by simp [pz]
  | x :: l, c :: w, h, d => by
    unfold pz
    rw [List.map_cons, stp_add, pz_add l w]
theorem pz_snoc : ∀ (l : List Nat) (w : Wd) (h : Int) (x c : Nat), w.length = l.length → pz (l ++ [x]) (w ++ [c]) h = pz l w h ++ [stp c (pe l w h) x] ∧ pe (l ++ [x]) (w ++ [c]) h = stp c (pe l w h) x
  | [], [], h, x, c, _ => ⟨rfl, rfl⟩
  | [], _ :: _, _, _, _, e => by cases e
  | _ :: _, [], _, _, _, e => by cases e
  | y :: l, d :: w, h, x, c, e => by
    obtain ⟨h1, h2⟩ := pz_snoc l w (stp d h y) x c (by simpa using e)
    refine ⟨?_, h2⟩
    show stp d h y :: pz (l ++ [x]) (w ++ [c]) (stp d h y) = _
    rw [h1]; rfl
/-- the least word goes within the case -/
theorem best_path {S : Nat} : ∀ {done rest : List Nat} {q : Nat} {w : Wd}, best S done rest q = some w → ∃ p : Nat, p ≤ S ∧ pe done.reverse w p = q ∧ ∀ z ∈ pz done.reverse w p, 0 ≤ z ∧ z ≤ (S : Int)
  | [], rest, q, w, h => by
    have hq := fitP_le (best_fit h)
    have e := List.eq_nil_of_length_eq_zero (best_len h)
    subst e
    exact ⟨q, hq, rfl, fun z hz => by cases hz⟩
  | x :: d, rest, q, w, h => by
    have hq := fitP_le (best_fit h)
    have go : ∀ (v : Wd) (c q' : Nat), best S d (x :: rest) q' = some v → w = v ++ [c] → stp c (q' : Nat) x = (q : Nat) → ∃ p : Nat, p ≤ S ∧ pe (x :: d).reverse w p = q ∧ ∀ z ∈ pz (x :: d).reverse w p, 0 ≤ z ∧ z ≤ (S : Int) := by
      intro v c q' hv e hs
      subst e
      obtain ⟨p, hp, h1, h2⟩ := best_path hv
      obtain ⟨s1, s2⟩ := pz_snoc d.reverse v p x c (by rw [best_len hv, List.length_reverse])
      refine ⟨p, hp, ?_, ?_⟩
      · rw [List.reverse_cons, s2, h1, hs]
      · rw [List.reverse_cons, s1, h1, hs]
        intro z hz
        rcases List.mem_append.mp hz with hz | hz
        · exact h2 z hz
        · rw [List.mem_singleton.mp hz]; omega
    rcases (best_cons h).2 with ⟨v, hv, e⟩ | ⟨hx, v, hv, e⟩
    · exact go v 108 _ hv e (by unfold stp; rw [if_neg (by decide)]; omega)
    · exact go v 114 _ hv e (by unfold stp; rw [if_pos rfl]; omega)
def mnI (l : List Int) (a : Int) : Int := l.foldl (fun a y => if y < a then y else a) a
def mxI (l : List Int) (a : Int) : Int := l.foldl (fun a y => if a < y then y else a) a
theorem mnI_le : ∀ (l : List Int) (a : Int), mnI l a ≤ a ∧ ∀ y ∈ l, mnI l a ≤ y
  | [], a => ⟨Int.le_refl _, fun y h => by cases h⟩
  | x :: l, a => by
    obtain ⟨h1, h2⟩ := mnI_le l (if x < a then x else a)
    have e : mnI (x :: l) a = mnI l (if x < a then x else a) := rfl
    rw [e]
    have hz : (if x < a then x else a) ≤ a ∧ (if x < a then x else a) ≤ x := by split <;> omega
    refine ⟨Int.le_trans h1 hz.1, fun y hy => ?_⟩
    rcases List.mem_cons.mp hy with rfl | hy
    · exact Int.le_trans h1 hz.2
    · exact h2 y hy
theorem mxI_ge : ∀ (l : List Int) (a : Int), a ≤ mxI l a ∧ ∀ y ∈ l, y ≤ mxI l a
  | [], a => ⟨Int.le_refl _, fun y h => by cases h⟩
  | x :: l, a => by
    obtain ⟨h1, h2⟩ := mxI_ge l (if a < x then x else a)
    have e : mxI (x :: l) a = mxI l (if a < x then x else a) := rfl
    rw [e]
    have hz : a ≤ (if a < x then x else a) ∧ x ≤ (if a < x then x else a) := by split <;> omega
    refine ⟨Int.le_trans hz.1 h1, fun y hy => ?_⟩
    rcases List.mem_cons.mp hy with rfl | hy
    · exact Int.le_trans hz.2 h1
    · exact h2 y hy
theorem mnI_mem : ∀ (l : List Int) (a : Int), mnI l a ∈ a :: l
  | [], a => List.mem_singleton.mpr rfl
  | x :: l, a => by
    have h := mnI_mem l (if x < a then x else a)
    show mnI l (if x < a then x else a) ∈ _
    rcases List.mem_cons.mp h with h | h
    · rw [h]; split <;> simp
    · exact List.mem_cons_of_mem _ (List.mem_cons_of_mem _ h)
theorem mxI_mem : ∀ (l : List Int) (a : Int), mxI l a ∈ a :: l
  | [], a => List.mem_singleton.mpr rfl
  | x :: l, a => by
    have h := mxI_mem l (if a < x then x else a)
    show mxI l (if a < x then x else a) ∈ _
    rcases List.mem_cons.mp h with h | h
    · rw [h]; split <;> simp
    · exact List.mem_cons_of_mem _ (List.mem_cons_of_mem _ h)
def caseI (l : List Nat) (w : Wd) : Int := mxI (pz l w 0) 0 - mnI (pz l w 0) 0
/-- a way within a case shows that it fits -/
theorem path_fit {S : Nat} : ∀ (l : List Nat) (w : Wd) (p : Nat), w.length = l.length → p ≤ S → (∀ z ∈ pz l w p, 0 ≤ z ∧ z ≤ (S : Int)) → fitP S l p = true
  | [], _, p, _, hp, _ => decide_eq_true hp
  | x :: l, [], p, e, _, _ => by cases e
  | x :: l, c :: w, p, e, hp, h => by
    have h0 := h (stp c p x) (by unfold pz; exact List.mem_cons_self)
    have h1 : ∀ z ∈ pz l w (stp c p x), 0 ≤ z ∧ z ≤ (S : Int) := fun z hz => h z (by unfold pz; exact List.mem_cons_of_mem _ hz)
    unfold fitP
    rw [Bool.and_eq_true, Bool.or_eq_true, Bool.and_eq_true]
    refine ⟨decide_eq_true hp, ?_⟩
    unfold stp at h0 h1
    by_cases hc : c = 114
    · rw [if_pos hc] at h0 h1
      refine .inl (path_fit l w (p + x) (by simpa using e) (by omega) ?_)
      rw [show ((p + x : Nat) : Int) = (p : Int) + x by omega]; exact h1
    · rw [if_neg hc] at h0 h1
      refine .inr ⟨decide_eq_true (by omega), path_fit l w (p - x) (by simpa using e) (by omega) ?_⟩
      rw [show ((p - x : Nat) : Int) = (p : Int) - x by omega]; exact h1
theorem case_piece : ∀ (l : List Nat) (w : Wd) (h lo hi : Int), w.length = l.length → lo ≤ h → h ≤ hi → (∀ z ∈ pz l w h, lo ≤ z ∧ z ≤ hi) → ∀ x ∈ l, (x : Int) ≤ hi - lo
  | [], _, _, _, _, _, _, _, _, x, hx => by cases hx
  | y :: l, [], _, _, _, e, _, _, _, x, hx => by cases e
  | y :: l, c :: w, h, lo, hi, e, h1, h2, hz, x, hx => by
    have h0 := hz (stp c h y) (by unfold pz; exact List.mem_cons_self)
    rcases List.mem_cons.mp hx with rfl | hx
    · unfold stp at h0; split at h0 <;> omega
    · exact case_piece l w (stp c h y) lo hi (by simpa using e) h0.1 h0.2 (fun z q => hz z (by unfold pz; exact List.mem_cons_of_mem _ q)) x hx
/-- the least case, from m on -/
structure Least (m : Nat) (l : List Nat) (S : Nat) : Prop where
  ge : m ≤ S
  fit : fitsR S l = true
  no : ∀ s, m ≤ s → s < S → fitsR s l = false
theorem grd_len {S : Nat} {l : List Nat} (h : fitsR S l = true) : (grd S l (fitP S l) []).length = l.length := by
  obtain ⟨⟨q, hq⟩, _⟩ := grd_best h
  rw [best_len hq, List.length_reverse]
theorem case_least {m S : Nat} {l : List Nat} (L : Least m l S) (hm : ∀ s : Nat, (∀ x ∈ l, x ≤ s) → m ≤ s) : caseI l (grd S l (fitP S l) []) = S := by
  have hlen := grd_len L.fit
  obtain ⟨⟨q, hq⟩, _⟩ := grd_best L.fit
  generalize grd S l (fitP S l) [] = w at *
  obtain ⟨p, hp, _, hz⟩ := best_path hq
  rw [List.reverse_reverse] at hz
  have e := pz_add l w 0 p
  rw [Int.zero_add] at e
  rw [e] at hz
  obtain ⟨n1, n2⟩ := mnI_le (pz l w 0) 0
  obtain ⟨x1, x2⟩ := mxI_ge (pz l w 0) 0
  have lo : ∀ z ∈ (0 : Int) :: pz l w 0, -(p : Int) ≤ z ∧ z ≤ (S : Int) - p := by
    intro z h
    rcases List.mem_cons.mp h with rfl | h
    · omega
    · have := hz (z + p) (List.mem_map.mpr ⟨z, h, rfl⟩)
      omega
  have a1 := lo _ (mnI_mem (pz l w 0) 0)
  have a2 := lo _ (mxI_mem (pz l w 0) 0)
  have up : caseI l w ≤ S := by unfold caseI; omega
  obtain ⟨c, hc⟩ := Int.eq_ofNat_of_zero_le (show 0 ≤ caseI l w by unfold caseI; omega)
  have hcm : m ≤ c := hm c fun x hx => by
    have := case_piece l w 0 (mnI (pz l w 0) 0) (mxI (pz l w 0) 0) hlen n1 x1 (fun z h => ⟨n2 z h, x2 z h⟩) x hx
    unfold caseI at hc
    omega
  obtain ⟨a, ha⟩ := Int.eq_ofNat_of_zero_le (show 0 ≤ -mnI (pz l w 0) 0 by omega)
  have hf : fitsR c l = true := fitsR_iff.mpr ⟨a, path_fit l w a hlen (by unfold caseI at hc; omega) fun z h => by
    have e2 := pz_add l w 0 a
    rw [Int.zero_add] at e2
    rw [e2] at h
    obtain ⟨y, hy, rfl⟩ := List.mem_map.mp h
    have b1 := n2 y hy
    have b2 := x2 y hy
    unfold caseI at hc
    omega⟩
  have : ¬ c < S := fun z => by rw [L.no c hcm z] at hf; cases hf
  omega
/-! halves -/
def sub : List Nat → Nat → Bool
  | [], t => decide (t = 0)
  | x :: l, t => sub l t || (decide (x ≤ t) && sub l (t - x))
def endsR (s : Nat) : List Nat := [s, 2 * s]
theorem fit_ends {s q : Nat} (hs : 1 ≤ s) : fitP (2 * s) (endsR s) q = true ↔ q = s := by
  unfold endsR
  simp only [fitP, Bool.and_eq_true, Bool.or_eq_true, decide_eq_true_eq]
  omega
theorem fit_sub {s : Nat} (hs : 1 ≤ s) : ∀ {ns : List Nat} {q : Nat}, fitP (2 * s) (ns ++ endsR s) q = true → ∃ A, sub ns A = true ∧ q + 2 * A = s + ns.sum
  | [], q, h => ⟨0, rfl, by rw [(fit_ends hs).mp h]; rfl⟩
  | x :: ns, q, h => by
    rw [List.cons_append] at h
    simp only [fitP, Bool.and_eq_true, Bool.or_eq_true, decide_eq_true_eq] at h
    rcases h.2 with h2 | ⟨h2, h3⟩
    · obtain ⟨A, h4, h5⟩ := fit_sub hs h2
      refine ⟨A + x, ?_, by rw [List.sum_cons]; omega⟩
      simp only [sub, Bool.or_eq_true, Bool.and_eq_true, decide_eq_true_eq]
      exact .inr ⟨by omega, by rw [Nat.add_sub_cancel]; exact h4⟩
    · obtain ⟨A, h4, h5⟩ := fit_sub hs h3
      refine ⟨A, ?_, by rw [List.sum_cons]; omega⟩
      simp only [sub, Bool.or_eq_true]
      exact .inl h4
theorem sub_fit {s : Nat} (hs : 1 ≤ s) : ∀ {ns : List Nat} {A q : Nat}, sub ns A = true → q + A ≤ 2 * s → ns.sum ≤ q + A → q + 2 * A = s + ns.sum → fitP (2 * s) (ns ++ endsR s) q = true
  | [], A, q, h, h1, h2, h3 => by
    have hA : A = 0 := of_decide_eq_true h
    subst hA
    refine (fit_ends hs).mpr ?_
    simp at h3; exact h3
  | x :: ns, A, q, h, h1, h2, h3 => by
    rw [List.sum_cons] at h2 h3
    simp only [sub, Bool.or_eq_true, Bool.and_eq_true, decide_eq_true_eq] at h
    rw [List.cons_append]
    simp only [fitP, Bool.and_eq_true, Bool.or_eq_true, decide_eq_true_eq]
    refine ⟨by omega, ?_⟩
    rcases h with h | ⟨h4, h5⟩
    · have hsum := sub_le h
      exact .inr ⟨by omega, sub_fit hs h (by omega) (by omega) (by omega)⟩
    · exact .inl (sub_fit hs h5 (by omega) (by omega) (by omega))
where
  sub_le : ∀ {ns : List Nat} {A : Nat}, sub ns A = true → A ≤ ns.sum
    | [], A, h => by have : A = 0 := of_decide_eq_true h; omega
    | x :: ns, A, h => by
      simp only [sub, Bool.or_eq_true, Bool.and_eq_true, decide_eq_true_eq] at h
      rw [List.sum_cons]
      rcases h with h | ⟨h1, h2⟩
      · have := sub_le h; omega
      · have := sub_le h2; omega
def halvesR (s : Nat) (ns : List Nat) : List Nat := [2 * s, s] ++ ns ++ endsR s
theorem halves_fit {s : Nat} {ns : List Nat} (hs : 1 ≤ s) (hsum : ns.sum = 2 * s) : fitsR (2 * s) (halvesR s ns) = sub ns s := by
  rw [Bool.eq_iff_iff, fitsR_iff]
  have first : ∀ p, fitP (2 * s) (halvesR s ns) p = true ↔ (p = 0 ∨ p = 2 * s) ∧ fitP (2 * s) (ns ++ endsR s) s = true := by
    intro p
    unfold halvesR
    rw [List.append_assoc]
    show fitP (2 * s) (2 * s :: s :: (ns ++ endsR s)) p = true ↔ _
    simp only [fitP, Bool.and_eq_true, Bool.or_eq_true, decide_eq_true_eq]
    constructor
    · rintro ⟨h0, h | ⟨h1, h⟩⟩
      · have hp : p = 0 := by omega
        subst hp
        refine ⟨.inl rfl, ?_⟩
        rcases h.2 with h2 | ⟨h2, h3⟩
        · have := fitP_le h2; omega
        · rwa [show 0 + 2 * s - s = s by omega] at h3
      · have hp : p = 2 * s := by omega
        subst hp
        refine ⟨.inr rfl, ?_⟩
        rcases h.2 with h2 | ⟨h2, h3⟩
        · rwa [show 2 * s - 2 * s + s = s by omega] at h2
        · omega
    · rintro ⟨rfl | rfl, h⟩
      · refine ⟨by omega, .inl ⟨by omega, .inr ⟨by omega, ?_⟩⟩⟩
        rwa [show 0 + 2 * s - s = s by omega]
      · refine ⟨by omega, .inr ⟨by omega, by omega, .inl ?_⟩⟩
        rwa [show 2 * s - 2 * s + s = s by omega]
  constructor
  · rintro ⟨p, hp⟩
    obtain ⟨A, h1, h2⟩ := fit_sub hs ((first p).mp hp).2
    have : A = s := by omega
    rwa [this] at h1
  · intro h
    exact ⟨0, (first 0).mpr ⟨.inl rfl, sub_fit hs h (by omega) (by omega) (by omega)⟩⟩
/-- the places of a half -/
def grdH : List Nat → Nat → Nat → List Nat
  | [], _, _ => []
  | x :: l, k, t => if 0 < t ∧ x ≤ t ∧ sub l (t - x) = true then k :: grdH l (k + 1) (t - x) else grdH l (k + 1) t
def halfS (ns : List Nat) : Option (List Nat) := if ns.sum % 2 = 1 then none else if sub ns (ns.sum / 2) = true then some (grdH ns 0 (ns.sum / 2)) else none
end K02
namespace K02
open PySem PySem.Spec PyProof.Rows L2 PD
def nD (l : List Nat) : List D := l.map fun x : Nat => D.int (x : Nat)
def gd (ks : List Nat) : List (D × D) := ks.map fun x : Nat => (D.int (x : Nat), D.bl true)
theorem nD_len (l : List Nat) : (nD l).length = l.length := List.length_map ..
theorem fam_gd (ks : List Nat) : ∀ p ∈ gd ks, kfam p.1 = 1 := by
  intro p hp
  obtain ⟨x, _, rfl⟩ := List.mem_map.mp hp
  rfl
theorem key_gd (ks : List Nat) (z : Int) : keyOk (gd ks) (.int z) = some (.num z) := keyOk_of (by simp [toNK]) (show (1 : Nat) ≠ 0 by decide) (fam_gd ks) (Nat.zero_le _)
theorem get_gd (ks : List Nat) (z : Int) : getK (gd ks) (.num z) = if 0 ≤ z ∧ z.toNat ∈ ks then some (.bl true) else none := by
  induction ks with
  | nil =>
    rw [if_neg (by simp)]; rfl
  | cons x ks ih =>
    show getK ((D.int (x : Nat), D.bl true) :: gd ks) _ = _
    rw [getK_cons, ih]
    simp only [toNK, Option.some.injEq, NestedKey.num.injEq, List.mem_cons]
    by_cases h : (x : Int) = z
    · rw [if_pos h, if_pos ⟨by omega, .inl (by omega)⟩]
    · rw [if_neg h]
      by_cases h2 : 0 ≤ z ∧ z.toNat ∈ ks
      · rw [if_pos h2, if_pos ⟨h2.1, .inr h2.2⟩]
      · rw [if_neg h2, if_neg (fun q => q.2.elim (fun e => h (by omega)) fun e => h2 ⟨q.1, e⟩)]
theorem in_gd (ks : List Nat) (z : Int) : fInB (.int z) (.dct (gd ks)) = some (decide (0 ≤ z ∧ z.toNat ∈ ks)) := by
  show (keyOk (gd ks) (.int z)).map _ = _
  rw [key_gd, Option.map_some, get_gd]
  by_cases h : 0 ≤ z ∧ z.toNat ∈ ks
  · rw [if_pos h, decide_eq_true h]; rfl
  · rw [if_neg h, decide_eq_false h]; rfl
theorem nd_take {ks : List Nat} (nd : ks.Nodup) {i x : Nat} (h : ks[i]? = some x) : x ∉ ks.take i := by
  intro hm
  have hi := (List.getElem?_eq_some_iff.mp h).1
  have e : ks = ks.take i ++ ks.drop i := (List.take_append_drop i ks).symm
  rw [e] at nd
  refine (List.nodup_append.mp nd).2.2 x hm x ?_ rfl
  have e2 := List.drop_eq_getElem_cons hi
  rw [e2]
  obtain ⟨_, e3⟩ := List.getElem?_eq_some_iff.mp h
  rw [e3]; exact List.mem_cons_self
theorem gd_keys {ks : List Nat} (nd : ks.Nodup) (hl : ks.length ≤ 100000) : ∀ (i : Nat) (d : D), (nD ks)[i]? = some d → (((nD ks).take i).map fun d => (d, D.bl true)).length < sizeLine ∧ ∃ nk, keyOk (((nD ks).take i).map fun d => (d, D.bl true)) d = some nk ∧ getK (((nD ks).take i).map fun d => (d, D.bl true)) nk = none := by
  intro i d h
  unfold nD at h
  rw [List.getElem?_map, Option.map_eq_some_iff] at h
  obtain ⟨x, hx, rfl⟩ := h
  have e : ((nD ks).take i).map (fun d => (d, D.bl true)) = gd (ks.take i) := by
    unfold nD gd
    rw [← List.map_take, List.map_map]; rfl
  rw [e]
  refine ⟨?_, .num x, key_gd _ _, ?_⟩
  · show (gd (ks.take i)).length < sizeLine
    unfold gd
    rw [List.length_map, List.length_take]
    exact Nat.lt_of_lt_of_le (show min i ks.length < 16777216 by omega) (sz (Nat.le_refl _))
  · rw [get_gd, if_neg]
    rintro ⟨_, h2⟩
    rw [show ((x : Nat) : Int).toNat = x from rfl] at h2
    exact nd_take nd hx h2
theorem rows_nd (S : Nat) (l : List Nat) : (rowsS S l).Nodup := List.Pairwise.filter _ List.nodup_range
theorem rows_len (S : Nat) (l : List Nat) : (rowsS S l).length ≤ S + 1 := by
  refine Nat.le_trans (List.length_filter_le _ _) ?_
  rw [List.length_range]; exact Nat.le_refl _
def rowD (S : Nat) (l : List Nat) : D := .lst (nD (rowsS S l))
/-- the told rows, from the end on -/
def keptL (S : Nat) (r : List Nat) (i : Nat) : List D := (List.range (i + 1)).map fun j => rowD S (r.drop (r.length - j))
theorem rows_nil (S : Nat) : rowsS S [] = List.range (S + 1) := List.filter_eq_self.mpr fun p hp => decide_eq_true (Nat.le_of_lt_succ (List.mem_range.mp hp))
theorem rgL_nD (n : Nat) : rgL 0 (n : Int) = nD (List.range n) := by
  unfold rgL nD
  rw [show ((n : Int) - 0).toNat = n by omega]
  exact List.map_congr_left fun i _ => by rw [Int.zero_add]
section
variable {ds : Option DS} {Q : PD.R → Option DS → Prop} {S : Nat} {r : List Nat}
theorem w_kept (hS : S ≤ 1000) (hr : r.length ≤ 1000) (q : Q (.t (.l ((List.range (r.length + 1)).map fun k => rowD S (r.drop k)))) ds) : fq f_kept_rows [.tup (nD r), .int S] ds Q mk := by
  have s1 : 1 ≤ sizeLine := by decide
  unfold f_kept_rows m_kept_rows
  have eS : (S : Int) + 1 = ((S + 1 : Nat) : Int) := by omega
  simp [s1, -Int.natCast_add]
  rw [eS]
  refine ⟨rgOk_n (by omega), ?_⟩
  rw [rgL_nD, ← rows_nil]
  have e0 : (nD r).reverse = nD r.reverse := (List.map_reverse ..).symm
  rw [e0]
  refine q_loop (fun i s => ∃ x3 x4, s = ⟨[.d (.tup (nD r)), .d (.int S), .o (.l (keptL S r i)), x3, x4, .no], ds⟩) ⟨.no, .no, by simp [keptL, rowD]⟩ ?_ ?_
  · rintro i d s hi ⟨x3, x4, rfl⟩
    unfold nD at hi
    rw [List.getElem?_map, Option.map_eq_some_iff] at hi
    obtain ⟨x, hx, rfl⟩ := hi
    have hlt := (List.getElem?_eq_some_iff.mp hx).1
    rw [List.length_reverse] at hlt
    have hsuf : r.drop (r.length - (i + 1)) = x :: r.drop (r.length - i) := by
      rw [List.getElem?_reverse hlt] at hx
      obtain ⟨h1, h2⟩ := List.getElem?_eq_some_iff.mp hx
      rw [show r.length - (i + 1) = r.length - 1 - i by omega, List.drop_eq_getElem_cons h1, h2]
      congr 2; omega
    have hk : keptL S r i = (List.range i).map (fun j => rowD S (r.drop (r.length - j))) ++ [rowD S (r.drop (r.length - i))] := by
      unfold keptL; rw [List.range_succ, List.map_append]; rfl
    have hk2 : keptL S r (i + 1) = keptL S r i ++ [rowD S (r.drop (r.length - (i + 1)))] := by
      unfold keptL; rw [List.range_succ (n := i + 1), List.map_append]; rfl
    have hkl : (keptL S r i).length = i + 1 := by unfold keptL; simp
    generalize r.drop (r.length - i) = l at *
    have hat : atI (keptL S r i) (-1) = some (rowD S l) := by rw [hk]; exact atI_neg1
    rw [hk2, hsuf]
    generalize keptL S r i = U at *
    have nd := rows_nd S l
    have hl := rows_len S l
    simp [b_kept_rows_1, hat, rowD]
    refine q_dc_pure (fun d => (d, D.bl true)) ?_ (gd_keys nd (by omega)) ?_
    · intro d hd
      obtain ⟨p, _, rfl⟩ := List.mem_map.mp hd
      simp
    · rw [show (nD (rowsS S l)).map (fun d => (d, D.bl true)) = gd (rowsS S l) by unfold nD gd; rw [List.map_map]; rfl]
      simp [-Int.natCast_add]
      rw [eS]
      refine ⟨rg_ok (by omega), ?_⟩
      refine q_lc_pure (onI false fun p => fitP S (x :: l) p.toNat) id ?_ ?_
      · intro d hd
        obtain ⟨p, hp⟩ := List.getElem?_of_mem hd
        obtain ⟨rfl, hp2⟩ := rgD_at hp
        have i1 := in_gd (rowsS S l) ((p : Int) + (x : Int))
        have i2 := in_gd (rowsS S l) ((p : Int) - (x : Int))
        have hpS : p ≤ S := by omega
        have e1 : decide (0 ≤ (p : Int) + (x : Int) ∧ ((p : Int) + (x : Int)).toNat ∈ rowsS S l) = fitP S l (p + x) := by
          rw [show ((p : Int) + (x : Int)).toNat = p + x by omega, Bool.eq_iff_iff, decide_eq_true_eq, mem_rows]
          exact ⟨fun z => z.2, fun z => ⟨by omega, z⟩⟩
        have e2 : decide (0 ≤ (p : Int) - (x : Int) ∧ ((p : Int) - (x : Int)).toNat ∈ rowsS S l) = (decide (x ≤ p) && fitP S l (p - x)) := by
          rw [show ((p : Int) - (x : Int)).toNat = p - x by omega, Bool.eq_iff_iff, decide_eq_true_eq, mem_rows, Bool.and_eq_true, decide_eq_true_eq]
          exact ⟨fun z => ⟨by omega, z.2⟩, fun z => ⟨by omega, z.2⟩⟩
        rw [e1] at i1
        rw [e2] at i2
        have ef : fitP S (x :: l) p = (fitP S l (p + x) || (decide (x ≤ p) && fitP S l (p - x))) := by
          show (decide (p ≤ S) && _) = _
          rw [decide_eq_true hpS, Bool.true_and]
        simp [i1, i2, ef]
        generalize fitP S l (p + x) = b1
        generalize (decide (x ≤ p) && fitP S l (p - x)) = b2
        cases b1 <;> cases b2 <;> simp
      · rw [filter_onI, List.map_id]
        have e : ((List.range (S + 1)).filter fun (p : Nat) => fitP S (x :: l) ((p : Int).toNat)).map (fun (p : Nat) => D.int (p : Int)) = nD (rowsS S (x :: l)) := rfl
        rw [e]
        have hl2 : (nD (rowsS S (x :: l))).length ≤ S + 1 := by rw [nD_len]; exact rows_len S _
        generalize nD (rowsS S (x :: l)) = V at *
        simp [sz (show V.length ≤ 16777216 by omega)]
        exact Nat.lt_of_lt_of_le (show U.length < 16777216 by omega) (sz (Nat.le_refl _))
  · rintro s ⟨x3, x4, rfl⟩
    rw [nD_len, List.length_reverse]
    have e : (keptL S r r.length).reverse = (List.range (r.length + 1)).map fun k => rowD S (r.drop k) := by
      unfold keptL
      rw [← List.map_reverse]
      refine List.ext_getElem (by simp) fun i h1 h2 => ?_
      simp at h1 ⊢
      congr 2
      omega
    simp
    rw [e]
    exact q
end
end K02
namespace K02
open PySem PySem.Spec PyProof.Rows L2 PD
def iD (l : List Int) : List D := l.map D.int
theorem fmin_ints (l : List Int) (a : Int) : minDat (.int a) (iD l) = .int (mnI l a) := minDat_ints l a
theorem fmax_ints (l : List Int) (a : Int) : maxDat (.int a) (iD l) = .int (mxI l a) := maxDat_ints l a
@[simp] theorem addI_i {a b : Int} : addI (.int a) (.int b) = some (.int (a + b)) := rfl
@[simp] theorem subI_i {a b : Int} : subI (.int a) (.int b) = some (.int (a - b)) := rfl
def zD (l : List Nat) (w : Wd) : List D := (List.zip l w).map fun p => D.tup [.int (p.1 : Nat), .str [p.2]]
theorem fz_d (l : List Nat) (w : Wd) : fZ2 [.tup (nD l), .str w] = some (zD l w) := by
  show some ((z2D (nD l) (w.map fun c => D.str [c])).map D.tup) = _
  congr 1
  unfold zD
  induction l generalizing w with
  | nil => rfl
  | cons x l ih =>
    cases w with
    | nil => rfl
    | cons c w =>
      show D.tup [_, _] :: (z2D (nD l) (w.map fun c => D.str [c])).map D.tup = _
      rw [ih w]; rfl
theorem pz_take {l : List Nat} {w : Wd} (e : w.length = l.length) {i x c : Nat} (hx : l[i]? = some x) (hc : w[i]? = some c) (h : Int) :
    pz (l.take (i + 1)) (w.take (i + 1)) h = pz (l.take i) (w.take i) h ++ [stp c (pe (l.take i) (w.take i) h) x] ∧ pe (l.take (i + 1)) (w.take (i + 1)) h = stp c (pe (l.take i) (w.take i) h) x := by
  rw [List.take_add_one, List.take_add_one, hx, hc]
  exact pz_snoc _ _ _ _ _ (by rw [List.length_take, List.length_take, e])
section
variable {ds : Option DS} {Q : PD.R → Option DS → Prop} {l : List Nat} {w : Wd}
theorem zip_at {i x c : Nat} (h : (List.zip l w)[i]? = some (x, c)) : l[i]? = some x ∧ w[i]? = some c := by
  rw [List.getElem?_zip_eq_some] at h
  exact h
theorem pz_len (e : w.length = l.length) (h : Int) : (pz l w h).length = l.length := by
  induction l generalizing w h with
  | nil => cases w <;> rfl
  | cons x l ih =>
    cases w with
    | nil => cases e
    | cons c w =>
      show (pz l w _).length + 1 = _
      rw [ih (by simpa using e)]; rfl
theorem stp_small {c : Nat} {h : Int} {x : Nat} : (if decide (c = 114) = true then h + (x : Int) else h - (x : Int)) = stp c h x := by
  unfold stp
  by_cases hc : c = 114
  · rw [if_pos hc, if_pos (decide_eq_true hc)]
  · rw [if_neg hc, if_neg (by simp [hc])]
theorem w_law_case (e : w.length = l.length) (hl : l.length ≤ 1000) (q : Q (.d (.int (caseI l w))) ds) : fq f__law_case [.tup (nD l), .str w] ds Q mk := by
  unfold f__law_case m__law_case
  have s1 : 1 ≤ sizeLine := by decide
  simp [fz_d, s1]
  refine q_loop (fun i s => ∃ x4 x5, s = ⟨[.d (.tup (nD l)), .d (.str w), .d (.int (pe (l.take i) (w.take i) 0)), .o (.l (iD (0 :: pz (l.take i) (w.take i) 0))), x4, x5], ds⟩) ⟨.no, .no, rfl⟩ ?_ ?_
  · rintro i d s hi ⟨x4, x5, rfl⟩
    unfold zD at hi
    rw [List.getElem?_map, Option.map_eq_some_iff] at hi
    obtain ⟨⟨x, c⟩, hp, rfl⟩ := hi
    obtain ⟨hx, hc⟩ := zip_at hp
    obtain ⟨h1, h2⟩ := pz_take e hx hc 0
    have hlen := pz_len (l := l.take i) (w := w.take i) (by rw [List.length_take, List.length_take, e]) 0
    have hi2 : i < l.length := (List.getElem?_eq_some_iff.mp hx).1
    rw [List.length_take] at hlen
    rw [h1, h2, ← List.cons_append]
    generalize pz (l.take i) (w.take i) 0 = P at *
    generalize pe (l.take i) (w.take i) 0 = E at *
    have hU : (iD (0 :: P)).length ≤ 1001 := by unfold iD; rw [List.length_map, List.length_cons]; omega
    have hV : iD (0 :: P ++ [stp c E x]) = iD (0 :: P) ++ [D.int (stp c E x)] := by unfold iD; rw [List.map_append]; rfl
    rw [hV]
    generalize iD (0 :: P) = U at *
    have hz : U.length < sizeLine := Nat.lt_of_lt_of_le (show U.length < 16777216 by omega) (sz (Nat.le_refl _))
    simp [b__law_case_1]
    unfold stp
    by_cases hc : c = 114
    · simp [hc, hz]
    · simp [hc, hz]
  · rintro s ⟨x4, x5, rfl⟩
    have hzl : (zD l w).length = l.length := by unfold zD; simp [e]
    have ht : w.take l.length = w := List.take_of_length_le (by omega)
    rw [hzl, List.take_length, ht]
    have ok : okMin (iD (0 :: pz l w 0)) = true := okMin_ints _
    have c1 : iD (0 :: pz l w 0) = .int 0 :: iD (pz l w 0) := rfl
    rw [c1] at ok ⊢
    simp [ok, fmin_ints, fmax_ints]
    exact q
theorem w_case_of (e : w.length = l.length) (hl : l.length ≤ 1000) (q : Q (.d (.int (caseI l w))) ds) : fq f_case_of [.tup (nD l), .str w] ds Q mk := by
  unfold f_case_of m_case_of
  have s3 : 3 ≤ sizeLine := by decide
  simp [fz_d, s3]
  refine q_loop (fun i s => ∃ x4 x5, s = ⟨[.d (.tup (nD l)), .d (.str w), .d (.int (pe (l.take i) (w.take i) 0)), .d (.int (mnI (pz (l.take i) (w.take i) 0) 0)), .d (.int (mxI (pz (l.take i) (w.take i) 0) 0)), x4, x5], ds⟩) ⟨.no, .no, rfl⟩ ?_ ?_
  · rintro i d s hi ⟨x4, x5, rfl⟩
    unfold zD at hi
    rw [List.getElem?_map, Option.map_eq_some_iff] at hi
    obtain ⟨⟨x, c⟩, hp, rfl⟩ := hi
    obtain ⟨hx, hc⟩ := zip_at hp
    obtain ⟨h1, h2⟩ := pz_take e hx hc 0
    rw [h1, h2]
    have m1 : mnI (pz (l.take i) (w.take i) 0 ++ [stp c (pe (l.take i) (w.take i) 0) x]) 0 = if stp c (pe (l.take i) (w.take i) 0) x < mnI (pz (l.take i) (w.take i) 0) 0 then stp c (pe (l.take i) (w.take i) 0) x else mnI (pz (l.take i) (w.take i) 0) 0 := by
      unfold mnI; rw [List.foldl_append]; rfl
    have m2 : mxI (pz (l.take i) (w.take i) 0 ++ [stp c (pe (l.take i) (w.take i) 0) x]) 0 = if mxI (pz (l.take i) (w.take i) 0) 0 < stp c (pe (l.take i) (w.take i) 0) x then stp c (pe (l.take i) (w.take i) 0) x else mxI (pz (l.take i) (w.take i) 0) 0 := by
      unfold mxI; rw [List.foldl_append]; rfl
    rw [m1, m2]
    generalize mnI (pz (l.take i) (w.take i) 0) 0 = A
    generalize mxI (pz (l.take i) (w.take i) 0) 0 = B
    generalize pe (l.take i) (w.take i) 0 = E at *
    simp [b_case_of_1]
    unfold stp
    by_cases hc : c = 114
    · simp [hc, minDat_ii, maxDat_ii]
    · simp [hc, minDat_ii, maxDat_ii, Int.sub_eq_add_neg]
  · rintro s ⟨x4, x5, rfl⟩
    have hzl : (zD l w).length = l.length := by unfold zD; simp [e]
    have ht : w.take l.length = w := List.take_of_length_le (by omega)
    rw [hzl, List.take_length, ht]
    simp
    exact q
end
end K02
namespace K02
open PySem PySem.Spec PyProof.Rows L2 PD
def MX : List Nat → Nat
  | [] => 0
  | x :: l => l.foldl (fun a y => if a < y then y else a) x
theorem mx_go : ∀ (l : List Nat) (a : Nat), mxI (l.map fun x : Nat => (x : Int)) (a : Int) = (l.foldl (fun a y => if a < y then y else a) a : Nat)
  | [], a => rfl
  | y :: l, a => by
    rw [List.map_cons, List.foldl_cons, ← mx_go l]
    unfold mxI
    rw [List.foldl_cons]
    congr 1
    by_cases h : a < y
    · rw [if_pos h, if_pos (by omega)]
    · rw [if_neg h, if_neg (by omega)]
theorem nD_iD (l : List Nat) : nD l = iD (l.map fun x : Nat => (x : Int)) := by unfold nD iD; rw [List.map_map]; rfl
theorem max_nD {r : List Nat} (h : r ≠ []) : fMaxX [.tup (nD r)] = some (.d (.int (MX r : Nat))) := by
  cases r with
  | nil => exact absurd rfl h
  | cons x l =>
    have ok : okMin (nD (x :: l)) = true := by rw [nD_iD]; exact okMin_ints _
    show (if okMin (nD (x :: l)) = true then some (R.d (maxDat (.int x) (nD l))) else none) = _
    rw [if_pos ok, nD_iD, fmax_ints, mx_go]
    rfl
theorem mx_foldl : ∀ (l : List Nat) (a : Nat), a ≤ l.foldl (fun a y => if a < y then y else a) a ∧ (∀ y ∈ l, y ≤ l.foldl (fun a y => if a < y then y else a) a) ∧ l.foldl (fun a y => if a < y then y else a) a ∈ a :: l
  | [], a => ⟨Nat.le_refl _, ⟨fun y h => absurd h List.not_mem_nil, List.mem_singleton.mpr rfl⟩⟩
  | y :: l, a => by
    rw [List.foldl_cons]
    obtain ⟨h1, h2, h3⟩ := mx_foldl l (if a < y then y else a)
    have hz : a ≤ (if a < y then y else a) ∧ y ≤ (if a < y then y else a) := by split <;> omega
    refine ⟨Nat.le_trans hz.1 h1, fun z hz2 => ?_, ?_⟩
    · rcases List.mem_cons.mp hz2 with rfl | hz2
      · exact Nat.le_trans hz.2 h1
      · exact h2 z hz2
    · rcases List.mem_cons.mp h3 with h | h
      · rw [h]; split <;> simp
      · exact List.mem_cons_of_mem _ (List.mem_cons_of_mem _ h)
theorem MX_ge {r : List Nat} {x : Nat} (h : x ∈ r) : x ≤ MX r := by
  cases r with
  | nil => cases h
  | cons y l =>
    rcases List.mem_cons.mp h with rfl | h
    · exact (mx_foldl l x).1
    · exact (mx_foldl l y).2.1 x h
theorem MX_mem {r : List Nat} (h : r ≠ []) : MX r ∈ r := by
  cases r with
  | nil => exact absurd rfl h
  | cons y l => exact (mx_foldl l y).2.2
theorem MX_le {r : List Nat} {s : Nat} (h : ∀ x ∈ r, x ≤ s) : MX r ≤ s := by
  cases r with
  | nil => exact Nat.zero_le _
  | cons y l => exact h _ (MX_mem (List.cons_ne_nil _ _))
theorem fits_top (r : List Nat) : fitsR (2 * MX r) r = true := fitsR_iff.mpr ⟨0, fitP_big (Nat.le_refl _) (fun x h => MX_ge h) 0 (Nat.zero_le _)⟩
theorem least_ex {r : List Nat} {T : Nat} (hT : fitsR T r = true) : ∀ k m, T = m + k → ∃ S, Least m r S ∧ S ≤ T
  | 0, m, e => ⟨m, ⟨Nat.le_refl _, by rw [show m = T by omega]; exact hT, fun s h1 h2 => by omega⟩, by omega⟩
  | k + 1, m, e => by
    cases h : fitsR m r with
    | true => exact ⟨m, ⟨Nat.le_refl _, h, fun s h1 h2 => by omega⟩, by omega⟩
    | false =>
      obtain ⟨S, L, hS⟩ := least_ex hT k (m + 1) (by omega)
      refine ⟨S, ⟨by have := L.ge; omega, L.fit, fun s h1 h2 => ?_⟩, hS⟩
      by_cases e2 : s = m
      · rw [e2]; exact h
      · exact L.no s (by omega) h2
theorem least_mx (r : List Nat) : ∃ S, Least (MX r) r S ∧ S ≤ 2 * MX r := least_ex (fits_top r) (MX r) (MX r) (by omega)
theorem rows_fits {S : Nat} {r : List Nat} : (rowsS S r).length = 0 ↔ fitsR S r = false := by
  unfold rowsS fitsR
  rw [List.length_eq_zero_iff, List.filter_eq_nil_iff, List.any_eq_false]
section
variable {ds : Option DS} {Q : PD.R → Option DS → Prop} {S : Nat} {r : List Nat}
theorem w_least (hne : r ≠ []) (hm : MX r ≤ 500) (hr : r.length ≤ 1000) (L : Least (MX r) r S) (hS : S ≤ 1000) (q : Q (.d (.int S)) ds) : fq f_least_case [.tup (nD r)] ds Q mk := by
  unfold f_least_case m_least_case
  simp [max_nD hne]
  refine q_while (fun n s => ∃ c, MX r ≤ c ∧ c ≤ S ∧ n = S - c ∧ s = ⟨[.d (.tup (nD r)), .d (.int (c : Nat))], ds⟩) ⟨MX r, Nat.le_refl _, L.ge, rfl, rfl⟩ ?_
  rintro n s ⟨c, h1, h2, rfl, rfl⟩
  simp
  refine w_kept (by omega) hr ?_
  have e0 : ((List.range (r.length + 1)).map fun k => rowD c (r.drop k)) = rowD c r :: ((List.range r.length).map fun k => rowD c (r.drop (k + 1))) := by
    rw [List.range_succ_eq_map, List.map_cons, List.map_map]; rfl
  rw [e0]
  have a0 : atI (rowD c r :: ((List.range r.length).map fun k => rowD c (r.drop (k + 1)))) 0 = some (rowD c r) := by
    rw [show (0 : Int) = ((0 : Nat) : Int) from rfl, atI_get?]; rfl
  simp [a0]
  simp [rowD, nD_len]
  have hf := rows_fits (S := c) (r := r)
  rw [List.length_eq_zero_iff] at hf
  by_cases hc : c = S
  · subst hc
    rw [if_neg (fun z => by have h3 := hf.mp z; rw [L.fit] at h3; cases h3)]
    exact q
  · rw [if_pos (hf.mpr (L.no c h1 (by omega)))]
    simp [b_least_case_1]
    exact ⟨S - (c + 1), by omega, c + 1, by omega, by omega, rfl, by omega⟩
def tst (S : Nat) (p : Int × Wd) (x : Nat) : Int × Wd := if p.1 + x ≤ S then (p.1 + x, p.2 ++ [114]) else (p.1 - x, p.2 ++ [108])
def toldW (r : List Nat) : Wd := (r.foldl (tst (2 * MX r)) (0, [])).2
theorem tst_len (S : Nat) : ∀ (r : List Nat) (p : Int × Wd), (r.foldl (tst S) p).2.length = p.2.length + r.length
  | [], p => rfl
  | x :: r, p => by
    rw [List.foldl_cons, tst_len S r, List.length_cons]
    unfold tst
    split <;> simp <;> omega
theorem w_told (hne : r ≠ []) (hm : MX r ≤ 500) (hr : r.length ≤ 1000) (q : Q (.d (.str (toldW r))) ds) : fq f_told_lay [.tup (nD r)] ds Q mk := by
  unfold f_told_lay m_told_lay
  simp [max_nD hne, cmul' (show ((2 : Int)).natAbs < 2 ^ 63 by decide)]
  refine q_loop (fun i s => ∃ x1, s = ⟨[.d (.tup (nD r)), x1, .d (.int (2 * (MX r : Nat))), .d (.int ((r.take i).foldl (tst (2 * MX r)) (0, [])).1), .d (.str ((r.take i).foldl (tst (2 * MX r)) (0, [])).2)], ds⟩) ⟨.no, rfl⟩ ?_ ?_
  · rintro i d s hi ⟨x1, rfl⟩
    unfold nD at hi
    rw [List.getElem?_map, Option.map_eq_some_iff] at hi
    obtain ⟨x, hx, rfl⟩ := hi
    have hi2 := (List.getElem?_eq_some_iff.mp hx).1
    have hw := tst_len (2 * MX r) (r.take i) (0, [])
    rw [List.length_take] at hw
    rw [List.take_add_one, hx, Option.toList_some, List.foldl_append, List.foldl_cons, List.foldl_nil]
    generalize (r.take i).foldl (tst (2 * MX r)) (0, []) = P at *
    obtain ⟨h, w⟩ := P
    simp only [List.length_nil] at hw
    have hz : w.length + 1 ≤ sizeLine := sz (by omega)
    simp [b_told_lay_1]
    unfold tst
    by_cases hc : h + (x : Int) ≤ 2 * (MX r : Nat)
    · have hc2 : h + (x : Int) ≤ ((2 * MX r : Nat) : Int) := by omega
      simp [hc, hc2, hz]
    · have hc2 : ¬ h + (x : Int) ≤ ((2 * MX r : Nat) : Int) := by omega
      simp [hc, hc2, hz]
  · rintro s ⟨x1, rfl⟩
    rw [nD_len, List.take_length]
    simp
    exact q
theorem ints_nD (l : List Nat) : intsD (nD l) = some (l.map fun x : Nat => (x : Int)) := by
  induction l with
  | nil => rfl
  | cons x l ih =>
    show (intsD (nD l)).map _ = _
    rw [ih]; rfl
theorem sum_cast (l : List Nat) : (l.map fun x : Nat => (x : Int)).sum = (l.sum : Nat) := by
  induction l with
  | nil => rfl
  | cons x l ih => rw [List.map_cons, List.sum_cons, List.sum_cons, ih]; omega
theorem sum_nD (l : List Nat) : fSumX [.tup (nD l)] = some (.d (.int (l.sum : Nat))) := by
  show (intsD (nD l)).map (fun ns => R.d (.int ns.sum)) = _
  rw [ints_nD, Option.map_some, sum_cast]
theorem w_hr {ns : List Nat} {s : Nat} (hl : ns.length ≤ 1000) (hs : ns.sum = 2 * s) (q : Q (.d (.tup (nD (halvesR s ns)))) ds) : fq f_halves_ruler [.tup (nD ns)] ds Q mk := by
  unfold f_halves_ruler m_halves_ruler
  have s2 : 2 ≤ sizeLine := by decide
  have h2 : ((2 * s : Nat) : Int) = 2 * (s : Int) := by omega
  simp [ints_nD, sum_cast, hs, s2, nD_len, h2]

  refine ⟨sz (by omega), sz (by omega), ?_⟩
  have e : D.int (2 * (s : Int)) :: D.int s :: (nD ns ++ [D.int s, D.int (2 * (s : Int))]) = nD (halvesR s ns) := by
    unfold halvesR endsR nD
    rw [List.map_append, List.map_append]
    simp [h2]
  rw [e]
  exact q
end
end K02
namespace K02
def kb (S : Nat) : List Nat → Nat
  | [] => 2 ^ (S + 1) - 1
  | x :: l => ((kb S l * 2 ^ x) ||| (kb S l / 2 ^ x)) &&& (2 ^ (S + 1) - 1)
theorem bit_mul (a x p : Nat) : (a * 2 ^ x).testBit p = (decide (x ≤ p) && a.testBit (p - x)) := by
  rw [← Nat.shiftLeft_eq, Nat.testBit_shiftLeft]
theorem bit_div (a x p : Nat) : (a / 2 ^ x).testBit p = a.testBit (p + x) := by
  rw [← Nat.shiftRight_eq_div_pow, Nat.testBit_shiftRight, Nat.add_comm]
theorem kb_bit (S : Nat) : ∀ (l : List Nat) (p : Nat), (kb S l).testBit p = fitP S l p
  | [], p => by
    unfold kb fitP
    rw [Nat.testBit_two_pow_sub_one]
    simp only [Nat.lt_succ_iff]
  | x :: l, p => by
    unfold kb fitP
    rw [Nat.testBit_and, Nat.testBit_or, bit_mul, bit_div, kb_bit S l, kb_bit S l, Nat.testBit_two_pow_sub_one, Bool.and_comm, Bool.or_comm]
    simp only [Nat.lt_succ_iff]
theorem kb_lt (S : Nat) : ∀ l : List Nat, kb S l < 2 ^ (S + 1)
  | [] => by have := Nat.two_pow_pos (S + 1); unfold kb; omega
  | x :: l => by
    have h := Nat.two_pow_pos (S + 1)
    have : kb S (x :: l) ≤ 2 ^ (S + 1) - 1 := Nat.and_le_right
    omega
def gb (S : Nat) : List Nat → Nat → Wd → Wd
  | [], _, w => w
  | x :: l, here, w => if 0 < (here / 2 ^ x) &&& kb S l then gb S l ((here / 2 ^ x) &&& kb S l) (w ++ [108]) else gb S l ((here * 2 ^ x) &&& kb S l) (w ++ [114])
theorem pos_bit {n : Nat} : 0 < n ↔ ∃ q, n.testBit q = true := by
  constructor
  · intro h
    obtain ⟨i, hi⟩ := Nat.exists_testBit_of_ne_zero (Nat.pos_iff_ne_zero.mp h)
    exact ⟨i, hi⟩
  · rintro ⟨q, h⟩
    rcases Nat.eq_zero_or_pos n with e | e
    · rw [e, Nat.zero_testBit] at h; cases h
    · exact e
theorem gb_grd (S : Nat) : ∀ (l : List Nat) (here : Nat) (w : Wd), gb S l here w = grd S l (fun q => here.testBit q) w
  | [], _, _ => rfl
  | x :: l, here, w => by
    have e1 : (fun q => ((here / 2 ^ x) &&& kb S l).testBit q) = fun q => here.testBit (q + x) && fitP S l q := by
      funext q; rw [Nat.testBit_and, bit_div, kb_bit]
    have e2 : (fun q => ((here * 2 ^ x) &&& kb S l).testBit q) = fun q => decide (x ≤ q) && here.testBit (q - x) && fitP S l q := by
      funext q; rw [Nat.testBit_and, bit_mul, kb_bit]
    have c : (0 < (here / 2 ^ x) &&& kb S l) ↔ (List.range (S + 1)).any (fun q => here.testBit (q + x) && fitP S l q) = true := by
      rw [pos_bit, any_q (S := S) (l := l) (f := fun q => here.testBit (q + x) && fitP S l q) fun q h => by simp only [Bool.and_eq_true] at h; exact h.2]
      constructor
      · rintro ⟨q, h⟩; exact ⟨q, by rw [← congrFun e1 q]; exact h⟩
      · rintro ⟨q, h⟩; exact ⟨q, by rw [← congrFun e1 q] at h; exact h⟩
    unfold gb grd
    by_cases h : 0 < (here / 2 ^ x) &&& kb S l
    · rw [if_pos h, if_pos (c.mp h), gb_grd S l, e1]
    · rw [if_neg h, if_neg (fun z => h (c.mpr z)), gb_grd S l, e2]
theorem lay_gb (S : Nat) (l : List Nat) : layS S l = if kb S l = 0 then none else some (gb S l (kb S l) []) := by
  have e : (fun q => (kb S l).testBit q) = fitP S l := funext fun q => kb_bit S l q
  have c : kb S l = 0 ↔ ¬ fitsR S l = true := by
    rw [fitsR_iff]
    constructor
    · rintro h ⟨p, hp⟩
      rw [← kb_bit, h, Nat.zero_testBit] at hp; cases hp
    · intro h
      rcases Nat.eq_zero_or_pos (kb S l) with e | e
      · exact e
      · obtain ⟨q, hq⟩ := pos_bit.mp e
        rw [kb_bit] at hq
        exact absurd ⟨q, hq⟩ h
  unfold layS
  rw [gb_grd, e]
  by_cases h : kb S l = 0
  · rw [if_pos h, if_neg (c.mp h)]
  · rw [if_neg h, if_pos (by
      cases hf : fitsR S l with
      | true => rfl
      | false => exact absurd (c.mpr (by rw [hf]; decide)) h)]
end K02
namespace K02
open PySem PySem.Spec PyProof.Rows L2 PD
def resD : Option Wd → D
  | none => .non
  | some w => .str w
def keptB (S : Nat) (r : List Nat) (i : Nat) : List Nat := (List.range (i + 1)).map fun j => kb S (r.drop (r.length - j))
theorem drop_suf {r : List Nat} {i x : Nat} (hx : r.reverse[i]? = some x) (hlt : i < r.length) : r.drop (r.length - (i + 1)) = x :: r.drop (r.length - i) := by
  rw [List.getElem?_reverse hlt] at hx
  obtain ⟨h1, h2⟩ := List.getElem?_eq_some_iff.mp hx
  rw [show r.length - (i + 1) = r.length - 1 - i by omega, List.drop_eq_getElem_cons h1, h2]
  congr 2; omega
def enD (r : List Nat) : List D := r.zipIdx.map fun p => .tup [.int (p.2 : Nat), .int (p.1 : Nat)]
theorem kept_rev {β : Type} (f : List Nat → β) (r : List Nat) : ((List.range (r.length + 1)).map fun j => f (r.drop (r.length - j))).reverse = (List.range (r.length + 1)).map fun k => f (r.drop k) := by
  refine List.ext_getElem (by simp) fun i h1 h2 => ?_
  simp only [List.length_reverse, List.length_map, List.length_range] at h1
  simp
  congr 2
  omega
theorem en_nD (r : List Nat) : (PD.enD (nD r)).map D.tup = enD r := by
  unfold PD.enD nD enD
  rw [List.mapIdx_eq_zipIdx_map, List.map_map, List.zipIdx_map, List.map_map]
  rfl
theorem en_at {r : List Nat} {i : Nat} {d : D} (h : (enD r)[i]? = some d) : ∃ x, r[i]? = some x ∧ d = .tup [.int (i : Nat), .int (x : Nat)] := by
  unfold enD at h
  rw [List.getElem?_map, Option.map_eq_some_iff] at h
  obtain ⟨⟨x, k⟩, h1, rfl⟩ := h
  rw [List.getElem?_zipIdx, Option.map_eq_some_iff] at h1
  obtain ⟨y, h2, h3⟩ := h1
  simp only [Prod.mk.injEq] at h3
  obtain ⟨rfl, rfl⟩ := h3
  exact ⟨y, h2, by simp⟩
section
variable {ds : Option DS} {Q : PD.R → Option DS → Prop} {S : Nat} {r : List Nat}
theorem w_law_lay (hS : S ≤ 1000) (hr : r.length ≤ 1000) (hx : ∀ x ∈ r, x ≤ 1000) (q : Q (.d (resD (layS S r))) ds) : fq f__law_lay [.tup (nD r), .int S] ds Q mk := by
  have s1 : 1 ≤ sizeLine := by decide
  unfold f__law_lay m__law_lay
  have hmx : (if (S : Int) < -1 then (-1 : Int) else (S : Int)) = (S : Int) := if_neg (by omega)
  have eS : (S : Int) + 1 = ((S + 1 : Nat) : Int) := by omega
  have sh : fShlW (.int 1) (.int ((S : Int) + 1)) = some (.d (.int ((2 ^ (S + 1) : Nat) : Int))) := by
    have := fShlW_n (n := 1) (j := S + 1) (k := 1) (by decide) (by decide) (by omega)
    rw [Nat.one_mul] at this
    rw [eS]; exact this
  have ef : ((2 ^ (S + 1) : Nat) : Int) - 1 = ((2 ^ (S + 1) - 1 : Nat) : Int) := by have := Nat.two_pow_pos (S + 1); omega
  simp [s1, hmx, sh, -Int.natCast_pow]
  rw [ef]
  generalize hF : 2 ^ (S + 1) - 1 = F
  have hF0 : kb S [] = F := hF
  have e0 : (nD r).reverse = nD r.reverse := (List.map_reverse ..).symm
  rw [e0]
  refine q_loop (fun i s => ∃ x4, s = ⟨[.d (.tup (nD r)), .d (.int S), .d (.int (F : Nat)), .o (.l (nD (keptB S r i))), x4, .no, .no, .no, .no], ds⟩) ⟨.no, by simp [keptB, nD, hF0]⟩ ?_ ?_
  · rintro i d s hi ⟨x4, rfl⟩
    unfold nD at hi
    rw [List.getElem?_map, Option.map_eq_some_iff] at hi
    obtain ⟨x, hxi, rfl⟩ := hi
    have hlt := (List.getElem?_eq_some_iff.mp hxi).1
    rw [List.length_reverse] at hlt
    have hsuf := drop_suf hxi hlt
    have hxm := hx x (List.mem_reverse.mp (List.mem_of_getElem? hxi))
    have hk : keptB S r i = (List.range i).map (fun j => kb S (r.drop (r.length - j))) ++ [kb S (r.drop (r.length - i))] := by
      unfold keptB; rw [List.range_succ, List.map_append]; rfl
    have hk2 : keptB S r (i + 1) = keptB S r i ++ [kb S (r.drop (r.length - (i + 1)))] := by
      unfold keptB; rw [List.range_succ (n := i + 1), List.map_append]; rfl
    have hkl : (keptB S r i).length = i + 1 := by unfold keptB; simp
    have hat : atI (nD (keptB S r i)) (-1) = some (.int (kb S (r.drop (r.length - i)) : Nat)) := by
      rw [hk]; unfold nD; rw [List.map_append]; exact atI_neg1
    have hlt2 := kb_lt S (r.drop (r.length - i))
    have hkx : kb S (x :: r.drop (r.length - i)) = ((kb S (r.drop (r.length - i)) * 2 ^ x) ||| (kb S (r.drop (r.length - i)) / 2 ^ x)) &&& F := by rw [← hF]; rfl
    rw [hk2, hsuf, hkx]
    have hap : ∀ v : Nat, nD (keptB S r i ++ [v]) = nD (keptB S r i) ++ [D.int v] := fun v => by unfold nD; rw [List.map_append]; rfl
    rw [hap]
    have hul : (nD (keptB S r i)).length = i + 1 := by rw [nD_len, hkl]
    generalize nD (keptB S r i) = U at *
    generalize kb S (r.drop (r.length - i)) = K at *
    have hz : U.length < sizeLine := Nat.lt_of_lt_of_le (show U.length < 16777216 by omega) (sz (Nat.le_refl _))
    have h1 := fShlW_n (n := K) (j := x) hlt2 (by omega) (by omega)
    have h2 : fShr (.int (K : Nat)) (.int (x : Nat)) = _ := fShr_n
    have h3 : fOr (.int ((K * 2 ^ x : Nat) : Int)) (.int ((K / 2 ^ x : Nat) : Int)) = _ := fOr_n
    have h4 : fAnd (.int (((K * 2 ^ x) ||| (K / 2 ^ x) : Nat) : Int)) (.int (F : Nat)) = _ := fAnd_n
    generalize K * 2 ^ x = K1 at *
    generalize K / 2 ^ x = K2 at *
    generalize K1 ||| K2 = K3 at *
    generalize K3 &&& F = K4 at *
    clear hF hF0 ef sh hlt2 hkx
    simp [b__law_lay_1, hat, h1, h2, h3, h4, hz]
  · rintro s ⟨x4, rfl⟩
    rw [nD_len, List.length_reverse]
    have e : (nD (keptB S r r.length)).reverse = nD ((List.range (r.length + 1)).map fun k => kb S (r.drop k)) := by
      unfold keptB nD
      rw [List.map_map, List.map_map]
      exact kept_rev (fun l => D.int (kb S l : Nat)) r
    simp [-Int.natCast_pow]
    rw [e]
    have at_ : ∀ k : Nat, k ≤ r.length → atI (nD ((List.range (r.length + 1)).map fun k => kb S (r.drop k))) (k : Int) = some (.int (kb S (r.drop k) : Nat)) := fun k hk => by
      rw [atI_get?]
      unfold nD
      rw [List.getElem?_map, List.getElem?_map, List.getElem?_range (by omega)]
      rfl
    have a0 := at_ 0 (Nat.zero_le _)
    rw [List.drop_zero] at a0
    generalize nD ((List.range (r.length + 1)).map fun k => kb S (r.drop k)) = KL at *
    have a0' : atI KL 0 = some (.int (kb S r : Nat)) := a0
    simp [a0', -Int.natCast_pow]
    rw [lay_gb] at q
    by_cases hk0 : kb S r = 0
    · rw [if_pos hk0] at q ⊢
      exact q
    · rw [if_neg hk0] at q ⊢
      generalize hG : gb S r (kb S r) [] = G at *
      refine q_loop (fun i s => ∃ here w x4 x7 x8, gb S (r.drop i) here w = G ∧ here < 2 ^ (S + 1) ∧ w.length = i ∧ s = ⟨[.d (.tup (nD r)), .d (.int S), .d (.int (F : Nat)), .o (.l KL), x4, .d (.int (here : Nat)), .d (.str w), x7, x8], ds⟩) ⟨kb S r, [], _, _, _, hG, kb_lt S r, rfl, rfl⟩ ?_ ?_
      · rintro i d s hi ⟨here, w, x4, x7, x8, hg, hh, hw, rfl⟩
        rw [en_nD] at hi
        obtain ⟨x, hxi, rfl⟩ := en_at hi
        have hlt := (List.getElem?_eq_some_iff.mp hxi).1
        have hxm := hx x (List.mem_of_getElem? hxi)
        have hdr : r.drop i = x :: r.drop (i + 1) := by
          obtain ⟨h1, h2⟩ := List.getElem?_eq_some_iff.mp hxi
          rw [List.drop_eq_getElem_cons h1, h2]
        have hat : atI KL ((i : Int) + 1) = some (.int (kb S (r.drop (i + 1)) : Nat)) := by
          have := at_ (i + 1) (by omega)
          rwa [Int.natCast_add] at this
        rw [hdr] at hg
        have hl := kb_lt S (r.drop (i + 1))
        have hz : w.length + 1 ≤ sizeLine := sz (by omega)
        have h1 := fShlW_n (n := here) (j := x) hh (by omega) (by omega)
        have h2 : fShr (.int (here : Nat)) (.int (x : Nat)) = _ := fShr_n
        have h3 : fAnd (.int ((here / 2 ^ x : Nat) : Int)) (.int ((kb S (r.drop (i + 1)) : Nat) : Int)) = _ := fAnd_n
        have h4 : fAnd (.int ((here * 2 ^ x : Nat) : Int)) (.int ((kb S (r.drop (i + 1)) : Nat) : Int)) = _ := fAnd_n
        have l3 : here / 2 ^ x &&& kb S (r.drop (i + 1)) < 2 ^ (S + 1) := Nat.lt_of_le_of_lt Nat.and_le_right hl
        have l4 : here * 2 ^ x &&& kb S (r.drop (i + 1)) < 2 ^ (S + 1) := Nat.lt_of_le_of_lt Nat.and_le_right hl
        unfold gb at hg
        generalize r.drop (i + 1) = T at *
        generalize kb S T = K at *
        generalize here / 2 ^ x &&& K = K3 at *
        generalize here * 2 ^ x &&& K = K4 at *
        generalize here / 2 ^ x = K1 at *
        generalize here * 2 ^ x = K2 at *
        clear hF hF0 ef sh
        by_cases hp : 0 < K3
        · rw [if_pos hp] at hg
          have hp2 : (0 : Int) < (K3 : Int) := by omega
          simp [b__law_lay_2, hat, h1, h2, h3, h4, hp, hz]
          exact ⟨K3, w ++ [108], hg, l3, by simp [hw], by simp⟩
        · rw [if_neg hp] at hg
          have hp2 : ¬ (0 : Int) < (K3 : Int) := by omega
          simp [b__law_lay_2, hat, h1, h2, h3, h4, hp, hz]
          exact ⟨K4, w ++ [114], hg, l4, by simp [hw], by simp⟩
      · rintro s ⟨here, w, x4, x7, x8, hg, hh, hw, rfl⟩
        have hel : ((PD.enD (nD r)).map D.tup).length = r.length := by rw [en_nD]; unfold enD; simp
        rw [hel, List.drop_length] at hg
        have hg : w = G := hg
        subst hg
        simp
        exact q
end
end K02
namespace K02
open PySem PySem.Spec PyProof.Rows L2 PD PySem.W PySem.Calls
/-! ### steps, sorted -/
abbrev St := Wd × Nat
def sD (s : St) : D := .tup [.str s.1, .int (s.2 : Nat)]
def leS (a b : St) : Bool := leD (sD a) (sD b)
theorem leS_no {a b : St} (h : leS a b = true) : ¬ b.1 < a.1 := by
  intro z
  unfold leS at h
  rw [leD_lt] at h
  have e : dataLt (toPy (sD b)) (toPy (sD a)) = true := by
    simp only [sD, toPy, toPys]
    rw [dataLt_pair (by simp [alike]) (by simp [alike]), dataLt_str]
    have ne : ¬ (sOf b.1 = sOf a.1) := fun e => by rw [sOf_inj e] at z; exact lt_irr _ z
    simp only [PyData.eqv, beq_iff_eq]
    rw [if_neg ne]
    exact decide_eq_true z
  rw [e] at h
  cases h
theorem ok_sD (l : List St) : okSort (l.map sD) = true := okSort_map 1 (.inr rfl) (fun a => by simp [sD]) (fun a b => by simp [aliB, sD, toPy, toPys, alike, alikeAll]) (fun a => rfl) l
theorem sort_sD (l : List St) : sortD (l.map sD) = (sortBy leS l).map sD := sortD_map (fun _ _ => rfl) l
theorem sort_pw (l : List St) : (sortBy leS l).Pairwise fun a b => ¬ b.1 < a.1 := by
  have h := sortD_pw (l.map sD)
  rw [sort_sD, List.pairwise_map] at h
  exact h.imp fun {a b} z => leS_no z
/-! ### what was found -/
abbrev Fn' := List (Nat × Wd)
def fD (l : Fn') : List (D × D) := l.map fun p => (D.int (p.1 : Nat), D.str p.2)
def look (l : Fn') (q : Nat) : Option Wd := (l.find? fun p => decide (p.1 = q)).map (·.2)
def putN (l : Fn') (q : Nat) (w : Wd) : Fn' := if (look l q).isSome = true then l.map (fun p => if p.1 = q then (p.1, w) else p) else l ++ [(q, w)]
def res (L : List St) : Fn' := L.foldr (fun s l => putN l s.2 s.1) []
theorem look_cons (p : Nat × Wd) (l : Fn') (z : Nat) : look (p :: l) z = if p.1 = z then some p.2 else look l z := by
  unfold look
  rw [List.find?_cons]
  by_cases h : p.1 = z
  · rw [decide_eq_true h, if_pos h]; rfl
  · rw [decide_eq_false h, if_neg h]
theorem look_map (q : Nat) (w : Wd) : ∀ (l : Fn') (z : Nat), look (l.map fun p => if p.1 = q then (p.1, w) else p) z = if z = q then (look l q).map (fun _ => w) else look l z
  | [], z => by split <;> rfl
  | p :: l, z => by
    rw [List.map_cons, look_cons, look_map q w l z, look_cons, look_cons]
    by_cases hp : p.1 = q
    · by_cases hz : z = q
      · have hpz : p.1 = z := by rw [hp, hz]
        simp [hp, hz]
      · have hpz : ¬ q = z := fun e => hz e.symm
        simp [hp, hz, hpz]
    · by_cases hz : z = q
      · simp [hp, hz]
      · simp [hp, hz]
theorem look_app (q : Nat) (w : Wd) : ∀ (l : Fn') (z : Nat), look (l ++ [(q, w)]) z = if (look l z).isSome = true then look l z else if q = z then some w else none
  | [], z => by rw [List.nil_append, look_cons]; rfl
  | p :: l, z => by
    rw [List.cons_append, look_cons, look_app q w l z, look_cons]
    by_cases hp : p.1 = z
    · simp [hp]
    · simp [hp]
theorem look_put (l : Fn') (q : Nat) (w : Wd) (z : Nat) : look (putN l q w) z = if z = q then some w else look l z := by
  unfold putN
  by_cases h : (look l q).isSome = true
  · rw [if_pos h, look_map]
    by_cases hz : z = q
    · rw [if_pos hz, if_pos hz]
      cases e : look l q with
      | none => rw [e] at h; cases h
      | some v => rfl
    · rw [if_neg hz, if_neg hz]
  · rw [if_neg h, look_app]
    by_cases hz : z = q
    · subst hz
      rw [if_neg h, if_pos rfl, if_pos rfl]
    · rw [if_neg hz]
      cases e : look l z with
      | some v => rfl
      | none =>
        have hz2 : ¬ q = z := fun e => hz e.symm
        simp [hz2]
theorem look_res : ∀ (L : List St) (z : Nat), look (res L) z = (L.find? fun s => decide (s.2 = z)).map (·.1)
  | [], z => rfl
  | s :: L, z => by
    show look (putN (res L) s.2 s.1) z = _
    rw [look_put, look_res L z, List.find?_cons]
    by_cases h : s.2 = z
    · rw [if_pos h.symm, decide_eq_true h]; rfl
    · rw [if_neg (fun e => h e.symm), decide_eq_false h]
theorem look_none {l : Fn'} {q : Nat} : look l q = none ↔ q ∉ l.map (·.1) := by
  unfold look
  rw [Option.map_eq_none_iff, List.find?_eq_none]
  constructor
  · intro h z
    obtain ⟨p, hp, e⟩ := List.mem_map.mp z
    exact h p hp (decide_eq_true e)
  · intro h p hp z
    exact h (List.mem_map.mpr ⟨p, hp, of_decide_eq_true z⟩)
theorem put_nd {l : Fn'} (h : (l.map (·.1)).Nodup) (q : Nat) (w : Wd) : ((putN l q w).map (·.1)).Nodup := by
  unfold putN
  by_cases hs : (look l q).isSome = true
  · rw [if_pos hs, List.map_map]
    have : ((fun p : Nat × Wd => p.1) ∘ fun p => if p.1 = q then (p.1, w) else p) = fun p => p.1 := by
      funext p
      show (if p.1 = q then (p.1, w) else p).1 = p.1
      split <;> rfl
    rw [this]; exact h
  · rw [if_neg hs, List.map_append]
    refine List.nodup_append.mpr ⟨h, by simp, fun a ha b hb e => ?_⟩
    have hn : look l q = none := by
      cases e2 : look l q with
      | none => rfl
      | some v => rw [e2] at hs; exact absurd rfl hs
    have hb : b = q := by simpa using hb
    exact look_none.mp hn (by rw [← hb, ← e]; exact ha)
theorem res_nd : ∀ L : List St, ((res L).map (·.1)).Nodup
  | [] => List.nodup_nil
  | s :: L => put_nd (res_nd L) _ _
theorem look_mem : ∀ {l : Fn'}, (l.map (·.1)).Nodup → ∀ {q : Nat} {w : Wd}, (q, w) ∈ l ↔ look l q = some w
  | [], _, q, w => ⟨fun h => absurd h List.not_mem_nil, fun h => by cases h⟩
  | p :: l, nd, q, w => by
    rw [List.map_cons] at nd
    obtain ⟨h1, h2⟩ := List.nodup_cons.mp nd
    rw [look_cons, List.mem_cons, look_mem h2]
    by_cases hp : p.1 = q
    · rw [if_pos hp]
      constructor
      · rintro (h | h)
        · rw [← h]
        · exfalso
          have := (look_mem h2).mpr h
          exact h1 (List.mem_map.mpr ⟨(q, w), this, hp.symm⟩)
      · intro h
        refine .inl ?_
        obtain ⟨a, b⟩ := p
        simp only [Option.some.injEq] at h
        simp only at hp
        rw [hp, h]
    · rw [if_neg hp]
      constructor
      · rintro (h | h)
        · rw [← h] at hp; exact absurd rfl hp
        · exact h
      · exact .inr
/-! ### one piece more -/
def nxt (S : Nat) (x : Nat) (rest : List Nat) (p : Nat × Wd) : List St :=
  (if x ≤ p.1 ∧ fitP S rest (p.1 - x) = true then [(p.2 ++ [108], p.1 - x)] else []) ++ (if fitP S rest (p.1 + x) = true then [(p.2 ++ [114], p.1 + x)] else [])
structure Fnd (S : Nat) (done rest : List Nat) (l : Fn') : Prop where
  nd : (l.map (·.1)).Nodup
  eq : ∀ q, look l q = best S done rest q
theorem mem_nxt {S x : Nat} {done rest : List Nat} {l : Fn'} (F : Fnd S done (x :: rest) l) {w : Wd} {q : Nat} : (w, q) ∈ l.flatMap (nxt S x rest) ↔
    fitP S rest q = true ∧ ((best S done (x :: rest) (q + x)).map (· ++ [108]) = some w ∨ (if x ≤ q then (best S done (x :: rest) (q - x)).map (· ++ [114]) else none) = some w) := by
  rw [List.mem_flatMap]
  constructor
  · rintro ⟨⟨p, v⟩, hp, h⟩
    have hb : best S done (x :: rest) p = some v := by rw [← F.eq]; exact (look_mem F.nd).mp hp
    unfold nxt at h
    rcases List.mem_append.mp h with h | h
    · split at h
      · rename_i hc
        have h := List.mem_singleton.mp h
        simp only [Prod.mk.injEq] at h
        obtain ⟨rfl, rfl⟩ := h
        refine ⟨hc.2, .inl ?_⟩
        rw [show p - x + x = p by have := hc.1; omega, hb]; rfl
      · cases h
    · split at h
      · rename_i hc
        have h := List.mem_singleton.mp h
        simp only [Prod.mk.injEq] at h
        obtain ⟨rfl, rfl⟩ := h
        refine ⟨hc, .inr ?_⟩
        rw [if_pos (by omega), show p + x - x = p by omega, hb]; rfl
      · cases h
  · rintro ⟨hf, h | h⟩
    · obtain ⟨v, hv, rfl⟩ := Option.map_eq_some_iff.mp h
      refine ⟨(q + x, v), (look_mem F.nd).mpr (by rw [F.eq]; exact hv), ?_⟩
      unfold nxt
      rw [if_pos ⟨by simp, by rw [show q + x - x = q by omega]; exact hf⟩]
      simp
    · split at h
      · rename_i hx
        obtain ⟨v, hv, rfl⟩ := Option.map_eq_some_iff.mp h
        refine ⟨(q - x, v), (look_mem F.nd).mpr (by rw [F.eq]; exact hv), ?_⟩
        unfold nxt
        rw [if_pos (c := fitP S rest _ = true) (by show fitP S rest (q - x + x) = true; rw [Nat.sub_add_cancel hx]; exact hf)]
        refine List.mem_append_right _ ?_
        show (v ++ [114], q) ∈ [(v ++ [114], q - x + x)]
        rw [Nat.sub_add_cancel hx]; exact List.mem_singleton.mpr rfl
      · cases h
theorem find_first {L : List St} (hp : L.Pairwise fun a b => ¬ b.1 < a.1) {q : Nat} {w : Wd} (h : (L.find? fun s => decide (s.2 = q)).map (·.1) = some w) : (w, q) ∈ L ∧ ∀ v, (v, q) ∈ L → ¬ v < w := by
  obtain ⟨s, hs, rfl⟩ := Option.map_eq_some_iff.mp h
  obtain ⟨h1, as, bs, e, h2⟩ := List.find?_eq_some_iff_append.mp hs
  have hq : s.2 = q := of_decide_eq_true h1
  have hs2 : s = (s.1, q) := by rw [← hq]
  refine ⟨by rw [e, hs2]; simp, fun v hv => ?_⟩
  rw [e] at hv hp
  rcases List.mem_append.mp hv with hv | hv
  · have := h2 _ hv
    simp at this
  · rcases List.mem_cons.mp hv with hv | hv
    · rw [← hv]; exact lt_irr _
    · exact (List.pairwise_cons.mp (List.pairwise_append.mp hp).2.1).1 _ hv
theorem Fnd.step {S x : Nat} {done rest : List Nat} {l : Fn'} (F : Fnd S done (x :: rest) l) : Fnd S (x :: done) rest (res (sortBy leS (l.flatMap (nxt S x rest)))) := by
  refine ⟨res_nd _, fun q => ?_⟩
  rw [look_res]
  have pw := sort_pw (l.flatMap (nxt S x rest))
  have mem : ∀ w, (w, q) ∈ sortBy leS (l.flatMap (nxt S x rest)) ↔ _ := fun w => (sortBy_perm _).mem_iff.trans (mem_nxt F (w := w) (q := q))
  generalize sortBy leS (l.flatMap (nxt S x rest)) = L at *
  unfold best
  cases hf : (L.find? fun s => decide (s.2 = q)).map (·.1) with
  | some w =>
    obtain ⟨h1, h2⟩ := find_first pw hf
    obtain ⟨h3, h4⟩ := (mem w).mp h1
    rw [if_pos h3]
    obtain ⟨v, hv⟩ := minO_some h4
    rw [hv]
    have a1 := minO_le hv h4
    have a2 := h2 v ((mem v).mpr ⟨h3, minO_or hv⟩)
    rw [tri a1 a2]
  | none =>
    have no : ∀ w, (w, q) ∉ L := fun w hw => by
      rw [Option.map_eq_none_iff, List.find?_eq_none] at hf
      exact hf _ hw (decide_eq_true rfl)
    by_cases hfit : fitP S rest q = true
    · rw [if_pos hfit]
      cases hm : minO ((best S done (x :: rest) (q + x)).map (· ++ [108])) (if x ≤ q then (best S done (x :: rest) (q - x)).map (· ++ [114]) else none) with
      | none => rfl
      | some w => exact absurd ((mem w).mpr ⟨hfit, minO_or hm⟩) (no w)
    · rw [if_neg hfit]
theorem Fnd.len {S : Nat} {done rest : List Nat} {l : Fn'} (F : Fnd S done rest l) : l.length ≤ S + 1 := by
  have := List.Nodup.length_le_of_subset F.nd (l₂ := List.range (S + 1)) fun q hq => by
    obtain ⟨⟨p, w⟩, hp, rfl⟩ := List.mem_map.mp hq
    have hb : best S done rest p = some w := by rw [← F.eq]; exact (look_mem F.nd).mp hp
    exact List.mem_range.mpr (Nat.lt_succ_of_le (fitP_le (best_fit hb)))
  rwa [List.length_map, List.length_range] at this
theorem Fnd.wlen {S : Nat} {done rest : List Nat} {l : Fn'} (F : Fnd S done rest l) {p : Nat × Wd} (h : p ∈ l) : p.2.length = done.length ∧ p.1 ≤ S := by
  have hb : best S done rest p.1 = some p.2 := by rw [← F.eq]; exact (look_mem F.nd).mp h
  exact ⟨best_len hb, fitP_le (best_fit hb)⟩
end K02
namespace K02
open PySem PySem.Spec PyProof.Rows L2 PD
theorem fam_fD (l : Fn') : ∀ p ∈ fD l, kfam p.1 = 1 := by
  intro p hp
  obtain ⟨x, _, rfl⟩ := List.mem_map.mp hp
  rfl
theorem key_fD (l : Fn') (z : Int) : keyOk (fD l) (.int z) = some (.num z) := keyOk_of (by simp [toNK]) (show (1 : Nat) ≠ 0 by decide) (fam_fD l) (Nat.zero_le _)
theorem get_fD (l : Fn') (q : Nat) : getK (fD l) (.num (q : Nat)) = (look l q).map D.str := by
  induction l with
  | nil => rfl
  | cons p l ih =>
    show getK ((D.int (p.1 : Nat), D.str p.2) :: fD l) _ = _
    rw [getK_cons, ih, look_cons]
    simp only [toNK, Option.some.injEq, NestedKey.num.injEq]
    by_cases h : p.1 = q
    · simp [h]
    · have h2 : ¬ ((p.1 : Int) = (q : Int)) := by omega
      simp [h, h2]
theorem put_fD (l : Fn') (q : Nat) (w : Wd) : PD.putK (fD l) (.num (q : Nat)) (.int (q : Nat)) (.str w) = fD (putN l q w) := by
  unfold PD.putK putN
  rw [get_fD]
  by_cases h : (look l q).isSome = true
  · rw [if_pos (by rw [Option.isSome_map]; exact h), if_pos h]
    unfold fD
    rw [List.map_map, List.map_map]
    refine List.map_congr_left fun p _ => ?_
    simp only [Function.comp_apply, toNK, Option.some.injEq, NestedKey.num.injEq]
    by_cases hp : p.1 = q
    · simp [hp]
    · have h2 : ¬ ((p.1 : Int) = (q : Int)) := by omega
      simp [hp, h2]
  · rw [if_neg (by rw [Option.isSome_map]; exact h), if_neg h]
    unfold fD
    rw [List.map_append]; rfl
theorem put_len (l : Fn') (q : Nat) (w : Wd) : (putN l q w).length ≤ l.length + 1 := by
  unfold putN
  split
  · rw [List.length_map]; omega
  · rw [List.length_append]; simp
theorem res_len : ∀ L : List St, (res L).length ≤ L.length
  | [] => Nat.le_refl _
  | s :: L => by
    have h1 := put_len (res L) s.2 s.1
    have h2 := res_len L
    show (putN (res L) s.2 s.1).length ≤ _
    rw [List.length_cons]; omega
section
variable {ds : Option DS} {Q : PD.R → Option DS → Prop} {Qs : Fl → S → Prop} {S : Nat} {r : List Nat} {x0 x1 x2 x3 x4 x5 x6 x7 x8 x9 : Sl}
/-- one place: its steps -/
theorem w_lw1 {x : Nat} {rest : List Nat} {p : Nat × Wd} {U : List St} (hU : U.length ≤ 100000) (hw : p.2.length ≤ 1000) (hx : x ≤ 100000) (hp : p.1 ≤ 100000)
    (q : Qs .nx ⟨[x0, x1, x2, x3, x4, .d (.int (x : Nat)), .o (.k (gd (rowsS S rest))), .o (.l ((U ++ nxt S x rest p).map sD)), .d (.int (p.1 : Nat)), .d (.str p.2)], ds⟩) :
    wq b_lay_within_1 ⟨[x0, x1, x2, x3, x4, .d (.int (x : Nat)), .o (.k (gd (rowsS S rest))), .o (.l (U.map sD)), .d (.int (p.1 : Nat)), .d (.str p.2)], ds⟩ Qs mk := by
  have i1 := in_gd (rowsS S rest) ((p.1 : Int) + (x : Int))
  have i2 := in_gd (rowsS S rest) ((p.1 : Int) - (x : Int))
  have e1 : decide (0 ≤ (p.1 : Int) + (x : Int) ∧ ((p.1 : Int) + (x : Int)).toNat ∈ rowsS S rest) = fitP S rest (p.1 + x) := by
    rw [show ((p.1 : Int) + (x : Int)).toNat = p.1 + x by omega, Bool.eq_iff_iff, decide_eq_true_eq, mem_rows]
    exact ⟨fun z => z.2, fun z => ⟨by omega, z⟩⟩
  have e2 : decide (0 ≤ (p.1 : Int) - (x : Int) ∧ ((p.1 : Int) - (x : Int)).toNat ∈ rowsS S rest) = decide (x ≤ p.1 ∧ fitP S rest (p.1 - x) = true) := by
    rw [show ((p.1 : Int) - (x : Int)).toNat = p.1 - x by omega, Bool.eq_iff_iff, decide_eq_true_eq, mem_rows, decide_eq_true_eq]
    exact ⟨fun z => ⟨by omega, z.2⟩, fun z => ⟨by omega, z.2⟩⟩
  rw [e1] at i1
  rw [e2] at i2
  have s2 : 2 ≤ sizeLine := by decide
  have hwz : p.2.length + 1 ≤ sizeLine := sz (by omega)
  have hz0 : U.length < sizeLine := Nat.lt_of_lt_of_le (show U.length < 16777216 by omega) (sz (Nat.le_refl _))
  have hz1 : U.length + 1 < sizeLine := Nat.lt_of_lt_of_le (show U.length + 1 < 16777216 by omega) (sz (Nat.le_refl _))
  unfold b_lay_within_1
  unfold nxt at q
  simp [i2, s2, hwz]
  by_cases h2 : x ≤ p.1 ∧ fitP S rest (p.1 - x) = true
  · have c2 : ((p.1 - x : Nat) : Int) = (p.1 : Int) - (x : Int) := by omega
    rw [if_pos h2] at q
    by_cases h1 : fitP S rest (p.1 + x) = true
    · rw [if_pos h1] at q
      simp [h2, i1, h1, s2, hwz, hz0, hz1]
      simpa [sD, c2, h2.1] using q
    · rw [if_neg h1] at q
      simp [h2, i1, h1, s2, hwz, hz0, hz1]
      simpa [sD, c2, h2.1] using q
  · rw [if_neg h2] at q
    by_cases h1 : fitP S rest (p.1 + x) = true
    · rw [if_pos h1] at q
      simp [h2, i1, h1, s2, hwz, hz0, hz1]
      simpa [sD] using q
    · rw [if_neg h1] at q
      simp [h2, i1, h1, s2, hwz, hz0, hz1]
      simpa [sD] using q
theorem w_lw2 {q : Nat} {w : Wd} {l : Fn'} (hl : l.length ≤ 100000)
    (k : Qs .nx ⟨[x0, x1, x2, .o (.k (fD (putN l q w))), x4, x5, x6, x7, .d (.int (q : Nat)), .d (.str w)], ds⟩) :
    wq b_lay_within_2 ⟨[x0, x1, x2, .o (.k (fD l)), x4, x5, x6, x7, .d (.int (q : Nat)), .d (.str w)], ds⟩ Qs mk := by
  have hz : (fD l).length < sizeLine := by
    unfold fD
    rw [List.length_map]
    exact Nat.lt_of_lt_of_le (show l.length < 16777216 by omega) (sz (Nat.le_refl _))
  unfold b_lay_within_2
  simp [key_fD]
  rw [put_fD]
  exact ⟨hz, k⟩
def rowsL (S : Nat) (r : List Nat) : List D := (List.range (r.length + 1)).map fun k => rowD S (r.drop k)
theorem rows_at {k : Nat} (h : k ≤ r.length) : atI (rowsL S r) (k : Int) = some (rowD S (r.drop k)) := by
  rw [atI_get?]
  unfold rowsL
  rw [List.getElem?_map, List.getElem?_range (by omega)]
  rfl
theorem w_lw3 {x i : Nat} {done rest : List Nat} {l : Fn'} (hS : S ≤ 1000) (hx : x ≤ 1000) (hd : done.length ≤ 100) (hat : atI (rowsL S r) ((i : Int) + 1) = some (rowD S rest)) (F : Fnd S done (x :: rest) l)
    (q : ∀ l' x6 x7 x8 x9, Fnd S (x :: done) rest l' → Qs .nx ⟨[x0, x1, .o (.l (rowsL S r)), .o (.k (fD l')), .d (.int (i : Nat)), .d (.int (x : Nat)), x6, x7, x8, x9], ds⟩) :
    wq b_lay_within_3 ⟨[x0, x1, .o (.l (rowsL S r)), .o (.k (fD l)), .d (.int (i : Nat)), .d (.int (x : Nat)), x6, x7, x8, x9], ds⟩ Qs mk := by
  have hl := F.len
  have nd := rows_nd S rest
  have hrl := rows_len S rest
  unfold b_lay_within_3
  simp [hat, rowD]
  refine q_dc_pure (fun d => (d, D.bl true)) ?_ (gd_keys nd (by omega)) ?_
  · intro d hd
    obtain ⟨p, _, rfl⟩ := List.mem_map.mp hd
    simp
  · rw [show (nD (rowsS S rest)).map (fun d => (d, D.bl true)) = gd (rowsS S rest) by unfold nD gd; rw [List.map_map]; rfl]
    simp
    have nx2 : ∀ p : Nat × Wd, (nxt S x rest p).length ≤ 2 := fun p => by
      unfold nxt
      rw [List.length_append]
      split <;> split <;> simp
    have fl2 : ∀ m : List (Nat × Wd), (m.flatMap (nxt S x rest)).length ≤ 2 * m.length := fun m => by
      induction m with
      | nil => exact Nat.le_refl _
      | cons p m ih =>
        rw [List.flatMap_cons, List.length_append, List.length_cons]
        have := nx2 p
        omega
    refine q_loop (fun j s => ∃ x8 x9, s = ⟨[x0, x1, .o (.l (rowsL S r)), .d (.dct (fD l)), .d (.int (i : Nat)), .d (.int (x : Nat)), .o (.k (gd (rowsS S rest))), .o (.l (((l.take j).flatMap (nxt S x rest)).map sD)), x8, x9], ds⟩) ⟨x8, x9, rfl⟩ ?_ ?_
    · rintro j d s hj ⟨x8, x9, rfl⟩
      unfold fD at hj
      rw [List.map_map, List.getElem?_map, Option.map_eq_some_iff] at hj
      obtain ⟨p, hp, rfl⟩ := hj
      have hpm := List.mem_of_getElem? hp
      obtain ⟨hw, hps⟩ := F.wlen hpm
      have hj2 := (List.getElem?_eq_some_iff.mp hp).1
      have := fl2 (l.take j)
      rw [List.length_take] at this
      simp only [Function.comp_apply]
      simp
      refine w_lw1 (S := S) (rest := rest) (p := p) (by omega) (by omega) (by omega) (by omega) ?_
      refine ⟨.d (.int (p.1 : Nat)), .d (.str p.2), ?_⟩
      rw [List.take_add_one, hp, Option.toList_some, List.flatMap_append, List.flatMap_singleton]
    · rintro s ⟨x8, x9, rfl⟩
      have hfl : (List.map (fun p : D × D => D.tup [p.1, p.2]) (fD l)).length = l.length := by unfold fD; simp
      rw [hfl, List.take_length]
      have F2 := F.step
      have hst := fl2 l
      have hsl : (sortBy leS (l.flatMap (nxt S x rest))).length ≤ 2 * l.length := by rw [(sortBy_perm _).length_eq]; exact hst
      simp [ok_sD, sort_sD, -List.map_flatMap]
      generalize sortBy leS (l.flatMap (nxt S x rest)) = L at *
      rw [← List.map_reverse]
      refine q_loop (fun j s => ∃ x8 x9, s = ⟨[x0, x1, .o (.l (rowsL S r)), .o (.k (fD (res (L.drop (L.length - j))))), .d (.int (i : Nat)), .d (.int (x : Nat)), .o (.k (gd (rowsS S rest))), .o (.l ((l.flatMap (nxt S x rest)).map sD)), x8, x9], ds⟩) ⟨x8, x9, by simp [res, fD]⟩ ?_ ?_
      · rintro j d s hj ⟨x8, x9, rfl⟩
        rw [List.getElem?_map, Option.map_eq_some_iff] at hj
        obtain ⟨⟨w, q'⟩, hjp, rfl⟩ := hj
        have hlt := (List.getElem?_eq_some_iff.mp hjp).1
        rw [List.length_reverse] at hlt
        have hsuf : L.drop (L.length - (j + 1)) = (w, q') :: L.drop (L.length - j) := by
          rw [List.getElem?_reverse hlt] at hjp
          obtain ⟨h1, h2⟩ := List.getElem?_eq_some_iff.mp hjp
          rw [show L.length - (j + 1) = L.length - 1 - j by omega, List.drop_eq_getElem_cons h1, h2]
          congr 2; omega
        rw [hsuf]
        have hrl2 := res_len (L.drop (L.length - j))
        rw [List.length_drop] at hrl2
        simp [sD]
        refine w_lw2 (by omega) ?_
        exact ⟨.d (.int (q' : Nat)), .d (.str w), rfl⟩
      · rintro s ⟨x8, x9, rfl⟩
        rw [List.length_map, List.length_reverse, Nat.sub_self, List.drop_zero]
        exact q _ _ _ _ _ F2
end
end K02
namespace K02
open PySem PySem.Spec PyProof.Rows L2 PD PySem.W PySem.Calls
def mnW (ls : List Wd) (l : Wd) : Wd := ls.foldl (fun a y => if decide (y < a) = true then y else a) l
theorem minDat_w : ∀ (ls : List Wd) (l : Wd), minDat (.str l) (ls.map D.str) = .str (mnW ls l)
  | [], l => rfl
  | y :: ls, l => by
    have e : dataLt (toPy (.str y)) (toPy (.str l)) = decide (y < l) := by
      simp only [toPy]
      rw [PySem.W.dataLt_str]
      rfl
    have e3 : minDat (.str l) (.str y :: ls.map D.str) = minDat (.str (if decide (y < l) = true then y else l)) (ls.map D.str) := by
      unfold minDat
      rw [List.foldl_cons, e]
      congr 1
      split <;> rfl
    rw [List.map_cons, e3, minDat_w ls]
    rfl
theorem mnW_mem : ∀ (ls : List Wd) (l : Wd), mnW ls l ∈ l :: ls := fun ls l => fold_mem ls l
theorem mnW_le : ∀ (ls : List Wd) (l : Wd), ∀ v ∈ l :: ls, ¬ v < mnW ls l
  | [], l, v, h => by rw [List.mem_singleton.mp h]; exact lt_irr _
  | y :: ls, l, v, h => by
    show ¬ v < mnW ls (if decide (y < l) = true then y else l)
    have ih := mnW_le ls (if decide (y < l) = true then y else l)
    rcases List.mem_cons.mp h with rfl | h
    · have h0 := ih _ List.mem_cons_self
      by_cases hy : y < v
      · rw [if_pos (decide_eq_true hy)] at h0 ⊢
        intro z
        exact h0 (List.lt_trans hy z)
      · rwa [if_neg (by simp [hy])] at h0 ⊢
    · rcases List.mem_cons.mp h with rfl | h
      · have h0 := ih _ List.mem_cons_self
        by_cases hy : v < l
        · rwa [if_pos (decide_eq_true hy)] at h0 ⊢
        · rw [if_neg (by simp [hy])] at h0 ⊢
          intro z
          -- l ≤ v < least, and least ≤ l
          rcases Decidable.em (l < v) with h1 | h1
          · exact h0 (List.lt_trans h1 z)
          · exact h0 (by have e := tri h1 hy; rw [← e] at z; exact z)
      · exact ih v (List.mem_cons_of_mem _ h)
theorem strs_w (ls : List Wd) : strsD (ls.map D.str) = some ls := by
  induction ls with
  | nil => rfl
  | cons l ls ih =>
    show (strsD (ls.map D.str)).map _ = _
    rw [ih]; rfl
theorem fd_keys {ks : List Nat} (nd : ks.Nodup) (hl : ks.length ≤ 100000) : ∀ (i : Nat) (d : D), (nD ks)[i]? = some d → (((nD ks).take i).map fun d => (d, D.str [])).length < sizeLine ∧ ∃ nk, keyOk (((nD ks).take i).map fun d => (d, D.str [])) d = some nk ∧ getK (((nD ks).take i).map fun d => (d, D.str [])) nk = none := by
  intro i d h
  unfold nD at h
  rw [List.getElem?_map, Option.map_eq_some_iff] at h
  obtain ⟨x, hx, rfl⟩ := h
  have e : ((nD ks).take i).map (fun d => (d, D.str [])) = fD ((ks.take i).map fun k => (k, [])) := by
    unfold nD fD
    rw [← List.map_take, List.map_map, List.map_map]; rfl
  rw [e]
  refine ⟨?_, .num x, key_fD _ _, ?_⟩
  · unfold fD
    rw [List.length_map, List.length_map, List.length_take]
    exact Nat.lt_of_lt_of_le (show min i ks.length < 16777216 by omega) (sz (Nat.le_refl _))
  · rw [get_fD, Option.map_eq_none_iff, look_none, List.map_map]
    intro hm
    obtain ⟨k, hk, e2⟩ := List.mem_map.mp hm
    have e2 : k = x := e2
    rw [e2] at hk
    exact nd_take nd hx hk
theorem fnd_first {S : Nat} {r : List Nat} : Fnd S [] r ((rowsS S r).map fun k => (k, [])) := by
  refine ⟨?_, fun q => ?_⟩
  · rw [List.map_map]
    rw [show ((fun p : Nat × Wd => p.1) ∘ fun k : Nat => (k, ([] : Wd))) = id from rfl, List.map_id]
    exact rows_nd S r
  · unfold best
    by_cases h : fitP S r q = true
    · rw [if_pos h]
      have nd : (((rowsS S r).map fun k => (k, ([] : Wd))).map (·.1)).Nodup := by
        rw [List.map_map, show ((fun p : Nat × Wd => p.1) ∘ fun k : Nat => (k, ([] : Wd))) = id from rfl, List.map_id]
        exact rows_nd S r
      exact (look_mem nd).mp (List.mem_map.mpr ⟨q, mem_rows.mpr h, rfl⟩)
    · rw [if_neg h, look_none, List.map_map]
      intro hm
      obtain ⟨k, hk, e2⟩ := List.mem_map.mp hm
      have e2 : k = q := e2
      rw [e2] at hk
      exact h (mem_rows.mp hk)
section
variable {ds : Option DS} {Q : PD.R → Option DS → Prop} {S : Nat} {r : List Nat}
theorem w_lay (hS : S ≤ 1000) (hr : r.length ≤ 100) (hx : ∀ x ∈ r, x ≤ 1000) (q : Q (.d (resD (layS S r))) ds) : fq f_lay_within [.tup (nD r), .int S] ds Q mk := by
  unfold f_lay_within m_lay_within
  simp
  refine w_kept hS (by omega) ?_
  have e0 : ((List.range (r.length + 1)).map fun k => rowD S (r.drop k)) = rowsL S r := rfl
  rw [e0]
  have a0 : atI (rowsL S r) 0 = some (rowD S r) := rows_at (Nat.zero_le _)
  have hf := rows_fits (S := S) (r := r)
  rw [List.length_eq_zero_iff] at hf
  simp [a0]
  simp [rowD, nD_len]
  by_cases hfit : fitsR S r = true
  · rw [if_neg (fun z => by have h3 := hf.mp z; rw [hfit] at h3; cases h3)]
    have nd := rows_nd S r
    have hrl := rows_len S r
    rw [a0]
    simp [rowD]
    refine q_dc_pure (fun d => (d, D.str [])) ?_ (fd_keys nd (by omega)) ?_
    · intro d hd
      obtain ⟨p, _, rfl⟩ := List.mem_map.mp hd
      simp
    · rw [show (nD (rowsS S r)).map (fun d => (d, D.str [])) = fD ((rowsS S r).map fun k => (k, [])) by unfold nD fD; rw [List.map_map, List.map_map]; rfl]
      simp [en_nD]
      refine q_loop (fun i s => ∃ l x4 x5 x6 x7 x8 x9, Fnd S (r.take i).reverse (r.drop i) l ∧ s = ⟨[.d (.tup (nD r)), .d (.int S), .o (.l (rowsL S r)), .o (.k (fD l)), x4, x5, x6, x7, x8, x9], ds⟩) ⟨_, _, _, _, _, _, _, fnd_first, rfl⟩ ?_ ?_
      · rintro i d s hi ⟨l, x4, x5, x6, x7, x8, x9, F, rfl⟩
        obtain ⟨x, hxi, rfl⟩ := en_at hi
        have hlt := (List.getElem?_eq_some_iff.mp hxi).1
        have hxm := hx x (List.mem_of_getElem? hxi)
        have hdr : r.drop i = x :: r.drop (i + 1) := by
          obtain ⟨h1, h2⟩ := List.getElem?_eq_some_iff.mp hxi
          rw [List.drop_eq_getElem_cons h1, h2]
        have hat : atI (rowsL S r) ((i : Int) + 1) = some (rowD S (r.drop (i + 1))) := by
          have := rows_at (S := S) (r := r) (k := i + 1) (by omega)
          rwa [Int.natCast_add] at this
        rw [hdr] at F
        simp
        refine w_lw3 hS hxm (by rw [List.length_reverse, List.length_take]; omega) hat F ?_
        intro l' x6 x7 x8 x9 F'
        refine ⟨l', _, _, x6, x7, x8, x9, ?_, rfl⟩
        rw [List.take_add_one, hxi, Option.toList_some, List.reverse_append]
        exact F'
      · rintro s ⟨l, x4, x5, x6, x7, x8, x9, F, rfl⟩
        have hel : (enD r).length = r.length := by unfold enD; simp
        rw [hel, List.take_length, List.drop_length] at F
        have hb := grd_best hfit
        unfold layS at q
        rw [if_pos hfit] at q
        generalize grd S r (fitP S r) [] = g at *
        obtain ⟨⟨z, hz⟩, hmin⟩ := hb
        have hg : (z, g) ∈ l := (look_mem F.nd).mpr (by rw [F.eq]; exact hz)
        have hv : (fD l).map (·.2) = (l.map (·.2)).map D.str := by unfold fD; rw [List.map_map, List.map_map]; rfl
        have hs := strs_w (l.map (·.2))
        rw [← hv] at hs
        cases hl : l.map (·.2) with
        | nil =>
          rw [List.map_eq_nil_iff] at hl
          rw [hl] at hg
          cases hg
        | cons a m =>
          rw [hl] at hs
          have e1 : fMinV (.dct (fD l)) = some (.d (.str (mnW m a))) := by
            rw [fMinV_d, hs]
            show some (R.d (minDat (.str a) (m.map .str))) = _
            rw [minDat_w]
          have hm := mnW_mem m a
          have hle := mnW_le m a
          rw [← hl] at hm hle
          obtain ⟨⟨z2, w2⟩, h3, h4⟩ := List.mem_map.mp hm
          have h4 : w2 = mnW m a := h4
          subst h4
          have h5 := hmin z2 _ (by rw [← F.eq]; exact (look_mem F.nd).mp h3)
          have h6 := hle g (List.mem_map.mpr ⟨(z, g), hg, rfl⟩)
          have h7 := tri h5 h6
          simp [e1]
          rw [h7]
          exact q
  · have hfit2 : fitsR S r = false := by
      cases h : fitsR S r with
      | true => exact absurd h hfit
      | false => rfl
    rw [if_pos (hf.mpr hfit2)]
    unfold layS at q
    rw [if_neg hfit] at q
    exact q
end
end K02
namespace K02
open PySem PySem.Spec PyProof.Rows L2 PD
def addK (x : Nat) (ks m : List Nat) : List Nat := ks.foldl (fun m t => if t + x ∈ m then m else m ++ [t + x]) m
def hk : List Nat → List Nat
  | [] => [0]
  | x :: l => addK x (hk l) (hk l)
theorem mem_addK (x : Nat) : ∀ (ks m : List Nat) (z : Nat), z ∈ addK x ks m ↔ z ∈ m ∨ ∃ t ∈ ks, z = t + x
  | [], m, z => by unfold addK; simp
  | t :: ks, m, z => by
    have ih := mem_addK x ks (if t + x ∈ m then m else m ++ [t + x]) z
    show z ∈ addK x ks (if t + x ∈ m then m else m ++ [t + x]) ↔ _
    rw [ih]
    by_cases h : t + x ∈ m
    · rw [if_pos h]
      constructor
      · rintro (h1 | ⟨u, hu, e⟩)
        · exact .inl h1
        · exact .inr ⟨u, List.mem_cons_of_mem _ hu, e⟩
      · rintro (h1 | ⟨u, hu, e⟩)
        · exact .inl h1
        · rcases List.mem_cons.mp hu with rfl | hu
          · exact .inl (by rw [e]; exact h)
          · exact .inr ⟨u, hu, e⟩
    · rw [if_neg h, List.mem_append, List.mem_singleton]
      constructor
      · rintro ((h1 | h1) | ⟨u, hu, e⟩)
        · exact .inl h1
        · exact .inr ⟨t, List.mem_cons_self, h1⟩
        · exact .inr ⟨u, List.mem_cons_of_mem _ hu, e⟩
      · rintro (h1 | ⟨u, hu, e⟩)
        · exact .inl (.inl h1)
        · rcases List.mem_cons.mp hu with rfl | hu
          · exact .inl (.inr e)
          · exact .inr ⟨u, hu, e⟩
theorem nd_addK (x : Nat) : ∀ (ks m : List Nat), m.Nodup → (addK x ks m).Nodup
  | [], m, h => h
  | t :: ks, m, h => by
    show (addK x ks (if t + x ∈ m then m else m ++ [t + x])).Nodup
    refine nd_addK x ks _ ?_
    split
    · exact h
    · rename_i hn
      refine List.nodup_append.mpr ⟨h, by simp, fun a ha b hb e => hn ?_⟩
      rw [List.mem_singleton.mp hb] at e
      rw [← e]; exact ha
theorem mem_hk : ∀ (l : List Nat) (t : Nat), t ∈ hk l ↔ sub l t = true
  | [], t => by unfold hk sub; simp
  | x :: l, t => by
    unfold hk sub
    rw [mem_addK, mem_hk l t, Bool.or_eq_true, Bool.and_eq_true, decide_eq_true_eq]
    constructor
    · rintro (h | ⟨u, hu, e⟩)
      · exact .inl h
      · exact .inr ⟨by omega, by rw [show t - x = u by omega]; exact (mem_hk l u).mp hu⟩
    · rintro (h | ⟨h1, h2⟩)
      · exact .inl h
      · exact .inr ⟨t - x, (mem_hk l _).mpr h2, by omega⟩
theorem nd_hk : ∀ l : List Nat, (hk l).Nodup
  | [] => by unfold hk; simp
  | x :: l => nd_addK x _ _ (nd_hk l)
theorem sub_sum : ∀ {ns : List Nat} {A : Nat}, sub ns A = true → A ≤ ns.sum
  | [], A, h => by have : A = 0 := of_decide_eq_true h; omega
  | x :: ns, A, h => by
    simp only [sub, Bool.or_eq_true, Bool.and_eq_true, decide_eq_true_eq] at h
    rw [List.sum_cons]
    rcases h with h | ⟨h1, h2⟩
    · have := sub_sum h; omega
    · have := sub_sum h2; omega
theorem len_hk (l : List Nat) : (hk l).length ≤ l.sum + 1 := by
  have := List.Nodup.length_le_of_subset (nd_hk l) (l₂ := List.range (l.sum + 1)) fun t ht => List.mem_range.mpr (Nat.lt_succ_of_le (sub_sum ((mem_hk l t).mp ht)))
  rwa [List.length_range] at this
theorem drop_sum (l : List Nat) (k : Nat) : (l.drop k).sum ≤ l.sum := by
  have e : l.sum = (l.take k).sum + (l.drop k).sum := by rw [← List.sum_append, List.take_append_drop]
  omega
def hsI : List Nat → List Int
  | [] => [0]
  | x :: l => sdL (hsI l ++ (hsI l).map fun t => t + (x : Int))
theorem mem_hsI : ∀ (l : List Nat) (z : Int), z ∈ hsI l ↔ 0 ≤ z ∧ sub l z.toNat = true
  | [], z => by
    unfold hsI sub
    simp
    omega
  | x :: l, z => by
    unfold hsI sub
    rw [mem_sdL, List.mem_append, mem_hsI l z, List.mem_map, Bool.or_eq_true, Bool.and_eq_true, decide_eq_true_eq]
    constructor
    · rintro (h | ⟨t, ht, e⟩)
      · exact ⟨h.1, .inl h.2⟩
      · obtain ⟨h1, h2⟩ := (mem_hsI l t).mp ht
        exact ⟨by omega, .inr ⟨by omega, by rw [show z.toNat - x = t.toNat by omega]; exact h2⟩⟩
    · rintro ⟨h0, h | ⟨h1, h2⟩⟩
      · exact .inl ⟨h0, h⟩
      · exact .inr ⟨z - x, (mem_hsI l _).mpr ⟨by omega, by rw [show (z - (x : Int)).toNat = z.toNat - x by omega]; exact h2⟩, by omega⟩
theorem nd_asc {l : List Int} (h : l.Pairwise (· < ·)) : l.Nodup := h.imp fun h => by omega
theorem len_hsI (l : List Nat) : (hsI l).length ≤ l.sum + 1 := by
  have nd : (hsI l).Nodup := by
    cases l with
    | nil => unfold hsI; simp
    | cons x l => exact nd_asc (sdL_pw _)
  have nd2 : ((hsI l).map Int.toNat).Nodup := by
    rw [List.nodup_iff_pairwise_ne, List.pairwise_map]
    have h0 : ∀ z ∈ hsI l, 0 ≤ z := fun z hz => ((mem_hsI l z).mp hz).1
    refine (List.nodup_iff_pairwise_ne.mp nd).imp_of_mem ?_
    intro a b ha hb h e
    have := h0 a ha
    have := h0 b hb
    exact h (by omega)
  have := List.Nodup.length_le_of_subset nd2 (l₂ := List.range (l.sum + 1)) fun t ht => by
    obtain ⟨z, hz, rfl⟩ := List.mem_map.mp ht
    exact List.mem_range.mpr (Nat.lt_succ_of_le (sub_sum ((mem_hsI l z).mp hz).2))
  rwa [List.length_map, List.length_range] at this
theorem any_iD (l : List Int) (z : Int) : (iD l).any (fun y => eqD y (.int z)) = decide (z ∈ l) := by
  unfold iD
  rw [List.any_map, Bool.eq_iff_iff, List.any_eq_true, decide_eq_true_eq]
  constructor
  · rintro ⟨y, hy, e⟩
    rw [Function.comp_apply, eqD_i, beq_iff_eq] at e
    rw [← e]; exact hy
  · intro h
    exact ⟨z, h, by rw [Function.comp_apply, eqD_i]; simp⟩
theorem put_gd (m : List Nat) (v : Nat) : PD.putK (gd m) (.num (v : Nat)) (.int (v : Nat)) (.bl true) = gd (if v ∈ m then m else m ++ [v]) := by
  have g := get_gd m (v : Int)
  unfold PD.putK
  by_cases h : v ∈ m
  · rw [if_pos ⟨by omega, h⟩] at g
    rw [g, if_pos h]
    show (if true = true then _ else _) = _
    rw [if_pos rfl]
    unfold gd
    rw [List.map_map]
    refine List.map_congr_left fun p _ => ?_
    simp only [Function.comp_apply, toNK]
    exact ite_self _
  · rw [if_neg (fun z => h z.2)] at g
    rw [g, if_neg h]
    show (if false = true then _ else _) = _
    rw [if_neg (by decide)]
    unfold gd
    rw [List.map_append]; rfl
section
variable {ds : Option DS} {Q : PD.R → Option DS → Prop} {r : List Nat}
def halfD : Option (List Nat) → D
  | none => .non
  | some l => .tup (nD l)
theorem fIn_hs (l : List Nat) (hs : l.sum ≤ 1000) (z : Int) : fInB (.int z) (.lst (iD (hsI l))) = some (decide (0 ≤ z ∧ sub l z.toNat = true)) := by
  have p : pl 60 (D.lst (iD (hsI l))) = true := by
    show plAll 59 (iD (hsI l)) = true
    exact pla
  rw [fInB_l, if_pos ⟨by simp, p⟩, any_iD]
  congr 1
  rw [Bool.eq_iff_iff, decide_eq_true_eq, decide_eq_true_eq, mem_hsI]
theorem grdH_eq {x : Nat} {l : List Nat} {k t : Nat} : grdH (x :: l) k t = if 0 < t ∧ x ≤ t ∧ sub l (t - x) = true then k :: grdH l (k + 1) (t - x) else grdH l (k + 1) t := rfl
theorem ints_iD (l : List Int) : intsD (iD l) = some l := by
  induction l with
  | nil => rfl
  | cons x l ih =>
    show (intsD (iD l)).map _ = _
    rw [ih]; rfl
theorem sum_mod (r : List Nat) : ((r.sum : Nat) : Int).fmod 2 = ((r.sum % 2 : Nat) : Int) := by
  rw [Int.fmod_eq_emod_of_nonneg _ (by decide)]; omega
theorem sum_div (r : List Nat) : ((r.sum : Nat) : Int).fdiv 2 = ((r.sum / 2 : Nat) : Int) := by
  rw [Int.fdiv_eq_ediv_of_nonneg _ (by decide)]; omega
def leftH (f : List Nat → D) (r : List Nat) (i : Nat) : List D := (List.range (i + 1)).map fun j => f (r.drop (r.length - j))
theorem leftH_last (f : List Nat → D) (r : List Nat) (i : Nat) : atI (leftH f r i) (-1) = some (f (r.drop (r.length - i))) := by
  unfold leftH
  rw [List.range_succ, List.map_append]
  exact atI_neg1
theorem leftH_next (f : List Nat → D) (r : List Nat) (i : Nat) : leftH f r (i + 1) = leftH f r i ++ [f (r.drop (r.length - (i + 1)))] := by
  unfold leftH
  rw [List.range_succ (n := i + 1), List.map_append]; rfl
theorem leftH_len (f : List Nat → D) (r : List Nat) (i : Nat) : (leftH f r i).length = i + 1 := by unfold leftH; simp
def leftF (f : List Nat → D) (r : List Nat) : List D := (List.range (r.length + 1)).map fun k => f (r.drop k)
theorem leftF_at (f : List Nat → D) {r : List Nat} {k : Nat} (h : k ≤ r.length) : atI (leftF f r) (k : Int) = some (f (r.drop k)) := by
  rw [atI_get?]
  unfold leftF
  rw [List.getElem?_map, List.getElem?_range (by omega)]
  rfl
theorem leftH_rev (f : List Nat → D) (r : List Nat) : (leftH f r r.length).reverse = leftF f r := kept_rev f r
def lsD (l : List Nat) : D := .lst (iD (hsI l))
theorem half_cases (r : List Nat) : halfD (halfS r) = if r.sum % 2 = 1 then .non else if sub r (r.sum / 2) = true then .tup (nD (grdH r 0 (r.sum / 2))) else .non := by
  unfold halfS
  split
  · rfl
  · split <;> rfl
theorem w_law_half (hne : r.length ≤ 1000) (hs : r.sum ≤ 1000) (q : Q (.d (halfD (halfS r))) ds) : fq f__law_half [.tup (nD r)] ds Q mk := by
  unfold f__law_half m__law_half
  have s1 : 1 ≤ sizeLine := by decide
  rw [half_cases] at q
  simp [ints_nD, sum_cast, s1]
  rw [sum_mod]
  by_cases hodd : r.sum % 2 = 1
  · rw [if_pos (by omega)]
    rw [if_pos hodd] at q
    exact q
  · rw [if_neg (by omega)]
    rw [if_neg hodd] at q
    have e0 : (nD r).reverse = nD r.reverse := (List.map_reverse ..).symm
    rw [e0]
    refine q_loop (fun i s => ∃ x3, s = ⟨[.d (.tup (nD r)), .d (.int (r.sum : Nat)), .o (.l (leftH lsD r i)), x3, .no, .no, .no, .no], ds⟩) ⟨.no, by simp [leftH, lsD, hsI, iD]⟩ ?_ ?_
    · rintro i d s hi ⟨x3, rfl⟩
      unfold nD at hi
      rw [List.getElem?_map, Option.map_eq_some_iff] at hi
      obtain ⟨x, hxi, rfl⟩ := hi
      have hlt := (List.getElem?_eq_some_iff.mp hxi).1
      rw [List.length_reverse] at hlt
      have hsuf := drop_suf hxi hlt
      have hat := leftH_last lsD r i
      have hul := leftH_len lsD r i
      rw [leftH_next, hsuf]
      have hsl := len_hsI (r.drop (r.length - i))
      have hds := drop_sum r (r.length - i)
      generalize r.drop (r.length - i) = l at *
      generalize leftH lsD r i = U at *
      have hz : U.length < sizeLine := Nat.lt_of_lt_of_le (show U.length < 16777216 by omega) (sz (Nat.le_refl _))
      unfold lsD at hat
      have hn : lsD (x :: l) = .lst (iD (sdL (hsI l ++ (hsI l).map fun t => t + (x : Int)))) := rfl
      rw [hn]
      generalize hsI l = H at *
      simp [b__law_half_1, hat]
      refine q_lc_pure (fun _ => true) (onI .non fun t => .int (t + (x : Int))) ?_ ?_
      · intro d hd
        obtain ⟨t, _, rfl⟩ := List.mem_map.mp hd
        simp
      · rw [List.filter_eq_self.mpr (fun _ _ => rfl)]
        rw [show (iD H).map (onI .non fun t => .int (t + (x : Int))) = iD (H.map fun t => t + (x : Int)) by unfold iD; rw [List.map_map, List.map_map]; rfl]
        have hA : (H.map fun t => t + (x : Int)).length = H.length := List.length_map ..
        have hAdd : iD H ++ iD (H.map fun t => t + (x : Int)) = iD (H ++ H.map fun t => t + (x : Int)) := by unfold iD; rw [← List.map_append]
        generalize (H.map fun t => t + (x : Int)) = B at *
        have hiH : (iD H).length = H.length := List.length_map ..
        have hiB : (iD B).length = H.length := by rw [← hA]; exact List.length_map ..
        have z1 : (iD B).length ≤ sizeLine := sz (by omega)
        have z2 : (iD H).length + (iD B).length ≤ sizeLine := sz (by omega)
        have z3 : (H ++ B).length ≤ 4000 := by rw [List.length_append]; omega
        simp [z1, z2, hAdd, ints_iD, -List.length_append, z3, hz]
        rfl
    · rintro s ⟨x3, rfl⟩
      rw [nD_len, List.length_reverse]
      simp
      rw [leftH_rev]
      have a0 : atI (leftF lsD r) 0 = some (.lst (iD (hsI r))) := leftF_at lsD (Nat.zero_le _)
      rw [a0, sum_div]
      have hin := fIn_hs r hs ((r.sum / 2 : Nat) : Int)
      have hd : decide (0 ≤ ((r.sum / 2 : Nat) : Int) ∧ sub r ((r.sum / 2 : Nat) : Int).toNat = true) = sub r (r.sum / 2) := by
        rw [Int.toNat_natCast, Bool.eq_iff_iff, decide_eq_true_eq]
        exact ⟨fun z => z.2, fun z => ⟨by omega, z⟩⟩
      rw [hd] at hin
      simp only [bO_some, hin, Option.map_some]
      by_cases hsub : sub r (r.sum / 2) = true
      · rw [if_pos hsub] at q
        simp [hsub, en_nD]
        generalize hG : grdH r 0 (r.sum / 2) = G at *
        refine q_loop (fun i s => ∃ (t : Nat) (told : List Nat) (x3 x6 : Sl), told ++ grdH (r.drop i) i t = G ∧ told.length ≤ i ∧ s = ⟨[.d (.tup (nD r)), .d (.int (r.sum : Nat)), .o (.l (leftF lsD r)), x3, .d (.int (t : Nat)), .o (.l (nD told)), x6, .no], ds⟩) ⟨r.sum / 2, [], x3, .no, hG, Nat.le_refl _, rfl⟩ ?_ ?_
        · rintro i d s hi ⟨t, told, x3, x6, hg, hl, rfl⟩
          obtain ⟨x, hxi, rfl⟩ := en_at hi
          have hlt := (List.getElem?_eq_some_iff.mp hxi).1
          have hdr : r.drop i = x :: r.drop (i + 1) := by
            obtain ⟨h1, h2⟩ := List.getElem?_eq_some_iff.mp hxi
            rw [List.drop_eq_getElem_cons h1, h2]
          have hat : atI (leftF lsD r) ((i : Int) + 1) = some (.lst (iD (hsI (r.drop (i + 1))))) := by
            have := leftF_at lsD (r := r) (k := i + 1) (by omega)
            rwa [Int.natCast_add] at this
          have hds := drop_sum r (i + 1)
          have hin := fIn_hs (r.drop (i + 1)) (by omega) ((t : Int) - (x : Int))
          rw [hdr, grdH_eq] at hg
          have hz : (nD told).length < sizeLine := by
            rw [nD_len]
            exact Nat.lt_of_lt_of_le (show told.length < 16777216 by omega) (sz (Nat.le_refl _))
          have hd : decide (0 ≤ (t : Int) - (x : Int) ∧ sub (r.drop (i + 1)) ((t : Int) - (x : Int)).toNat = true) = decide (x ≤ t ∧ sub (r.drop (i + 1)) (t - x) = true) := by
            rw [show ((t : Int) - (x : Int)).toNat = t - x by omega, Bool.eq_iff_iff, decide_eq_true_eq, decide_eq_true_eq]
            exact ⟨fun z => ⟨by omega, z.2⟩, fun z => ⟨by omega, z.2⟩⟩
          rw [hd] at hin
          generalize r.drop (i + 1) = T at *
          by_cases h0 : 0 < t
          · by_cases h1 : x ≤ t ∧ sub T (t - x) = true
            · rw [if_pos ⟨h0, h1⟩] at hg
              simp [b__law_half_2, h0, hat, hin, h1, hz]
              refine ⟨t - x, told ++ [i], ?_, by simp; omega, by omega, ?_⟩
              · rw [List.append_assoc]; exact hg
              · unfold nD; rw [List.map_append]; rfl
            · rw [if_neg (fun z => h1 z.2)] at hg
              simp [b__law_half_2, h0, hat, hin, h1, hz]
              exact ⟨t, told, hg, by omega, rfl, rfl⟩
          · rw [if_neg (fun z => h0 z.1)] at hg
            simp [b__law_half_2, h0]
            exact ⟨t, told, hg, by omega, by omega, rfl⟩
        · rintro s ⟨t, told, x3, x6, hg, hl, rfl⟩
          have hel : (enD r).length = r.length := by unfold enD; simp
          rw [hel, List.drop_length] at hg
          have hg : told = G := by rw [← hg]; exact (List.append_nil _).symm
          subst hg
          simp
          exact q
      · rw [if_neg hsub] at q
        simp [hsub]
        exact q
end
end K02
namespace K02
open PySem PySem.Spec PyProof.Rows L2 PD
def gdD (l : List Nat) : D := .dct (gd (hk l))
theorem addK_len (x : Nat) : ∀ (ks m : List Nat), (addK x ks m).length ≤ m.length + ks.length
  | [], m => Nat.le_refl _
  | t :: ks, m => by
    have h := addK_len x ks (if t + x ∈ m then m else m ++ [t + x])
    show (addK x ks (if t + x ∈ m then m else m ++ [t + x])).length ≤ _
    have : (if t + x ∈ m then m else m ++ [t + x]).length ≤ m.length + 1 := by split <;> simp
    rw [List.length_cons]; omega
theorem gd_fam (ks : List Nat) : (gd ks).all (fun p => kfam p.1 == 1) = true := by
  rw [List.all_eq_true]
  intro p hp
  rw [fam_gd ks p hp]; rfl
section
variable {ds : Option DS} {Q : PD.R → Option DS → Prop} {r : List Nat}
theorem w_half_of (hne : r.length ≤ 1000) (hs : r.sum ≤ 1000) (q : Q (.d (halfD (halfS r))) ds) : fq f_half_of [.tup (nD r)] ds Q mk := by
  unfold f_half_of m_half_of
  have s1 : 1 ≤ sizeLine := by decide
  rw [half_cases] at q
  simp [ints_nD, sum_cast, s1]
  rw [sum_mod]
  by_cases hodd : r.sum % 2 = 1
  · rw [if_pos (by omega)]
    rw [if_pos hodd] at q
    exact q
  · rw [if_neg (by omega)]
    rw [if_neg hodd] at q
    have e0 : (nD r).reverse = nD r.reverse := (List.map_reverse ..).symm
    rw [e0]
    refine q_loop (fun i s => ∃ x3 x4 x5, s = ⟨[.d (.tup (nD r)), .d (.int (r.sum : Nat)), .o (.l (leftH gdD r i)), x3, x4, x5, .no, .no, .no], ds⟩) ⟨.no, .no, .no, by simp [leftH, gdD, hk, gd]⟩ ?_ ?_
    · rintro i d s hi ⟨x3, x4, x5, rfl⟩
      unfold nD at hi
      rw [List.getElem?_map, Option.map_eq_some_iff] at hi
      obtain ⟨x, hxi, rfl⟩ := hi
      have hlt := (List.getElem?_eq_some_iff.mp hxi).1
      rw [List.length_reverse] at hlt
      have hsuf := drop_suf hxi hlt
      have hat := leftH_last gdD r i
      have hul := leftH_len gdD r i
      rw [leftH_next, hsuf]
      have hsl := len_hk (r.drop (r.length - i))
      have hds := drop_sum r (r.length - i)
      generalize r.drop (r.length - i) = l at *
      generalize leftH gdD r i = U at *
      have hz : U.length < sizeLine := Nat.lt_of_lt_of_le (show U.length < 16777216 by omega) (sz (Nat.le_refl _))
      unfold gdD at hat
      have hn : gdD (x :: l) = .dct (gd (addK x (hk l) (hk l))) := rfl
      rw [hn]
      generalize hk l = H at *
      simp only [q_tgN]
      unfold b_half_of_2
      simp [hat, gd_fam, -List.all_eq_true]
      have e1 : (gd H).map (fun p => p.1) = nD H := by unfold gd nD; rw [List.map_map]; rfl
      have e1' : List.map (fun x : D × D => x.1) (gd H) = nD H := e1
      rw [e1']
      refine q_loop (fun j s => ∃ x5, s = ⟨[.d (.tup (nD r)), .d (.int (r.sum : Nat)), .o (.l U), .d (.int (x : Nat)), .o (.k (gd (addK x (H.take j) H))), x5, .no, .no, .no], ds⟩) ⟨x5, rfl⟩ ?_ ?_
      · rintro j d s hj ⟨x5, rfl⟩
        unfold nD at hj
        rw [List.getElem?_map, Option.map_eq_some_iff] at hj
        obtain ⟨t, ht, rfl⟩ := hj
        have hal := addK_len x (H.take j) H
        rw [List.length_take] at hal
        have hst : addK x (H.take (j + 1)) H = (if t + x ∈ addK x (H.take j) H then addK x (H.take j) H else addK x (H.take j) H ++ [t + x]) := by
          rw [List.take_add_one, ht, Option.toList_some]
          unfold addK
          rw [List.foldl_append]; rfl
        rw [hst]
        generalize addK x (H.take j) H = M at *
        have hM : (gd M).length < sizeLine := by
          unfold gd
          rw [List.length_map]
          exact Nat.lt_of_lt_of_le (show M.length < 16777216 by omega) (sz (Nat.le_refl _))
        have hp := put_gd M (t + x)
        rw [Int.natCast_add] at hp
        simp [b_half_of_1, key_gd, hM, hp]
      · rintro s ⟨x5, rfl⟩
        rw [nD_len, List.take_length]
        simp [hz]
    · rintro s ⟨x3, x4, x5, rfl⟩
      rw [nD_len, List.length_reverse]
      simp
      rw [leftH_rev]
      have a0 : atI (leftF gdD r) 0 = some (.dct (gd (hk r))) := leftF_at gdD (Nat.zero_le _)
      simp [a0]
      rw [sum_div]
      have hin := in_gd (hk r) ((r.sum / 2 : Nat) : Int)
      have hd : decide (0 ≤ ((r.sum / 2 : Nat) : Int) ∧ ((r.sum / 2 : Nat) : Int).toNat ∈ hk r) = sub r (r.sum / 2) := by
        rw [Int.toNat_natCast, Bool.eq_iff_iff, decide_eq_true_eq, mem_hk]
        exact ⟨fun z => z.2, fun z => ⟨by omega, z⟩⟩
      rw [hd] at hin
      simp only [bO_some, hin, Option.map_some]
      by_cases hsub : sub r (r.sum / 2) = true
      · rw [if_pos hsub] at q
        simp [hsub, en_nD]
        generalize hG : grdH r 0 (r.sum / 2) = G at *
        refine q_loop (fun i s => ∃ (t : Nat) (told : List Nat) (x3 x4 x5 x8 : Sl), told ++ grdH (r.drop i) i t = G ∧ told.length ≤ i ∧ s = ⟨[.d (.tup (nD r)), .d (.int (r.sum : Nat)), .o (.l (leftF gdD r)), x3, x4, x5, .d (.int (t : Nat)), .o (.l (nD told)), x8], ds⟩) ⟨r.sum / 2, [], x3, x4, x5, .no, hG, Nat.le_refl _, rfl⟩ ?_ ?_
        · rintro i d s hi ⟨t, told, x3, x4, x5, x8, hg, hl, rfl⟩
          obtain ⟨x, hxi, rfl⟩ := en_at hi
          have hlt := (List.getElem?_eq_some_iff.mp hxi).1
          have hdr : r.drop i = x :: r.drop (i + 1) := by
            obtain ⟨h1, h2⟩ := List.getElem?_eq_some_iff.mp hxi
            rw [List.drop_eq_getElem_cons h1, h2]
          have hat : atI (leftF gdD r) ((i : Int) + 1) = some (.dct (gd (hk (r.drop (i + 1))))) := by
            have := leftF_at gdD (r := r) (k := i + 1) (by omega)
            rwa [Int.natCast_add] at this
          have hds := drop_sum r (i + 1)
          have hin := in_gd (hk (r.drop (i + 1))) ((t : Int) - (x : Int))
          rw [hdr, grdH_eq] at hg
          have hz : (nD told).length < sizeLine := by
            rw [nD_len]
            exact Nat.lt_of_lt_of_le (show told.length < 16777216 by omega) (sz (Nat.le_refl _))
          have hd : decide (0 ≤ (t : Int) - (x : Int) ∧ ((t : Int) - (x : Int)).toNat ∈ hk (r.drop (i + 1))) = decide (x ≤ t ∧ sub (r.drop (i + 1)) (t - x) = true) := by
            rw [show ((t : Int) - (x : Int)).toNat = t - x by omega, Bool.eq_iff_iff, decide_eq_true_eq, decide_eq_true_eq, mem_hk]
            exact ⟨fun z => ⟨by omega, z.2⟩, fun z => ⟨by omega, z.2⟩⟩
          rw [hd] at hin
          generalize r.drop (i + 1) = T at *
          by_cases hx : x ≤ t
          · by_cases hsb : sub T (t - x) = true
            · by_cases h0 : 0 < t
              · rw [if_pos ⟨h0, hx, hsb⟩] at hg
                simp [b_half_of_3, h0, hat, hin, hx, hsb, hz]
                refine ⟨t - x, told ++ [i], ?_, by simp; omega, by omega, ?_⟩
                · rw [List.append_assoc]; exact hg
                · unfold nD; rw [List.map_append]; rfl
              · rw [if_neg (fun z => h0 z.1)] at hg
                simp [b_half_of_3, h0, hat, hin, hx, hsb, hz]
                exact ⟨t, told, hg, by omega, by omega, rfl⟩
            · rw [if_neg (fun z => hsb z.2.2)] at hg
              simp [b_half_of_3, hat, hin, hx, hsb, hz]
              exact ⟨t, told, hg, by omega, by omega, rfl⟩
          · rw [if_neg (fun z => hx z.2.1)] at hg
            simp [b_half_of_3, hx]
            exact ⟨t, told, hg, by omega, by omega, rfl⟩
        · rintro s ⟨t, told, x3, x4, x5, x8, hg, hl, rfl⟩
          have hel : (enD r).length = r.length := by unfold enD; simp
          rw [hel, List.drop_length] at hg
          have hg : told = G := by rw [← hg]; exact (List.append_nil _).symm
          subst hg
          simp
          exact q
      · rw [if_neg hsub] at q
        simp [hsub]
        exact q
end
end K02
namespace K02
open PySem PySem.Spec PyProof.Rows L2 PD
section
variable {d : DS} {Q : PD.R → Option DS → Prop}
theorem w_draw {many : Nat} (h0 : 0 < many) (h1 : many < 1073741824) (q : ∀ v : Nat, v < many → ∀ d', Q (.d (.int v)) (some d')) : fq f__law_draw [.st, .int many] (some d) Q mk := by
  have e : f__law_draw [.st, .int many] (some d) = some (.d (.int (drawR d.cells d.seed many).1), some (drawR d.cells d.seed many).2) := by
    show (if 0 < (many : Int) ∧ (many : Int) < 1073741824 then _ else none) = _
    rw [if_pos ⟨by omega, by omega⟩]
  have hb : 0 ≤ (drawR d.cells d.seed many).1 ∧ (drawR d.cells d.seed many).1 < many := by
    unfold drawR
    split <;> exact ⟨Int.fmod_nonneg_of_pos _ (by omega), Int.fmod_lt_of_pos _ (by omega)⟩
  obtain ⟨v, hv⟩ := Int.eq_ofNat_of_zero_le hb.1
  refine ⟨_, _, e, ?_⟩
  rw [hv] at hb ⊢
  exact q v (by omega) _
theorem w_one {xs : List D} (h0 : 0 < xs.length) (h1 : xs.length < 1073741824) (q : ∀ x ∈ xs, ∀ d', Q (.d x) (some d')) : fq f__law_one [.st, .lst xs] (some d) Q mk := by
  unfold f__law_one m__law_one
  simp
  refine w_draw h0 h1 fun v hv d' => ?_
  simp [atI_get?, hv]
  exact q _ (List.getElem_mem hv) d'
end
def EnvL (d : DS) (x0 x2 x3 x4 x5 x6 x7 x8 x9 x10 x11 x12 x13 x14 x15 : Sl) : S := ⟨[x0, .d .st, x2, x3, x4, x5, x6, x7, x8, x9, x10, x11, x12, x13, x14, x15], some d⟩
structure RL (n m : Nat) (l : List Nat) : Prop where
  len : l.length = n
  lo : ∀ x ∈ l, 1 ≤ x
  hi : ∀ x ∈ l, x ≤ m
section
variable {d : DS} {Q : Fl → S → Prop} {x0 x2 x3 x4 x5 x6 x7 x8 x9 x10 x11 x12 x13 x14 x15 : Sl} {r : List Nat}
noncomputable def bRuler : MS := (mSet 4 (mPrim fTuple (mArgs [(mLc (mItA fRng1 [(mBin fAdd (mC (.int 1)) (mCall f__law_draw (mArgs [(mVar 1), (mCall f__law_one (mArgs [(mVar 1), (mLst [(mC (.int 7)), (mC (.int 20)), (mC (.int 40))])]))])))]) (tgN 15) mYes (mBin fAdd (mC (.int 1)) (mCall f__law_draw (mArgs [(mVar 1), (mVar 3)]))) [15])])))
theorem w_ruler {most : Nat} (h1 : 1 ≤ most) (h2 : most ≤ 300) (q : ∀ d r n, 1 ≤ n → n ≤ 40 → RL n 300 r → Q .nx (EnvL d x0 x2 (.d (.int (most : Nat))) (.d (.tup (nD r))) x5 x6 x7 x8 x9 x10 x11 x12 x13 x14 x15)) :
    wq bRuler (EnvL d x0 x2 (.d (.int (most : Nat))) x4 x5 x6 x7 x8 x9 x10 x11 x12 x13 x14 x15) Q mk := by
  unfold bRuler EnvL
  have s3 : 3 ≤ sizeLine := by decide
  simp [s3]
  refine w_one (by simp) (by simp) ?_
  intro x hx d1
  obtain ⟨m, rfl, hm1, hm2⟩ : ∃ m : Nat, x = .int (m : Nat) ∧ 1 ≤ m ∧ m ≤ 40 := by
    simp at hx
    rcases hx with rfl | rfl | rfl
    · exact ⟨7, rfl, by decide, by decide⟩
    · exact ⟨20, rfl, by decide, by decide⟩
    · exact ⟨40, rfl, by decide, by decide⟩
  simp
  refine w_draw (by omega) (by omega) fun v hv d2 => ?_
  simp
  refine ⟨rg_ok (by omega), ?_⟩
  refine q_lc_inv (fun i acc s => ∃ l d, acc = nD l ∧ RL i 300 l ∧ s = EnvL d x0 x2 (.d (.int (most : Nat))) x4 x5 x6 x7 x8 x9 x10 x11 x12 x13 x14 .no) ⟨[], _, rfl, ⟨rfl, by simp, by simp⟩, rfl⟩ ?_ ?_
  · rintro i dd acc s hi ⟨l, d3, rfl, R, rfl⟩
    unfold EnvL
    simp
    refine w_draw (by omega) (by omega) fun u hu d4 => ?_
    simp
    refine ⟨l ++ [1 + u], ?_, ⟨by rw [List.length_append, R.len]; rfl, ?_, ?_⟩⟩
    · unfold nD; rw [List.map_append]; simp
    · intro y hy
      rcases List.mem_append.mp hy with hy | hy
      · exact R.lo y hy
      · rw [List.mem_singleton.mp hy]; omega
    · intro y hy
      rcases List.mem_append.mp hy with hy | hy
      · exact R.hi y hy
      · rw [List.mem_singleton.mp hy]; omega
  · rintro acc s ⟨l, d3, rfl, R, rfl⟩
    have hn : (rgD (1 + (v : Int))).length = 1 + v := by rw [rgD_len]; omega
    rw [hn] at R
    unfold EnvL
    have hz : (nD l).length ≤ sizeLine := by rw [nD_len, R.len]; exact sz (by omega)
    simp [hz]
    exact q d3 l (1 + v) (by omega) (by omega) R
end
end K02
namespace K02
open PySem PySem.Spec PyProof.Rows L2 PD
noncomputable def bMost : MS := (mSet 3 (mCall f__law_one (mArgs [(mVar 1), (mLst [(mC (.int 3)), (mC (.int 12)), (mC (.int 60)), (mC (.int 300))])])))
noncomputable def bTop : MS := (mSet 5 (mBin fMulX (mC (.int 2)) (mPrim fMaxX (mArgs [(mVar 4)]))))
noncomputable def bLeast : MS := (mSet 6 (mPrim fMaxX (mArgs [(mVar 4)])))
noncomputable def bWhile : MS := (mWhile (mTest (mBin fIsN (mCall f__law_lay (mArgs [(mVar 4), (mVar 6)])) (mC .non))) b_law_1)
noncomputable def bChk1 : MS := (mIfS (mOr (mTest (mBin fNe (mCall f_least_case (mArgs [(mVar 4)])) (mVar 6))) (mTest (mBin fGt (mVar 6) (mVar 5)))) (mRetS (mC (.bl false))) mSkip)
noncomputable def bSizes : MS := (mFor (mIt (mTup [(mBin fSub (mVar 6) (mC (.int 1))), (mVar 6), (mBin fAdd (mVar 6) (mCall f__law_draw (mArgs [(mVar 1), (mC (.int 9))]))), (mVar 5)])) (tgN 7) b_law_2)
noncomputable def bLay : MS := (mSet 8 (mMethT "str" fJoin (mC (.str [])) [(mLc (mIt (mVar 4)) (tgN 9) mYes (mCall f__law_one (mArgs [(mVar 1), (mLst [(mC (.str [108])), (mC (.str [114]))])])) [9])]))
noncomputable def bChk2 : MS := (mIfS (mOr (mTest (mBin fNe (mCall f_case_of (mArgs [(mVar 4), (mVar 8)])) (mCall f__law_case (mArgs [(mVar 4), (mVar 8)])))) (mTest (mBin fNe (mCall f__law_case (mArgs [(mVar 4), (mCall f__law_lay (mArgs [(mVar 4), (mVar 6)]))])) (mVar 6)))) (mRetS (mC (.bl false))) mSkip)
noncomputable def bHere : MS := (mAsg (tgT (tgCons (tgN 11) (tgCons (tgN 12) tgNil))) (mTup [(mC (.int 0)), (mC (.str []))]))
noncomputable def bTold : MS := (mFor (mIt (mVar 4)) (tgN 9) b_law_3)
noncomputable def bChk3 : MS := (mIfS (mTest (mBin fNe (mCall f_told_lay (mArgs [(mVar 4)])) (mVar 12))) (mRetS (mC (.bl false))) mSkip)
noncomputable def bNums : MS := (mSet 10 (mPrim fTuple (mArgs [(mLc (mItA fRng1 [(mBin fAdd (mC (.int 1)) (mCall f__law_draw (mArgs [(mVar 1), (mC (.int 16))])))]) (tgN 15) mYes (mBin fAdd (mC (.int 1)) (mCall f__law_draw (mArgs [(mVar 1), (mCall f__law_one (mArgs [(mVar 1), (mLst [(mC (.int 4)), (mC (.int 12))])]))]))) [15])])))
noncomputable def bChk4 : MS := (mIfS (mTest (mBin fNe (mCall f_half_of (mArgs [(mVar 10)])) (mCall f__law_half (mArgs [(mVar 10)])))) (mRetS (mC (.bl false))) mSkip)
noncomputable def bTail : MS := (mIfS (mTest (mBin fEq (mBin fMod (mPrim fSumX (mArgs [(mVar 10)])) (mC (.int 2))) (mC (.int 0)))) (mThen (mSet 14 (mPrim fInt (mArgs [(mBin fDiv (mPrim fSumX (mArgs [(mVar 10)])) (mC (.int 2)))])))
    (mThen (mIfS (mTest (mBin fNe (mCall f_halves_ruler (mArgs [(mVar 10)])) (mBin fAdd (mBin fAdd (mTup [(mBin fMulX (mC (.int 2)) (mVar 14)), (mVar 14)]) (mVar 10)) (mTup [(mVar 14), (mBin fMulX (mC (.int 2)) (mVar 14))])))) (mRetS (mC (.bl false))) mSkip)
    (mIfS (mAnd (mTest (mBin fLe (mBin fMulX (mC (.int 2)) (mVar 14)) (mC (.int 300)))) (mAnd (mTest (mBin fLe (mPrim fLen (mArgs [(mVar 10)])) (mC (.int 12)))) (mTest (mBin fNe (mBin fEq (mCall f_least_case (mArgs [(mBin fAdd (mBin fAdd (mTup [(mBin fMulX (mC (.int 2)) (mVar 14)), (mVar 14)]) (mVar 10)) (mTup [(mVar 14), (mBin fMulX (mC (.int 2)) (mVar 14))]))])) (mBin fMulX (mC (.int 2)) (mVar 14))) (mBin fNotN (mCall f__law_half (mArgs [(mVar 10)])) (mC .non)))))) (mRetS (mC (.bl false))) mSkip))) mSkip)
theorem b4_eq : b_law_4 = mThen bMost (mThen bRuler (mThen bTop (mThen bLeast (mThen bWhile (mThen bChk1 (mThen bSizes (mThen bLay (mThen bChk2 (mThen bHere (mThen bTold (mThen bChk3 (mThen bNums (mThen bChk4 bTail))))))))))))) := rfl
theorem w_then {x y : MS} {s : S} {Q : Fl → S → Prop} (h : wq x s (fun fl s1 => fl = .nx ∧ wq y s1 Q mk) mk) : wq (mThen x y) s Q mk := by
  rw [q_then]
  refine wq_mono h ?_
  rintro fl s1 ⟨rfl, h⟩
  exact h
theorem layS_none {S : Nat} {l : List Nat} : resD (layS S l) = .non ↔ fitsR S l = false := by
  unfold layS
  cases h : fitsR S l with
  | true => simp [resD]
  | false => simp [resD]
theorem resD_str {S : Nat} {l : List Nat} (h : fitsR S l = true) : resD (layS S l) = .str (grd S l (fitP S l) []) := by unfold layS; rw [if_pos h]; rfl
section
variable {d : DS} {Q : Fl → S → Prop} {x0 x2 x3 x4 x5 x6 x7 x8 x9 x10 x11 x12 x13 x14 x15 : Sl} {r : List Nat} {S T : Nat}
theorem w_bTop (hne : r ≠ []) (hm : MX r ≤ 300) (q : Q .nx (EnvL d x0 x2 x3 (.d (.tup (nD r))) (.d (.int (2 * MX r : Nat))) x6 x7 x8 x9 x10 x11 x12 x13 x14 x15)) :
    wq bTop (EnvL d x0 x2 x3 (.d (.tup (nD r))) x5 x6 x7 x8 x9 x10 x11 x12 x13 x14 x15) Q mk := by
  unfold bTop EnvL
  simp only [EnvL] at q
  simp [max_nD hne, cmul' (show ((2 : Int)).natAbs < 2 ^ 63 by decide)]
  simpa using q
theorem w_bLeast (hne : r ≠ []) (q : Q .nx (EnvL d x0 x2 x3 (.d (.tup (nD r))) x5 (.d (.int (MX r : Nat))) x7 x8 x9 x10 x11 x12 x13 x14 x15)) :
    wq bLeast (EnvL d x0 x2 x3 (.d (.tup (nD r))) x5 x6 x7 x8 x9 x10 x11 x12 x13 x14 x15) Q mk := by
  unfold bLeast EnvL
  simp only [EnvL] at q
  simp [max_nD hne]
  exact q
theorem w_bWhile (hr : r.length ≤ 100) (hx : ∀ x ∈ r, x ≤ 300) (L : Least (MX r) r S) (hS : S ≤ 1000) (q : Q .nx (EnvL d x0 x2 x3 (.d (.tup (nD r))) x5 (.d (.int (S : Nat))) x7 x8 x9 x10 x11 x12 x13 x14 x15)) :
    wq bWhile (EnvL d x0 x2 x3 (.d (.tup (nD r))) x5 (.d (.int (MX r : Nat))) x7 x8 x9 x10 x11 x12 x13 x14 x15) Q mk := by
  unfold bWhile
  refine q_while (fun n s => ∃ c, MX r ≤ c ∧ c ≤ S ∧ n = S - c ∧ s = EnvL d x0 x2 x3 (.d (.tup (nD r))) x5 (.d (.int (c : Nat))) x7 x8 x9 x10 x11 x12 x13 x14 x15) ⟨MX r, Nat.le_refl _, L.ge, rfl, rfl⟩ ?_
  rintro n s ⟨c, h1, h2, rfl, rfl⟩
  unfold EnvL
  simp only [EnvL] at q
  simp
  refine w_law_lay (by omega) (by omega) (fun x h => by have := hx x h; omega) ?_
  by_cases hc : c = S
  · subst hc
    rw [resD_str L.fit]
    simp
    exact q
  · rw [layS_none.mpr (L.no c h1 (by omega))]
    simp [b_law_1]
    exact ⟨S - (c + 1), by omega, c + 1, by omega, by omega, rfl, by omega⟩
theorem w_bChk1 (hne : r ≠ []) (hm : MX r ≤ 300) (hr : r.length ≤ 100) (L : Least (MX r) r S) (hS : S ≤ 2 * MX r) (q : Q .nx (EnvL d x0 x2 x3 (.d (.tup (nD r))) (.d (.int (2 * MX r : Nat))) (.d (.int (S : Nat))) x7 x8 x9 x10 x11 x12 x13 x14 x15)) :
    wq bChk1 (EnvL d x0 x2 x3 (.d (.tup (nD r))) (.d (.int (2 * MX r : Nat))) (.d (.int (S : Nat))) x7 x8 x9 x10 x11 x12 x13 x14 x15) Q mk := by
  unfold bChk1 EnvL
  simp only [EnvL] at q
  simp [-Int.natCast_mul]
  refine w_least hne (by omega) (by omega) L (by omega) ?_
  have : ¬ ((2 * MX r : Nat) : Int) < (S : Int) := by omega
  simp [-Int.natCast_mul, this]
  exact q
end
end K02
namespace K02
open PySem PySem.Spec PyProof.Rows L2 PD
section
variable {d : DS} {Q : Fl → S → Prop} {x0 x2 x3 x4 x5 x6 x7 x8 x9 x10 x11 x12 x13 x14 x15 : Sl} {r : List Nat} {S T : Nat}
theorem eqD_nn : eqD .non .non = true := by unfold eqD; simp [toPy, PyData.eqv]
theorem pl_res (o : Option Wd) : pl 60 (resD o) = true := by cases o <;> simp [resD]
theorem eqD_self_res (o : Option Wd) : eqD (resD o) (resD o) = true := by
  cases o with
  | none => exact eqD_nn
  | some w => simp [resD]
theorem w_size {z : Nat} (hr : r.length ≤ 100) (hx : ∀ x ∈ r, x ≤ 300) (hz : z ≤ 1000) (q : Q .nx (EnvL d x0 x2 x3 (.d (.tup (nD r))) x5 x6 (.d (.int (z : Nat))) x8 x9 x10 x11 x12 x13 x14 x15)) :
    wq b_law_2 (EnvL d x0 x2 x3 (.d (.tup (nD r))) x5 x6 (.d (.int (z : Nat))) x8 x9 x10 x11 x12 x13 x14 x15) Q mk := by
  unfold b_law_2 EnvL
  simp only [EnvL] at q
  simp
  refine w_lay hz hr (fun x h => by have := hx x h; omega) ?_
  simp
  refine w_law_lay hz (by omega) (fun x h => by have := hx x h; omega) ?_
  simp [pl_res, eqD_self_res]
  exact q
theorem w_bSizes (hr : r.length ≤ 100) (hx : ∀ x ∈ r, x ≤ 300) (hS1 : 1 ≤ S) (hS : S ≤ 600) (hT : T ≤ 600) (q : ∀ d x7, Q .nx (EnvL d x0 x2 x3 (.d (.tup (nD r))) (.d (.int (T : Nat))) (.d (.int (S : Nat))) x7 x8 x9 x10 x11 x12 x13 x14 x15)) :
    wq bSizes (EnvL d x0 x2 x3 (.d (.tup (nD r))) (.d (.int (T : Nat))) (.d (.int (S : Nat))) x7 x8 x9 x10 x11 x12 x13 x14 x15) Q mk := by
  unfold bSizes EnvL
  have s4 : 4 ≤ sizeLine := by decide
  simp [s4]
  refine w_draw (many := 9) (by decide) (by decide) fun v hv d' => ?_
  simp [s4]
  refine q_loop (fun i s => ∃ x7, s = EnvL d' x0 x2 x3 (.d (.tup (nD r))) (.d (.int (T : Nat))) (.d (.int (S : Nat))) x7 x8 x9 x10 x11 x12 x13 x14 x15) ⟨x7, rfl⟩ ?_ ?_
  · rintro i dd s hi ⟨x7, rfl⟩
    have : ∃ z : Nat, z ≤ 1000 ∧ dd = .int (z : Nat) := by
      have := List.mem_of_getElem? hi
      simp at this
      rcases this with rfl | rfl | rfl | rfl
      · exact ⟨S - 1, by omega, by congr 1; omega⟩
      · exact ⟨S, by omega, rfl⟩
      · exact ⟨S + v, by omega, by congr 1⟩
      · exact ⟨T, by omega, rfl⟩
    obtain ⟨z, hz, rfl⟩ := this
    simp only [q_tgN, EnvL]
    exact w_size hr hx hz ⟨_, rfl⟩
  · rintro s ⟨x7, rfl⟩
    exact q _ _
def chD (c : Nat) : D := .str [c]
theorem strs_ch : ∀ l : List Nat, strsD (l.map chD) = some (l.map fun c => [c])
  | [] => rfl
  | a :: l => by
    show (strsD (l.map chD)).map _ = _
    rw [strs_ch l]; rfl
theorem join_ch (l : List Nat) : joinL [] (l.map fun c => [c]) = l := by
  have h : ∀ l : List Nat, ((l.map fun c => [c]).map fun y => ([] : List Nat) ++ y).flatten = l := by
    intro l
    induction l with
    | nil => rfl
    | cons a l ih => rw [List.map_cons, List.map_cons, List.flatten_cons, ih]; rfl
  cases l with
  | nil => rfl
  | cons a l => show [a] ++ _ = _; rw [h]; rfl
theorem sum_ch (l : List Nat) : ((l.map fun c => [c]).map (·.length)).sum = l.length := by
  induction l with
  | nil => rfl
  | cons a l ih => rw [List.map_cons, List.map_cons, List.sum_cons, ih, List.length_cons]; simp; omega
theorem w_bLay (hr : r.length ≤ 100) (q : ∀ d w, w.length = r.length → Q .nx (EnvL d x0 x2 x3 (.d (.tup (nD r))) x5 x6 x7 (.d (.str w)) x9 x10 x11 x12 x13 x14 x15)) :
    wq bLay (EnvL d x0 x2 x3 (.d (.tup (nD r))) x5 x6 x7 x8 x9 x10 x11 x12 x13 x14 x15) Q mk := by
  unfold bLay EnvL
  have s2 : 2 ≤ sizeLine := by decide
  simp
  refine q_lc_inv (fun i acc s => ∃ l d, acc = l.map chD ∧ l.length = i ∧ s = EnvL d x0 x2 x3 (.d (.tup (nD r))) x5 x6 x7 x8 .no x10 x11 x12 x13 x14 x15) ⟨[], _, rfl, rfl, rfl⟩ ?_ ?_
  · rintro i dd acc s hi ⟨l, d3, rfl, rfl, rfl⟩
    unfold EnvL
    simp [s2]
    refine w_one (by simp) (by simp) ?_
    intro x hx d4
    have hx2 : ∃ y, x = chD y := by
      simp at hx
      rcases hx with rfl | rfl
      · exact ⟨108, rfl⟩
      · exact ⟨114, rfl⟩
    obtain ⟨y, rfl⟩ := hx2
    have e : scalD (chD y) = true := rfl
    simp [e]
    exact ⟨l ++ [y], by simp, by simp⟩
  · rintro acc s ⟨l, d3, rfl, hl2, rfl⟩
    rw [nD_len] at hl2
    unfold EnvL
    have hsc := sum_ch l
    have hl3 : l.length ≤ sizeLine := sz (by omega)
    have hl4 : l.length ≤ 16777216 := by omega
    simp [strs_ch, join_ch, hl3, -List.map_map]
    refine ⟨by rw [hsc]; exact hl4, ?_⟩
    exact q d3 l hl2
theorem w_bChk2 {w : Wd} (hr : r.length ≤ 100) (hx : ∀ x ∈ r, x ≤ 300) (hw : w.length = r.length) (L : Least (MX r) r S) (hS : S ≤ 600) (q : Q .nx (EnvL d x0 x2 x3 (.d (.tup (nD r))) x5 (.d (.int (S : Nat))) x7 (.d (.str w)) x9 x10 x11 x12 x13 x14 x15)) :
    wq bChk2 (EnvL d x0 x2 x3 (.d (.tup (nD r))) x5 (.d (.int (S : Nat))) x7 (.d (.str w)) x9 x10 x11 x12 x13 x14 x15) Q mk := by
  unfold bChk2 EnvL
  simp only [EnvL] at q
  simp
  refine w_case_of hw (by omega) ?_
  simp
  refine w_law_case hw (by omega) ?_
  simp
  refine w_law_lay (by omega) (by omega) (fun x h => by have := hx x h; omega) ?_
  rw [resD_str L.fit]
  simp
  refine w_law_case (grd_len L.fit) (by omega) ?_
  rw [case_least L fun s h => MX_le h]
  simp
  exact q
end
end K02
namespace K02
open PySem PySem.Spec PyProof.Rows L2 PD
section
variable {d : DS} {Q : Fl → S → Prop} {x0 x2 x3 x4 x5 x6 x7 x8 x9 x10 x11 x12 x13 x14 x15 : Sl} {r : List Nat} {S T : Nat}
theorem w_bHere (q : Q .nx (EnvL d x0 x2 x3 x4 x5 x6 x7 x8 x9 x10 (.d (.int 0)) (.d (.str [])) x13 x14 x15)) :
    wq bHere (EnvL d x0 x2 x3 x4 x5 x6 x7 x8 x9 x10 x11 x12 x13 x14 x15) Q mk := by
  unfold bHere EnvL
  have s2 : 2 ≤ sizeLine := by decide
  simp only [EnvL] at q
  simp [s2]
  exact q
theorem w_bTold (hr : r.length ≤ 100) (q : ∀ x9 x11 x13, Q .nx (EnvL d x0 x2 x3 (.d (.tup (nD r))) (.d (.int (2 * MX r : Nat))) x6 x7 x8 x9 x10 x11 (.d (.str (toldW r))) x13 x14 x15)) :
    wq bTold (EnvL d x0 x2 x3 (.d (.tup (nD r))) (.d (.int (2 * MX r : Nat))) x6 x7 x8 x9 x10 (.d (.int 0)) (.d (.str [])) x13 x14 x15) Q mk := by
  unfold bTold EnvL
  simp [-Int.natCast_mul]
  refine q_loop (fun i s => ∃ x9 x13, s = EnvL d x0 x2 x3 (.d (.tup (nD r))) (.d (.int (2 * MX r : Nat))) x6 x7 x8 x9 x10 (.d (.int ((r.take i).foldl (tst (2 * MX r)) (0, [])).1)) (.d (.str ((r.take i).foldl (tst (2 * MX r)) (0, [])).2)) x13 x14 x15) ⟨x9, x13, rfl⟩ ?_ ?_
  · rintro i dd s hi ⟨x9, x13, rfl⟩
    unfold nD at hi
    rw [List.getElem?_map, Option.map_eq_some_iff] at hi
    obtain ⟨x, hx, rfl⟩ := hi
    have hi2 := (List.getElem?_eq_some_iff.mp hx).1
    have hw := tst_len (2 * MX r) (r.take i) (0, [])
    rw [List.length_take] at hw
    rw [List.take_add_one, hx, Option.toList_some, List.foldl_append, List.foldl_cons, List.foldl_nil]
    generalize (r.take i).foldl (tst (2 * MX r)) (0, []) = P at *
    obtain ⟨h, w⟩ := P
    simp only [List.length_nil] at hw
    have hz : w.length + 1 ≤ sizeLine := sz (by omega)
    generalize 2 * MX r = T at *
    unfold EnvL
    simp [b_law_3]
    unfold tst
    by_cases hc : h + (x : Int) ≤ (T : Int)
    · simp [hc, hz]
    · simp [hc, hz]
  · rintro s ⟨x9, x13, rfl⟩
    rw [nD_len, List.take_length]
    exact q _ _ _
theorem w_bChk3 (hne : r ≠ []) (hm : MX r ≤ 300) (hr : r.length ≤ 100) (q : Q .nx (EnvL d x0 x2 x3 (.d (.tup (nD r))) x5 x6 x7 x8 x9 x10 x11 (.d (.str (toldW r))) x13 x14 x15)) :
    wq bChk3 (EnvL d x0 x2 x3 (.d (.tup (nD r))) x5 x6 x7 x8 x9 x10 x11 (.d (.str (toldW r))) x13 x14 x15) Q mk := by
  unfold bChk3 EnvL
  simp only [EnvL] at q
  simp
  refine w_told hne (by omega) (by omega) ?_
  simp
  exact q
theorem w_bNums (q : ∀ d l n, 1 ≤ n → n ≤ 16 → RL n 12 l → Q .nx (EnvL d x0 x2 x3 x4 x5 x6 x7 x8 x9 (.d (.tup (nD l))) x11 x12 x13 x14 x15)) :
    wq bNums (EnvL d x0 x2 x3 x4 x5 x6 x7 x8 x9 x10 x11 x12 x13 x14 x15) Q mk := by
  unfold bNums EnvL
  have s2 : 2 ≤ sizeLine := by decide
  simp
  refine w_draw (many := 16) (by decide) (by decide) fun v hv d2 => ?_
  simp
  refine ⟨rg_ok (by omega), ?_⟩
  refine q_lc_inv (fun i acc s => ∃ l d, acc = nD l ∧ RL i 12 l ∧ s = EnvL d x0 x2 x3 x4 x5 x6 x7 x8 x9 x10 x11 x12 x13 x14 .no) ⟨[], _, rfl, ⟨rfl, by simp, by simp⟩, rfl⟩ ?_ ?_
  · rintro i dd acc s hi ⟨l, d3, rfl, R, rfl⟩
    unfold EnvL
    simp [s2]
    refine w_one (by simp) (by simp) ?_
    intro x hx d4
    obtain ⟨m, rfl, hm1, hm2⟩ : ∃ m : Nat, x = .int (m : Nat) ∧ 1 ≤ m ∧ m ≤ 12 := by
      simp at hx
      rcases hx with rfl | rfl
      · exact ⟨4, rfl, by decide, by decide⟩
      · exact ⟨12, rfl, by decide, by decide⟩
    simp
    refine w_draw (by omega) (by omega) fun u hu d5 => ?_
    simp
    refine ⟨l ++ [1 + u], ?_, ⟨by rw [List.length_append, R.len]; rfl, ?_, ?_⟩⟩
    · unfold nD; rw [List.map_append]; simp
    · intro y hy
      rcases List.mem_append.mp hy with hy | hy
      · exact R.lo y hy
      · rw [List.mem_singleton.mp hy]; omega
    · intro y hy
      rcases List.mem_append.mp hy with hy | hy
      · exact R.hi y hy
      · rw [List.mem_singleton.mp hy]; omega
  · rintro acc s ⟨l, d3, rfl, R, rfl⟩
    have hn : (rgD (1 + (v : Int))).length = 1 + v := by rw [rgD_len]; omega
    rw [hn] at R
    unfold EnvL
    have hz : (nD l).length ≤ sizeLine := by rw [nD_len, R.len]; exact sz (by omega)
    simp [hz]
    exact q d3 l (1 + v) (by omega) (by omega) R
theorem pl_half (o : Option (List Nat)) : pl 60 (halfD o) = true := by
  cases o with
  | none => simp [halfD]
  | some l => show plAll 59 (nD l) = true; rw [nD_iD]; exact pla
theorem eqDs_nD (l : List Nat) : eqDs (nD l) (nD l) = true := by rw [nD_iD]; unfold iD; rw [eqDs_ints]; simp
theorem eq_half (o : Option (List Nat)) : eqD (halfD o) (halfD o) = true := by
  cases o with
  | none => exact eqD_nn
  | some l => show eqD (.tup (nD l)) (.tup (nD l)) = true; rw [eqD_t]; exact eqDs_nD l
theorem w_bChk4 {l : List Nat} (hl : l.length ≤ 1000) (hs : l.sum ≤ 1000) (q : Q .nx (EnvL d x0 x2 x3 x4 x5 x6 x7 x8 x9 (.d (.tup (nD l))) x11 x12 x13 x14 x15)) :
    wq bChk4 (EnvL d x0 x2 x3 x4 x5 x6 x7 x8 x9 (.d (.tup (nD l))) x11 x12 x13 x14 x15) Q mk := by
  unfold bChk4 EnvL
  simp only [EnvL] at q
  simp
  refine w_half_of hl hs ?_
  simp
  refine w_law_half hl hs ?_
  simp [pl_half, eq_half]
  exact q
end
end K02
namespace K02
open PySem PySem.Spec PyProof.Rows L2 PD
theorem mx_halves {s : Nat} {l : List Nat} (hs : l.sum = 2 * s) : MX (halvesR s l) = 2 * s := by
  have h1 : 2 * s ≤ MX (halvesR s l) := MX_ge (by unfold halvesR; simp)
  have h2 : MX (halvesR s l) ≤ 2 * s := MX_le fun x hx => by
    have hm : ∀ (l : List Nat) (x : Nat), x ∈ l → x ≤ l.sum := fun l x h => by
      induction l with
      | nil => cases h
      | cons y l ih =>
        rw [List.sum_cons]
        rcases List.mem_cons.mp h with rfl | h
        · omega
        · have := ih h; omega
    unfold halvesR endsR at hx
    simp at hx
    rcases hx with rfl | rfl | hx | rfl | rfl
    · omega
    · omega
    · have := hm l x hx; omega
    · omega
    · omega
  omega
theorem len_halves (s : Nat) (l : List Nat) : (halvesR s l).length = l.length + 4 := by unfold halvesR endsR; simp
section
variable {d : DS} {Q : Fl → S → Prop} {x0 x2 x3 x4 x5 x6 x7 x8 x9 x10 x11 x12 x13 x14 x15 : Sl} {r : List Nat} {S T : Nat}
theorem w_bTail {l : List Nat} (hl : l.length ≤ 16) (hs : l.sum ≤ 192) (hpos : 1 ≤ l.sum) (q : ∀ x14, Q .nx (EnvL d x0 x2 x3 x4 x5 x6 x7 x8 x9 (.d (.tup (nD l))) x11 x12 x13 x14 x15)) :
    wq bTail (EnvL d x0 x2 x3 x4 x5 x6 x7 x8 x9 (.d (.tup (nD l))) x11 x12 x13 x14 x15) Q mk := by
  unfold bTail EnvL
  simp only [EnvL] at q
  have s2 : 2 ≤ sizeLine := by decide
  simp [ints_nD, sum_cast]
  rw [sum_mod]
  by_cases hev : l.sum % 2 = 0
  · rw [if_pos (by omega)]
    obtain ⟨s, hsum⟩ : ∃ s, l.sum = 2 * s := ⟨l.sum / 2, by omega⟩
    have hd : ((l.sum : Nat) : Int).fdiv 2 = (s : Int) := by rw [sum_div]; omega
    rw [hd]
    have hh : D.int (2 * (s : Int)) :: D.int s :: (nD l ++ [D.int s, D.int (2 * (s : Int))]) = nD (halvesR s l) := by
      unfold halvesR endsR nD
      rw [List.map_append, List.map_append]
      simp
    refine w_hr (by omega) hsum ?_
    have z1 : 2 + l.length ≤ sizeLine := sz (by omega)
    have z2 : l.length + 1 + 1 + 2 ≤ sizeLine := sz (by omega)
    have z3 : pl 60 (D.tup (nD (halvesR s l))) = true := by
      show plAll 59 (nD (halvesR s l)) = true
      rw [nD_iD]; exact pla
    have z4 := eqDs_nD (halvesR s l)
    simp [cmul' (show ((2 : Int)).natAbs < 2 ^ 63 by decide), s2, nD_len, z1, z2, hh]
    have z5 : plAll 59 (nD (halvesR s l)) = true := z3
    refine ⟨z5, ?_⟩
    rw [if_pos z4]
    by_cases c1 : 2 * (s : Int) ≤ 300
    · rw [if_pos c1]
      by_cases c2 : (l.length : Int) ≤ 12
      · rw [if_pos c2]
        obtain ⟨S', L, hS'⟩ := least_mx (halvesR s l)
        have hmx := mx_halves hsum
        have hne : halvesR s l ≠ [] := by unfold halvesR; simp
        refine w_least hne (by omega) (by rw [len_halves]; omega) L (by omega) ?_
        simp [cmul' (show ((2 : Int)).natAbs < 2 ^ 63 by decide)]
        refine w_law_half (by omega) (by omega) ?_
        have hhalf : halfS l = if sub l s = true then some (grdH l 0 s) else none := by
          unfold halfS
          rw [if_neg (by omega), show l.sum / 2 = s by omega]
        have hfit := halves_fit (s := s) (ns := l) (by omega) hsum
        have hge := L.ge
        rw [hmx] at hge
        have hiff : (S' : Int) = 2 * (s : Int) ↔ sub l s = true := by
          rw [← hfit]
          constructor
          · intro e
            have : S' = 2 * s := by omega
            rw [← this]; exact L.fit
          · intro e
            rcases Nat.lt_or_ge (2 * s) S' with h | h
            · have := L.no (2 * s) (by omega) h
              rw [e] at this; cases this
            · omega
        rw [hhalf]
        by_cases hsb : sub l s = true
        · rw [if_pos hsb]
          have hi := hiff.mpr hsb
          simp [halfD, hi]
          exact q _
        · rw [if_neg hsb]
          have hi : ¬ (S' : Int) = 2 * (s : Int) := fun z => hsb (hiff.mp z)
          simp [halfD, hi]
          exact q _
      · rw [if_neg c2]
        exact q _
    · rw [if_neg c1]
      exact q _
  · rw [if_neg (by omega)]
    exact q _
theorem sum_RL {n m : Nat} : ∀ {l : List Nat}, (∀ x ∈ l, x ≤ m) → l.sum ≤ l.length * m
  | [], _ => by simp
  | x :: l, h => by
    have h1 := h x List.mem_cons_self
    have h2 := sum_RL (n := n) (m := m) fun y hy => h y (List.mem_cons_of_mem _ hy)
    rw [List.sum_cons, List.length_cons, Nat.succ_mul]; omega
theorem w_bMost (q : ∀ d most, 1 ≤ most → most ≤ 300 → Q .nx (EnvL d x0 x2 (.d (.int (most : Nat))) x4 x5 x6 x7 x8 x9 x10 x11 x12 x13 x14 x15)) :
    wq bMost (EnvL d x0 x2 x3 x4 x5 x6 x7 x8 x9 x10 x11 x12 x13 x14 x15) Q mk := by
  unfold bMost EnvL
  have s4 : 4 ≤ sizeLine := by decide
  simp [s4]
  refine w_one (by simp) (by simp) ?_
  intro x hx d1
  obtain ⟨m, rfl, hm1, hm2⟩ : ∃ m : Nat, x = .int (m : Nat) ∧ 1 ≤ m ∧ m ≤ 300 := by
    simp at hx
    rcases hx with rfl | rfl | rfl | rfl
    · exact ⟨3, rfl, by decide, by decide⟩
    · exact ⟨12, rfl, by decide, by decide⟩
    · exact ⟨60, rfl, by decide, by decide⟩
    · exact ⟨300, rfl, by decide, by decide⟩
  simp
  exact q d1 m hm1 hm2
theorem w_b4 (q : ∀ d x3 x4 x5 x6 x7 x8 x9 x10 x11 x12 x13 x14, Q .nx (EnvL d x0 x2 x3 x4 x5 x6 x7 x8 x9 x10 x11 x12 x13 x14 x15)) :
    wq b_law_4 (EnvL d x0 x2 x3 x4 x5 x6 x7 x8 x9 x10 x11 x12 x13 x14 x15) Q mk := by
  rw [b4_eq]
  refine w_then (w_bMost fun d most h1 h2 => ⟨rfl, ?_⟩)
  refine w_then (w_ruler h1 h2 fun d r n hn1 hn2 R => ⟨rfl, ?_⟩)
  have hne : r ≠ [] := fun e => by have := R.len; rw [e] at this; simp at this; omega
  have hlen : r.length ≤ 100 := by rw [R.len]; omega
  have hmx : MX r ≤ 300 := MX_le R.hi
  have hm1 : 1 ≤ MX r := R.lo _ (MX_mem hne)
  obtain ⟨S, L, hS⟩ := least_mx r
  have hge := L.ge
  refine w_then (w_bTop hne hmx ⟨rfl, ?_⟩)
  refine w_then (w_bLeast hne ⟨rfl, ?_⟩)
  refine w_then (w_bWhile hlen R.hi L (by omega) ⟨rfl, ?_⟩)
  refine w_then (w_bChk1 hne hmx hlen L hS ⟨rfl, ?_⟩)
  refine w_then (w_bSizes hlen R.hi (by omega) (by omega) (by omega) fun d x7 => ⟨rfl, ?_⟩)
  refine w_then (w_bLay hlen fun d w hw => ⟨rfl, ?_⟩)
  refine w_then (w_bChk2 hlen R.hi hw L (by omega) ⟨rfl, ?_⟩)
  refine w_then (w_bHere ⟨rfl, ?_⟩)
  refine w_then (w_bTold hlen fun x9 x11 x13 => ⟨rfl, ?_⟩)
  refine w_then (w_bChk3 hne hmx hlen ⟨rfl, ?_⟩)
  refine w_then (w_bNums fun d l n h1 h2 R2 => ⟨rfl, ?_⟩)
  have hl2 : l.length ≤ 16 := by rw [R2.len]; exact h2
  have hsum : l.sum ≤ 192 := by
    have := sum_RL (n := 0) R2.hi
    have h3 : l.length * 12 ≤ 16 * 12 := Nat.mul_le_mul_right _ hl2
    omega
  have hpos : 1 ≤ l.sum := by
    cases l with
    | nil => have := R2.len; simp at this; omega
    | cons y l => have := R2.lo y List.mem_cons_self; rw [List.sum_cons]; omega
  refine w_then (w_bChk4 (by omega) (by omega) ⟨rfl, ?_⟩)
  exact w_bTail hl2 hsum hpos fun x14 => q _ _ _ _ _ _ _ _ _ _ _ _ _
end
theorem w_law (ns : List Int) (hl : ns.length ≤ 63) : fq f_law [.scr ns] none (fun r _ => r = .d (.bl true)) mk := by
  unfold f_law m_law
  simp
  refine ⟨sz (by omega), rg_ok (by decide), ?_⟩
  refine q_loop (fun i s => ∃ d x2 x3 x4 x5 x6 x7 x8 x9 x10 x11 x12 x13 x14, s = EnvL d (.d (.scr ns)) x2 x3 x4 x5 x6 x7 x8 x9 x10 x11 x12 x13 x14 .no) ⟨_, _, _, _, _, _, _, _, _, _, _, _, _, _, rfl⟩ ?_ ?_
  · rintro i dd s hi ⟨d, x2, x3, x4, x5, x6, x7, x8, x9, x10, x11, x12, x13, x14, rfl⟩
    simp only [q_tgN, EnvL]
    exact w_b4 fun d x3 x4 x5 x6 x7 x8 x9 x10 x11 x12 x13 x14 => ⟨_, _, _, _, _, _, _, _, _, _, _, _, _, _, rfl⟩
  · rintro s ⟨d, x2, x3, x4, x5, x6, x7, x8, x9, x10, x11, x12, x13, x14, rfl⟩
    unfold EnvL
    have s9 : 9 ≤ sizeLine := by decide
    have e9 : nD [1, 2, 3, 4, 5, 4, 3, 2, 1] = [.int 1, .int 2, .int 3, .int 4, .int 5, .int 4, .int 3, .int 2, .int 1] := rfl
    simp [s9]
    rw [← e9]
    refine w_lay (S := 5) (by decide) (by decide) (by decide) ?_
    simp [s9]
    rw [← e9]
    refine w_law_lay (S := 5) (by decide) (by decide) (by decide) ?_
    simp [pl_res, eqD_self_res]
end K02
open PySem PySem.W PyProof.Rows
set_option maxHeartbeats 0 in
theorem PySem.Challenge.cw_foldedflat_k02_whole_least_lays_of_ruler_holds : PySem.Challenge.rw_foldedflat_k02_whole_least_lays_of_ruler.Holds := by
  w_on; o_law; k_head; (case hw => w_witness2)
  k_fill
  refine L2.walk_of (l := PySem.Challenge.rw_foldedflat_k02_whole_least_lays_of_ruler) (n := 63) (k := 3) (x := "script") (CX := fun _ => L2.CX0) (sp := fun w => PD.spF w _ K02.f_law 1) rfl (by decide) rfl ⟨rfl, by decide, by decide⟩ (fun w h Y => PySem.W.kIn_of Y) ?F (fun w H a ns hl _ hS => PD.law_sp K02.w_law H a ns hl hS) (fun _ _ _ _ _ h => h)
  case F =>
    intro w mg fa h KX G hmg
    refine' K02.all_F KX G hmg ?a0 ?l0 ?c0 ?k0 ?a1 ?l1 ?c1 ?k1 ?a2 ?l2 ?c2 ?k2 ?a3 ?l3 ?c3 ?k3 ?a4 ?l4 ?c4 ?k4 ?a5 ?l5 ?c5 ?k5 ?a6 ?l6 ?c6 ?k6 ?a7 ?l7 ?c7 ?k7 ?a8 ?l8 ?c8 ?k8 ?a9 ?l9 ?c9 ?k9 ?a10 ?l10 ?c10 ?k10 ?a11 ?l11 ?c11 ?k11 ?a12 ?l12 ?c12 ?k12 ?a13 ?l13 ?c13 ?k13 ?z0 ?z1 ?z2 ?z3 ?z4 ?z5 ?z6 ?z7 ?z8 ?z9 ?z10 ?z11 ?z12 ?z13
    (case a0 => k_is); (case l0 => k_is); (case c0 => k_is); (case k0 => k_is); (case a1 => k_is); (case l1 => k_is); (case c1 => k_is); (case k1 => k_is); (case a2 => k_is); (case l2 => k_is); (case c2 => k_is); (case k2 => k_is); (case a3 => k_is); (case l3 => k_is); (case c3 => k_is); (case k3 => k_is); (case a4 => k_is); (case l4 => k_is); (case c4 => k_is); (case k4 => k_is); (case a5 => k_is); (case l5 => k_is); (case c5 => k_is); (case k5 => k_is); (case a6 => k_is); (case l6 => k_is); (case c6 => k_is); (case k6 => k_is); (case a7 => k_is); (case l7 => k_is); (case c7 => k_is); (case k7 => k_is); (case a8 => k_is); (case l8 => k_is); (case c8 => k_is); (case k8 => k_is); (case a9 => k_is); (case l9 => k_is); (case c9 => k_is); (case k9 => k_is); (case a10 => k_is); (case l10 => k_is); (case c10 => k_is); (case k10 => k_is); (case a11 => k_is); (case l11 => k_is); (case c11 => k_is); (case k11 => k_is); (case a12 => k_is); (case l12 => k_is); (case c12 => k_is); (case k12 => k_is); (case a13 => k_is); (case l13 => k_is); (case c13 => k_is); (case k13 => k_is); (case z0 => k_is); (case z1 => k_is); (case z2 => k_is); (case z3 => k_is); (case z4 => k_is); (case z5 => k_is); (case z6 => k_is); (case z7 => k_is); (case z8 => k_is); (case z9 => k_is); (case z10 => k_is); (case z11 => k_is); (case z12 => k_is); (case z13 => k_is)
