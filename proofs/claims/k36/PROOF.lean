import PyProof.Rows.All
import HandS.ForMost
import KE.KDictKeyed
import KE.KeyNested
import HandS.TupAny
import HandS.TupMul
import HandS.Deep
import HandS.IsInst
import HandS.Style
import HandS.Conv
import HandS.Zip
import HandS.Rev
import HandS.NoneIn
import KE.GoesDict
import KE.GoesNew
import PyProof.Rows.TupTab
import KE.KDictWalk
import HandS.Text
import PyProof.SumWalkG
import HandS.DictComp
import PySem.Challenge.RW_foldedflat_k36_whole_right_nets_by_colou
set_option Elab.async false
set_option linter.all false
set_option maxRecDepth 100000
/-! PD: pure data over the hand layer. Base: data, the ghost heap of what is frozen, states, extension. -/
namespace PD
open PySem PySem.Spec PyProof.Rows L2

abbrev St := L2.St
/-- data -/
inductive D where
  | non | bl (b : Bool) | int (i : Int) | str (x : List Nat) | tup (xs : List D) | lst (xs : List D) | dct (kvs : List (D × D)) | st | scr (ns : List Int) | cv (v : V)
  deriving Inhabited

def sOf (l : List Nat) : Str := ⟨l.toArray⟩
/-- a text that is kept: not too long, plain signs -/
def StrG (l : List Nat) : Prop := l.length ≤ sizeLine ∧ ∀ c ∈ l, c < 128

/-! data as a key -/
mutual
def toNK : D → Option NestedKey
  | .non => some .none
  | .bl _ => none
  | .int i => some (.num i)
  | .str l => some (.text (sOf l))
  | .tup xs => (toNKs xs).map .tup
  | .lst _ => none
  | .dct _ => none
  | .st => none
  | .scr _ => none
  | .cv _ => none
def toNKs : List D → Option (List NestedKey)
  | [] => some []
  | x :: xs => match toNK x, toNKs xs with
    | some k, some ks => some (k :: ks)
    | _, _ => none
end
/-- a key by value (1), a tuple (2), none (0) -/
def kfam : D → Nat
  | .int _ => 1
  | .str _ => 1
  | .tup _ => 2
  | _ => 0

/-- a dict's object, entry by entry -/
def dxO (a : Addr) (es : Array DictEntry) (ep : Nat) : HO :=
  .ext fun h => h.get? a = some { cls := .type "dict", data := .dict es ep } ∧ (a == sysModules) = false ∧ es.size ≤ sizeLine

/-- what is known of a dict's entries: the hashes, one family of keys -/
structure DctOk (w : World) (es : List DictEntry) (kvs : List (D × D)) : Prop where
  len : es.length = kvs.length
  key : ∀ (i : Nat) (e : DictEntry) (p : D × D), es[i]? = some e → kvs[i]? = some p → ∃ nk, toNK p.1 = some nk ∧ nk.depth ≤ 8 ∧ e.hash = nk.hash w
  fam : (∀ p ∈ kvs, kfam p.1 = 1) ∨ (∀ p ∈ kvs, kfam p.1 = 2)
  nd : (kvs.map fun p => toNK p.1).Nodup

section
variable (w : World) (K : PySem.W.Frag) (st : Option (Addr × Addr))
mutual
/-- the value v, read in the frozen heap F, is the data d -/
inductive Rep (F : Hp) : V → D → Prop
  | non : Rep F .non .non
  | bl (b : Bool) : Rep F (.bl b) (.bl b)
  | int (i : Int) : Rep F (.int i) (.int i)
  | str {l : List Nat} : StrG l → Rep F (.str (sOf l)) (.str l)
  | tup {a : Addr} {vs : List V} {ds : List D} : SqT K F a vs → RepL F vs ds → Rep F (.ref a) (.tup ds)
  | lst {a : Addr} {vs : List V} {ds : List D} : F a = some (.lst vs) → RepL F vs ds → Rep F (.ref a) (.lst ds)
  | scr {a : Addr} {ns : List Int} : SqL K F a (ns.map V.int) → Rep F (.ref a) (.scr ns)
  | dct {a : Addr} {es : Array DictEntry} {ep : Nat} {kvs : List (D × D)} : F a = some (dxO a es ep) → DctOk w es.toList kvs → RepE F es.toList kvs → Rep F (.ref a) (.dct kvs)
  | st {sa ca : Addr} : st = some (sa, ca) → Rep F (.ref sa) .st
  | cv (v : V) : Rep F v (.cv v)
inductive RepL (F : Hp) : List V → List D → Prop
  | nil : RepL F [] []
  | cons {v : V} {vs : List V} {d : D} {ds : List D} : Rep F v d → RepL F vs ds → RepL F (v :: vs) (d :: ds)
inductive RepE (F : Hp) : List DictEntry → List (D × D) → Prop
  | nil : RepE F [] []
  | cons {e : DictEntry} {es : List DictEntry} {k v : V} {dk dv : D} {kvs : List (D × D)} : RelV k e.key → Rep F k dk → RelV v e.val → Rep F v dv → RepE F es kvs → RepE F (e :: es) ((dk, dv) :: kvs)
end
end

abbrev Sub (F H : Hp) : Prop := ∀ b o, F b = some o → H b = some o
theorem Sub.refl (F : Hp) : Sub F F := fun _ _ h => h
theorem Sub.trans {A B C : Hp} (a : Sub A B) (b : Sub B C) : Sub A C := fun c o h => b c o (a c o h)
theorem Sub.seq {K : PySem.W.Frag} {F H : Hp} {a : Addr} {xs : List V} (e : Sub F H) (h : SqL K F a xs) : SqL K H a xs := Same.seq e h
theorem Sub.seqT {K : PySem.W.Frag} {F H : Hp} {a : Addr} {xs : List V} (e : Sub F H) (h : SqT K F a xs) : SqT K H a xs := by
  rcases h with (h | ⟨o, h⟩) | h
  · exact .inl (.inl (e _ _ h))
  · exact .inl (.inr ⟨o, e _ _ h⟩)
  · exact .inr h

section
variable {w : World} {K : PySem.W.Frag} {st st' : Option (Addr × Addr)} {F F' : Hp}
def StLe (st st' : Option (Addr × Addr)) : Prop := ∀ p, st = some p → st' = some p
theorem StLe.refl (a : Option (Addr × Addr)) : StLe a a := fun _ h => h
mutual
theorem Rep.mono (hs : StLe st st') (h : Sub F F') : ∀ {v : V} {d : D}, Rep w K st F v d → Rep w K st' F' v d
  | _, _, .non => .non
  | _, _, .bl b => .bl b
  | _, _, .int i => .int i
  | _, _, .str h => .str h
  | _, _, .tup a b => .tup (h.seqT a) (RepL.mono hs h b)
  | _, _, .lst a b => .lst (h _ _ a) (RepL.mono hs h b)
  | _, _, .scr a => .scr (h.seq a)
  | _, _, .dct a b c => .dct (h _ _ a) b (RepE.mono hs h c)
  | _, _, .st e => .st (hs _ e)
  | _, _, .cv v => .cv v
theorem RepL.mono (hs : StLe st st') (h : Sub F F') : ∀ {v : List V} {d : List D}, RepL w K st F v d → RepL w K st' F' v d
  | _, _, .nil => .nil
  | _, _, .cons a b => .cons (Rep.mono hs h a) (RepL.mono hs h b)
theorem RepE.mono (hs : StLe st st') (h : Sub F F') : ∀ {v : List DictEntry} {d : List (D × D)}, RepE w K st F v d → RepE w K st' F' v d
  | _, _, .nil => .nil
  | _, _, .cons a b c d e => .cons a (Rep.mono hs h b) c (Rep.mono hs h d) (RepE.mono hs h e)
end
theorem RepL.length : ∀ {vs : List V} {ds : List D}, RepL w K st F vs ds → vs.length = ds.length
  | _, _, .nil => rfl
  | _, _, .cons _ t => by rw [List.length_cons, List.length_cons, RepL.length t]
theorem RepL.get : ∀ {vs : List V} {ds : List D} {i : Nat} {v : V}, RepL w K st F vs ds → vs[i]? = some v → ∃ d, ds[i]? = some d ∧ Rep w K st F v d
  | _, _, i, _, .nil, e => by simp at e
  | _, _, 0, _, .cons r _, e => by
    simp only [List.getElem?_cons_zero, Option.some.injEq] at e
    subst e
    exact ⟨_, rfl, r⟩
  | _, _, i + 1, _, .cons _ t, e => RepL.get (i := i) t (by simpa using e)
theorem RepL.get' : ∀ {vs : List V} {ds : List D} {i : Nat} {d : D}, RepL w K st F vs ds → ds[i]? = some d → ∃ v, vs[i]? = some v ∧ Rep w K st F v d
  | _, _, i, _, .nil, e => by simp at e
  | _, _, 0, _, .cons r _, e => by
    simp only [List.getElem?_cons_zero, Option.some.injEq] at e
    subst e
    exact ⟨_, rfl, r⟩
  | _, _, i + 1, _, .cons _ t, e => RepL.get' (i := i) t (by simpa using e)
theorem RepL.append : ∀ {vs ws : List V} {ds es : List D}, RepL w K st F vs ds → RepL w K st F ws es → RepL w K st F (vs ++ ws) (ds ++ es)
  | _, _, _, _, .nil, h => h
  | _, _, _, _, .cons r t, h => .cons r (RepL.append t h)
theorem RepL.one {v : V} {d : D} (h : Rep w K st F v d) : RepL w K st F [v] [d] := .cons h .nil
theorem RepL.take : ∀ {vs : List V} {ds : List D} (n : Nat), RepL w K st F vs ds → RepL w K st F (vs.take n) (ds.take n)
  | _, _, 0, _ => .nil
  | _, _, _ + 1, .nil => .nil
  | _, _, n + 1, .cons r t => .cons r (RepL.take n t)
theorem RepL.drop : ∀ {vs : List V} {ds : List D} (n : Nat), RepL w K st F vs ds → RepL w K st F (vs.drop n) (ds.drop n)
  | _, _, 0, h => h
  | _, _, _ + 1, .nil => .nil
  | _, _, n + 1, .cons _ t => RepL.drop n t
theorem RepL.set {v : V} {d : D} (h : Rep w K st F v d) : ∀ {vs : List V} {ds : List D} (n : Nat), RepL w K st F vs ds → RepL w K st F (vs.set n v) (ds.set n d)
  | _, _, _, .nil => .nil
  | _, _, 0, .cons _ t => .cons h t
  | _, _, n + 1, .cons r t => .cons r (RepL.set h n t)
theorem RepL.erase : ∀ {vs : List V} {ds : List D} (n : Nat), RepL w K st F vs ds → RepL w K st F (vs.eraseIdx n) (ds.eraseIdx n)
  | _, _, _, .nil => .nil
  | _, _, 0, .cons _ t => t
  | _, _, n + 1, .cons r t => .cons r (RepL.erase n t)
theorem RepL.reverse : ∀ {vs : List V} {ds : List D}, RepL w K st F vs ds → RepL w K st F vs.reverse ds.reverse
  | _, _, .nil => .nil
  | _, _, .cons r t => by
    rw [List.reverse_cons, List.reverse_cons]
    exact RepL.append (RepL.reverse t) (.one r)
theorem RepL.dropLast {vs : List V} {ds : List D} (h : RepL w K st F vs ds) : RepL w K st F vs.dropLast ds.dropLast := by
  rw [List.dropLast_eq_take, List.dropLast_eq_take, h.length]
  exact h.take _
end

/-! ### states -/
inductive Own where
  | l (xs : List D) | k (kvs : List (D × D))
def Own.toD : Own → D
  | .l xs => .lst xs
  | .k kvs => .dct kvs
/-- a slot: not set; frozen data; the only reference to a list or dict -/
inductive Sl where
  | no | d (x : D) | o (x : Own)
/-- a result: frozen data; a new object; the object of a slot -/
inductive R where
  | d (x : D) | t (o : Own) | b (i : Nat)
/-- the laws' draw state -/
structure DS where
  cells : List Int
  seed : Int
structure S where
  env : List Sl
  ds : Option DS
/-- the ghost: what is frozen; where the draw state stands -/
structure Gh where
  F : Hp
  st : Option (Addr × Addr)

section
variable (w : World) (K : PySem.W.Frag)
/-- one level: the object itself in H, what is in it frozen -/
def OwnAt (H : Hp) (g : Gh) (a : Addr) : Own → Prop
  | .l xs => ∃ vs, H a = some (.lst vs) ∧ RepL w K g.st g.F vs xs
  | .k kvs => ∃ es ep, H a = some (dxO a es ep) ∧ DctOk w es.toList kvs ∧ RepE w K g.st g.F es.toList kvs
/-- .. not frozen -/
structure OwnF (H : Hp) (g : Gh) (a : Addr) (o : Own) : Prop where
  at_ : OwnAt w K H g a o
  nf : g.F a = none
inductive SlRep (H : Hp) (g : Gh) : Sl → Option V → Prop
  | no {x : Option V} : SlRep H g .no x
  | d {v : V} {x : D} : Rep w K g.st g.F v x → SlRep H g (.d x) (some v)
  | o {a : Addr} {x : Own} : OwnF w K H g a x → SlRep H g (.o x) (some (.ref a))
end
def OwnA (env : List Sl) (σ : St) (a : Addr) : Prop := ∃ (i : Nat) (o : Own), env[i]? = some (.o o) ∧ σ[i]? = some (some (.ref a))
def StA (g : Gh) (a : Addr) : Prop := ∃ sa ca, g.st = some (sa, ca) ∧ (a = sa ∨ a = ca)
def DSRep (H : Hp) (g : Gh) : Option DS → Prop
  | none => g.st = none
  | some d => ∃ sa ca, g.st = some (sa, ca) ∧ sa ≠ ca ∧ H sa = some (.lst [.ref ca, .int d.seed]) ∧ H ca = some (.lst (d.cells.map V.int)) ∧ g.F sa = none ∧ g.F ca = none
/-- what the heap must be, without the slots -/
structure GoodH (g : Gh) (ds : Option DS) (H : Hp) : Prop where
  fr : Sub g.F H
  ds : DSRep H g ds
section
variable (w : World) (K : PySem.W.Frag)
structure Good (g : Gh) (s : S) (σ : St) (H : Hp) : Prop where
  fr : Sub g.F H
  ds : DSRep H g s.ds
  len : s.env.length = σ.length
  env : ∀ (i : Nat) (sl : Sl) (x : Option V), s.env[i]? = some sl → σ[i]? = some x → SlRep w K H g sl x
  uniq : ∀ (i j : Nat) (o o' : Own) (a : Addr), s.env[i]? = some (.o o) → s.env[j]? = some (.o o') → σ[i]? = some (some (.ref a)) → σ[j]? = some (some (.ref a)) → i = j
  apart : ∀ a, OwnA s.env σ a → ¬ StA g a
end
def W (g : Gh) (env : List Sl) (σ : St) (a : Addr) : Prop := OwnA env σ a ∨ StA g a

/-- from (W, g, H) to (W', g', H'): only W is written; what is new is new -/
structure Ext (W : Addr → Prop) (g : Gh) (H : Hp) (W' : Addr → Prop) (g' : Gh) (H' : Hp) : Prop where
  pr : ∀ b o, H b = some o → ¬ W b → H' b = some o
  dom : ∀ b, H' b = none → H b = none
  mono : Sub g.F g'.F
  newF : ∀ b o, g.F b = none → g'.F b = some o → H b = none ∨ W b ∨ ∃ xs, H b = some (.tup xs)
  wsub : ∀ b, W' b → W b ∨ H b = none
  st : StLe g.st g'.st
theorem Ext.refl (W : Addr → Prop) (g : Gh) (H : Hp) : Ext W g H W g H :=
  ⟨fun _ _ h _ => h, fun _ h => h, Sub.refl _, fun b o h h' => (by rw [h] at h'; cases h'), fun _ h => .inl h, StLe.refl _⟩
theorem Ext.trans {W W1 W2 : Addr → Prop} {g g1 g2 : Gh} {H H1 H2 : Hp} (a : Ext W g H W1 g1 H1) (b : Ext W1 g1 H1 W2 g2 H2) : Ext W g H W2 g2 H2 where
  pr := fun c o h n => b.pr c o (a.pr c o h n) fun n1 => by
    rcases a.wsub c n1 with z | z
    · exact n z
    · rw [h] at z; cases z
  dom := fun c h => a.dom c (b.dom c h)
  mono := a.mono.trans b.mono
  newF := fun c o h h2 => by
    cases q : g1.F c with
    | some o1 => exact a.newF c o1 h q
    | none =>
      rcases b.newF c o q h2 with z | z | ⟨xs, z⟩
      · exact .inl (a.dom c z)
      · rcases a.wsub c z with y | y
        · exact .inr (.inl y)
        · exact .inl y
      · cases e : H c with
        | none => exact .inl rfl
        | some o' =>
          by_cases hw : W c
          · exact .inr (.inl hw)
          · have := a.pr c o' e hw
            rw [z] at this
            cases this
            exact .inr (.inr ⟨xs, rfl⟩)
  wsub := fun c h => by
    rcases b.wsub c h with z | z
    · exact a.wsub c z
    · exact .inr (a.dom c z)
  st := fun p h => b.st p (a.st p h)
/-- fewer may be written behind -/
theorem Ext.less {W W1 W2 : Addr → Prop} {g g1 : Gh} {H H1 : Hp} (a : Ext W g H W1 g1 H1) (h : ∀ b, W2 b → W1 b ∨ H1 b = none) : Ext W g H W2 g1 H1 :=
  ⟨a.pr, a.dom, a.mono, a.newF, fun b h2 => (h b h2).elim (a.wsub b) fun z => .inr (a.dom b z), a.st⟩
/-- more may be written ahead -/
theorem Ext.more {W W0 W1 : Addr → Prop} {g g1 : Gh} {H H1 : Hp} (a : Ext W g H W1 g1 H1) (h : ∀ b, W b → W0 b) (h1 : ∀ b, W1 b → W0 b ∨ H b = none) : Ext W0 g H W1 g1 H1 :=
  ⟨fun b o e n => a.pr b o e fun z => n (h b z), a.dom, a.mono, fun b o e e' => (a.newF b o e e').elim .inl fun z => z.elim (fun y => .inr (.inl (h b y))) fun y => .inr (.inr y), h1, a.st⟩

section
variable {w : World} {K : PySem.W.Frag} {H H1 : Hp} {g g1 : Gh} {a : Addr}
theorem OwnAt.there {o : Own} (h : OwnAt w K H g a o) : ∃ x, H a = some x ∧ (∀ xs, x ≠ .tup xs) := by
  cases o with
  | l xs => obtain ⟨vs, e, _⟩ := h; exact ⟨_, e, fun _ z => by cases z⟩
  | k kvs => obtain ⟨es, ep, e, _⟩ := h; exact ⟨_, e, fun _ z => by cases z⟩
/-- an own object that nobody wrote -/
theorem OwnF.ext {W W1 : Addr → Prop} {o : Own} (h : OwnF w K H g a o) (e : Ext W g H W1 g1 H1) (n : ¬ W a) : OwnF w K H1 g1 a o := by
  obtain ⟨x, hx, nt⟩ := h.at_.there
  refine ⟨?_, ?_⟩
  · cases o with
    | l xs => obtain ⟨vs, e1, r⟩ := h.at_; exact ⟨vs, e.pr _ _ e1 n, r.mono e.st e.mono⟩
    | k kvs => obtain ⟨es, ep, e1, r, r2⟩ := h.at_; exact ⟨es, ep, e.pr _ _ e1 n, r, r2.mono e.st e.mono⟩
  · cases q : g1.F a with
    | none => rfl
    | some u =>
      rcases e.newF a u h.nf q with z | z | ⟨xs, z⟩
      · rw [hx] at z; cases z
      · exact absurd z n
      · rw [hx] at z; cases z; exact absurd rfl (nt xs)
theorem StA.mono {g g' : Gh} (h : StLe g.st g'.st) {a : Addr} (x : StA g a) : StA g' a := let ⟨sa, ca, e, y⟩ := x; ⟨sa, ca, h _ e, y⟩
end

/-! ### results and readings -/
section
variable (w : World) (K : PySem.W.Frag)
/-- the value v is the result r; H0: the heap at the start -/
inductive RR (H0 : Hp) (g : Gh) (H : Hp) (s : S) (σ : St) : V → R → Prop
  | d {v : V} {x : D} : Rep w K g.st g.F v x → RR H0 g H s σ v (.d x)
  | t {a : Addr} {o : Own} : H0 a = none → OwnF w K H g a o → ¬ W g s.env σ a → RR H0 g H s σ (.ref a) (.t o)
  | b {v : V} {i : Nat} : σ[i]? = some (some v) → RR H0 g H s σ v (.b i)
end
theorem RR.step {w : World} {K : PySem.W.Frag} {H0 H H1 : Hp} {g g1 : Gh} {s s1 : S} {σ : St} {v : V} {r : R} (h : RR w K H0 g H s σ v r) (e : Ext (PD.W g s.env σ) g H (PD.W g1 s1.env σ) g1 H1) : RR w K H0 g1 H1 s1 σ v r := by
  cases h with
  | d h => exact .d (h.mono e.st e.mono)
  | t h0 ho hn =>
    refine .t h0 (ho.ext e hn) fun z => ?_
    obtain ⟨x, hx, _⟩ := ho.at_.there
    rcases e.wsub _ z with z | z
    · exact hn z
    · rw [hx] at z; cases z
  | b h => exact .b h
theorem RR.sooner {w : World} {K : PySem.W.Frag} {H0 H0' H : Hp} {g : Gh} {s : S} {σ : St} {v : V} {r : R} (h : RR w K H0 g H s σ v r) (e : ∀ b, H0 b = none → H0' b = none) : RR w K H0' g H s σ v r := by
  cases h with
  | d h => exact .d h
  | t h0 ho hn => exact .t (e _ h0) ho hn
  | b h => exact .b h

abbrev M (α : Type) := S → Option (α × S)
/-- an expression's reading by its meaning -/
def LE (w : World) (K : PySem.W.Frag) (m : M R) : TE := fun σ H Q => ∃ g s, Good w K g s σ H ∧ ∃ r s', m s = some (r, s') ∧
  ∀ v g' H', Good w K g' s' σ H' → Ext (PD.W g s.env σ) g H (PD.W g' s'.env σ) g' H' → RR w K H g' H' s' σ v r → Q v H'
def LT (w : World) (K : PySem.W.Frag) (m : M Bool) : TT := fun σ H Q => ∃ g s, Good w K g s σ H ∧ ∃ r s', m s = some (r, s') ∧
  ∀ g' H', Good w K g' s' σ H' → Ext (PD.W g s.env σ) g H (PD.W g' s'.env σ) g' H' → Q r H'
end PD
namespace PD
open PySem PySem.Spec PyProof.Rows L2

def Sl.peek : Sl → Option D
  | .d x => some x
  | .o y => some y.toD
  | .no => none
def R.peek (env : List Sl) : R → Option D
  | .d x => some x
  | .t o => some o.toD
  | .b i => (env[i]?).bind Sl.peek
def frzSl : Sl → Sl
  | .o o => .d o.toD
  | x => x
def frzAt (env : List Sl) (i : Nat) : List Sl := env.set i (frzSl (env.getD i .no))
/-- the heap F with the object at a taken in -/
def frzF (F H : Hp) (a : Addr) : Hp := fun b => if b = a then H a else F b
theorem frzF_same {F H : Hp} {a : Addr} : frzF F H a a = H a := by unfold frzF; rw [if_pos rfl]
theorem frzF_ne {F H : Hp} {a b : Addr} (h : b ≠ a) : frzF F H a b = F b := by unfold frzF; rw [if_neg h]
theorem frzF_sub {F H : Hp} {a : Addr} (h : Sub F H) : Sub (frzF F H a) H := fun b o e => by
  by_cases q : b = a
  · subst q; rw [frzF_same] at e; exact e
  · rw [frzF_ne q] at e; exact h b o e
theorem frzF_mono {F H : Hp} {a : Addr} (h : F a = none) : Sub F (frzF F H a) := fun b o e => by
  by_cases q : b = a
  · subst q; rw [h] at e; cases e
  · rw [frzF_ne q]; exact e

section
variable (w : World) (K : PySem.W.Frag)
/-- one level of the heap, the rest frozen -/
inductive Rep1 (H : Hp) (g : Gh) : V → D → Prop
  | non : Rep1 H g .non .non
  | bl (b : Bool) : Rep1 H g (.bl b) (.bl b)
  | int (i : Int) : Rep1 H g (.int i) (.int i)
  | str {l : List Nat} : StrG l → Rep1 H g (.str (sOf l)) (.str l)
  | tup {a : Addr} {vs : List V} {ds : List D} : SqT K g.F a vs → RepL w K g.st g.F vs ds → Rep1 H g (.ref a) (.tup ds)
  | lst {a : Addr} {vs : List V} {ds : List D} : H a = some (.lst vs) → RepL w K g.st g.F vs ds → Rep1 H g (.ref a) (.lst ds)
  | scr {a : Addr} {ns : List Int} : SqL K H a (ns.map V.int) → Rep1 H g (.ref a) (.scr ns)
  | dct {a : Addr} {es : Array DictEntry} {ep : Nat} {kvs : List (D × D)} : H a = some (dxO a es ep) → DctOk w es.toList kvs → RepE w K g.st g.F es.toList kvs → Rep1 H g (.ref a) (.dct kvs)
  | st {sa ca : Addr} : g.st = some (sa, ca) → Rep1 H g (.ref sa) .st
  | cv (v : V) : Rep1 H g v (.cv v)
inductive Rep1s (H : Hp) (g : Gh) : List V → List D → Prop
  | nil : Rep1s H g [] []
  | cons {v : V} {vs : List V} {d : D} {ds : List D} : Rep1 w K H g v d → Rep1s H g vs ds → Rep1s H g (v :: vs) (d :: ds)
/-- only new objects; the draw state stays -/
structure ExtP (g : Gh) (H : Hp) (g' : Gh) (H' : Hp) : Prop where
  same : Sub H H'
  mono : Sub g.F g'.F
  newF : ∀ b o, g.F b = none → g'.F b = some o → H b = none ∨ ∃ xs, H b = some (.tup xs)
  fr : Sub g'.F H'
  st : g'.st = g.st
/-- what a primitive gives -/
inductive RP (H : Hp) (g' : Gh) (H' : Hp) : V → R → Prop
  | d {v : V} {x : D} : Rep w K g'.st g'.F v x → RP H g' H' v (.d x)
  | t {a : Addr} {o : Own} : H a = none → OwnF w K H' g' a o → RP H g' H' (.ref a) (.t o)
end
section
variable {w : World} {K : PySem.W.Frag} {H H' : Hp} {g g' : Gh} {s : S} {σ : St}
theorem Rep.one1 (h : Sub g.F H) {v : V} {d : D} (r : Rep w K g.st g.F v d) : Rep1 w K H g v d := by
  cases r with
  | non => exact .non
  | bl b => exact .bl b
  | int i => exact .int i
  | str h => exact .str h
  | tup a b => exact .tup a b
  | lst a b => exact .lst (h _ _ a) b
  | scr a => exact .scr (h.seq a)
  | dct a b c => exact .dct (h _ _ a) b c
  | st e => exact .st e
  | cv v => exact .cv v
theorem OwnAt.rep1 {a : Addr} {o : Own} (h : OwnAt w K H g a o) : Rep1 w K H g (.ref a) o.toD := by
  cases o with
  | l xs => obtain ⟨vs, e, r⟩ := h; exact .lst e r
  | k kvs => obtain ⟨es, ep, e, r, r2⟩ := h; exact .dct e r r2
theorem SlRep.rep1 {sl : Sl} {x : Option V} {v : V} (h : SlRep w K H g sl x) (e : x = some v) (f : Sub g.F H) {d : D} (p : sl.peek = some d) : Rep1 w K H g v d := by
  cases h with
  | no => cases p
  | d r => cases e; cases p; exact r.one1 f
  | o r => cases e; cases p; exact r.at_.rep1
theorem RR.peek {H0 : Hp} {v : V} {r : R} {d : D} (G : Good w K g s σ H) (h : RR w K H0 g H s σ v r) (p : r.peek s.env = some d) : Rep1 w K H g v d := by
  cases h with
  | d h => cases p; exact h.one1 G.fr
  | t _ ho _ => cases p; exact ho.at_.rep1
  | b h =>
    rename_i i
    have p : (s.env[i]?).bind Sl.peek = some d := p
    cases q : s.env[i]? with
    | none => rw [q] at p; cases p
    | some sl =>
      rw [q] at p
      exact (G.env i sl (some v) q h).rep1 rfl G.fr p
theorem ExtP.refl (h : Sub g.F H) : ExtP g H g H := ⟨Sub.refl _, Sub.refl _, fun b o e e' => (by rw [e] at e'; cases e'), h, rfl⟩
theorem OwnF.pure {a : Addr} {o : Own} (h : OwnF w K H g a o) (e : ExtP g H g' H') : OwnF w K H' g' a o := by
  obtain ⟨x, hx, nt⟩ := h.at_.there
  have sl : StLe g.st g'.st := fun p q => by rw [e.st]; exact q
  refine ⟨?_, ?_⟩
  · cases o with
    | l xs => obtain ⟨vs, e1, r⟩ := h.at_; exact ⟨vs, e.same _ _ e1, r.mono sl e.mono⟩
    | k kvs => obtain ⟨es, ep, e1, r, r2⟩ := h.at_; exact ⟨es, ep, e.same _ _ e1, r, r2.mono sl e.mono⟩
  · cases q : g'.F a with
    | none => rfl
    | some u =>
      rcases e.newF a u h.nf q with z | ⟨xs, z⟩
      · rw [hx] at z; cases z
      · rw [hx] at z; cases z; exact absurd rfl (nt xs)
theorem SlRep.pure {sl : Sl} {x : Option V} (h : SlRep w K H g sl x) (e : ExtP g H g' H') : SlRep w K H' g' sl x := by
  have sl : StLe g.st g'.st := fun p q => by rw [e.st]; exact q
  cases h with
  | no => exact .no
  | d r => exact .d (r.mono sl e.mono)
  | o r => exact .o (r.pure e)
theorem W_tracked (G : Good w K g s σ H) {a : Addr} (h : PD.W g s.env σ a) : ∃ x, H a = some x ∧ ∀ xs, x ≠ .tup xs := by
  rcases h with ⟨i, o, e1, e2⟩ | ⟨sa, ca, e, hh⟩
  · have := G.env i _ _ e1 e2
    cases this with
    | o r => exact r.at_.there
  · have hd := G.ds
    cases q : s.ds with
    | none => rw [q] at hd; have hd : g.st = none := hd; rw [hd] at e; cases e
    | some d =>
      rw [q] at hd
      obtain ⟨sa', ca', e', _, h1, h2, _⟩ := hd
      rw [e] at e'; cases e'
      rcases hh with rfl | rfl
      · exact ⟨_, h1, fun _ z => by cases z⟩
      · exact ⟨_, h2, fun _ z => by cases z⟩
theorem W_ne (G : Good w K g s σ H) {a : Addr} (h : PD.W g s.env σ a) : H a ≠ none := by
  obtain ⟨x, e, _⟩ := W_tracked G h
  rw [e]; exact fun z => by cases z
theorem DSRep.pure {ds : Option DS} (h : DSRep H g ds) (e : ExtP g H g' H') : DSRep H' g' ds := by
  cases ds with
  | none => show g'.st = none; rw [e.st]; exact h
  | some d =>
    obtain ⟨sa, ca, e1, ne, h1, h2, f1, f2⟩ := h
    refine ⟨sa, ca, by rw [e.st]; exact e1, ne, e.same _ _ h1, e.same _ _ h2, ?_, ?_⟩
    · cases q : g'.F sa with
      | none => rfl
      | some u =>
        rcases e.newF sa u f1 q with z | ⟨xs, z⟩ <;> (rw [h1] at z; cases z)
    · cases q : g'.F ca with
      | none => rfl
      | some u =>
        rcases e.newF ca u f2 q with z | ⟨xs, z⟩ <;> (rw [h2] at z; cases z)
theorem StA_pure (e : ExtP g H g' H') {a : Addr} : StA g' a ↔ StA g a := by unfold StA; rw [e.st]
theorem Good.pure (G : Good w K g s σ H) (e : ExtP g H g' H') : Good w K g' s σ H' :=
  ⟨e.fr, G.ds.pure e, G.len, fun i sl x h1 h2 => (G.env i sl x h1 h2).pure e, G.uniq, fun a h n => G.apart a h ((StA_pure e).mp n)⟩
theorem Ext.ofP {env : List Sl} (e : ExtP g H g' H') : Ext (PD.W g env σ) g H (PD.W g' env σ) g' H' where
  pr := fun b o h _ => e.same b o h
  dom := fun b h => by
    cases q : H b with
    | none => rfl
    | some o => rw [e.same b o q] at h; cases h
  mono := e.mono
  newF := fun b o h h' => (e.newF b o h h').elim .inl fun z => .inr (.inr z)
  wsub := fun b h => .inl (h.elim .inl fun z => .inr ((StA_pure e).mp z))
  st := fun p q => by rw [e.st]; exact q
theorem RP.rr {v : V} {r : R} (G : Good w K g s σ H) (e : ExtP g H g' H') (h : RP w K H g' H' v r) : RR w K H g' H' s σ v r := by
  cases h with
  | d h => exact .d h
  | t h0 ho =>
    refine .t h0 ho fun z => ?_
    have z' : PD.W g s.env σ _ := z.elim .inl fun y => .inr ((StA_pure e).mp y)
    exact W_ne G z' h0
end

/-! ### primitives on values, lifted -/
section
variable (w : World) (K : PySem.W.Frag)
/-- a rule of two values does what f says -/
def Op2 (r : R2) (f : D → D → Option R) : Prop := ∀ (g : Gh) (H : Hp) (x y : V) (dx dy : D) (res : R) (Q : VK), Sub g.F H → Rep1 w K H g x dx → Rep1 w K H g y dy → f dx dy = some res →
  (∀ v g' H', ExtP g H g' H' → RP w K H g' H' v res → Q v H') → r x y H Q
def Op1 (r : V → Hp → VK → Prop) (f : D → Option R) : Prop := ∀ (g : Gh) (H : Hp) (x : V) (dx : D) (res : R) (Q : VK), Sub g.F H → Rep1 w K H g x dx → f dx = some res →
  (∀ v g' H', ExtP g H g' H' → RP w K H g' H' v res → Q v H') → r x H Q
def OpN (r : List V → Hp → VK → Prop) (f : List D → Option R) : Prop := ∀ (g : Gh) (H : Hp) (xs : List V) (ds : List D) (res : R) (Q : VK), Sub g.F H → Rep1s w K H g xs ds → f ds = some res →
  (∀ v g' H', ExtP g H g' H' → RP w K H g' H' v res → Q v H') → r xs H Q
/-- a method that reads -/
def OpM (r : V → List V → Hp → VK → Prop) (f : D → List D → Option R) : Prop := ∀ (g : Gh) (H : Hp) (x : V) (xs : List V) (dx : D) (ds : List D) (res : R) (Q : VK), Sub g.F H → Rep1 w K H g x dx → Rep1s w K H g xs ds → f dx ds = some res →
  (∀ v g' H', ExtP g H g' H' → RP w K H g' H' v res → Q v H') → r x xs H Q
end

def mRet {α : Type} (x : α) : M α := fun s => some (x, s)
def mBin (f : D → D → Option R) (a b : M R) : M R := fun s => (a s).bind fun p => (b p.2).bind fun q =>
  match p.1.peek q.2.env, q.1.peek q.2.env with
  | some x, some y => (f x y).map fun r => (r, q.2)
  | _, _ => none
def mUn (f : D → Option R) (a : M R) : M R := fun s => (a s).bind fun p => match p.1.peek p.2.env with
  | some x => (f x).map fun r => (r, p.2)
  | none => none
def mArgs : List (M R) → M (List R)
  | [] => fun s => some ([], s)
  | m :: ms => fun s => (m s).bind fun p => (mArgs ms p.2).bind fun q => some (p.1 :: q.1, q.2)
def peeks (env : List Sl) : List R → Option (List D)
  | [] => some []
  | r :: rs => match r.peek env, peeks env rs with
    | some x, some xs => some (x :: xs)
    | _, _ => none
def mPrim (f : List D → Option R) (as : M (List R)) : M R := fun s => (as s).bind fun p => match peeks p.2.env p.1 with
  | some xs => (f xs).map fun r => (r, p.2)
  | none => none
def mMeth (f : D → List D → Option R) (o : M R) (as : M (List R)) : M R := fun s => (o s).bind fun p => (as p.2).bind fun q =>
  match p.1.peek q.2.env, peeks q.2.env q.1 with
  | some x, some xs => (f x xs).map fun r => (r, q.2)
  | _, _ => none

section
variable (w : World) (K : PySem.W.Frag)
/-- several results; temporaries stand apart -/
inductive RRs (H0 : Hp) (g : Gh) (H : Hp) (s : S) (σ : St) : List V → List R → Prop
  | nil : RRs H0 g H s σ [] []
  | cons {v : V} {vs : List V} {r : R} {rs : List R} : RR w K H0 g H s σ v r → RRs H0 g H s σ vs rs →
      (∀ (a : Addr) (o : Own) (i : Nat) (o' : Own), v = .ref a → r = .t o → vs[i]? = some (.ref a) → rs[i]? = some (.t o') → False) → RRs H0 g H s σ (v :: vs) (r :: rs)
def LA (m : M (List R)) : TA := fun σ H Q => ∃ g s, Good w K g s σ H ∧ ∃ rs s', m s = some (rs, s') ∧
  ∀ vs g' H', Good w K g' s' σ H' → Ext (PD.W g s.env σ) g H (PD.W g' s'.env σ) g' H' → RRs w K H g' H' s' σ vs rs → Q vs H'
end
section
variable {w : World} {K : PySem.W.Frag}
theorem RRs.sooner {H0 H0' H : Hp} {g : Gh} {s : S} {σ : St} {vs : List V} {rs : List R} (h : RRs w K H0 g H s σ vs rs) (e : ∀ b, H0 b = none → H0' b = none) : RRs w K H0' g H s σ vs rs := by
  induction h with
  | nil => exact .nil
  | cons a _ c ih => exact .cons (a.sooner e) ih c
theorem RRs.get {H0 H : Hp} {g : Gh} {s : S} {σ : St} {vs : List V} {rs : List R} (h : RRs w K H0 g H s σ vs rs) : ∀ {i : Nat} {v : V} {r : R}, vs[i]? = some v → rs[i]? = some r → RR w K H0 g H s σ v r := by
  induction h with
  | nil => intro i v r e; simp at e
  | cons a _ c ih =>
    intro i v r e e2
    cases i with
    | zero =>
      simp only [List.getElem?_cons_zero, Option.some.injEq] at e e2
      subst e; subst e2; exact a
    | succ i =>
      simp only [List.getElem?_cons_succ] at e e2
      exact ih e e2
theorem RRs.length {H0 H : Hp} {g : Gh} {s : S} {σ : St} {vs : List V} {rs : List R} (h : RRs w K H0 g H s σ vs rs) : vs.length = rs.length := by
  induction h with
  | nil => rfl
  | cons _ _ _ ih => rw [List.length_cons, List.length_cons, ih]
theorem RRs.peeks {H0 H : Hp} {g : Gh} {s : S} {σ : St} {vs : List V} {rs : List R} (G : Good w K g s σ H) (h : RRs w K H0 g H s σ vs rs) : ∀ {ds : List D}, peeks s.env rs = some ds → Rep1s w K H g vs ds := by
  induction h with
  | nil => intro ds e; cases e; exact .nil
  | @cons v vs r rs a _ c ih =>
    intro ds e
    unfold PD.peeks at e
    split at e
    · rename_i x xs e1 e2
      cases e
      exact .cons (a.peek G e1) (ih e2)
    · cases e

theorem LE.use {m : M R} {σ : St} {H : Hp} {Q : VK} {g : Gh} {s : S} (G : Good w K g s σ H) {r : R} {s' : S} (e : m s = some (r, s'))
    (h : ∀ v g' H', Good w K g' s' σ H' → Ext (PD.W g s.env σ) g H (PD.W g' s'.env σ) g' H' → RR w K H g' H' s' σ v r → Q v H') : LE w K m σ H Q := ⟨g, s, G, r, s', e, h⟩

theorem tOp_LE {r : R2} {f : D → D → Option R} {a b : M R} (hr : Op2 w K r f) {σ : St} {H : Hp} {Q : VK} (h : LE w K (mBin f a b) σ H Q) : tOp r (LE w K a) (LE w K b) σ H Q := by
  obtain ⟨g, s, G, res, s', e, q⟩ := h
  unfold mBin at e
  cases ea : a s with
  | none => rw [ea] at e; cases e
  | some p =>
    obtain ⟨ra, s1⟩ := p
    rw [ea] at e
    simp only [Option.bind_some] at e
    cases eb : b s1 with
    | none => rw [eb] at e; cases e
    | some p2 =>
      obtain ⟨rb, s2⟩ := p2
      rw [eb] at e
      simp only [Option.bind_some] at e
      split at e
      · rename_i x y e1 e2
        cases ef : f x y with
        | none => rw [ef] at e; cases e
        | some res' =>
          rw [ef] at e
          simp only [Option.map_some, Option.some.injEq, Prod.mk.injEq] at e
          obtain ⟨rfl, rfl⟩ := e
          refine LE.use G ea fun v1 g1 H1 G1 E1 R1 => ?_
          refine LE.use G1 eb fun v2 g2 H2 G2 E2 R2 => ?_
          have R1' := R1.step E2
          refine hr g2 H2 v1 v2 x y _ Q G2.fr (R1'.peek G2 e1) (R2.peek G2 e2) ef fun v g3 H3 EP RPv => ?_
          refine q v g3 H3 (G2.pure EP) ((E1.trans E2).trans (Ext.ofP EP)) ?_
          exact (RPv.rr G2 EP).sooner fun b z => E1.dom b (E2.dom b z)
      · cases e
theorem tUn_LE {r : V → Hp → VK → Prop} {f : D → Option R} {a : M R} (hr : Op1 w K r f) {σ : St} {H : Hp} {Q : VK} (h : LE w K (mUn f a) σ H Q) : tUn r (LE w K a) σ H Q := by
  obtain ⟨g, s, G, res, s', e, q⟩ := h
  unfold mUn at e
  cases ea : a s with
  | none => rw [ea] at e; cases e
  | some p =>
    obtain ⟨ra, s1⟩ := p
    rw [ea] at e
    simp only [Option.bind_some] at e
    split at e
    · rename_i x e1
      cases ef : f x with
      | none => rw [ef] at e; cases e
      | some res' =>
        rw [ef] at e
        simp only [Option.map_some, Option.some.injEq, Prod.mk.injEq] at e
        obtain ⟨rfl, rfl⟩ := e
        refine LE.use G ea fun v1 g1 H1 G1 E1 R1 => ?_
        refine hr g1 H1 v1 x _ Q G1.fr (R1.peek G1 e1) ef fun v g3 H3 EP RPv => ?_
        exact q v g3 H3 (G1.pure EP) (E1.trans (Ext.ofP EP)) ((RPv.rr G1 EP).sooner fun b z => E1.dom b z)
    · cases e
theorem tPrim_LE {r : List V → Hp → VK → Prop} {f : List D → Option R} {as : M (List R)} (hr : OpN w K r f) {σ : St} {H : Hp} {Q : VK} (h : LE w K (mPrim f as) σ H Q) : LA w K as σ H fun vs H1 => r vs H1 Q := by
  obtain ⟨g, s, G, res, s', e, q⟩ := h
  unfold mPrim at e
  cases ea : as s with
  | none => rw [ea] at e; cases e
  | some p =>
    obtain ⟨ra, s1⟩ := p
    rw [ea] at e
    simp only [Option.bind_some] at e
    split at e
    · rename_i x e1
      cases ef : f x with
      | none => rw [ef] at e; cases e
      | some res' =>
        rw [ef] at e
        simp only [Option.map_some, Option.some.injEq, Prod.mk.injEq] at e
        obtain ⟨rfl, rfl⟩ := e
        refine ⟨g, s, G, ra, s1, ea, fun vs g1 H1 G1 E1 R1 => ?_⟩
        refine hr g1 H1 vs x _ Q G1.fr (R1.peeks G1 e1) ef fun v g3 H3 EP RPv => ?_
        exact q v g3 H3 (G1.pure EP) (E1.trans (Ext.ofP EP)) ((RPv.rr G1 EP).sooner fun b z => E1.dom b z)
    · cases e
theorem tMeth_LE {r : V → List V → Hp → VK → Prop} {f : D → List D → Option R} {o : M R} {as : M (List R)} (hr : OpM w K r f) {σ : St} {H : Hp} {Q : VK} (h : LE w K (mMeth f o as) σ H Q) : LE w K o σ H fun x H1 => LA w K as σ H1 fun vs H2 => r x vs H2 Q := by
  obtain ⟨g, s, G, res, s', e, q⟩ := h
  unfold mMeth at e
  cases ea : o s with
  | none => rw [ea] at e; cases e
  | some p =>
    obtain ⟨ra, s1⟩ := p
    rw [ea] at e
    simp only [Option.bind_some] at e
    cases eb : as s1 with
    | none => rw [eb] at e; cases e
    | some p2 =>
      obtain ⟨rb, s2⟩ := p2
      rw [eb] at e
      simp only [Option.bind_some] at e
      split at e
      · rename_i x xs e1 e2
        cases ef : f x xs with
        | none => rw [ef] at e; cases e
        | some res' =>
          rw [ef] at e
          simp only [Option.map_some, Option.some.injEq, Prod.mk.injEq] at e
          obtain ⟨rfl, rfl⟩ := e
          refine LE.use G ea fun v1 g1 H1 G1 E1 R1 => ?_
          refine ⟨g1, s1, G1, rb, s2, eb, fun vs g2 H2 G2 E2 R2 => ?_⟩
          have R1' := R1.step E2
          refine hr g2 H2 v1 vs x xs _ Q G2.fr (R1'.peek G2 e1) (R2.peeks G2 e2) ef fun v g3 H3 EP RPv => ?_
          refine q v g3 H3 (G2.pure EP) ((E1.trans E2).trans (Ext.ofP EP)) ?_
          exact (RPv.rr G2 EP).sooner fun b z => E1.dom b (E2.dom b z)
      · cases e
theorem LA_nil {σ : St} {H : Hp} {Q : List V → Hp → Prop} (h : LA w K (mArgs []) σ H Q) : tNil σ H Q := by
  obtain ⟨g, s, G, rs, s', e, q⟩ := h
  cases e
  exact q [] g H G (Ext.refl _ _ _) .nil
theorem LA_cons {m : M R} {ms : List (M R)} {σ : St} {H : Hp} {Q : List V → Hp → Prop} (h : LA w K (mArgs (m :: ms)) σ H Q) : tCons (LE w K m) (LA w K (mArgs ms)) σ H Q := by
  obtain ⟨g, s, G, rs, s', e, q⟩ := h
  unfold mArgs at e
  cases ea : m s with
  | none => rw [ea] at e; cases e
  | some p =>
    obtain ⟨ra, s1⟩ := p
    rw [ea] at e
    simp only [Option.bind_some] at e
    cases eb : mArgs ms s1 with
    | none => rw [eb] at e; cases e
    | some p2 =>
      obtain ⟨rb, s2⟩ := p2
      rw [eb] at e
      simp only [Option.bind_some, Option.some.injEq, Prod.mk.injEq] at e
      obtain ⟨rfl, rfl⟩ := e
      refine LE.use G ea fun v1 g1 H1 G1 E1 R1 => ?_
      refine ⟨g1, s1, G1, rb, s2, eb, fun vs g2 H2 G2 E2 R2 => ?_⟩
      refine q (v1 :: vs) g2 H2 G2 (E1.trans E2) (.cons (R1.step E2) (R2.sooner fun b z => E1.dom b z) fun a o i o' ev er e1 e2 => ?_)
      subst ev er
      have := R2.get e1 e2
      cases R1 with
      | t _ ho _ =>
        cases this with
        | t h0 _ _ =>
          obtain ⟨x, hx, _⟩ := ho.at_.there
          rw [hx] at h0; cases h0
end
end PD
namespace PD
open PySem PySem.Spec PyProof.Rows L2

/-! ### sharing -/
def mShare (r : R) : M D := fun s => match r with
  | .d x => some (x, s)
  | .t o => some (o.toD, s)
  | .b i => match s.env[i]? with
    | some (.d x) => some (x, s)
    | some (.o o) => some (o.toD, { s with env := s.env.set i (.d o.toD) })
    | _ => none
section
variable {w : World} {K : PySem.W.Frag} {H H' H0 : Hp} {g g' g0 : Gh} {s : S} {σ : St} {a : Addr} {o : Own}
abbrev frzG (g : Gh) (H : Hp) (a : Addr) : Gh := ⟨frzF g.F H a, g.st⟩
theorem OwnAt.mono (h : OwnAt w K H g a o) (hs : StLe g.st g'.st) (hm : Sub g.F g'.F) : OwnAt w K H g' a o := by
  cases o with
  | l xs => obtain ⟨vs, e1, r⟩ := h; exact ⟨vs, e1, r.mono hs hm⟩
  | k kvs => obtain ⟨es, ep, e1, r, r2⟩ := h; exact ⟨es, ep, e1, r, r2.mono hs hm⟩
theorem OwnF.rep (h : OwnF w K H g a o) : Rep w K (frzG g H a).st (frzG g H a).F (.ref a) o.toD := by
  have hm : Sub g.F (frzG g H a).F := frzF_mono h.nf
  cases o with
  | l xs =>
    obtain ⟨vs, e1, r⟩ := h.at_
    exact .lst (show frzF g.F H a a = _ by rw [frzF_same]; exact e1) (r.mono (StLe.refl _) hm)
  | k kvs =>
    obtain ⟨es, ep, e1, r, r2⟩ := h.at_
    exact .dct (show frzF g.F H a a = _ by rw [frzF_same]; exact e1) r (r2.mono (StLe.refl _) hm)
theorem OwnF.frz {b : Addr} {o' : Own} (h : OwnF w K H g b o') (hne : b ≠ a) (hn : g.F a = none) : OwnF w K H (frzG g H a) b o' :=
  ⟨h.at_.mono (StLe.refl _) (frzF_mono hn), by show frzF g.F H a b = none; rw [frzF_ne hne]; exact h.nf⟩
theorem DSRep.frz {ds : Option DS} (h : DSRep H g ds) (hs : ¬ StA g a) (hn : g.F a = none) : DSRep H (frzG g H a) ds := by
  cases ds with
  | none => exact h
  | some d =>
    obtain ⟨sa, ca, e1, ne, h1, h2, f1, f2⟩ := h
    refine ⟨sa, ca, e1, ne, h1, h2, ?_, ?_⟩
    · show frzF g.F H a sa = none
      rw [frzF_ne (fun e => hs ⟨sa, ca, e1, .inl e.symm⟩)]; exact f1
    · show frzF g.F H a ca = none
      rw [frzF_ne (fun e => hs ⟨sa, ca, e1, .inr e.symm⟩)]; exact f2
theorem Good.frz {env' : List Sl} (G : Good w K g s σ H) (ho : OwnF w K H g a o) (hs : ¬ StA g a) (hl : env'.length = s.env.length)
    (he : ∀ (i : Nat) (sl' : Sl), env'[i]? = some sl' → (s.env[i]? = some sl' ∧ (∀ x, sl' = .o x → σ[i]? ≠ some (some (.ref a)))) ∨ (sl' = .d o.toD ∧ σ[i]? = some (some (.ref a)))) :
    Good w K (frzG g H a) { s with env := env' } σ H where
  fr := frzF_sub G.fr
  ds := G.ds.frz hs ho.nf
  len := by rw [← G.len]; exact hl
  env := fun i sl' x h1 h2 => by
    have hm : Sub g.F (frzG g H a).F := frzF_mono ho.nf
    rcases he i sl' h1 with ⟨h3, h4⟩ | ⟨rfl, h4⟩
    · have := G.env i sl' x h3 h2
      cases this with
      | no => exact .no
      | d r => exact .d (r.mono (StLe.refl _) hm)
      | o r =>
        rename_i b y
        refine .o (r.frz (fun e => ?_) ho.nf)
        subst e
        exact h4 y rfl h2
    · rw [h2] at h4
      cases h4
      exact .d ho.rep
  uniq := fun i j o1 o2 b h1 h2 h3 h4 => by
    rcases he i _ h1 with ⟨h5, _⟩ | ⟨e, _⟩
    · rcases he j _ h2 with ⟨h6, _⟩ | ⟨e, _⟩
      · exact G.uniq i j o1 o2 b h5 h6 h3 h4
      · cases e
    · cases e
  apart := fun b ⟨i, x, h1, h2⟩ n => by
    rcases he i _ h1 with ⟨h5, _⟩ | ⟨e, _⟩
    · exact G.apart b ⟨i, x, h5, h2⟩ n
    · cases e
theorem Ext.frz {W0 W1 W2 : Addr → Prop} (E : Ext W0 g0 H0 W1 g H) (ha : H0 a = none ∨ W0 a) (hw : ∀ b, W2 b → W1 b) (hn : g.F a = none) : Ext W0 g0 H0 W2 (frzG g H a) H where
  pr := E.pr
  dom := E.dom
  mono := E.mono.trans (frzF_mono hn)
  newF := fun b o h h' => by
    by_cases q : b = a
    · subst q; exact ha.elim .inl fun z => .inr (.inl z)
    · have h' : frzF g.F H a b = some o := h'
      rw [frzF_ne q] at h'
      exact E.newF b o h h'
  wsub := fun b h => E.wsub b (hw b h)
  st := E.st
theorem share_ok {W0 : Addr → Prop} {v : V} {r : R} {d : D} {s' : S} (G : Good w K g s σ H) (h : RR w K H0 g H s σ v r) (E : Ext W0 g0 H0 (PD.W g s.env σ) g H) (e : mShare r s = some (d, s')) :
    ∃ g', Good w K g' s' σ H ∧ Ext W0 g0 H0 (PD.W g' s'.env σ) g' H ∧ Rep w K g'.st g'.F v d ∧ Sub g.F g'.F ∧ g'.st = g.st := by
  cases h with
  | d h => cases e; exact ⟨g, G, E, h, Sub.refl _, rfl⟩
  | t h0 ho hn =>
    cases e
    rename_i a o
    refine ⟨frzG g H a, ?_, E.frz (.inl h0) (fun b z => z) ho.nf, ho.rep, frzF_mono ho.nf, rfl⟩
    have := G.frz (env' := s.env) ho (fun z => hn (.inr z)) rfl (fun i sl' h1 => .inl ⟨h1, fun x ex h2 => hn (.inl ⟨i, x, by rw [← ex]; exact h1, h2⟩)⟩)
    exact this
  | b hσ =>
    rename_i i
    unfold mShare at e
    simp only at e
    split at e
    · rename_i x hx
      cases e
      have := G.env i _ _ hx hσ
      cases this with
      | d r => exact ⟨g, G, E, r, Sub.refl _, rfl⟩
    · rename_i o hx
      cases e
      have sr := G.env i _ _ hx hσ
      cases sr with
      | o ho =>
        rename_i a
        have hst : ¬ StA g a := G.apart a ⟨i, o, hx, hσ⟩
        have hW : W0 a ∨ H0 a = none := E.wsub a (.inl ⟨i, o, hx, hσ⟩)
        have hi : i < s.env.length := (List.getElem?_eq_some_iff.mp hx).1
        have key : ∀ (j : Nat) (sl' : Sl), (s.env.set i (.d o.toD))[j]? = some sl' → (s.env[j]? = some sl' ∧ (∀ x, sl' = .o x → σ[j]? ≠ some (some (.ref a)))) ∨ (sl' = .d o.toD ∧ σ[j]? = some (some (.ref a))) := fun j sl' h1 => by
          by_cases hj : i = j
          · subst hj
            rw [List.getElem?_set_self hi] at h1
            cases h1
            exact .inr ⟨rfl, hσ⟩
          · rw [List.getElem?_set_ne hj] at h1
            refine .inl ⟨h1, fun x ex h2 => ?_⟩
            subst ex
            exact hj (G.uniq i j o x a hx h1 hσ h2)
        refine ⟨frzG g H a, G.frz ho hst (by rw [List.length_set]) key, E.frz hW.symm (fun b z => ?_) ho.nf, ho.rep, frzF_mono ho.nf, rfl⟩
        rcases z with ⟨j, x, h1, h2⟩ | z
        · rcases key j _ h1 with ⟨h3, _⟩ | ⟨e, _⟩
          · exact .inl ⟨j, x, h3, h2⟩
          · cases e
        · exact .inr z
    · cases e
end

/-! ### lists of shared data: displays -/
def mShs : List (M R) → M (List D)
  | [] => fun s => some ([], s)
  | m :: ms => fun s => (m s).bind fun p => (mShare p.1 p.2).bind fun q => (mShs ms q.2).bind fun t => some (q.1 :: t.1, t.2)
section
variable (w : World) (K : PySem.W.Frag)
def LD (m : M (List D)) : TA := fun σ H Q => ∃ g s, Good w K g s σ H ∧ ∃ ds s', m s = some (ds, s') ∧
  ∀ vs g' H', Good w K g' s' σ H' → Ext (PD.W g s.env σ) g H (PD.W g' s'.env σ) g' H' → RepL w K g'.st g'.F vs ds → Q vs H'
end
def mTup (ms : List (M R)) : M R := fun s => (mShs ms s).bind fun p => if p.1.length ≤ sizeLine then some (.d (.tup p.1), p.2) else none
def mLst (ms : List (M R)) : M R := fun s => (mShs ms s).bind fun p => if p.1.length ≤ sizeLine then some (.t (.l p.1), p.2) else none
section
variable {w : World} {K : PySem.W.Frag}
theorem LD_nil {σ : St} {H : Hp} {Q : List V → Hp → Prop} (h : LD w K (mShs []) σ H Q) : tNil σ H Q := by
  obtain ⟨g, s, G, rs, s', e, q⟩ := h
  cases e
  exact q [] g H G (Ext.refl _ _ _) .nil
theorem LD_cons {m : M R} {ms : List (M R)} {σ : St} {H : Hp} {Q : List V → Hp → Prop} (h : LD w K (mShs (m :: ms)) σ H Q) : tCons (LE w K m) (LD w K (mShs ms)) σ H Q := by
  obtain ⟨g, s, G, rs, s', e, q⟩ := h
  unfold mShs at e
  cases ea : m s with
  | none => rw [ea] at e; cases e
  | some p =>
    obtain ⟨ra, s1⟩ := p
    rw [ea] at e
    simp only [Option.bind_some] at e
    cases eb : mShare ra s1 with
    | none => rw [eb] at e; cases e
    | some p2 =>
      obtain ⟨da, s2⟩ := p2
      rw [eb] at e
      simp only [Option.bind_some] at e
      cases ec : mShs ms s2 with
      | none => rw [ec] at e; cases e
      | some p3 =>
        obtain ⟨ds, s3⟩ := p3
        rw [ec] at e
        simp only [Option.bind_some, Option.some.injEq, Prod.mk.injEq] at e
        obtain ⟨rfl, rfl⟩ := e
        refine LE.use G ea fun v1 g1 H1 G1 E1 R1 => ?_
        obtain ⟨g2, G2, E2, rep, hm, hst⟩ := share_ok G1 R1 E1 eb
        refine ⟨g2, s2, G2, ds, s3, ec, fun vs g3 H3 G3 E3 R3 => ?_⟩
        exact q (v1 :: vs) g3 H3 G3 (E2.trans E3) (.cons (rep.mono E3.st E3.mono) R3)
/-- a new object -/
theorem ExtP.new {g : Gh} {H : Hp} {p : Addr} {o : HO} (hf : Sub g.F H) (hp : H p = none) : ExtP g H g (upd H p o) where
  same := fun b x e => by rw [upd_ne (ne_of_none e hp)]; exact e
  mono := Sub.refl _
  newF := fun b x e e' => by rw [e] at e'; cases e'
  fr := fun b x e => by rw [upd_ne (ne_of_none (hf b x e) hp)]; exact hf b x e
  st := rfl
theorem Sub.none {F H : Hp} (h : Sub F H) {p : Addr} (e : H p = none) : F p = none := by
  cases q : F p with
  | none => rfl
  | some o => rw [h p o q] at e; cases e
/-- .. frozen at once -/
theorem ExtP.newF' {g : Gh} {H : Hp} {p : Addr} {o : HO} (hf : Sub g.F H) (hp : H p = none) : ExtP g H (frzG g (upd H p o) p) (upd H p o) where
  same := (ExtP.new hf hp).same
  mono := frzF_mono (hf.none hp)
  newF := fun b x e e' => by
    by_cases q : b = p
    · subst q; exact .inl hp
    · have e' : frzF g.F (upd H p o) p b = some x := e'
      rw [frzF_ne q, e] at e'; cases e'
  fr := frzF_sub (ExtP.new hf hp).fr
  st := rfl
theorem tTup_LE {ms : List (M R)} {σ : St} {H : Hp} {Q : VK} (h : LE w K (mTup ms) σ H Q) : tTup (LD w K (mShs ms)) σ H Q := by
  obtain ⟨g, s, G, res, s', e, q⟩ := h
  unfold mTup at e
  cases ea : mShs ms s with
  | none => rw [ea] at e; cases e
  | some p =>
    obtain ⟨ds, s1⟩ := p
    rw [ea] at e
    simp only [Option.bind_some] at e
    split at e
    · rename_i hl
      simp only [Option.some.injEq, Prod.mk.injEq] at e
      obtain ⟨rfl, rfl⟩ := e
      refine ⟨g, s, G, ds, s1, ea, fun vs g1 H1 G1 E1 R1 => ⟨by rw [R1.length]; exact hl, fun p hp => ?_⟩⟩
      have EP : ExtP g1 H1 (frzG g1 (upd H1 p (.tup vs)) p) (upd H1 p (.tup vs)) := ExtP.newF' G1.fr hp
      have rp : Rep w K g1.st (frzF g1.F (upd H1 p (.tup vs)) p) (.ref p) (.tup ds) :=
        Rep.tup (SqT.of (show frzF g1.F (upd H1 p (.tup vs)) p p = some (.tup vs) by rw [frzF_same, upd_same])) (R1.mono (StLe.refl _) EP.mono)
      exact q (.ref p) _ _ (G1.pure EP) (E1.trans (Ext.ofP EP)) (.d rp)
    · cases e
theorem tLst_LE {ms : List (M R)} {σ : St} {H : Hp} {Q : VK} (h : LE w K (mLst ms) σ H Q) : tLst (LD w K (mShs ms)) σ H Q := by
  obtain ⟨g, s, G, res, s', e, q⟩ := h
  unfold mLst at e
  cases ea : mShs ms s with
  | none => rw [ea] at e; cases e
  | some p =>
    obtain ⟨ds, s1⟩ := p
    rw [ea] at e
    simp only [Option.bind_some] at e
    split at e
    · rename_i hl
      simp only [Option.some.injEq, Prod.mk.injEq] at e
      obtain ⟨rfl, rfl⟩ := e
      refine ⟨g, s, G, ds, s1, ea, fun vs g1 H1 G1 E1 R1 => ⟨by rw [R1.length]; exact hl, fun p hp => ?_⟩⟩
      have EP : ExtP g1 H1 g1 (upd H1 p (.lst vs)) := ExtP.new G1.fr hp
      have hr : RP w K H1 g1 (upd H1 p (.lst vs)) (.ref p) (.t (.l ds)) := .t hp ⟨⟨vs, upd_same, R1⟩, G1.fr.none hp⟩
      exact q (.ref p) _ _ (G1.pure EP) (E1.trans (Ext.ofP EP)) ((hr.rr G1 EP).sooner fun b z => E1.dom b z)
    · cases e

/-! ### names, constants, tests -/
end
def mVar (i : Nat) : M R := fun s => match s.env[i]? with
  | some (.d x) => some (.d x, s)
  | some (.o _) => some (.b i, s)
  | _ => none
def mC (d : D) : M R := fun s => some (.d d, s)
def mIf (t : M Bool) (a b : M R) : M R := fun s => (t s).bind fun p => if p.1 = true then a p.2 else b p.2
def R.bl? : R → Option Bool
  | .d (.bl k) => some k
  | _ => none
def mTest (m : M R) : M Bool := fun s => (m s).bind fun p => (p.1.bl?).map fun k => (k, p.2)
def truD : D → Option Bool
  | .non => some false
  | .bl b => some b
  | .int i => some (i != 0)
  | .str l => some (!l.isEmpty)
  | .tup l => some (!l.isEmpty)
  | .lst l => some (!l.isEmpty)
  | _ => none
def mTru (m : M R) : M Bool := fun s => (m s).bind fun p => ((p.1.peek p.2.env).bind truD).map fun k => (k, p.2)
def mAnd (a b : M Bool) : M Bool := fun s => (a s).bind fun p => if p.1 = true then b p.2 else some (false, p.2)
def mOr (a b : M Bool) : M Bool := fun s => (a s).bind fun p => if p.1 = true then some (true, p.2) else b p.2
def mNot (a : M Bool) : M Bool := fun s => (a s).bind fun p => some (!p.1, p.2)
/-- a test as a value -/
def mBl (a : M Bool) : M R := fun s => (a s).bind fun p => some (.d (.bl p.1), p.2)
section
variable {w : World} {K : PySem.W.Frag} {σ : St} {H : Hp}
theorem tVar_LE {i : Nat} {Q : VK} (h : LE w K (mVar i) σ H Q) : tVar i σ H Q := by
  obtain ⟨g, s, G, res, s', e, q⟩ := h
  unfold mVar at e
  split at e
  · rename_i x hx
    cases e
    have hi := (List.getElem?_eq_some_iff.mp hx).1
    rw [G.len] at hi
    have := G.env i _ _ hx (List.getElem?_eq_getElem hi)
    generalize he : σ[i] = sv at this
    cases this with
    | d r =>
      rename_i v
      refine ⟨v, by rw [List.getElem?_eq_getElem hi, he], q v g H G (Ext.refl _ _ _) (.d r)⟩
  · rename_i x hx
    cases e
    have hi := (List.getElem?_eq_some_iff.mp hx).1
    rw [G.len] at hi
    have := G.env i _ _ hx (List.getElem?_eq_getElem hi)
    generalize he : σ[i] = sv at this
    cases this with
    | o r =>
      rename_i a
      have e1 : σ[i]? = some (some (.ref a)) := by rw [List.getElem?_eq_getElem hi, he]
      exact ⟨.ref a, e1, q _ g H G (Ext.refl _ _ _) (.b e1)⟩
  · cases e
theorem tC_LE {v : V} {d : D} (hr : ∀ st F, Rep w K st F v d) {Q : VK} (h : LE w K (mC d) σ H Q) : tC v σ H Q := by
  obtain ⟨g, s, G, res, s', e, q⟩ := h
  cases e
  exact q v g H G (Ext.refl _ _ _) (.d (hr _ _))
theorem R.bl_eq {r : R} {k : Bool} (h : r.bl? = some k) : r = .d (.bl k) := by
  cases r with
  | d x => cases x <;> first | (cases h; rfl) | cases h
  | t o => cases h
  | b i => cases h
theorem tTest_LT {m : M R} {Q : Bool → Hp → Prop} (h : LT w K (mTest m) σ H Q) : tTest (LE w K m) σ H Q := by
  obtain ⟨g, s, G, res, s', e, q⟩ := h
  unfold mTest at e
  cases ea : m s with
  | none => rw [ea] at e; cases e
  | some p =>
    obtain ⟨r, s1⟩ := p
    rw [ea] at e
    simp only [Option.bind_some] at e
    cases er : r.bl? with
    | none => rw [er] at e; cases e
    | some k =>
      rw [er] at e
      simp only [Option.map_some, Option.some.injEq, Prod.mk.injEq] at e
      obtain ⟨rfl, rfl⟩ := e
      have er := R.bl_eq er
      subst er
      refine LE.use G ea fun v g1 H1 G1 E1 R1 => ?_
      cases R1 with
      | d h => cases h; exact ⟨_, rfl, q g1 H1 G1 E1⟩
theorem tru_ok {g : Gh} {v : V} {d : D} {k : Bool} (hf : Sub g.F H) (h : Rep1 w K H g v d) (e : truD d = some k) : TruV K v H k := by
  cases h with
  | non => cases e; rfl
  | bl b => cases e; rfl
  | int i => cases e; rfl
  | @str l hl =>
    cases e
    refine ⟨by show l.toArray.size ≤ _; simpa using hl.1, ?_⟩
    show (!l.isEmpty) = (((l.toArray.size : Nat) : Int) != 0)
    cases l with
    | nil => rfl
    | cons a b =>
      simp only [List.isEmpty_cons, Bool.not_false, List.size_toArray, List.length_cons]
      symm
      rw [bne_iff_ne]
      omega
  | tup hq hr => cases e; exact .inr (.inl ⟨_, hf.seqT hq, by cases hr <;> rfl⟩)
  | lst hq hr => cases e; exact .inl ⟨_, SqL.of hq, by cases hr <;> rfl⟩
  | scr _ => cases e
  | dct _ _ _ => cases e
  | st _ => cases e
  | cv _ => cases e
theorem mTru_LT {m : M R} {Q : Bool → Hp → Prop} (h : LT w K (mTru m) σ H Q) : LE w K m σ H fun x H' => ∃ k, TruV K x H' k ∧ Q k H' := by
  obtain ⟨g, s, G, res, s', e, q⟩ := h
  unfold mTru at e
  cases ea : m s with
  | none => rw [ea] at e; cases e
  | some p =>
    obtain ⟨r, s1⟩ := p
    rw [ea] at e
    simp only [Option.bind_some] at e
    cases er : r.peek s1.env with
    | none => rw [er] at e; cases e
    | some d =>
      rw [er] at e
      simp only [Option.bind_some] at e
      cases ed : truD d with
      | none => rw [ed] at e; cases e
      | some k =>
        rw [ed] at e
        simp only [Option.map_some, Option.some.injEq, Prod.mk.injEq] at e
        obtain ⟨rfl, rfl⟩ := e
        exact LE.use G ea fun v g1 H1 G1 E1 R1 => ⟨k, tru_ok G1.fr (R1.peek G1 er) ed, q g1 H1 G1 E1⟩
theorem LT.mono {m : M Bool} {Q Q' : Bool → Hp → Prop} (h : LT w K m σ H Q) (hq : ∀ b H, Q b H → Q' b H) : LT w K m σ H Q' :=
  let ⟨g, s, G, r, s', e, q⟩ := h
  ⟨g, s, G, r, s', e, fun g' H' a b => hq _ _ (q g' H' a b)⟩
theorem tIf_LE {t : M Bool} {a b : M R} {Q : VK} (h : LE w K (mIf t a b) σ H Q) : tIf (LT w K t) (LE w K a) (LE w K b) σ H Q := by
  obtain ⟨g, s, G, res, s', e, q⟩ := h
  unfold mIf at e
  cases ea : t s with
  | none => rw [ea] at e; cases e
  | some p =>
    obtain ⟨k, s1⟩ := p
    rw [ea] at e
    simp only [Option.bind_some] at e
    refine ⟨g, s, G, k, s1, ea, fun g1 H1 G1 E1 => ?_⟩
    cases k with
    | true =>
      rw [if_pos rfl] at e ⊢
      exact LE.use G1 e fun v g2 H2 G2 E2 R2 => q v g2 H2 G2 (E1.trans E2) (R2.sooner E1.dom)
    | false =>
      rw [if_neg Bool.false_ne_true] at e ⊢
      exact LE.use G1 e fun v g2 H2 G2 E2 R2 => q v g2 H2 G2 (E1.trans E2) (R2.sooner E1.dom)
theorem tAnd_LT {a b : M Bool} {Q : Bool → Hp → Prop} (h : LT w K (mAnd a b) σ H Q) : tAnd (LT w K a) (LT w K b) σ H Q := by
  obtain ⟨g, s, G, res, s', e, q⟩ := h
  unfold mAnd at e
  cases ea : a s with
  | none => rw [ea] at e; cases e
  | some p =>
    obtain ⟨k, s1⟩ := p
    rw [ea] at e
    simp only [Option.bind_some] at e
    refine ⟨g, s, G, k, s1, ea, fun g1 H1 G1 E1 => ?_⟩
    cases k with
    | true =>
      rw [if_pos rfl] at e ⊢
      exact ⟨g1, s1, G1, _, _, e, fun g2 H2 G2 E2 => q g2 H2 G2 (E1.trans E2)⟩
    | false =>
      rw [if_neg Bool.false_ne_true] at e ⊢
      cases e
      exact q g1 H1 G1 E1
theorem tOr_LT {a b : M Bool} {Q : Bool → Hp → Prop} (h : LT w K (mOr a b) σ H Q) : tOr (LT w K a) (LT w K b) σ H Q := by
  obtain ⟨g, s, G, res, s', e, q⟩ := h
  unfold mOr at e
  cases ea : a s with
  | none => rw [ea] at e; cases e
  | some p =>
    obtain ⟨k, s1⟩ := p
    rw [ea] at e
    simp only [Option.bind_some] at e
    refine ⟨g, s, G, k, s1, ea, fun g1 H1 G1 E1 => ?_⟩
    cases k with
    | false =>
      rw [if_neg Bool.false_ne_true] at e ⊢
      exact ⟨g1, s1, G1, _, _, e, fun g2 H2 G2 E2 => q g2 H2 G2 (E1.trans E2)⟩
    | true =>
      rw [if_pos rfl] at e ⊢
      cases e
      exact q g1 H1 G1 E1
theorem tNot_LT {a : M Bool} {Q : Bool → Hp → Prop} (h : LT w K (mNot a) σ H Q) : tNot (LT w K a) σ H Q := by
  obtain ⟨g, s, G, res, s', e, q⟩ := h
  unfold mNot at e
  cases ea : a s with
  | none => rw [ea] at e; cases e
  | some p =>
    obtain ⟨k, s1⟩ := p
    rw [ea] at e
    simp only [Option.bind_some, Option.some.injEq, Prod.mk.injEq] at e
    obtain ⟨rfl, rfl⟩ := e
    exact ⟨g, s, G, k, s1, ea, fun g1 H1 G1 E1 => q g1 H1 G1 E1⟩
end
end PD
namespace PD
open PySem PySem.Spec PyProof.Rows L2
open Classical in
/-- the heap F with the objects of P taken in -/
noncomputable def frzP (F H : Hp) (P : Addr → Prop) : Hp := fun b => if P b then H b else F b
theorem frzP_in {F H : Hp} {P : Addr → Prop} {a : Addr} (h : P a) : frzP F H P a = H a := by unfold frzP; rw [if_pos h]
theorem frzP_out {F H : Hp} {P : Addr → Prop} {a : Addr} (h : ¬ P a) : frzP F H P a = F a := by unfold frzP; rw [if_neg h]
theorem frzP_sub {F H : Hp} {P : Addr → Prop} (h : Sub F H) : Sub (frzP F H P) H := fun b o e => by
  by_cases q : P b
  · rw [frzP_in q] at e; exact e
  · rw [frzP_out q] at e; exact h b o e
theorem frzP_mono {F H : Hp} {P : Addr → Prop} (h : ∀ a, P a → F a = none) : Sub F (frzP F H P) := fun b o e => by
  by_cases q : P b
  · rw [h b q] at e; cases e
  · rw [frzP_out q]; exact e

abbrev Fn := List D → Option DS → Option (R × Option DS)
section
variable (w : World) (K : PySem.W.Frag)
/-- what a def hands back: W0 was writable, H0 the heap at its start -/
inductive RF (W0 : Addr → Prop) (H0 : Hp) (g : Gh) (H : Hp) : V → R → Prop
  | d {v : V} {x : D} : Rep w K g.st g.F v x → RF W0 H0 g H v (.d x)
  | t {a : Addr} {o : Own} : (H0 a = none ∨ W0 a) → OwnF w K H g a o → ¬ StA g a → RF W0 H0 g H (.ref a) (.t o)
/-- a def's promise: it does what fn says -/
def spF (fn : Fn) (n : Nat) : Sp := fun vs H Q _ => ∃ g ds xs, GoodH g ds H ∧ RepL w K g.st g.F vs xs ∧ vs.length = n ∧ ∃ r ds', fn xs ds = some (r, ds') ∧
  ∀ v g' H', Ext (StA g) g H (StA g') g' H' → GoodH g' ds' H' → RF w K (StA g) H g' H' v r → Q v H'
end
def frzR (env : List Sl) : R → List Sl
  | .b i => frzAt env i
  | .d _ => env
  | .t _ => env
def frzAll (env : List Sl) (rs : List R) : List Sl := rs.foldl frzR env
def scalD : D → Bool
  | .non => true
  | .bl _ => true
  | .int _ => true
  | .str _ => true
  | _ => false
def callR (env : List Sl) (rs : List R) (q : R × Option DS) : Option (R × S) := match q.1 with
  | .d x => if scalD x = true then some (.d x, ⟨env, q.2⟩) else some (.d x, ⟨frzAll env rs, q.2⟩)
  | .t o => some (.t o, ⟨frzAll env rs, q.2⟩)
  | .b _ => none
def mCall (fn : Fn) (as : M (List R)) : M R := fun s => (as s).bind fun p => (peeks p.2.env p.1).bind fun xs => (fn xs p.2.ds).bind fun q => callR p.2.env p.1 q
theorem frzAt_len (env : List Sl) (i : Nat) : (frzAt env i).length = env.length := by unfold frzAt; rw [List.length_set]
theorem frzAll_len : ∀ (rs : List R) (env : List Sl), (frzAll env rs).length = env.length
  | [], _ => rfl
  | r :: rs, env => by
    show (frzAll (frzR env r) rs).length = _
    rw [frzAll_len rs]
    cases r <;> first | rfl | exact frzAt_len _ _
theorem frzAt_at {env : List Sl} {i j : Nat} {sl : Sl} (h : (frzAt env i)[j]? = some sl) : (env[j]? = some sl ∧ (∀ o, sl = .o o → j ≠ i)) ∨ (∃ o, env[j]? = some (.o o) ∧ sl = .d o.toD ∧ j = i) := by
  unfold frzAt at h
  by_cases e : i = j
  · subst e
    have hi : i < env.length := by
      have := (List.getElem?_eq_some_iff.mp h).1
      simpa using this
    rw [List.getElem?_set_self hi] at h
    have eg : env.getD i .no = env[i] := by simp [List.getD, hi]
    rw [eg] at h
    cases q : env[i] with
    | no => rw [q] at h; cases h; exact .inl ⟨(by rw [List.getElem?_eq_getElem hi, q]; rfl), fun o z => by cases z⟩
    | d x => rw [q] at h; cases h; exact .inl ⟨(by rw [List.getElem?_eq_getElem hi, q]; rfl), fun o z => by cases z⟩
    | o x => rw [q] at h; cases h; exact .inr ⟨x, by rw [List.getElem?_eq_getElem hi, q], rfl, rfl⟩
  · rw [List.getElem?_set_ne e] at h
    exact .inl ⟨h, fun _ _ z => e z.symm⟩
theorem frzAll_at : ∀ {rs : List R} {env : List Sl} {j : Nat} {sl : Sl}, (frzAll env rs)[j]? = some sl → (env[j]? = some sl ∧ (∀ o, sl = .o o → R.b j ∉ rs)) ∨ (∃ o, env[j]? = some (.o o) ∧ sl = .d o.toD ∧ R.b j ∈ rs)
  | [], env, j, sl, h => .inl ⟨h, fun _ _ z => by cases z⟩
  | r :: rs, env, j, sl, h => by
    have h : (frzAll (frzR env r) rs)[j]? = some sl := h
    rcases frzAll_at h with ⟨h1, h2⟩ | ⟨o, h1, h2, h3⟩
    · cases r with
      | d x => exact .inl ⟨h1, fun o e z => by
          rcases List.mem_cons.mp z with z | z
          · cases z
          · exact h2 o e z⟩
      | t x => exact .inl ⟨h1, fun o e z => by
          rcases List.mem_cons.mp z with z | z
          · cases z
          · exact h2 o e z⟩
      | b i =>
        rcases frzAt_at h1 with ⟨h3, h4⟩ | ⟨o, h3, h4, h5⟩
        · exact .inl ⟨h3, fun o e z => by
            rcases List.mem_cons.mp z with z | z
            · cases z; exact h4 o e rfl
            · exact h2 o e z⟩
        · subst h5
          exact .inr ⟨o, h3, h4, List.mem_cons_self⟩
    · cases r with
      | d x => exact .inr ⟨o, h1, h2, List.mem_cons_of_mem _ h3⟩
      | t x => exact .inr ⟨o, h1, h2, List.mem_cons_of_mem _ h3⟩
      | b i =>
        rcases frzAt_at h1 with ⟨h4, _⟩ | ⟨o', h4, h5, h6⟩
        · exact .inr ⟨o, h4, h2, List.mem_cons_of_mem _ h3⟩
        · cases h5
section
variable {w : World} {K : PySem.W.Frag} {H H0 H1 : Hp} {g g1 : Gh} {s : S} {σ : St}
theorem Rep.scal {st st' : Option (Addr × Addr)} {F F' : Hp} {v : V} {d : D} (h : Rep w K st F v d) (e : scalD d = true) : Rep w K st' F' v d := by
  cases h <;> first
    | exact .non
    | exact .bl _
    | exact .int _
    | (rename_i h; exact .str h)
    | cases e
/-- the objects that are lent in a call -/
def Lent (env : List Sl) (vs : List V) (rs : List R) (a : Addr) : Prop := ∃ (i : Nat), vs[i]? = some (V.ref a) ∧ ((∃ (o : Own), rs[i]? = some (R.t o)) ∨ ∃ (j : Nat) (o : Own), rs[i]? = some (R.b j) ∧ env[j]? = some (Sl.o o))
theorem Lent.own {vs : List V} {rs : List R} (G : Good w K g s σ H) (R : RRs w K H0 g H s σ vs rs) {a : Addr} (h : Lent s.env vs rs a) :
    ∃ o, OwnF w K H g a o ∧ ¬ StA g a ∧ (H0 a = none ∨ PD.W g s.env σ a) := by
  obtain ⟨i, e1, ⟨o, e2⟩ | ⟨j, o, e2, e3⟩⟩ := h
  · have := R.get e1 e2
    cases this with
    | t h0 ho hn => exact ⟨_, ho, fun z => hn (.inr z), .inl h0⟩
  · have := R.get e1 e2
    cases this with
    | b hσ =>
      have sr := G.env j _ _ e3 hσ
      cases sr with
      | o ho => exact ⟨_, ho, G.apart a ⟨j, o, e3, hσ⟩, .inr (.inl ⟨j, o, e3, hσ⟩)⟩
theorem Rep_lent {vs : List V} {rs : List R} (G : Good w K g s σ H) (R : RRs w K H0 g H s σ vs rs) (P : Addr → Prop) (hP : ∀ a, Lent s.env vs rs a → P a) (hn : ∀ a, P a → g.F a = none) :
    ∀ {i : Nat} {v : V} {r : PD.R} {d : D}, vs[i]? = some v → rs[i]? = some r → r.peek s.env = some d → Rep w K g.st (frzP g.F H P) v d := by
  intro i v r d e1 e2 e3
  have hm : Sub g.F (frzP g.F H P) := frzP_mono hn
  have own : ∀ {a : Addr} {o : Own}, OwnF w K H g a o → P a → Rep w K g.st (frzP g.F H P) (.ref a) o.toD := fun {a o} ho hp => by
    cases o with
    | l xs =>
      obtain ⟨us, e1, r⟩ := ho.at_
      exact .lst (by rw [frzP_in hp]; exact e1) (r.mono (StLe.refl _) hm)
    | k kvs =>
      obtain ⟨es, ep, e1, r, r2⟩ := ho.at_
      exact .dct (by rw [frzP_in hp]; exact e1) r (r2.mono (StLe.refl _) hm)
  have := R.get e1 e2
  cases this with
  | d h => cases e3; exact h.mono (StLe.refl _) hm
  | t h0 ho _ => cases e3; exact own ho (hP _ ⟨i, e1, .inl ⟨_, e2⟩⟩)
  | b hσ =>
    rename_i j
    have e3 : (s.env[j]?).bind Sl.peek = some d := e3
    cases q : s.env[j]? with
    | none => rw [q] at e3; cases e3
    | some sl =>
      rw [q] at e3
      have sr := G.env j _ _ q hσ
      cases sr with
      | no => cases e3
      | d r => cases e3; exact r.mono (StLe.refl _) hm
      | o r => cases e3; exact own r (hP _ ⟨i, e1, .inr ⟨j, _, e2, q⟩⟩)
theorem peeks_at : ∀ {env : List Sl} {rs : List R} {ds : List D}, peeks env rs = some ds → rs.length = ds.length ∧ ∀ (i : Nat) (r : R), rs[i]? = some r → ∃ d, ds[i]? = some d ∧ r.peek env = some d
  | env, [], ds, h => by cases h; exact ⟨rfl, fun i r e => by simp at e⟩
  | env, r :: rs, ds, h => by
    unfold peeks at h
    split at h
    · rename_i x xs e1 e2
      cases h
      obtain ⟨h1, h2⟩ := peeks_at e2
      refine ⟨by rw [List.length_cons, List.length_cons, h1], fun i r' e => ?_⟩
      cases i with
      | zero =>
        simp only [List.getElem?_cons_zero, Option.some.injEq] at e
        subst e
        exact ⟨x, rfl, e1⟩
      | succ i =>
        simp only [List.getElem?_cons_succ] at e
        exact h2 i r' e
    · cases h
theorem RepL.of_at {st : Option (Addr × Addr)} {F : Hp} : ∀ {vs : List V} {ds : List D}, vs.length = ds.length → (∀ (i : Nat) (v : V) (d : D), vs[i]? = some v → ds[i]? = some d → Rep w K st F v d) → RepL w K st F vs ds
  | [], [], _, _ => .nil
  | v :: vs, d :: ds, hl, h => .cons (h 0 v d rfl rfl) (RepL.of_at (by simpa using hl) fun i v d e1 e2 => h (i + 1) v d (by simpa using e1) (by simpa using e2))
  | [], _ :: _, hl, _ => by cases hl
  | _ :: _, [], hl, _ => by cases hl
theorem stA_tracked {ds : Option DS} (G : DSRep H g ds) {a : Addr} (h : StA g a) : H a ≠ none ∧ g.F a = none := by
  obtain ⟨sa, ca, e, hh⟩ := h
  cases ds with
  | none => have G : g.st = none := G; rw [G] at e; cases e
  | some d =>
    obtain ⟨sa', ca', e', _, h1, h2, f1, f2⟩ := G
    rw [e] at e'; cases e'
    rcases hh with rfl | rfl
    · exact ⟨fun z => (by rw [h1] at z; cases z), f1⟩
    · exact ⟨fun z => (by rw [h2] at z; cases z), f2⟩
theorem Good.h (G : Good w K g s σ H) : GoodH g s.ds H := ⟨G.fr, G.ds⟩
theorem tCall_LE {fn : Fn} {n : Nat} {as : M (List R)} {E : XK} {Q : VK} (hn : ∀ s rs s', as s = some (rs, s') → rs.length = n) (h : LE w K (mCall fn as) σ H Q) : tCall (spF w K fn n) [] E (LA w K as) σ H Q := by
  obtain ⟨g, s, G, res, s', e, q⟩ := h
  unfold mCall at e
  cases ea : as s with
  | none => rw [ea] at e; cases e
  | some p =>
    obtain ⟨rs, s1⟩ := p
    rw [ea] at e
    simp only [Option.bind_some] at e
    cases ep : peeks s1.env rs with
    | none => rw [ep] at e; cases e
    | some xs =>
      rw [ep] at e
      simp only [Option.bind_some] at e
      cases ef : fn xs s1.ds with
      | none => rw [ef] at e; cases e
      | some qq =>
        obtain ⟨r, ds'⟩ := qq
        rw [ef] at e
        simp only [Option.bind_some] at e
        refine ⟨g, s, G, rs, s1, ea, fun vs g1 H1 G1 E1 R1 => ?_⟩
        have hlen := R1.length
        obtain ⟨pl, pa⟩ := peeks_at ep
        have own := fun a => Lent.own (a := a) G1 R1
        have nF : ∀ a, Lent s1.env vs rs a → g1.F a = none := fun a h => let ⟨o, ho, _⟩ := own a h; ho.nf
        let gc : Gh := ⟨frzP g1.F H1 (Lent s1.env vs rs), g1.st⟩
        have hm : Sub g1.F gc.F := frzP_mono nF
        have sub1 : Sub gc.F H1 := frzP_sub G1.fr
        have nst : ∀ a, Lent s1.env vs rs a → ¬ StA g1 a := fun a h => let ⟨o, _, hs, _⟩ := own a h; hs
        have dsc : DSRep H1 gc s1.ds := by
          have := G1.ds
          cases hd : s1.ds with
          | none => rw [hd] at this; exact this
          | some d =>
            rw [hd] at this
            obtain ⟨sa, ca, e1, ne, h1, h2, f1, f2⟩ := this
            refine ⟨sa, ca, e1, ne, h1, h2, ?_, ?_⟩
            · show frzP g1.F H1 _ sa = none
              rw [frzP_out (fun z => nst sa z ⟨sa, ca, e1, .inl rfl⟩)]; exact f1
            · show frzP g1.F H1 _ ca = none
              rw [frzP_out (fun z => nst ca z ⟨sa, ca, e1, .inr rfl⟩)]; exact f2
        have reps : RepL w K gc.st gc.F vs xs := RepL.of_at (by rw [hlen, pl]) fun i v d e1 e2 => by
          have hi : i < rs.length := by rw [← hlen]; exact (List.getElem?_eq_some_iff.mp e1).1
          obtain ⟨d', e3, e4⟩ := pa i _ (List.getElem?_eq_getElem hi)
          rw [e2] at e3; cases e3
          exact Rep_lent G1 R1 _ (fun _ h => h) nF e1 (List.getElem?_eq_getElem hi) e4
        show spF w K fn n (vs ++ []) H1 Q E
        rw [List.append_nil]
        refine ⟨gc, s1.ds, xs, ⟨sub1, dsc⟩, reps, by rw [hlen]; exact hn _ _ _ ea, r, ds', ef, fun v g2 H2 E2 GH2 RF2 => ?_⟩
        have stc : ∀ a, StA gc a ↔ StA g1 a := fun a => Iff.rfl
        have notLentSt : ∀ b, PD.W g1 s1.env σ b → g1.F b = none := fun b hb => by
          rcases hb with ⟨i, o, h1, h2⟩ | hb
          · have := G1.env i _ _ h1 h2
            cases this with
            | o r => exact r.nf
          · exact (stA_tracked G1.ds hb).2
        -- the way with nothing frozen
        have plain : ∀ {x : D}, Rep w K g2.st g2.F v x → scalD x = true → res = .d x → s' = ⟨s1.env, ds'⟩ → Q v H2 := fun {x} hx sx er es => by
          subst er es
          let g3 : Gh := ⟨g1.F, g2.st⟩
          have fr3 : Sub g1.F H2 := fun b o hb => E2.pr b o (G1.fr b o hb) fun z => by
            have := (stA_tracked G1.ds z).2
            rw [hb] at this; cases this
          have ds3 : DSRep H2 g3 ds' := by
            have := GH2.ds
            cases ds' with
            | none => exact this
            | some d =>
              obtain ⟨sa, ca, e1, ne, h1, h2, f1, f2⟩ := this
              have z : ∀ a, g2.F a = none → g1.F a = none := fun a ha => by
                cases qq : g1.F a with
                | none => rfl
                | some o => rw [E2.mono a o (hm a o qq)] at ha; cases ha
              exact ⟨sa, ca, e1, ne, h1, h2, z _ f1, z _ f2⟩
          have ow : ∀ {a : Addr} {o : Own}, OwnF w K H1 g1 a o → ¬ StA g1 a → OwnF w K H2 g3 a o := fun {a o} ho hs => by
            obtain ⟨y, hy, _⟩ := ho.at_.there
            refine ⟨?_, ho.nf⟩
            cases o with
            | l ys => obtain ⟨us, e1, r⟩ := ho.at_; exact ⟨us, E2.pr _ _ e1 hs, r.mono E2.st (Sub.refl _)⟩
            | k kvs => obtain ⟨es, ep, e1, r, r2⟩ := ho.at_; exact ⟨es, ep, E2.pr _ _ e1 hs, r, r2.mono E2.st (Sub.refl _)⟩
          have G3 : Good w K g3 ⟨s1.env, ds'⟩ σ H2 := by
            refine ⟨fr3, ds3, G1.len, fun i sl x h1 h2 => ?_, G1.uniq, fun a ha z => ?_⟩
            · have := G1.env i sl x h1 h2
              cases this with
              | no => exact .no
              | d r => exact .d (r.mono E2.st (Sub.refl _))
              | o r => exact .o (ow r (G1.apart _ ⟨i, _, h1, h2⟩))
            · rcases E2.wsub a z with y | y
              · exact G1.apart a ha y
              · exact W_ne G1 (.inl ha) y
          have E3 : Ext (PD.W g1 s1.env σ) g1 H1 (PD.W g3 s1.env σ) g3 H2 := by
            refine ⟨fun b o hb hn => E2.pr b o hb fun z => hn (.inr z), E2.dom, Sub.refl _, fun b o h1 h2 => ?_, fun b hb => ?_, E2.st⟩
            · have h2 : g1.F b = some o := h2
              rw [h1] at h2; cases h2
            · rcases hb with hb | hb
              · exact .inl (.inl hb)
              · exact (E2.wsub b hb).elim (fun z => .inl (.inr z)) .inr
          exact q v g3 H2 G3 (E1.trans E3) (.d (hx.scal sx))
        -- the way with what was lent frozen
        have frozen : s' = ⟨frzAll s1.env rs, ds'⟩ → res = r → (∀ i, r ≠ .b i) → Q v H2 := fun es er nb => by
          subst es er
          have G3 : Good w K g2 ⟨frzAll s1.env rs, ds'⟩ σ H2 := by
            refine ⟨GH2.fr, GH2.ds, by show (frzAll s1.env rs).length = _; rw [frzAll_len]; exact G1.len, fun i sl x h1 h2 => ?_, fun i j o o' a h1 h2 h3 h4 => ?_, fun a ⟨i, o, h1, h2⟩ z => ?_⟩
            · rcases frzAll_at h1 with ⟨h3, h4⟩ | ⟨o, h3, h4, h5⟩
              · have sr := G1.env i sl x h3 h2
                cases sr with
                | no => exact .no
                | d r => exact .d (r.mono E2.st (hm.trans E2.mono))
                | o r =>
                  rename_i a y
                  have nl : ¬ Lent s1.env vs rs a := fun ⟨k, k1, k2⟩ => by
                    rcases k2 with ⟨o', k2⟩ | ⟨j, o', k2, k3⟩
                    · have rr := R1.get k1 k2
                      cases rr with
                      | t _ _ hn => exact hn (.inl ⟨i, y, h3, h2⟩)
                    · have rr := R1.get k1 k2
                      cases rr with
                      | b hσ =>
                        have : i = j := G1.uniq i j y o' a h3 k3 h2 hσ
                        subst this
                        exact h4 y rfl (List.mem_of_getElem? k2)
                  have : OwnF w K H1 gc a y := ⟨r.at_.mono (StLe.refl _) hm, by show frzP g1.F H1 _ a = none; rw [frzP_out nl]; exact r.nf⟩
                  exact .o (this.ext E2 (G1.apart a ⟨i, y, h3, h2⟩))
              · subst h4
                have sr := G1.env i _ x h3 h2
                cases sr with
                | o r =>
                  rename_i a
                  obtain ⟨k, hk⟩ := List.mem_iff_getElem?.mp h5
                  have hk' : k < vs.length := by rw [hlen]; exact (List.getElem?_eq_some_iff.mp hk).1
                  have rr := R1.get (List.getElem?_eq_getElem hk') hk
                  generalize hv : vs[k] = vk at rr
                  cases rr with
                  | b hσ =>
                    rw [h2] at hσ
                    have hσ : V.ref a = vk := by simpa using hσ
                    have rp := Rep_lent G1 R1 (Lent s1.env vs rs) (fun _ h => h) nF (List.getElem?_eq_getElem hk') hk (d := o.toD) (by show (s1.env[i]?).bind Sl.peek = _; rw [h3]; rfl)
                    rw [hv, ← hσ] at rp
                    exact .d (rp.mono E2.st E2.mono)
            · rcases frzAll_at h1 with ⟨h5, _⟩ | ⟨_, _, z, _⟩
              · rcases frzAll_at h2 with ⟨h6, _⟩ | ⟨_, _, z, _⟩
                · exact G1.uniq i j o o' a h5 h6 h3 h4
                · cases z
              · cases z
            · rcases frzAll_at h1 with ⟨h5, _⟩ | ⟨_, _, y, _⟩
              · rcases E2.wsub a z with y | y
                · exact G1.apart a ⟨i, o, h5, h2⟩ y
                · exact W_ne G1 (.inl ⟨i, o, h5, h2⟩) y
              · cases y
          have wb : ∀ b, PD.W g2 (frzAll s1.env rs) σ b → PD.W g1 s1.env σ b ∨ H1 b = none := fun b hb => by
            rcases hb with ⟨i, o, h1, h2⟩ | hb
            · rcases frzAll_at h1 with ⟨h5, _⟩ | ⟨_, _, y, _⟩
              · exact .inl (.inl ⟨i, o, h5, h2⟩)
              · cases y
            · exact (E2.wsub b hb).elim (fun z => .inl (.inr z)) .inr
          have E3 : Ext (PD.W g s.env σ) g H (PD.W g2 (frzAll s1.env rs) σ) g2 H2 := by
            refine ⟨fun b o hb hn => ?_, fun b hb => E1.dom b (E2.dom b hb), E1.mono.trans (hm.trans E2.mono), fun b o h1 h2 => ?_, fun b hb => ?_, fun p hp => E2.st p (E1.st p hp)⟩
            · refine E2.pr b o (E1.pr b o hb hn) fun z => ?_
              rcases E1.wsub b (.inr z) with y | y
              · exact hn y
              · rw [hb] at y; cases y
            · by_cases hl : Lent s1.env vs rs b
              · obtain ⟨o', _, _, h5⟩ := own b hl
                rcases h5 with h5 | h5
                · exact .inl h5
                · exact (E1.wsub b h5).elim (fun z => .inr (.inl z)) .inl
              · cases h6 : g1.F b with
                | some o1 => exact E1.newF b o1 h1 h6
                | none =>
                  have h7 : gc.F b = none := by show frzP g1.F H1 _ b = none; rw [frzP_out hl]; exact h6
                  rcases E2.newF b o h7 h2 with z | z | ⟨ys, z⟩
                  · exact .inl (E1.dom b z)
                  · exact (E1.wsub b (.inr z)).elim (fun y => .inr (.inl y)) .inl
                  · cases h8 : H b with
                    | none => exact .inl rfl
                    | some o8 =>
                      by_cases hw : PD.W g s.env σ b
                      · exact .inr (.inl hw)
                      · have := E1.pr b o8 h8 hw
                        rw [z] at this; cases this
                        exact .inr (.inr ⟨ys, rfl⟩)
            · exact (wb b hb).elim (E1.wsub b) fun z => .inr (E1.dom b z)
          refine q v g2 H2 G3 E3 ?_
          cases RF2 with
          | d h => exact .d h
          | t h0 ho hs =>
            rename_i a o
            have hna : H1 a = none := h0.elim id fun z => absurd (StA.mono (g := gc) (g' := g2) E2.st z) hs
            refine .t (E1.dom a hna) ho fun z => ?_
            rcases z with ⟨i, o', h1, h2⟩ | z
            · rcases frzAll_at h1 with ⟨h5, _⟩ | ⟨_, _, y, _⟩
              · exact W_ne G1 (.inl ⟨i, o', h5, h2⟩) hna
              · cases y
            · exact hs z
        unfold callR at e
        cases r with
        | d x =>
          simp only at e
          split at e
          · rename_i sx
            simp only [Option.some.injEq, Prod.mk.injEq] at e
            obtain ⟨e1, e2⟩ := e
            cases RF2 with
            | d h => exact plain h sx e1.symm e2.symm
          · simp only [Option.some.injEq, Prod.mk.injEq] at e
            obtain ⟨e1, e2⟩ := e
            exact frozen e2.symm e1.symm (fun i z => by cases z)
        | t o =>
          simp only [Option.some.injEq, Prod.mk.injEq] at e
          obtain ⟨e1, e2⟩ := e
          exact frozen e2.symm e1.symm (fun i z => by cases z)
        | b i => cases e
theorem mArgs_len : ∀ {ms : List (M R)} {s : S} {rs : List R} {s' : S}, mArgs ms s = some (rs, s') → rs.length = ms.length
  | [], s, rs, s', h => by cases h; rfl
  | m :: ms, s, rs, s', h => by
    unfold mArgs at h
    cases ea : m s with
    | none => rw [ea] at h; cases h
    | some p =>
      rw [ea] at h
      simp only [Option.bind_some] at h
      cases eb : mArgs ms p.2 with
      | none => rw [eb] at h; cases h
      | some p2 =>
        rw [eb] at h
        simp only [Option.bind_some, Option.some.injEq, Prod.mk.injEq] at h
        obtain ⟨rfl, rfl⟩ := h
        rw [List.length_cons, List.length_cons, mArgs_len eb]
end
end PD
namespace PD
open PySem PySem.Spec PyProof.Rows L2

theorem PEi {X : Cx} {e : Expr} {t t' : TE} (h : PE X e t) (i : ∀ σ H Q, t' σ H Q → t σ H Q) : PE X e t' := ⟨fun p s σ H Q I q => h.run p s σ H Q I (i σ H Q q)⟩
theorem PTi {X : Cx} {e : Expr} {t t' : TT} (h : PT X e t) (i : ∀ σ H Q, t' σ H Q → t σ H Q) : PT X e t' := ⟨fun p s σ H Q I q => h.run p s σ H Q I (i σ H Q q)⟩
theorem PWi {X : Cx} {e : Expr} {t t' : TT} (h : PW X e t) (i : ∀ σ H Q, t' σ H Q → t σ H Q) : PW X e t' := ⟨fun wh p s σ H Q I q => h.run wh p s σ H Q I (i σ H Q q)⟩
theorem PAi {X : Cx} {e : List Expr} {t t' : TA} (h : PA X e t) (i : ∀ σ H Q, t' σ H Q → t σ H Q) : PA X e t' := ⟨fun p1 p s σ H Q I q => h.run p1 p s σ H Q I (i σ H Q q)⟩
theorem PSi {X : Cx} {e : Stmt} {t t' : TS} (h : PS X e t) (i : ∀ D σ H, t' D σ H → t D σ H) : PS X e t' := ⟨fun p s σ H D I q => h.run p s σ H D I (i D σ H q)⟩
theorem PSsi {X : Cx} {e : List Stmt} {t t' : TS} (h : PSs X e t) (i : ∀ D σ H, t' D σ H → t D σ H) : PSs X e t' := ⟨fun p s σ H D I q => h.run p s σ H D I (i D σ H q)⟩
theorem PGi {X : Cx} {e : Expr} {t t' : TG} (h : PG X e t) (i : ∀ v σ H Q, t' v σ H Q → t v σ H Q) : PG X e t' := ⟨fun p s σ H v u Q I r q => h.run p s σ H v u Q I r (i v σ H Q q)⟩
theorem PGsi {X : Cx} {e : List Expr} {t t' : TGs} (h : PGs X e t) (i : ∀ v σ H Q, t' v σ H Q → t v σ H Q) : PGs X e t' := ⟨fun p s σ H v u Q I r q => h.run p s σ H v u Q I r (i v σ H Q q)⟩
theorem PIi {X : Cx} {tg e : Expr} {t t' : TI} (h : PI X tg e t) (i : ∀ σ H R, t' σ H R → t σ H R) : PI X tg e t' := ⟨fun p s σ H R I q => h.run p s σ H R I (i σ H R q)⟩

/-! ### statements -/
inductive Fl where
  | nx | bk | ct | rt (r : R)
abbrev MS := S → Option (Fl × S)
section
variable (w : World) (K : PySem.W.Frag)
def EndOk (D : Ends) (g : Gh) (s : S) (σ : St) (H : Hp) (s' : S) : Fl → Prop
  | .nx => ∀ σ' g' H', Good w K g' s' σ' H' → Ext (PD.W g s.env σ) g H (PD.W g' s'.env σ') g' H' → D.nx σ' H'
  | .bk => ∀ σ' g' H', Good w K g' s' σ' H' → Ext (PD.W g s.env σ) g H (PD.W g' s'.env σ') g' H' → D.bk σ' H'
  | .ct => ∀ σ' g' H', Good w K g' s' σ' H' → Ext (PD.W g s.env σ) g H (PD.W g' s'.env σ') g' H' → D.ct σ' H'
  | .rt r => ∀ v g' H', GoodH g' s'.ds H' → Ext (PD.W g s.env σ) g H (StA g') g' H' → RF w K (PD.W g s.env σ) H g' H' v r → D.rt v H'
def LS (m : MS) : TS := fun D σ H => ∃ g s, Good w K g s σ H ∧ ∃ fl s', m s = some (fl, s') ∧ EndOk w K D g s σ H s' fl
/-- the slots outside ts are as they were -/
structure Off (ts : List Nat) (σ σ' : St) : Prop where
  len : σ'.length = σ.length
  at_ : ∀ j, j ∉ ts → σ'[j]? = σ[j]?
def LG (ts : List Nat) (t : D → S → Option S) : TG := fun v σ H Q => ∃ g s d, Good w K g s σ H ∧ Rep w K g.st g.F v d ∧ ∃ s', t d s = some s' ∧
  ∀ σ' g' H', Good w K g' s' σ' H' → Ext (PD.W g s.env σ) g H (PD.W g' s'.env σ') g' H' → Off ts σ σ' → Q σ' H'
def LGs (ts : List Nat) (t : List D → S → Option S) : TGs := fun vs σ H Q => ∃ g s ds, Good w K g s σ H ∧ RepL w K g.st g.F vs ds ∧ ∃ s', t ds s = some s' ∧
  ∀ σ' g' H', Good w K g' s' σ' H' → Ext (PD.W g s.env σ) g H (PD.W g' s'.env σ') g' H' → Off ts σ σ' → Q σ' H'
end
theorem Off.refl (ts : List Nat) (σ : St) : Off ts σ σ := ⟨rfl, fun _ _ => rfl⟩
theorem Off.trans {t1 t2 ts : List Nat} {σ σ1 σ2 : St} (a : Off t1 σ σ1) (b : Off t2 σ1 σ2) (h1 : ∀ i ∈ t1, i ∈ ts) (h2 : ∀ i ∈ t2, i ∈ ts) : Off ts σ σ2 :=
  ⟨b.len.trans a.len, fun j hj => (b.at_ j fun z => hj (h2 j z)).trans (a.at_ j fun z => hj (h1 j z))⟩
section
variable {w : World} {K : PySem.W.Frag} {D : Ends} {g g1 : Gh} {s s1 s' : S} {σ σ1 : St} {H H1 : Hp} {fl : Fl}
theorem RF.sooner {W0 W1 : Addr → Prop} {g' : Gh} {H' : Hp} {v : V} {r : R} (h : RF w K W1 H1 g' H' v r) (E : Ext W0 g H W1 g1 H1) : RF w K W0 H g' H' v r := by
  cases h with
  | d h => exact .d h
  | t h0 ho hs => exact .t (h0.elim (fun z => .inl (E.dom _ z)) fun z => (E.wsub _ z).symm) ho hs
theorem EndOk.step (h : EndOk w K D g s σ H s' fl) (E : Ext (PD.W g s.env σ) g H (PD.W g1 s1.env σ1) g1 H1) : EndOk w K D g1 s1 σ1 H1 s' fl := by
  cases fl with
  | nx => exact fun σ' g' H' G' E' => h σ' g' H' G' (E.trans E')
  | bk => exact fun σ' g' H' G' E' => h σ' g' H' G' (E.trans E')
  | ct => exact fun σ' g' H' G' E' => h σ' g' H' G' (E.trans E')
  | rt r => exact fun v g' H' G' E' R' => h v g' H' G' (E.trans E') (R'.sooner E)
end
def mSkip : MS := fun s => some (.nx, s)
def mBreak : MS := fun s => some (.bk, s)
def mCont : MS := fun s => some (.ct, s)
def contF (b : MS) : Fl → S → Option (Fl × S)
  | .nx, s => b s
  | .bk, s => some (.bk, s)
  | .ct, s => some (.ct, s)
  | .rt r, s => some (.rt r, s)
def mThen (a b : MS) : MS := fun s => (a s).bind fun p => contF b p.1 p.2
def mIfS (t : M Bool) (a b : MS) : MS := fun s => (t s).bind fun p => if p.1 = true then a p.2 else b p.2
def mDrop (m : M R) : MS := fun s => (m s).bind fun p => some (.nx, p.2)
def retR (env : List Sl) : R → Option R
  | .d x => some (.d x)
  | .t o => some (.t o)
  | .b i => match env[i]? with
    | some (.d x) => some (.d x)
    | some (.o o) => some (.t o)
    | _ => none
def mRetS (m : M R) : MS := fun s => (m s).bind fun p => (retR p.2.env p.1).bind fun r => some (.rt r, p.2)
def mRetN : MS := fun s => some (.rt (.d .non), s)
def setR (i : Nat) (r : R) (s : S) : Option S := match r with
  | .d x => some { s with env := s.env.set i (.d x) }
  | .t o => some { s with env := s.env.set i (.o o) }
  | .b j => (mShare (.b j) s).bind fun p => some { p.2 with env := p.2.env.set i (.d p.1) }
def mSet (i : Nat) (m : M R) : MS := fun s => (m s).bind fun p => (setR i p.1 p.2).bind fun s' => some (.nx, s')
def mAsg (t : D → S → Option S) (m : M R) : MS := fun s => (m s).bind fun p => (mShare p.1 p.2).bind fun q => (t q.1 q.2).bind fun s' => some (.nx, s')
/-- not a slot's object any more -/
def normR (r : R) (s : S) : Option (R × S) := match r with
  | .d x => some (.d x, s)
  | .t o => some (.t o, s)
  | .b j => (mShare (.b j) s).map fun p => (.d p.1, p.2)
def mPar (i j : Nat) (a b : M R) : MS := fun s => (a s).bind fun p => (b p.2).bind fun q => (normR p.1 q.2).bind fun p1 => (normR q.1 p1.2).bind fun q1 =>
  (setR i p1.1 q1.2).bind fun s1 => (setR j q1.1 s1).bind fun s2 => some (.nx, s2)
def mAug (i : Nat) (f : D → D → Option D) (m : M R) : MS := fun s => (s.env[i]?).bind fun sl => match sl with
  | .d x => (m s).bind fun p => (p.1.peek p.2.env).bind fun y => (f x y).bind fun z => some (.nx, { p.2 with env := p.2.env.set i (.d z) })
  | _ => none
def tgN (i : Nat) : D → S → Option S := fun d s => some { s with env := s.env.set i (.d d) }
def tgNil : List D → S → Option S
  | [], s => some s
  | _, _ => none
def tgCons (t : D → S → Option S) (u : List D → S → Option S) : List D → S → Option S
  | d :: ds, s => (t d s).bind fun s1 => u ds s1
  | [], _ => none
def tgT (t : List D → S → Option S) : D → S → Option S
  | .tup ds, s => t ds s
  | _, _ => none
section
variable {w : World} {K : PySem.W.Frag} {g g' : Gh} {s : S} {σ : St} {H H0 : Hp}
theorem Good.setD {i : Nat} {v : V} {d : D} (G : Good w K g s σ H) (r : Rep w K g.st g.F v d) : Good w K g { s with env := s.env.set i (.d d) } (σ.set i (some v)) H where
  fr := G.fr
  ds := G.ds
  len := by rw [List.length_set, List.length_set]; exact G.len
  env := fun j sl x h1 h2 => by
    by_cases e : i = j
    · subst e
      have hi : i < s.env.length := by have := (List.getElem?_eq_some_iff.mp h1).1; simpa using this
      rw [List.getElem?_set_self hi] at h1
      rw [List.getElem?_set_self (by rw [← G.len]; exact hi)] at h2
      cases h1; cases h2
      exact .d r
    · rw [List.getElem?_set_ne e] at h1 h2
      exact G.env j sl x h1 h2
  uniq := fun j k o o' a h1 h2 h3 h4 => by
    by_cases e : i = j
    · subst e
      have hi : i < s.env.length := by have := (List.getElem?_eq_some_iff.mp h1).1; simpa using this
      rw [List.getElem?_set_self hi] at h1
      cases h1
    · by_cases e' : i = k
      · subst e'
        have hi : i < s.env.length := by have := (List.getElem?_eq_some_iff.mp h2).1; simpa using this
        rw [List.getElem?_set_self hi] at h2
        cases h2
      · rw [List.getElem?_set_ne e] at h1 h3
        rw [List.getElem?_set_ne e'] at h2 h4
        exact G.uniq j k o o' a h1 h2 h3 h4
  apart := fun a ⟨j, o, h1, h2⟩ z => by
    by_cases e : i = j
    · subst e
      have hi : i < s.env.length := by have := (List.getElem?_eq_some_iff.mp h1).1; simpa using this
      rw [List.getElem?_set_self hi] at h1
      cases h1
    · rw [List.getElem?_set_ne e] at h1 h2
      exact G.apart a ⟨j, o, h1, h2⟩ z
theorem OwnA.setD {env : List Sl} {i : Nat} {v : V} {d : D} {a : Addr} (h : OwnA (env.set i (.d d)) (σ.set i (some v)) a) : OwnA env σ a := by
  obtain ⟨j, o, h1, h2⟩ := h
  by_cases e : i = j
  · subst e
    have hi : i < env.length := by have := (List.getElem?_eq_some_iff.mp h1).1; simpa using this
    rw [List.getElem?_set_self hi] at h1
    cases h1
  · rw [List.getElem?_set_ne e] at h1 h2
    exact ⟨j, o, h1, h2⟩
theorem Good.setO {i : Nat} {a : Addr} {o : Own} (G : Good w K g s σ H) (ho : OwnF w K H g a o) (hn : ¬ PD.W g s.env σ a) : Good w K g { s with env := s.env.set i (.o o) } (σ.set i (some (.ref a))) H where
  fr := G.fr
  ds := G.ds
  len := by rw [List.length_set, List.length_set]; exact G.len
  env := fun j sl x h1 h2 => by
    by_cases e : i = j
    · subst e
      have hi : i < s.env.length := by have := (List.getElem?_eq_some_iff.mp h1).1; simpa using this
      rw [List.getElem?_set_self hi] at h1
      rw [List.getElem?_set_self (by rw [← G.len]; exact hi)] at h2
      cases h1; cases h2
      exact .o ho
    · rw [List.getElem?_set_ne e] at h1 h2
      exact G.env j sl x h1 h2
  uniq := fun j k o1 o2 b h1 h2 h3 h4 => by
    have key : ∀ (m : Nat) (o' : Own), i ≠ m → (s.env.set i (.o o))[m]? = some (.o o') → (σ.set i (some (V.ref a)))[m]? = some (some (.ref a)) → False := fun m o' e h1 h2 => by
      rw [List.getElem?_set_ne e] at h1 h2
      exact hn (.inl ⟨m, o', h1, h2⟩)
    have at_i : ∀ (o' : Own), (s.env.set i (.o o))[i]? = some (.o o') → (σ.set i (some (V.ref a)))[i]? = some (some (.ref b)) → b = a := fun o' h1 h2 => by
      have hi : i < s.env.length := by have := (List.getElem?_eq_some_iff.mp h1).1; simpa using this
      rw [List.getElem?_set_self (by rw [← G.len]; exact hi)] at h2
      cases h2; rfl
    by_cases e : i = j
    · by_cases e' : i = k
      · rw [← e, ← e']
      · subst e
        have := at_i o1 h1 h3
        subst this
        exact (key k o2 e' h2 h4).elim
    · by_cases e' : i = k
      · subst e'
        have := at_i o2 h2 h4
        subst this
        exact (key j o1 e h1 h3).elim
      · rw [List.getElem?_set_ne e] at h1 h3
        rw [List.getElem?_set_ne e'] at h2 h4
        exact G.uniq j k o1 o2 b h1 h2 h3 h4
  apart := fun b ⟨j, o', h1, h2⟩ z => by
    by_cases e : i = j
    · subst e
      have hi : i < s.env.length := by have := (List.getElem?_eq_some_iff.mp h1).1; simpa using this
      rw [List.getElem?_set_self (by rw [← G.len]; exact hi)] at h2
      cases h2
      exact hn (.inr z)
    · rw [List.getElem?_set_ne e] at h1 h2
      exact G.apart b ⟨j, o', h1, h2⟩ z
theorem OwnA.setO {env : List Sl} {i : Nat} {a b : Addr} {o : Own} (h : OwnA (env.set i (.o o)) (σ.set i (some (.ref a))) b) : OwnA env σ b ∨ b = a := by
  obtain ⟨j, o', h1, h2⟩ := h
  by_cases e : i = j
  · subst e
    have hi : i < σ.length := by have := (List.getElem?_eq_some_iff.mp h2).1; simpa using this
    rw [List.getElem?_set_self hi] at h2
    cases h2; exact .inr rfl
  · rw [List.getElem?_set_ne e] at h1 h2
    exact .inl ⟨j, o', h1, h2⟩
/-- a result stored at a name -/
theorem setR_ok {W0 : Addr → Prop} {g0 : Gh} {i : Nat} {v : V} {r : R} {s' : S} (G : Good w K g s σ H) (h : RR w K H0 g H s σ v r) (E : Ext W0 g0 H0 (PD.W g s.env σ) g H) (e : setR i r s = some s') :
    ∃ g', Good w K g' s' (σ.set i (some v)) H ∧ Ext W0 g0 H0 (PD.W g' s'.env (σ.set i (some v))) g' H ∧ Sub g.F g'.F ∧ g'.st = g.st := by
  cases h with
  | d h =>
    cases e
    exact ⟨g, G.setD h, E.less fun b hb => .inl (hb.elim (fun z => .inl z.setD) .inr), Sub.refl _, rfl⟩
  | t h0 ho hn =>
    cases e
    refine ⟨g, G.setO ho hn, ⟨E.pr, E.dom, E.mono, E.newF, fun b hb => ?_, E.st⟩, Sub.refl _, rfl⟩
    rcases hb with hb | hb
    · rcases hb.setO with z | z
      · exact E.wsub b (.inl z)
      · subst z; exact .inr h0
    · exact E.wsub b (.inr hb)
  | b hσ =>
    rename_i j
    unfold setR at e
    simp only at e
    cases es : mShare (.b j) s with
    | none => rw [es] at e; cases e
    | some p =>
      obtain ⟨d, s1⟩ := p
      rw [es] at e
      simp only [Option.bind_some, Option.some.injEq] at e
      subst e
      obtain ⟨g1, G1, E1, rp, hm, hst⟩ := share_ok G (.b hσ) E es
      exact ⟨g1, G1.setD rp, E1.less fun b hb => .inl (hb.elim (fun z => .inl z.setD) .inr), hm, hst⟩
/-! blocks -/
theorem tNext_LS {D : Ends} (h : LS w K mSkip D σ H) : tNext D σ H := by
  obtain ⟨g, s, G, fl, s', e, q⟩ := h
  cases e
  exact q σ g H G (Ext.refl _ _ _)
theorem tSeq_LS {a b : MS} {D : Ends} (h : LS w K (mThen a b) D σ H) : tSeq (LS w K a) (LS w K b) D σ H := by
  obtain ⟨g, s, G, fl, s', e, q⟩ := h
  unfold mThen at e
  cases ea : a s with
  | none => rw [ea] at e; cases e
  | some p =>
    obtain ⟨f1, s1⟩ := p
    rw [ea] at e
    simp only [Option.bind_some] at e
    refine ⟨g, s, G, f1, s1, ea, ?_⟩
    cases f1 with
    | nx => exact fun σ1 g1 H1 G1 E1 => ⟨g1, s1, G1, fl, s', e, q.step E1⟩
    | bk => cases e; exact q
    | ct => cases e; exact q
    | rt r => cases e; exact q
theorem tDrop_LS {m : M R} {D : Ends} (h : LS w K (mDrop m) D σ H) : tDrop (LE w K m) D σ H := by
  obtain ⟨g, s, G, fl, s', e, q⟩ := h
  unfold mDrop at e
  cases ea : m s with
  | none => rw [ea] at e; cases e
  | some p =>
    rw [ea] at e
    simp only [Option.bind_some, Option.some.injEq, Prod.mk.injEq] at e
    obtain ⟨rfl, rfl⟩ := e
    exact LE.use G ea fun v g1 H1 G1 E1 R1 => q σ g1 H1 G1 E1
theorem tRet_LS {m : M R} {D : Ends} (h : LS w K (mRetS m) D σ H) : tRet (LE w K m) D σ H := by
  obtain ⟨g, s, G, fl, s', e, q⟩ := h
  unfold mRetS at e
  cases ea : m s with
  | none => rw [ea] at e; cases e
  | some p =>
    obtain ⟨r, s1⟩ := p
    rw [ea] at e
    simp only [Option.bind_some] at e
    cases er : retR s1.env r with
    | none => rw [er] at e; cases e
    | some r' =>
      rw [er] at e
      simp only [Option.bind_some, Option.some.injEq, Prod.mk.injEq] at e
      obtain ⟨rfl, rfl⟩ := e
      refine LE.use G ea fun v g1 H1 G1 E1 R1 => ?_
      have E1' : Ext (PD.W g s.env σ) g H (StA g1) g1 H1 := E1.less fun b hb => .inl (.inr hb)
      refine q v g1 H1 G1.h E1' ?_
      cases R1 with
      | d h => cases er; exact .d h
      | t h0 ho hn => cases er; exact .t (.inl h0) ho fun z => hn (.inr z)
      | b hσ =>
        rename_i i
        unfold retR at er
        simp only at er
        split at er
        · rename_i x hx
          cases er
          have := G1.env i _ _ hx hσ
          cases this with
          | d r => exact .d r
        · rename_i o hx
          cases er
          have sr := G1.env i _ _ hx hσ
          cases sr with
          | o ho => exact .t (E1.wsub _ (.inl ⟨i, o, hx, hσ⟩)).symm ho (G1.apart _ ⟨i, o, hx, hσ⟩)
        · cases er
theorem tRetN_LS {D : Ends} (h : LS w K mRetN D σ H) : tRetN D σ H := by
  obtain ⟨g, s, G, fl, s', e, q⟩ := h
  cases e
  exact q .non g H G.h ((Ext.refl (PD.W g s.env σ) g H).less fun b hb => .inl (.inr hb)) (.d .non)
theorem tIfS_LS {t : M Bool} {a b : MS} {D : Ends} (h : LS w K (mIfS t a b) D σ H) : tIfS (LT w K t) (LS w K a) (LS w K b) D σ H := by
  obtain ⟨g, s, G, fl, s', e, q⟩ := h
  unfold mIfS at e
  cases ea : t s with
  | none => rw [ea] at e; cases e
  | some p =>
    obtain ⟨k, s1⟩ := p
    rw [ea] at e
    simp only [Option.bind_some] at e
    refine ⟨g, s, G, k, s1, ea, fun g1 H1 G1 E1 => ?_⟩
    cases k with
    | true =>
      rw [if_pos rfl] at e ⊢
      exact ⟨g1, s1, G1, fl, s', e, q.step E1⟩
    | false =>
      rw [if_neg Bool.false_ne_true] at e ⊢
      exact ⟨g1, s1, G1, fl, s', e, q.step E1⟩
theorem tSet_LS {i : Nat} {m : M R} {D : Ends} (h : LS w K (mSet i m) D σ H) : tAsg (LE w K m) (gName i) D σ H := by
  obtain ⟨g, s, G, fl, s', e, q⟩ := h
  unfold mSet at e
  cases ea : m s with
  | none => rw [ea] at e; cases e
  | some p =>
    obtain ⟨r, s1⟩ := p
    rw [ea] at e
    simp only [Option.bind_some] at e
    cases er : setR i r s1 with
    | none => rw [er] at e; cases e
    | some s2 =>
      rw [er] at e
      simp only [Option.bind_some, Option.some.injEq, Prod.mk.injEq] at e
      obtain ⟨rfl, rfl⟩ := e
      refine LE.use G ea fun v g1 H1 G1 E1 R1 => ?_
      obtain ⟨g2, G2, E2, _, _⟩ := setR_ok G1 R1 E1 er
      exact q _ g2 H1 G2 E2
theorem tAsg_LS {ts : List Nat} {t : D → S → Option S} {m : M R} {D : Ends} (h : LS w K (mAsg t m) D σ H) : tAsg (LE w K m) (LG w K ts t) D σ H := by
  obtain ⟨g, s, G, fl, s', e, q⟩ := h
  unfold mAsg at e
  cases ea : m s with
  | none => rw [ea] at e; cases e
  | some p =>
    obtain ⟨r, s1⟩ := p
    rw [ea] at e
    simp only [Option.bind_some] at e
    cases eb : mShare r s1 with
    | none => rw [eb] at e; cases e
    | some p2 =>
      obtain ⟨d, s2⟩ := p2
      rw [eb] at e
      simp only [Option.bind_some] at e
      cases ec : t d s2 with
      | none => rw [ec] at e; cases e
      | some s3 =>
        rw [ec] at e
        simp only [Option.bind_some, Option.some.injEq, Prod.mk.injEq] at e
        obtain ⟨rfl, rfl⟩ := e
        refine LE.use G ea fun v g1 H1 G1 E1 R1 => ?_
        obtain ⟨g2, G2, E2, rp, _, _⟩ := share_ok G1 R1 E1 eb
        exact ⟨g2, s2, d, G2, rp, s3, ec, fun σ' g' H' G' E' _ => q σ' g' H' G' (E2.trans E')⟩
theorem norm_ok {W0 : Addr → Prop} {g0 : Gh} {v : V} {r r' : R} {s' : S} (G : Good w K g s σ H) (h : RR w K H0 g H s σ v r) (E : Ext W0 g0 H0 (PD.W g s.env σ) g H) (e : normR r s = some (r', s')) :
    ∃ g', Good w K g' s' σ H ∧ Ext W0 g0 H0 (PD.W g' s'.env σ) g' H ∧ RR w K H0 g' H s' σ v r' ∧ (∀ i, r' ≠ .b i) ∧
      (∀ (H2 : Hp) (v2 : V) (r2 : R), RR w K H2 g H s σ v2 r2 → RR w K H2 g' H s' σ v2 r2) ∧ (∀ o, r' = .t o → r = .t o) := by
  cases h with
  | d h => cases e; exact ⟨g, G, E, .d h, fun i z => (by cases z), fun _ _ _ h => h, fun _ z => (by cases z)⟩
  | t h0 ho hn => cases e; exact ⟨g, G, E, .t h0 ho hn, fun i z => (by cases z), fun _ _ _ h => h, fun _ z => z⟩
  | b hσ =>
    rename_i j
    unfold normR at e
    simp only at e
    cases es : mShare (.b j) s with
    | none => rw [es] at e; cases e
    | some p =>
      obtain ⟨d, s1⟩ := p
      rw [es] at e
      simp only [Option.map_some, Option.some.injEq, Prod.mk.injEq] at e
      obtain ⟨rfl, rfl⟩ := e
      unfold mShare at es
      simp only at es
      split at es
      · rename_i x hx
        cases es
        have sr := G.env j _ _ hx hσ
        cases sr with
        | d r => exact ⟨g, G, E, .d r, fun i z => (by cases z), fun _ _ _ h => h, fun _ z => (by cases z)⟩
      · rename_i o hx
        cases es
        have sr := G.env j _ _ hx hσ
        cases sr with
        | o ho =>
          rename_i a
          have es' : mShare (.b j) s = some (o.toD, { s with env := s.env.set j (.d o.toD) }) := by
            unfold mShare
            simp only [hx]
          obtain ⟨g1, G1, E1, rp, hm, hst⟩ := share_ok G (.b hσ) E es'
          have hi : j < s.env.length := (List.getElem?_eq_some_iff.mp hx).1
          have hst : ¬ StA g a := G.apart a ⟨j, o, hx, hσ⟩
          have key : ∀ (k : Nat) (sl' : Sl), (s.env.set j (.d o.toD))[k]? = some sl' → (s.env[k]? = some sl' ∧ (∀ x, sl' = .o x → σ[k]? ≠ some (some (.ref a)))) ∨ (sl' = .d o.toD ∧ σ[k]? = some (some (.ref a))) := fun k sl' h1 => by
            by_cases hk : j = k
            · subst hk
              rw [List.getElem?_set_self hi] at h1
              cases h1
              exact .inr ⟨rfl, hσ⟩
            · rw [List.getElem?_set_ne hk] at h1
              refine .inl ⟨h1, fun x ex h2 => ?_⟩
              subst ex
              exact hk (G.uniq j k o x a hx h1 hσ h2)
          have wsub : ∀ b, PD.W (frzG g H a) (s.env.set j (.d o.toD)) σ b → PD.W g s.env σ b := fun b z => by
            rcases z with ⟨k, x, h1, h2⟩ | z
            · rcases key k _ h1 with ⟨h3, _⟩ | ⟨e, _⟩
              · exact .inl ⟨k, x, h3, h2⟩
              · cases e
            · exact .inr z
          have hW : W0 a ∨ H0 a = none := E.wsub a (.inl ⟨j, o, hx, hσ⟩)
          refine ⟨frzG g H a, G.frz ho hst (by rw [List.length_set]) key, E.frz hW.symm wsub ho.nf, .d ho.rep, fun i z => (by cases z), fun H2 v2 r2 h2 => ?_, fun _ z => (by cases z)⟩
          cases h2 with
          | d h => exact .d (h.mono (StLe.refl _) (frzF_mono ho.nf))
          | t h0 ho2 hn2 => exact .t h0 (ho2.frz (fun e => hn2 (by rw [e]; exact .inl ⟨j, o, hx, hσ⟩)) ho.nf) fun z => hn2 (wsub _ z)
          | b h => exact .b h
      · cases es
theorem tPar_LS {i j : Nat} {a b : M R} {D : Ends} (h : LS w K (mPar i j a b) D σ H) : tPar i j (tCons (LE w K a) (tCons (LE w K b) tNil)) D σ H := by
  obtain ⟨g, s, G, fl, s', e, q⟩ := h
  unfold mPar at e
  cases ea : a s with
  | none => rw [ea] at e; cases e
  | some p =>
    obtain ⟨ra, s1⟩ := p
    rw [ea] at e
    simp only [Option.bind_some] at e
    cases eb : b s1 with
    | none => rw [eb] at e; cases e
    | some p2 =>
      obtain ⟨rb, s2⟩ := p2
      rw [eb] at e
      simp only [Option.bind_some] at e
      cases ec : normR ra s2 with
      | none => rw [ec] at e; cases e
      | some p3 =>
        obtain ⟨ra', s3⟩ := p3
        rw [ec] at e
        simp only [Option.bind_some] at e
        cases ed : normR rb s3 with
        | none => rw [ed] at e; cases e
        | some p4 =>
          obtain ⟨rb', s4⟩ := p4
          rw [ed] at e
          simp only [Option.bind_some] at e
          cases ee : setR i ra' s4 with
          | none => rw [ee] at e; cases e
          | some s5 =>
            rw [ee] at e
            simp only [Option.bind_some] at e
            cases ef : setR j rb' s5 with
            | none => rw [ef] at e; cases e
            | some s6 =>
              rw [ef] at e
              simp only [Option.bind_some, Option.some.injEq, Prod.mk.injEq] at e
              obtain ⟨rfl, rfl⟩ := e
              refine LE.use G ea fun v1 g1 H1 G1 E1 R1 => ?_
              refine LE.use G1 eb fun v2 g2 H2 G2 E2 R2 => ?_
              refine ⟨v1, v2, rfl, ?_⟩
              have far : ∀ o1 o2 b, ra = .t o1 → rb = .t o2 → v1 = .ref b → v2 = .ref b → False := fun o1 o2 b e1 e2 e3 e4 => by
                subst e1 e2 e3 e4
                cases R1 with
                | t _ ho _ =>
                  cases R2 with
                  | t h0 _ _ =>
                    obtain ⟨x, hx, _⟩ := ho.at_.there
                    rw [hx] at h0; cases h0
              obtain ⟨g3, G3, E3, R3, nb3, keep3, t3⟩ := norm_ok G2 (R1.step E2) (E1.trans E2) ec
              obtain ⟨g4, G4, E4, R4, nb4, keep4, t4⟩ := norm_ok G3 (keep3 _ _ _ (R2.sooner E1.dom)) E3 ed
              have R3' := keep4 _ _ _ R3
              have done : ∀ σ' s5 g5, Good w K g5 s5 σ' H2 → Ext (PD.W g s.env σ) g H (PD.W g5 s5.env σ') g5 H2 → RR w K H g5 H2 s5 σ' v2 rb' → setR j rb' s5 = some s6 → D.nx (σ'.set j (some v2)) H2 := fun σ' s5 g5 G5 E5 R5 ef => by
                obtain ⟨g6, G6, E6, _, _⟩ := setR_ok G5 R5 E5 ef
                exact q _ g6 H2 G6 E6
              cases R3' with
              | d h =>
                cases ee
                refine done _ _ g4 (G4.setD h) (E4.less fun b hb => .inl (hb.elim (fun z => .inl z.setD) .inr)) ?_ ef
                cases R4 with
                | d h => exact .d h
                | t h0 ho hn => exact .t h0 ho fun z => hn (z.elim (fun y => .inl y.setD) .inr)
                | b _ => exact absurd rfl (nb4 _)
              | t h0 ho hn =>
                cases ee
                rename_i a1 o1
                have hW : ∀ b, PD.W g4 (s4.env.set i (.o o1)) (σ.set i (some (.ref a1))) b → PD.W g4 s4.env σ b ∨ b = a1 := fun b hb => by
                  rcases hb with hb | hb
                  · exact hb.setO.elim (fun z => .inl (.inl z)) .inr
                  · exact .inl (.inr hb)
                refine done _ _ g4 (G4.setO ho hn) ⟨E4.pr, E4.dom, E4.mono, E4.newF, fun b hb => (hW b hb).elim (E4.wsub b) fun z => .inr (by rw [z]; exact h0), E4.st⟩ ?_ ef
                cases R4 with
                | d h => exact .d h
                | t h02 ho2 hn2 =>
                  refine .t h02 ho2 fun z => ?_
                  rcases hW _ z with y | y
                  · exact hn2 y
                  · exact far _ _ _ (t3 _ rfl) (t4 _ rfl) rfl (by rw [y])
                | b _ => exact absurd rfl (nb4 _)
              | b _ => exact absurd rfl (nb3 _)
theorem tAug_LS {i : Nat} {f : D → D → Option D} {ti : TIp} {m : M R} {D : Ends} (hf : ∀ (g : Gh) (H : Hp) (x y : V) (dx dy dz : PD.D) (Q : VK), Sub g.F H → Rep w K g.st g.F x dx → Rep1 w K H g y dy → f dx dy = some dz → (∀ v, Rep w K g.st g.F v dz → Q v H) → ti x y H Q)
    (h : LS w K (mAug i f m) D σ H) : tAug i (LE w K m) ti D σ H := by
  obtain ⟨g, s, G, fl, s', e, q⟩ := h
  unfold mAug at e
  cases hs : s.env[i]? with
  | none => rw [hs] at e; cases e
  | some sl =>
    rw [hs] at e
    simp only [Option.bind_some] at e
    cases sl with
    | no => cases e
    | o _ => cases e
    | d x =>
      simp only at e
      cases ea : m s with
      | none => rw [ea] at e; cases e
      | some p =>
        obtain ⟨r, s1⟩ := p
        rw [ea] at e
        simp only [Option.bind_some] at e
        cases er : r.peek s1.env with
        | none => rw [er] at e; cases e
        | some y =>
          rw [er] at e
          simp only [Option.bind_some] at e
          cases ef : f x y with
          | none => rw [ef] at e; cases e
          | some z =>
            rw [ef] at e
            simp only [Option.bind_some, Option.some.injEq, Prod.mk.injEq] at e
            obtain ⟨rfl, rfl⟩ := e
            have hi := (List.getElem?_eq_some_iff.mp hs).1
            rw [G.len] at hi
            have sr := G.env i _ _ hs (List.getElem?_eq_getElem hi)
            generalize he : σ[i] = sv at sr
            cases sr with
            | d rx =>
              rename_i v
              refine ⟨v, by rw [List.getElem?_eq_getElem hi, he], ?_⟩
              refine LE.use G ea fun v1 g1 H1 G1 E1 R1 => ?_
              refine hf g1 H1 v v1 x y z _ G1.fr (rx.mono E1.st E1.mono) (R1.peek G1 er) ef fun u ru => ?_
              exact q _ g1 H1 (G1.setD ru) (E1.less fun b hb => .inl (hb.elim (fun z => .inl z.setD) .inr))
/-! targets -/
theorem gName_LG {i : Nat} {ts : List Nat} (hi : i ∈ ts) {v : V} {Q : St → Hp → Prop} (h : LG w K ts (tgN i) v σ H Q) : gName i v σ H Q := by
  obtain ⟨g, s, d, G, r, s', e, q⟩ := h
  cases e
  refine q _ g H (G.setD r) ((Ext.refl (PD.W g s.env σ) g H).less fun b hb => .inl (hb.elim (fun z => .inl z.setD) .inr)) ⟨by rw [List.length_set], fun j hj => ?_⟩
  rw [List.getElem?_set_ne (show i ≠ j from fun z => hj (by rw [← z]; exact hi))]
theorem gNil_LG {ts : List Nat} {vs : List V} {Q : St → Hp → Prop} (h : LGs w K ts tgNil vs σ H Q) : gNil vs σ H Q := by
  obtain ⟨g, s, d, G, r, s', e, q⟩ := h
  cases r with
  | nil => cases e; exact ⟨rfl, q σ g H G (Ext.refl _ _ _) (.refl _ _)⟩
  | cons _ _ => cases e
theorem gCons_LG {ts : List Nat} {t : D → S → Option S} {u : List D → S → Option S} {vs : List V} {Q : St → Hp → Prop} (h : LGs w K ts (tgCons t u) vs σ H Q) : gCons (LG w K ts t) (LGs w K ts u) vs σ H Q := by
  obtain ⟨g, s, d, G, r, s', e, q⟩ := h
  cases r with
  | nil => cases e
  | cons r1 r2 =>
    rename_i v vs d ds
    have e : ((t d s).bind fun s1 => u ds s1) = some s' := e
    cases ea : t d s with
    | none => rw [ea] at e; cases e
    | some s1 =>
      rw [ea] at e
      simp only [Option.bind_some] at e
      refine ⟨v, vs, rfl, g, s, d, G, r1, s1, ea, fun σ1 g1 H1 G1 E1 O1 => ?_⟩
      exact ⟨g1, s1, ds, G1, r2.mono E1.st E1.mono, s', e, fun σ2 g2 H2 G2 E2 O2 => q σ2 g2 H2 G2 (E1.trans E2) (O1.trans O2 (fun _ h => h) fun _ h => h)⟩
theorem tgT_eq {t : List D → S → Option S} {d : D} {s s' : S} (h : tgT t d s = some s') : ∃ ds, d = .tup ds ∧ t ds s = some s' := by
  cases d <;> first | exact ⟨_, rfl, h⟩ | cases h
theorem gTup_LG {ts : List Nat} {n : Nat} {t : List D → S → Option S} {v : V} {Q : St → Hp → Prop} (hn : ∀ ds s s', t ds s = some s' → ds.length = n) (h : LG w K ts (tgT t) v σ H Q) : gTup K n (LGs w K ts t) v σ H Q := by
  obtain ⟨g, s, d, G, r, s', e, q⟩ := h
  obtain ⟨ds, rfl, e⟩ := tgT_eq e
  cases r with
  | tup hq hr => exact ⟨_, _, rfl, G.fr.seqT hq, by rw [hr.length]; exact hn _ _ _ e, g, s, ds, G, hr, s', e, q⟩
theorem tgNil_len {ds : List D} {s s' : S} (h : tgNil ds s = some s') : ds.length = 0 := by
  cases ds with
  | nil => rfl
  | cons _ _ => cases h
theorem tgCons_len {t : D → S → Option S} {u : List D → S → Option S} {n : Nat} (hu : ∀ ds s s', u ds s = some s' → ds.length = n) : ∀ ds s s', tgCons t u ds s = some s' → ds.length = n + 1 := fun ds s s' h => by
  cases ds with
  | nil => cases h
  | cons d ds =>
    have h : ((t d s).bind fun s1 => u ds s1) = some s' := h
    cases ea : t d s with
    | none => rw [ea] at h; cases h
    | some s1 =>
      rw [ea] at h
      rw [List.length_cons, hu _ _ _ h]
end
end PD
namespace PD
open PySem PySem.Spec PyProof.Rows L2

section
variable (w : World) (K : PySem.W.Frag)
/-- the iterator J walks the items -/
structure ItOk (J : It) (g : Gh) (items : List D) : Prop where
  go : ∀ (i : Nat) (g1 : Gh) (H1 : Hp), Sub g.F g1.F → StLe g.st g1.st → Sub g1.F H1 → i < items.length → J.go i H1 ∧ ∀ x H2, J.yld i H1 x H2 → ∃ g2, ExtP g1 H1 g2 H2 ∧ ∃ d, items[i]? = some d ∧ Rep w K g2.st g2.F x d
  stop : ∀ (i : Nat) (g1 : Gh) (H1 : Hp), Sub g.F g1.F → StLe g.st g1.st → Sub g1.F H1 → i = items.length → J.stop i H1
def LI (mi : M (List D)) : TI := fun σ H R => ∃ g s, Good w K g s σ H ∧ ∃ items s', mi s = some (items, s') ∧
  ∀ J g' H', Good w K g' s' σ H' → Ext (PD.W g s.env σ) g H (PD.W g' s'.env σ) g' H' → ItOk w K J g' items → R J H'
end
def bodyF (k : MS) : Fl → S → Option (Fl × S)
  | .nx, s => k s
  | .ct, s => k s
  | .bk, s => some (.nx, s)
  | .rt r, s => some (.rt r, s)
def mLoop (t : D → S → Option S) (body : MS) : List D → MS
  | [] => mSkip
  | d :: ds => fun s => (t d s).bind fun s1 => (body s1).bind fun p => bodyF (mLoop t body ds) p.1 p.2
def mFor (mi : M (List D)) (t : D → S → Option S) (body : MS) : MS := fun s => (mi s).bind fun p => mLoop t body p.1 p.2
def whileN (t : M Bool) (b : MS) : Nat → MS
  | 0 => fun _ => none
  | n + 1 => fun s => (t s).bind fun p => if p.1 = true then (b p.2).bind fun q => bodyF (whileN t b n) q.1 q.2 else some (.nx, p.2)
open Classical in
noncomputable def mWhile (t : M Bool) (b : MS) : MS := fun s => if h : ∃ r, ∃ n, whileN t b n s = some r then some (choose h) else none
theorem whileN_more {t : M Bool} {b : MS} : ∀ {n : Nat} {s : S} {r : Fl × S}, whileN t b n s = some r → whileN t b (n + 1) s = some r
  | 0, s, r, h => by cases h
  | n + 1, s, r, h => by
    unfold whileN at h ⊢
    cases ea : t s with
    | none => rw [ea] at h; cases h
    | some p =>
      rw [ea] at h
      simp only [Option.bind_some] at h ⊢
      split at h
      · rename_i hp
        rw [if_pos hp]
        cases eb : b p.2 with
        | none => rw [eb] at h; cases h
        | some q =>
          rw [eb] at h
          simp only [Option.bind_some] at h ⊢
          obtain ⟨f, s2⟩ := q
          cases f with
          | nx => exact whileN_more (n := n) h
          | ct => exact whileN_more (n := n) h
          | bk => exact h
          | rt r => exact h
      · rename_i hp
        rw [if_neg hp]; exact h
theorem whileN_le {t : M Bool} {b : MS} {n m : Nat} {s : S} {r : Fl × S} (h : whileN t b n s = some r) (hm : n ≤ m) : whileN t b m s = some r := by
  induction hm with
  | refl => exact h
  | step _ ih => exact whileN_more ih
theorem mWhile_of {t : M Bool} {b : MS} {n : Nat} {s : S} {r : Fl × S} (h : whileN t b n s = some r) : mWhile t b s = some r := by
  have ex : ∃ r, ∃ n, whileN t b n s = some r := ⟨r, n, h⟩
  unfold mWhile
  rw [dif_pos ex]
  obtain ⟨m, hm⟩ := Classical.choose_spec ex
  have h1 := whileN_le h (Nat.le_max_left n m)
  have h2 := whileN_le hm (Nat.le_max_right n m)
  rw [h1] at h2
  exact h2.symm
theorem mWhile_some {t : M Bool} {b : MS} {s : S} {r : Fl × S} (h : mWhile t b s = some r) : ∃ n, whileN t b n s = some r := by
  unfold mWhile at h
  split at h
  · rename_i ex
    cases h
    exact Classical.choose_spec ex
  · cases h
/-- the first turn -/
theorem mWhile_eq {t : M Bool} {b : MS} {s : S} : mWhile t b s = (t s).bind fun p => if p.1 = true then (b p.2).bind fun q => bodyF (mWhile t b) q.1 q.2 else some (.nx, p.2) := by
  have fwd : ∀ r, mWhile t b s = some r → ((t s).bind fun p => if p.1 = true then (b p.2).bind fun q => bodyF (mWhile t b) q.1 q.2 else some (.nx, p.2)) = some r := fun r h => by
    obtain ⟨n, h⟩ := mWhile_some h
    cases n with
    | zero => cases h
    | succ n =>
      unfold whileN at h
      cases ea : t s with
      | none => rw [ea] at h; cases h
      | some p =>
        rw [ea] at h
        simp only [Option.bind_some] at h ⊢
        split at h
        · rename_i hp
          rw [if_pos hp]
          cases eb : b p.2 with
          | none => rw [eb] at h; cases h
          | some q =>
            rw [eb] at h
            simp only [Option.bind_some] at h ⊢
            obtain ⟨f, s2⟩ := q
            cases f with
            | nx => exact mWhile_of h
            | ct => exact mWhile_of h
            | bk => exact h
            | rt r => exact h
        · rename_i hp
          rw [if_neg hp]; exact h
  have bwd : ∀ r, ((t s).bind fun p => if p.1 = true then (b p.2).bind fun q => bodyF (mWhile t b) q.1 q.2 else some (.nx, p.2)) = some r → mWhile t b s = some r := fun r h => by
    have : ∃ n, whileN t b n s = some r := by
      cases ea : t s with
      | none => rw [ea] at h; cases h
      | some p =>
        rw [ea] at h
        simp only [Option.bind_some] at h
        split at h
        · rename_i hp
          cases eb : b p.2 with
          | none => rw [eb] at h; cases h
          | some q =>
            rw [eb] at h
            simp only [Option.bind_some] at h
            obtain ⟨f, s2⟩ := q
            have go : ∀ n, bodyF (whileN t b n) f s2 = some r → ∃ n, whileN t b n s = some r := fun n hn => ⟨n + 1, by
              unfold whileN
              rw [ea]
              simp only [Option.bind_some]
              rw [if_pos hp, eb]
              exact hn⟩
            cases f with
            | nx => obtain ⟨n, hn⟩ := mWhile_some h; exact go n hn
            | ct => obtain ⟨n, hn⟩ := mWhile_some h; exact go n hn
            | bk => exact go 0 h
            | rt r => exact go 0 h
        · rename_i hp
          exact ⟨1, by unfold whileN; rw [ea]; simp only [Option.bind_some]; rw [if_neg hp]; exact h⟩
    obtain ⟨n, hn⟩ := this
    exact mWhile_of hn
  cases h1 : mWhile t b s with
  | some r => exact (fwd r h1).symm
  | none =>
    cases h2 : ((t s).bind fun p => if p.1 = true then (b p.2).bind fun q => bodyF (mWhile t b) q.1 q.2 else some (.nx, p.2)) with
    | none => rfl
    | some r => rw [bwd r h2] at h1; cases h1

section
variable {w : World} {K : PySem.W.Frag} {g g' : Gh} {s : S} {σ : St} {H H0 : Hp}
theorem tFor_LS {mi : M (List D)} {ts : List Nat} {t : D → S → Option S} {body : MS} {D : Ends} (h : LS w K (mFor mi t body) D σ H) : tFor (LI w K mi) (LG w K ts t) (LS w K body) D σ H := by
  obtain ⟨g, s, G, fl, s', e, q⟩ := h
  unfold mFor at e
  cases ea : mi s with
  | none => rw [ea] at e; cases e
  | some p =>
    obtain ⟨items, s1⟩ := p
    rw [ea] at e
    simp only [Option.bind_some] at e
    refine ⟨g, s, G, items, s1, ea, fun J g1 H1 G1 E1 IT => ?_⟩
    let Inv (i : Nat) (σx : St) (Hx : Hp) : Prop := ∃ gx sx, Good w K gx sx σx Hx ∧ Sub g1.F gx.F ∧ StLe g1.st gx.st ∧ ∃ fl s', mLoop t body (items.drop i) sx = some (fl, s') ∧ EndOk w K D gx sx σx Hx s' fl
    refine ⟨fun i m σx Hx => m = items.length - i ∧ i ≤ items.length ∧ Inv i σx Hx, ⟨_, rfl, Nat.zero_le _, g1, s1, G1, Sub.refl _, StLe.refl _, fl, s', by rw [List.drop_zero]; exact e, q.step E1⟩, ?_⟩
    rintro i m σx Hx ⟨rfl, hi, gx, sx, Gx, hF, hS, fl, s', e, q⟩
    by_cases hlt : i < items.length
    · have hd : items.drop i = items[i] :: items.drop (i + 1) := List.drop_eq_getElem_cons hlt
      rw [hd] at e
      unfold mLoop at e
      cases et : t items[i] sx with
      | none => rw [et] at e; cases e
      | some s2 =>
        rw [et] at e
        simp only [Option.bind_some] at e
        cases eb : body s2 with
        | none => rw [eb] at e; cases e
        | some p2 =>
          obtain ⟨f1, s3⟩ := p2
          rw [eb] at e
          simp only [Option.bind_some] at e
          obtain ⟨hgo, hy⟩ := IT.go i gx Hx hF hS Gx.fr hlt
          refine .inr ⟨hgo, fun σ' H' => Inv (i + 1) σ' H', fun σ' H' h => ⟨items.length - (i + 1), by omega, rfl, hlt, h⟩, fun x H2 hx => ?_⟩
          obtain ⟨g2, EP, d, hd2, rp⟩ := hy x H2 hx
          rw [List.getElem?_eq_getElem hlt] at hd2
          cases hd2
          have G2 := Gx.pure EP
          have E2 := Ext.ofP (env := sx.env) (σ := σx) EP
          refine ⟨g2, sx, _, G2, rp, s2, et, fun σ3 g3 H3 G3 E3 O3 => ?_⟩
          refine ⟨g3, s2, G3, f1, s3, eb, ?_⟩
          have again : ∀ σ4 g4 H4, Good w K g4 s3 σ4 H4 → Ext (PD.W g3 s2.env σ3) g3 H3 (PD.W g4 s3.env σ4) g4 H4 → mLoop t body (items.drop (i + 1)) s3 = some (fl, s') → Inv (i + 1) σ4 H4 := fun σ4 g4 H4 G4 E4 e =>
            ⟨g4, s3, G4, hF.trans (E2.mono.trans (E3.mono.trans E4.mono)), fun p hp => E4.st p (E3.st p (E2.st p (hS p hp))), fl, s', e, q.step ((E2.trans E3).trans E4)⟩
          cases f1 with
          | nx => exact fun σ4 g4 H4 G4 E4 => again σ4 g4 H4 G4 E4 e
          | ct => exact fun σ4 g4 H4 G4 E4 => again σ4 g4 H4 G4 E4 e
          | bk => cases e; exact (q.step (E2.trans E3))
          | rt r => cases e; exact (q.step (E2.trans E3))
    · have : i = items.length := by omega
      subst this
      rw [List.drop_length] at e
      cases e
      exact .inl ⟨IT.stop _ gx Hx hF hS Gx.fr rfl, q σx gx Hx Gx (Ext.refl _ _ _)⟩
theorem tWhile_LS {t : M Bool} {body : MS} {D : Ends} (h : LS w K (mWhile t body) D σ H) : tWhile (LT w K t) (LS w K body) D σ H := by
  obtain ⟨g, s, G, fl, s', e, q⟩ := h
  obtain ⟨n, e⟩ := mWhile_some e
  refine ⟨fun m σx Hx => ∃ gx sx, Good w K gx sx σx Hx ∧ ∃ fl s', whileN t body m sx = some (fl, s') ∧ EndOk w K D gx sx σx Hx s' fl, ⟨n, g, s, G, fl, s', e, q⟩, ?_⟩
  rintro m σx Hx ⟨gx, sx, Gx, fl, s', e, q⟩
  cases m with
  | zero => cases e
  | succ m =>
    unfold whileN at e
    cases ea : t sx with
    | none => rw [ea] at e; cases e
    | some p =>
      obtain ⟨k, s1⟩ := p
      rw [ea] at e
      simp only [Option.bind_some] at e
      refine ⟨gx, sx, Gx, k, s1, ea, fun g1 H1 G1 E1 => ?_⟩
      cases k with
      | false =>
        rw [if_neg Bool.false_ne_true] at e ⊢
        cases e
        exact q σx g1 H1 G1 E1
      | true =>
        rw [if_pos rfl] at e ⊢
        cases eb : body s1 with
        | none => rw [eb] at e; cases e
        | some p2 =>
          obtain ⟨f1, s2⟩ := p2
          rw [eb] at e
          simp only [Option.bind_some] at e
          refine ⟨fun σ' H' => ∃ gy sy, Good w K gy sy σ' H' ∧ ∃ fl s', whileN t body m sy = some (fl, s') ∧ EndOk w K D gy sy σ' H' s' fl, fun σ' H' h => ⟨m, Nat.lt_succ_self m, h⟩, g1, s1, G1, f1, s2, eb, ?_⟩
          cases f1 with
          | nx => exact fun σ4 g4 H4 G4 E4 => ⟨g4, s2, G4, fl, s', e, q.step (E1.trans E4)⟩
          | ct => exact fun σ4 g4 H4 G4 E4 => ⟨g4, s2, G4, fl, s', e, q.step (E1.trans E4)⟩
          | bk => cases e; exact q.step E1
          | rt r => cases e; exact q.step E1
end

/-! ### list comprehensions -/
def wipeE (vs : List Nat) (env : List Sl) : List Sl := vs.foldr (fun v e => e.set v .no) env
def wipeS (vs : List Nat) (s : S) : S := ⟨wipeE vs s.env, s.ds⟩
/-- the names vs as they were -/
def restE (old : List Sl) (vs : List Nat) (new : List Sl) : List Sl := vs.foldr (fun v e => e.set v (old.getD v .no)) new
def lcLoop (t : D → S → Option S) (tt : M Bool) (te : M R) (vs : List Nat) : List D → M (List D)
  | [] => fun s => some ([], s)
  | d :: ds => fun s => (t d s).bind fun s1 => (tt s1).bind fun p => if p.1 = true then
      (te p.2).bind fun r => (mShare r.1 r.2).bind fun q => (lcLoop t tt te vs ds (wipeS vs q.2)).bind fun z => some (q.1 :: z.1, z.2)
    else lcLoop t tt te vs ds (wipeS vs p.2)
def mLc (mi : M (List D)) (t : D → S → Option S) (tt : M Bool) (te : M R) (vs : List Nat) : M R := fun s => (mi s).bind fun p =>
  (lcLoop t tt te vs p.1 (wipeS vs p.2)).bind fun q => if q.1.length ≤ sizeLine then some (.t (.l q.1), ⟨restE p.2.env vs q.2.env, q.2.ds⟩) else none
def mYes : M Bool := fun s => some (true, s)
theorem wipeE_at : ∀ {vs : List Nat} {env : List Sl} {j : Nat} {sl : Sl}, (wipeE vs env)[j]? = some sl → (j ∉ vs ∧ env[j]? = some sl) ∨ (j ∈ vs ∧ sl = .no)
  | [], env, j, sl, h => .inl ⟨by simp, h⟩
  | v :: vs, env, j, sl, h => by
    have h : ((wipeE vs env).set v .no)[j]? = some sl := h
    by_cases e : v = j
    · subst e
      have hv : v < (wipeE vs env).length := by have := (List.getElem?_eq_some_iff.mp h).1; simpa using this
      rw [List.getElem?_set_self hv] at h
      cases h
      exact .inr ⟨List.mem_cons_self, rfl⟩
    · rw [List.getElem?_set_ne e] at h
      rcases wipeE_at h with ⟨h1, h2⟩ | ⟨h1, h2⟩
      · exact .inl ⟨by simp only [List.mem_cons, not_or]; exact ⟨fun z => e z.symm, h1⟩, h2⟩
      · exact .inr ⟨List.mem_cons_of_mem _ h1, h2⟩
theorem wipeE_len (vs : List Nat) (env : List Sl) : (wipeE vs env).length = env.length := by
  induction vs with
  | nil => rfl
  | cons v vs ih => show ((wipeE vs env).set v .no).length = _; rw [List.length_set, ih]
theorem restE_len (old : List Sl) (vs : List Nat) (env : List Sl) : (restE old vs env).length = env.length := by
  induction vs with
  | nil => rfl
  | cons v vs ih => show ((restE old vs env).set v _).length = _; rw [List.length_set, ih]
theorem restE_at {old : List Sl} : ∀ {vs : List Nat} {env : List Sl} {j : Nat} {sl : Sl}, old.length = env.length → (restE old vs env)[j]? = some sl → (j ∉ vs ∧ env[j]? = some sl) ∨ (j ∈ vs ∧ old[j]? = some sl)
  | [], env, j, sl, _, h => .inl ⟨by simp, h⟩
  | v :: vs, env, j, sl, hl, h => by
    have h : ((restE old vs env).set v (old.getD v .no))[j]? = some sl := h
    by_cases e : v = j
    · subst e
      have hv : v < (restE old vs env).length := by have := (List.getElem?_eq_some_iff.mp h).1; simpa using this
      rw [List.getElem?_set_self hv] at h
      rw [restE_len, ← hl] at hv
      cases h
      exact .inr ⟨List.mem_cons_self, by rw [List.getElem?_eq_getElem hv]; simp [List.getD, hv]⟩
    · rw [List.getElem?_set_ne e] at h
      rcases restE_at hl h with ⟨h1, h2⟩ | ⟨h1, h2⟩
      · exact .inl ⟨by simp only [List.mem_cons, not_or]; exact ⟨fun z => e z.symm, h1⟩, h2⟩
      · exact .inr ⟨List.mem_cons_of_mem _ h1, h2⟩
theorem wipe_in {σ : St} : ∀ {vs : List Nat} {j : Nat} {x : Option V}, (wipe σ vs)[j]? = some x → (j ∉ vs ∧ σ[j]? = some x) ∨ (j ∈ vs ∧ x = none)
  | [], j, x, h => .inl ⟨by simp, h⟩
  | v :: vs, j, x, h => by
    have h : ((wipe σ vs).set v none)[j]? = some x := h
    by_cases e : v = j
    · subst e
      have hv : v < (wipe σ vs).length := by have := (List.getElem?_eq_some_iff.mp h).1; simpa using this
      rw [List.getElem?_set_self hv] at h
      cases h
      exact .inr ⟨List.mem_cons_self, rfl⟩
    · rw [List.getElem?_set_ne e] at h
      rcases wipe_in h with ⟨h1, h2⟩ | ⟨h1, h2⟩
      · exact .inl ⟨by simp only [List.mem_cons, not_or]; exact ⟨fun z => e z.symm, h1⟩, h2⟩
      · exact .inr ⟨List.mem_cons_of_mem _ h1, h2⟩
theorem wipe_get {σ : St} {vs : List Nat} {j : Nat} (hj : j < σ.length) : (wipe σ vs)[j]? = if j ∈ vs then some none else σ[j]? := by
  have hl : j < (wipe σ vs).length := by rw [wipe_length]; exact hj
  have := wipe_in (List.getElem?_eq_getElem hl)
  rcases this with ⟨h1, h2⟩ | ⟨h1, h2⟩
  · rw [if_neg h1, h2, List.getElem?_eq_getElem hl]
  · rw [if_pos h1, List.getElem?_eq_getElem hl, h2]
theorem wipe_off {σ σ' : St} {ts vs : List Nat} (h : Off ts σ σ') (hs : ∀ i ∈ ts, i ∈ vs) : wipe σ' vs = wipe σ vs := by
  refine List.ext_getElem? fun j => ?_
  by_cases hj : j < σ.length
  · rw [wipe_get (by rw [h.len]; exact hj), wipe_get hj]
    split
    · rfl
    · rename_i hn
      exact h.at_ j fun z => hn (hs j z)
  · rw [List.getElem?_eq_none (by rw [wipe_length, h.len]; omega), List.getElem?_eq_none (by rw [wipe_length]; omega)]
theorem wipe_idem (σ : St) (vs : List Nat) : wipe (wipe σ vs) vs = wipe σ vs := by
  refine List.ext_getElem? fun j => ?_
  by_cases hj : j < σ.length
  · rw [wipe_get (by rw [wipe_length]; exact hj), wipe_get hj]
    split <;> rfl
  · rw [List.getElem?_eq_none (by rw [wipe_length, wipe_length]; omega), List.getElem?_eq_none (by rw [wipe_length]; omega)]
section
variable {w : World} {K : PySem.W.Frag} {g g' : Gh} {s : S} {σ : St} {H H0 : Hp}
theorem OwnA.wipe {vs : List Nat} {env : List Sl} {a : Addr} (h : OwnA (wipeE vs env) (L2.wipe σ vs) a) : ∃ (i : Nat) (o : Own), i ∉ vs ∧ env[i]? = some (.o o) ∧ σ[i]? = some (some (.ref a)) := by
  obtain ⟨i, o, h1, h2⟩ := h
  rcases wipeE_at h1 with ⟨h3, h4⟩ | ⟨_, h4⟩
  · rcases wipe_in h2 with ⟨_, h6⟩ | ⟨h5, _⟩
    · exact ⟨i, o, h3, h4, h6⟩
    · exact absurd h5 h3
  · cases h4
theorem Good.wipe (vs : List Nat) (G : Good w K g s σ H) : Good w K g (wipeS vs s) (L2.wipe σ vs) H where
  fr := G.fr
  ds := G.ds
  len := by show (wipeE vs s.env).length = _; rw [wipeE_len, wipe_length]; exact G.len
  env := fun j sl x h1 h2 => by
    rcases wipeE_at h1 with ⟨h3, h4⟩ | ⟨_, h4⟩
    · rcases wipe_in h2 with ⟨_, h6⟩ | ⟨h5, _⟩
      · exact G.env j sl x h4 h6
      · exact absurd h5 h3
    · subst h4; exact .no
  uniq := fun i j o o' a h1 h2 h3 h4 => by
    rcases wipeE_at h1 with ⟨_, h5⟩ | ⟨_, h5⟩
    · rcases wipeE_at h2 with ⟨_, h6⟩ | ⟨_, h6⟩
      · rcases wipe_in h3 with ⟨_, h7⟩ | ⟨_, h7⟩
        · rcases wipe_in h4 with ⟨_, h8⟩ | ⟨_, h8⟩
          · exact G.uniq i j o o' a h5 h6 h7 h8
          · cases h8
        · cases h7
      · cases h6
    · cases h5
  apart := fun a h z => by
    obtain ⟨i, o, _, h1, h2⟩ := h.wipe
    exact G.apart a ⟨i, o, h1, h2⟩ z
/-- behind a block: its own names as they were -/
theorem Good.back {vs : List Nat} {g1 gx : Gh} {s1 sx : S} {H1 Hx : Hp} (G1 : Good w K g1 s1 σ H1) (Gx : Good w K gx sx (L2.wipe σ vs) Hx) (E : Ext (PD.W g1 (wipeE vs s1.env) (L2.wipe σ vs)) g1 H1 (PD.W gx sx.env (L2.wipe σ vs)) gx Hx) :
    Good w K gx ⟨restE s1.env vs sx.env, sx.ds⟩ σ Hx ∧ (∀ b, PD.W gx (restE s1.env vs sx.env) σ b → PD.W g1 s1.env σ b ∨ H1 b = none) := by
  have hl : s1.env.length = sx.env.length := by rw [G1.len, Gx.len, wipe_length]
  -- a hidden own object is not written
  have hid : ∀ {i : Nat} {o : Own} {a : Addr}, i ∈ vs → s1.env[i]? = some (.o o) → σ[i]? = some (some (.ref a)) → ¬ PD.W g1 (wipeE vs s1.env) (L2.wipe σ vs) a := fun {i o a} hi h1 h2 z => by
    rcases z with z | z
    · obtain ⟨j, o', h3, h4, h5⟩ := z.wipe
      have := G1.uniq i j o o' a h1 h4 h2 h5
      subst this
      exact h3 hi
    · exact G1.apart a ⟨i, o, h1, h2⟩ z
  have tr : ∀ {i : Nat} {o : Own} {a : Addr}, s1.env[i]? = some (.o o) → σ[i]? = some (some (.ref a)) → H1 a ≠ none := fun {i o a} h1 h2 => W_ne G1 (.inl ⟨i, o, h1, h2⟩)
  have shown : ∀ {j : Nat} {x : Option V}, j ∉ vs → σ[j]? = some x → (L2.wipe σ vs)[j]? = some x := fun {j x} hj h => by
    rw [wipe_get (List.getElem?_eq_some_iff.mp h).1, if_neg hj]; exact h
  refine ⟨⟨Gx.fr, Gx.ds, by show (restE s1.env vs sx.env).length = _; rw [restE_len, ← hl]; exact G1.len, fun j sl x h1 h2 => ?_, fun i j o o' a h1 h2 h3 h4 => ?_, fun a ⟨i, o, h1, h2⟩ z => ?_⟩, fun b hb => ?_⟩
  · rcases restE_at hl h1 with ⟨h3, h4⟩ | ⟨h3, h4⟩
    · exact Gx.env j sl x h4 (shown h3 h2)
    · have sr := G1.env j sl x h4 h2
      cases sr with
      | no => exact .no
      | d r => exact .d (r.mono E.st E.mono)
      | o r => exact .o (r.ext E (hid h3 h4 h2))
  · rcases restE_at hl h1 with ⟨h5, h6⟩ | ⟨h5, h6⟩
    · rcases restE_at hl h2 with ⟨h7, h8⟩ | ⟨h7, h8⟩
      · exact Gx.uniq i j o o' a h6 h8 (shown h5 h3) (shown h7 h4)
      · rcases E.wsub a (.inl ⟨i, o, h6, shown h5 h3⟩) with z | z
        · exact (hid h7 h8 h4 z).elim
        · exact (tr h8 h4 z).elim
    · rcases restE_at hl h2 with ⟨h7, h8⟩ | ⟨h7, h8⟩
      · rcases E.wsub a (.inl ⟨j, o', h8, shown h7 h4⟩) with z | z
        · exact (hid h5 h6 h3 z).elim
        · exact (tr h6 h3 z).elim
      · exact G1.uniq i j o o' a h6 h8 h3 h4
  · rcases restE_at hl h1 with ⟨h5, h6⟩ | ⟨h5, h6⟩
    · exact Gx.apart a ⟨i, o, h6, shown h5 h2⟩ z
    · rcases E.wsub a (.inr z) with y | y
      · exact hid h5 h6 h2 y
      · exact tr h6 h2 y
  · rcases hb with ⟨i, o, h1, h2⟩ | hb
    · rcases restE_at hl h1 with ⟨h5, h6⟩ | ⟨h5, h6⟩
      · rcases E.wsub b (.inl ⟨i, o, h6, shown h5 h2⟩) with z | z
        · refine .inl (z.elim (fun y => ?_) .inr)
          obtain ⟨j, o', _, y1, y2⟩ := y.wipe
          exact .inl ⟨j, o', y1, y2⟩
        · exact .inr z
      · exact .inl (.inl ⟨i, o, h6, h2⟩)
    · rcases E.wsub b (.inr hb) with z | z
      · refine .inl (z.elim (fun y => ?_) .inr)
        obtain ⟨j, o', _, y1, y2⟩ := y.wipe
        exact .inl ⟨j, o', y1, y2⟩
      · exact .inr z
theorem W_wipe {vs : List Nat} {g : Gh} {env : List Sl} {b : Addr} (h : PD.W g (wipeE vs env) (L2.wipe σ vs) b) : PD.W g env σ b := by
  rcases h with h | h
  · obtain ⟨j, o', _, y1, y2⟩ := h.wipe
    exact .inl ⟨j, o', y1, y2⟩
  · exact .inr h
/-- appending to a list of ours that is no slot's -/
theorem acc_app {g : Gh} {s : S} {σ : St} {H : Hp} {A : Addr} {xs : List V} {acc : List D} {y : V} {d : D} (G : Good w K g s σ H) (hA : H A = some (.lst xs)) (nF : g.F A = none) (nW : ¬ PD.W g s.env σ A) (ra : RepL w K g.st g.F xs acc) (ry : Rep w K g.st g.F y d) :
    Good w K g s σ (upd H A (.lst (xs ++ [y]))) ∧ RepL w K g.st g.F (xs ++ [y]) (acc ++ [d]) := by
  have keep : ∀ b, b ≠ A → upd H A (.lst (xs ++ [y])) b = H b := fun b hb => upd_ne hb
  refine ⟨⟨fun b o e => ?_, ?_, G.len, fun i sl x h1 h2 => ?_, G.uniq, G.apart⟩, ra.append (.one ry)⟩
  · rw [keep b (fun z => by rw [z, nF] at e; cases e)]; exact G.fr b o e
  · have := G.ds
    cases hd : s.ds with
    | none => rw [hd] at this; exact this
    | some d =>
      rw [hd] at this
      obtain ⟨sa, ca, e1, ne, h1, h2, f1, f2⟩ := this
      refine ⟨sa, ca, e1, ne, ?_, ?_, f1, f2⟩
      · rw [keep sa (fun z => nW (by rw [← z]; exact .inr ⟨sa, ca, e1, .inl rfl⟩))]; exact h1
      · rw [keep ca (fun z => nW (by rw [← z]; exact .inr ⟨sa, ca, e1, .inr rfl⟩))]; exact h2
  · have sr := G.env i sl x h1 h2
    cases sr with
    | no => exact .no
    | d r => exact .d r
    | o r =>
      rename_i a o
      have hne : a ≠ A := fun z => nW (by rw [← z]; exact .inl ⟨i, o, h1, h2⟩)
      refine .o ⟨?_, r.nf⟩
      cases o with
      | l ys => obtain ⟨us, e1, r1⟩ := r.at_; exact ⟨us, by rw [keep a hne]; exact e1, r1⟩
      | k kvs => obtain ⟨es, ep, e1, r1, r2⟩ := r.at_; exact ⟨es, ep, by rw [keep a hne]; exact e1, r1, r2⟩
theorem tLc_LE {mi : M (List D)} {ts vs : List Nat} {t : D → S → Option S} {tt : M Bool} {te : M R} {Q : VK} (hts : ∀ i ∈ ts, i ∈ vs) (h : LE w K (mLc mi t tt te vs) σ H Q) :
    tLc (LI w K mi) (LG w K ts t) (LT w K tt) (LE w K te) vs σ H Q := by
  obtain ⟨g, s, G, res, s', e, q⟩ := h
  unfold mLc at e
  cases ea : mi s with
  | none => rw [ea] at e; cases e
  | some p =>
    obtain ⟨items, s1⟩ := p
    rw [ea] at e
    simp only [Option.bind_some] at e
    cases el : lcLoop t tt te vs items (wipeS vs s1) with
    | none => rw [el] at e; cases e
    | some p2 =>
      obtain ⟨fin, sf⟩ := p2
      rw [el] at e
      simp only [Option.bind_some] at e
      split at e
      · rename_i hfin
        simp only [Option.some.injEq, Prod.mk.injEq] at e
        obtain ⟨rfl, rfl⟩ := e
        refine ⟨g, s, G, items, s1, ea, fun J g1 H1 G1 E1 IT A hA => ?_⟩
        have Gb : Good w K g1 (wipeS vs s1) (L2.wipe σ vs) H1 := G1.wipe vs
        have EP0 : ExtP g1 H1 g1 (upd H1 A (.lst [])) := ExtP.new G1.fr hA
        let σb := L2.wipe σ vs
        let Inv (i : Nat) (Hx : Hp) : Prop := ∃ gx sx xs acc rest, Good w K gx sx σb Hx ∧ Sub g1.F gx.F ∧ StLe g1.st gx.st ∧ Hx A = some (.lst xs) ∧ gx.F A = none ∧ ¬ PD.W gx sx.env σb A ∧ RepL w K gx.st gx.F xs acc ∧
          lcLoop t tt te vs (items.drop i) sx = some (rest, sf) ∧ acc ++ rest = fin ∧ Ext (PD.W g1 (wipeE vs s1.env) σb) g1 H1 (PD.W gx sx.env σb) gx Hx
        refine ⟨fun i m Hx => m = items.length - i ∧ i ≤ items.length ∧ Inv i Hx, ⟨_, rfl, Nat.zero_le _, g1, wipeS vs s1, [], [], fin, Gb.pure EP0, Sub.refl _, StLe.refl _, upd_same, G1.fr.none hA, fun z => W_ne Gb z hA, .nil, by rw [List.drop_zero]; exact el, rfl, Ext.ofP EP0⟩, ?_⟩
        rintro i m Hx ⟨rfl, hi, gx, sx, xs, acc, rest, Gx, hF, hS, hAx, nF, nW, ra, e, hfe, Ex⟩
        by_cases hlt : i < items.length
        · have hd : items.drop i = items[i] :: items.drop (i + 1) := List.drop_eq_getElem_cons hlt
          rw [hd] at e
          unfold lcLoop at e
          cases et : t items[i] sx with
          | none => rw [et] at e; cases e
          | some s2 =>
            rw [et] at e
            simp only [Option.bind_some] at e
            cases ett : tt s2 with
            | none => rw [ett] at e; cases e
            | some p3 =>
              obtain ⟨k, s3⟩ := p3
              rw [ett] at e
              simp only [Option.bind_some] at e
              obtain ⟨hgo, hy⟩ := IT.go i gx Hx hF hS Gx.fr hlt
              refine .inr ⟨hgo, fun H' => Inv (i + 1) H', fun H' h => ⟨items.length - (i + 1), by omega, rfl, hlt, h⟩, fun x H2 hx => ?_⟩
              obtain ⟨g2, EP, d, hd2, rp⟩ := hy x H2 hx
              rw [List.getElem?_eq_getElem hlt] at hd2
              cases hd2
              have G2 := Gx.pure EP
              have E2 := Ext.ofP (env := sx.env) (σ := σb) EP
              refine ⟨g2, sx, _, G2, rp, s2, et, fun σ3 g3 H3 G3 E3 O3 => ?_⟩
              have hw : L2.wipe σ3 vs = σb := by rw [wipe_off O3 hts]; exact wipe_idem σ vs
              refine ⟨hw, g3, s2, G3, k, s3, ett, fun g4 H4 G4 E4 => ?_⟩
              have E24 : Ext (PD.W gx sx.env σb) gx Hx (PD.W g4 s3.env σ3) g4 H4 := (E2.trans E3).trans E4
              -- the list stays ours
              have stays : ∀ {g5 : Gh} {s5 : S} {H5 : Hp}, Ext (PD.W gx sx.env σb) gx Hx (PD.W g5 s5.env σ3) g5 H5 → H5 A = some (.lst xs) ∧ g5.F A = none ∧ ¬ PD.W g5 s5.env σ3 A := fun {g5 s5 H5} E5 => by
                refine ⟨E5.pr A _ hAx nW, ?_, fun z => ?_⟩
                · cases qq : g5.F A with
                  | none => rfl
                  | some u =>
                    rcases E5.newF A u nF qq with z | z | ⟨ys, z⟩
                    · rw [hAx] at z; cases z
                    · exact absurd z nW
                    · rw [hAx] at z; cases z
                · rcases E5.wsub A z with y | y
                  · exact nW y
                  · rw [hAx] at y; cases y
              cases k with
              | false =>
                rw [if_neg Bool.false_ne_true] at e
                refine iteF ?_
                obtain ⟨a1, a2, a3⟩ := stays E24
                have Gw := G4.wipe vs
                rw [hw] at Gw
                have wsub : ∀ b, PD.W g4 (wipeE vs s3.env) σb b → PD.W g4 s3.env σ3 b := fun b hb => by
                  rw [← hw] at hb; exact W_wipe hb
                exact ⟨g4, wipeS vs s3, xs, acc, rest, Gw, hF.trans E24.mono, fun p hp => E24.st p (hS p hp), a1, a2, fun z => a3 (wsub _ z), ra.mono E24.st E24.mono, e, hfe, (Ex.trans E24).less fun b hb => .inl (wsub b hb)⟩
              | true =>
                rw [if_pos rfl] at e
                refine iteT ?_
                cases ete : te s3 with
                | none => rw [ete] at e; cases e
                | some p5 =>
                  obtain ⟨r5, s5⟩ := p5
                  rw [ete] at e
                  simp only [Option.bind_some] at e
                  cases esh : mShare r5 s5 with
                  | none => rw [esh] at e; cases e
                  | some p6 =>
                    obtain ⟨d6, s6⟩ := p6
                    rw [esh] at e
                    simp only [Option.bind_some] at e
                    cases erest : lcLoop t tt te vs (items.drop (i + 1)) (wipeS vs s6) with
                    | none => rw [erest] at e; cases e
                    | some p7 =>
                      obtain ⟨rest', s7⟩ := p7
                      rw [erest] at e
                      simp only [Option.bind_some, Option.some.injEq, Prod.mk.injEq] at e
                      obtain ⟨rfl, rfl⟩ := e
                      refine LE.use G4 ete fun y g5 H5 G5 E5 R5 => ?_
                      obtain ⟨g6, G6, E6, rp6, _, _⟩ := share_ok G5 R5 E5 esh
                      have E26 := E24.trans E6
                      obtain ⟨a1, a2, a3⟩ := stays E26
                      have ra6 := ra.mono E26.st E26.mono
                      have hlen : acc.length < sizeLine := by
                        have h1 : (acc ++ d6 :: rest').length = fin.length := by rw [hfe]
                        rw [List.length_append, List.length_cons] at h1
                        omega
                      refine ⟨xs, a1, by rw [ra.length]; exact hlen, ?_⟩
                      obtain ⟨G8, r8⟩ := acc_app G6 a1 a2 a3 ra6 rp6
                      have Gw := G8.wipe vs
                      rw [hw] at Gw
                      have wsub : ∀ b, PD.W g6 (wipeE vs s6.env) σb b → PD.W g6 s6.env σ3 b := fun b hb => by
                        rw [← hw] at hb; exact W_wipe hb
                      refine ⟨g6, wipeS vs s6, xs ++ [y], acc ++ [d6], rest', Gw, hF.trans E26.mono, fun p hp => E26.st p (hS p hp), upd_same, a2, fun z => a3 (wsub _ z), r8, erest, by rw [List.append_assoc]; exact hfe, ?_⟩
                      have E7 := Ex.trans E26
                      refine ⟨fun b o hb hn => ?_, fun b hb => ?_, E7.mono, E7.newF, fun b hb => E7.wsub b (wsub b hb), E7.st⟩
                      · rw [upd_ne (show b ≠ A from fun z => by rw [z, hA] at hb; cases hb)]
                        exact E7.pr b o hb hn
                      · by_cases z : b = A
                        · rw [z]; exact hA
                        · rw [upd_ne z] at hb; exact E7.dom b hb
        · have : i = items.length := by omega
          subst this
          rw [List.drop_length] at e
          have e : some (([] : List D), sx) = some (rest, sf) := e
          simp only [Option.some.injEq, Prod.mk.injEq] at e
          obtain ⟨rfl, rfl⟩ := e
          rw [List.append_nil] at hfe
          subst hfe
          refine .inl ⟨IT.stop _ gx Hx hF hS Gx.fr rfl, ?_⟩
          obtain ⟨GB, WB⟩ := Good.back (vs := vs) G1 Gx Ex
          have EB : Ext (PD.W g1 s1.env σ) g1 H1 (PD.W gx (restE s1.env vs sx.env) σ) gx Hx :=
            ⟨fun b o hb hn => Ex.pr b o hb fun z => hn (W_wipe z), Ex.dom, Ex.mono, fun b o h1 h2 => (Ex.newF b o h1 h2).elim .inl fun z => z.elim (fun y => .inr (.inl (W_wipe y))) fun y => .inr (.inr y), WB, Ex.st⟩
          refine q (.ref A) gx Hx GB (E1.trans EB) (.t (E1.dom A hA) ⟨⟨xs, hAx, ra⟩, nF⟩ fun z => ?_)
          have hl : s1.env.length = sx.env.length := by rw [G1.len, Gx.len, wipe_length]
          rcases z with ⟨i, o, h1, h2⟩ | z
          · rcases restE_at hl h1 with ⟨h5, h6⟩ | ⟨h5, h6⟩
            · exact nW (.inl ⟨i, o, h6, by rw [wipe_get (List.getElem?_eq_some_iff.mp h2).1, if_neg h5]; exact h2⟩)
            · exact W_ne G1 (.inl ⟨i, o, h6, h2⟩) hA
          · exact nW (.inr z)
      · cases e
end
end PD
namespace PD
open PySem PySem.Spec PyProof.Rows L2

section
variable {w : World} {K : PySem.W.Frag} {g : Gh} {H : Hp} {Q : VK}
abbrev Kont (w : World) (K : PySem.W.Frag) (g : Gh) (H : Hp) (Q : VK) (res : R) : Prop := ∀ v g' H', ExtP g H g' H' → RP w K H g' H' v res → Q v H'
theorem k_int {i : Int} (hf : Sub g.F H) (q : Kont w K g H Q (.d (.int i))) : Q (.int i) H := q _ g H (ExtP.refl hf) (.d (.int _))
theorem k_bl {i : Bool} (hf : Sub g.F H) (q : Kont w K g H Q (.d (.bl i))) : Q (.bl i) H := q _ g H (ExtP.refl hf) (.d (.bl _))
theorem k_non (hf : Sub g.F H) (q : Kont w K g H Q (.d .non)) : Q .non H := q _ g H (ExtP.refl hf) (.d .non)
theorem k_str {l : List Nat} (hl : StrG l) (hf : Sub g.F H) (q : Kont w K g H Q (.d (.str l))) : Q (.str (sOf l)) H := q _ g H (ExtP.refl hf) (.d (.str hl))
theorem k_rep {v : V} {d : D} (r : Rep w K g.st g.F v d) (hf : Sub g.F H) (q : Kont w K g H Q (.d d)) : Q v H := q _ g H (ExtP.refl hf) (.d r)
theorem k_lst {vs : List V} {ds : List D} (r : RepL w K g.st g.F vs ds) (hf : Sub g.F H) (q : Kont w K g H Q (.t (.l ds))) : ∀ p, H p = none → Q (.ref p) (upd H p (.lst vs)) :=
  fun p hp => q (.ref p) g _ (ExtP.new hf hp) (.t hp ⟨⟨vs, upd_same, r⟩, hf.none hp⟩)
theorem k_tup {vs : List V} {ds : List D} (r : RepL w K g.st g.F vs ds) (hf : Sub g.F H) (q : Kont w K g H Q (.d (.tup ds))) : ∀ p, H p = none → Q (.ref p) (upd H p (.tup vs)) :=
  fun p hp => q (.ref p) (frzG g (upd H p (.tup vs)) p) _ (ExtP.newF' hf hp)
    (.d (Rep.tup (SqT.of (show frzF g.F (upd H p (.tup vs)) p p = some (.tup vs) by rw [frzF_same, upd_same])) (r.mono (StLe.refl _) (ExtP.newF' hf hp).mono)))
theorem sOf_len (l : List Nat) : (sOf l).length = l.length := by show l.toArray.size = _; simp
theorem sOf_app (a b : List Nat) : sOf a ++ sOf b = sOf (a ++ b) := by show (⟨a.toArray ++ b.toArray⟩ : Str) = _; simp [sOf]
theorem sOf_cps (l : List Nat) : (sOf l).cps.toList = l := by show l.toArray.toList = l; simp
theorem sOf_inj {a b : List Nat} (h : sOf a = sOf b) : a = b := by
  have := congrArg (fun x : Str => x.cps.toList) h
  simpa [sOf] using this
theorem StrG.app {a b : List Nat} (ha : StrG a) (hb : StrG b) (h : a.length + b.length ≤ sizeLine) : StrG (a ++ b) :=
  ⟨by rw [List.length_append]; exact h, fun c hc => (List.mem_append.mp hc).elim (ha.2 c) (hb.2 c)⟩
theorem StrG.sub {a b : List Nat} (h : StrG a) (hs : ∀ c ∈ b, c ∈ a) (hl : b.length ≤ a.length) : StrG b := ⟨Nat.le_trans hl h.1, fun c hc => h.2 c (hs c hc)⟩
end

/-! ### arithmetic, comparison -/
def fAdd : D → D → Option R
  | .int i, .int j => some (.d (.int (i + j)))
  | .str a, .str b => if a.length + b.length ≤ sizeLine then some (.d (.str (a ++ b))) else none
  | .lst a, .lst b => if a.length + b.length ≤ sizeLine then some (.t (.l (a ++ b))) else none
  | .tup a, .tup b => if a.length + b.length ≤ sizeLine then some (.d (.tup (a ++ b))) else none
  | _, _ => none
def fSub : D → D → Option R
  | .int i, .int j => some (.d (.int (i - j)))
  | _, _ => none
instance (i j : Int) : Decidable (CMul i j) := by unfold CMul; infer_instance
def fMul : D → D → Option R
  | .int i, .int j => if CMul i j then some (.d (.int (i * j))) else none
  | .lst a, .int j => if -(2 ^ 63) ≤ j ∧ j < 2 ^ 63 ∧ a.length * j.toNat ≤ sizeLine then some (.t (.l (List.replicate j.toNat a).flatten)) else none
  | .tup a, .int j => if a ≠ [] ∧ 2 ≤ j ∧ j ≤ 1000 ∧ a.length ≤ 1000 then some (.d (.tup (List.replicate j.toNat a).flatten)) else none
  | _, _ => none
def fDiv : D → D → Option R
  | .int i, .int j => if j ≠ 0 ∧ j.natAbs < 1073741824 then some (.d (.int (i.fdiv j))) else none
  | _, _ => none
def fMod : D → D → Option R
  | .int i, .int j => if j ≠ 0 then some (.d (.int (i.fmod j))) else none
  | _, _ => none
def fNeg : D → Option R
  | .int i => some (.d (.int (-i)))
  | _ => none
def fShl : D → D → Option R
  | .int i, .int j => if 0 ≤ j ∧ j ≤ 1000000 ∧ i.natAbs < 2 ^ 64 then some (.d (.int (i * 2 ^ j.toNat))) else none
  | _, _ => none
def fShr : D → D → Option R
  | .int i, .int j => if 0 ≤ j then some (.d (.int (i / 2 ^ j.toNat))) else none
  | _, _ => none
def fAnd : D → D → Option R
  | .int i, .int j => some (.d (.int (Builtin.bitAnd i j)))
  | _, _ => none
def fOr : D → D → Option R
  | .int i, .int j => some (.d (.int (Builtin.bitOr i j)))
  | _, _ => none
def ltL : List Nat → List Nat → Bool := fun a b => decide (a < b)
def fLt : D → D → Option R
  | .int i, .int j => some (.d (.bl (decide (i < j))))
  | .str a, .str b => some (.d (.bl (ltL a b)))
  | _, _ => none
def fLe : D → D → Option R
  | .int i, .int j => some (.d (.bl (decide (i ≤ j))))
  | _, _ => none
def fGt : D → D → Option R
  | .int i, .int j => some (.d (.bl (decide (j < i))))
  | _, _ => none
def fGe : D → D → Option R
  | .int i, .int j => some (.d (.bl (decide (j ≤ i))))
  | _, _ => none
/-! ==: plain data -/
mutual
def pl : Nat → D → Bool
  | _, .non => true
  | _, .bl _ => true
  | _, .int _ => true
  | _, .str _ => true
  | 0, .tup _ => false
  | 0, .lst _ => false
  | n + 1, .tup xs => plAll n xs
  | n + 1, .lst xs => plAll n xs
  | _, .dct _ => false
  | _, .st => false
  | _, .scr _ => false
  | _, .cv _ => false
def plAll : Nat → List D → Bool
  | _, [] => true
  | n, x :: xs => pl n x && plAll n xs
end
mutual
def toPy : D → PyData
  | .non => .none
  | .bl b => .bool b
  | .int i => .int i
  | .str l => .str (sOf l)
  | .tup xs => .tuple (toPys xs)
  | .lst xs => .list (toPys xs)
  | .dct _ => .none
  | .st => .none
  | .scr _ => .none
  | .cv _ => .none
def toPys : List D → List PyData
  | [] => []
  | x :: xs => toPy x :: toPys xs
end
def eqD (x y : D) : Bool := PyData.eqv (toPy x) (toPy y)
def eqDs (x y : List D) : Bool := PyData.eqvAll (toPys x) (toPys y)
def fEq (x y : D) : Option R := if pl 60 x = true ∧ pl 60 y = true then some (.d (.bl (eqD x y))) else none
def fNe (x y : D) : Option R := if pl 60 x = true ∧ pl 60 y = true then some (.d (.bl (!eqD x y))) else none
def isNon : D → Option Bool
  | .non => some true
  | .bl _ => some false
  | .int _ => some false
  | .str _ => some false
  | .tup _ => some false
  | .lst _ => some false
  | .dct _ => some false
  | _ => none
def fIsN (x y : D) : Option R := match y with
  | .non => (isNon x).map fun k => .d (.bl k)
  | _ => none
def fNotN (x y : D) : Option R := match y with
  | .non => (isNon x).map fun k => .d (.bl (!k))
  | _ => none
section
variable {w : World} {K : PySem.W.Frag} {st : Option (Addr × Addr)} {F H : Hp}
theorem strOk_of {l : List Nat} (h : StrG l) : PyData.strOk (sOf l) = true := by
  unfold PyData.strOk
  rw [Array.all_eq_true]
  intro i hi
  have : (sOf l).cps[i] ∈ l := by
    have h2 := Array.getElem_mem hi
    simpa [sOf] using h2
  have := h.2 _ this
  simp only [decide_eq_true_eq]
  omega
mutual
theorem Rep.dp (hs : Sub F H) : ∀ {v : V} {d : D} (n : Nat), Rep w K st F v d → pl n d = true → Dp K H v (toPy d) ∧ (toPy d).canLay0 = true ∧ (toPy d).depth ≤ n
  | _, _, n, .non, h => ⟨.non, rfl, Nat.zero_le _⟩
  | _, _, n, .bl b, h => ⟨.bl b, rfl, Nat.zero_le _⟩
  | _, _, n, .int i, h => ⟨.int i, rfl, Nat.zero_le _⟩
  | _, _, n, .str hl, h => ⟨.str _, strOk_of hl, Nat.zero_le _⟩
  | _, _, 0, .tup _ _, h => by simp [pl] at h
  | _, _, 0, .lst _ _, h => by simp [pl] at h
  | _, _, n + 1, .tup a b, h => by
    obtain ⟨h1, h2, h3⟩ := RepL.dp hs n b (by simpa [pl] using h)
    exact ⟨.tup (hs.seqT a) h1, h2, by simp only [toPy, PyData.depth]; omega⟩
  | _, _, n + 1, .lst a b, h => by
    obtain ⟨h1, h2, h3⟩ := RepL.dp hs n b (by simpa [pl] using h)
    exact ⟨.lst (SqL.of (hs _ _ a)) h1, h2, by simp only [toPy, PyData.depth]; omega⟩
  | _, _, n, .dct _ _ _, h => by cases n <;> simp [pl] at h
  | _, _, n, .st _, h => by cases n <;> simp [pl] at h
  | _, _, n, .scr _, h => by cases n <;> simp [pl] at h
  | _, _, n, .cv _, h => by cases n <;> simp [pl] at h
theorem RepL.dp (hs : Sub F H) : ∀ {vs : List V} {ds : List D} (n : Nat), RepL w K st F vs ds → plAll n ds = true → DpAll K H vs (toPys ds) ∧ PyData.canLayAll0 (toPys ds) = true ∧ PyData.depthAll (toPys ds) ≤ n
  | _, _, n, .nil, h => ⟨.nil, rfl, Nat.zero_le _⟩
  | _, _, n, .cons a b, h => by
    simp only [plAll, Bool.and_eq_true] at h
    obtain ⟨h1, h2, h3⟩ := Rep.dp hs n a h.1
    obtain ⟨h4, h5, h6⟩ := RepL.dp hs n b h.2
    refine ⟨.cons h1 h4, ?_, ?_⟩
    · simp only [toPys, PyData.canLayAll0, h2, h5, Bool.and_self]
    · simp only [toPys, PyData.depthAll]; omega
end
theorem Rep1.dp {g : Gh} {v : V} {d : D} (hs : Sub g.F H) (n : Nat) (r : Rep1 w K H g v d) (h : pl n d = true) : Dp K H v (toPy d) ∧ (toPy d).canLay0 = true ∧ (toPy d).depth ≤ n := by
  cases r with
  | non => exact ⟨.non, rfl, Nat.zero_le _⟩
  | bl b => exact ⟨.bl b, rfl, Nat.zero_le _⟩
  | int i => exact ⟨.int i, rfl, Nat.zero_le _⟩
  | str hl => exact ⟨.str _, strOk_of hl, Nat.zero_le _⟩
  | tup a b => exact Rep.dp hs n (.tup a b) h
  | lst a b =>
    cases n with
    | zero => simp [pl] at h
    | succ n =>
      obtain ⟨h1, h2, h3⟩ := RepL.dp hs n b (by simpa [pl] using h)
      exact ⟨.lst (SqL.of a) h1, h2, by simp only [toPy, PyData.depth]; omega⟩
  | dct _ _ _ => cases n <;> simp [pl] at h
  | st _ => cases n <;> simp [pl] at h
  | scr _ => cases n <;> simp [pl] at h
  | cv _ => cases n <;> simp [pl] at h
theorem Rep1.shaped {g : Gh} {v : V} {d : D} (hs : Sub g.F H) (r : Rep1 w K H g v d) (h : pl 60 d = true) : Dp K H v (toPy d) ∧ SeqAt.shaped (toPy d) = true := by
  obtain ⟨h1, h2, h3⟩ := r.dp hs 60 h
  refine ⟨h1, ?_⟩
  unfold SeqAt.shaped
  rw [h2, Bool.true_and, decide_eq_true_eq]
  omega
theorem sOf_beq (a b : List Nat) : (sOf a == sOf b) = (a == b) := by
  by_cases h : a = b
  · subst h; simp
  · have : sOf a ≠ sOf b := fun e => h (sOf_inj e)
    rw [beq_eq_false_iff_ne.mpr h, beq_eq_false_iff_ne.mpr this]
theorem eqD_int (i j : Int) : eqD (.int i) (.int j) = (i == j) := by simp [eqD, toPy, PyData.eqv]
theorem eqD_bl (i j : Bool) : eqD (.bl i) (.bl j) = (i == j) := by simp [eqD, toPy, PyData.eqv]
theorem eqD_str (a b : List Nat) : eqD (.str a) (.str b) = (a == b) := by simp only [eqD, toPy, PyData.eqv, sOf_beq]
theorem eqD_tup (a b : List D) : eqD (.tup a) (.tup b) = eqDs a b := by simp only [eqD, eqDs, toPy, PyData.eqv]
theorem eqD_lst (a b : List D) : eqD (.lst a) (.lst b) = eqDs a b := by simp only [eqD, eqDs, toPy, PyData.eqv]
theorem eqDs_nil : eqDs [] [] = true := by simp only [eqDs, toPys, PyData.eqvAll]
theorem eqDs_cons (x y : D) (xs ys : List D) : eqDs (x :: xs) (y :: ys) = (eqD x y && eqDs xs ys) := by simp only [eqD, eqDs, toPys, PyData.eqvAll]
theorem eqDs_nc (y : D) (ys : List D) : eqDs [] (y :: ys) = false := by simp only [eqDs, toPys, PyData.eqvAll]
theorem eqDs_cn (y : D) (ys : List D) : eqDs (y :: ys) [] = false := by simp only [eqDs, toPys, PyData.eqvAll]
/-! the operators do what the functions say -/
variable {X : Cx}
abbrev rAddA (K : PySem.W.Frag) : R2 := fun x y H Q => (rI0 (fun i j => .int (i + j)) x y H Q ∨ ∃ i j, x = .str i ∧ y = .str j ∧ i.length + j.length ≤ sizeLine ∧ Q (.str (i ++ j)) H) ∨ rCat x y H Q ∨ rCatA K x y H Q
theorem r_add : OpR X (binaryOp .Add) (rAddA X.K) := (op_add.or op_add_str).or (op_cat.or op_catA)
theorem o_add : Op2 w K (rAddA K) fAdd := fun g H x y dx dy res Q hf hx hy e q => by
  unfold fAdd at e
  split at e
  · cases e; cases hx; cases hy
    exact .inl (.inl ⟨_, _, rfl, rfl, k_int hf q⟩)
  · split at e
    · rename_i hl
      cases e
      cases hx with
      | str ha =>
        cases hy with
        | str hb => exact .inl (.inr ⟨_, _, rfl, rfl, by rw [sOf_len, sOf_len]; exact hl, by rw [sOf_app]; exact k_str (ha.app hb hl) hf q⟩)
    · cases e
  · split at e
    · rename_i hl
      cases e
      cases hx with
      | lst ha ra =>
        cases hy with
        | lst hb rb => exact .inr (.inl ⟨_, _, _, _, rfl, rfl, ha, hb, by rw [ra.length, rb.length]; exact hl, k_lst (ra.append rb) hf q⟩)
    · cases e
  · split at e
    · rename_i a b hl
      cases e
      cases hx with
      | tup ha ra =>
        cases hy with
        | tup hb rb =>
          refine .inr (.inr ⟨_, _, _, _, rfl, rfl, hf.seqT ha, hf.seqT hb, by rw [ra.length, rb.length]; exact hl, fun e => ?_, fun _ e => ?_, fun _ _ => k_tup (ra.append rb) hf q⟩)
          · subst e; cases ra; exact k_rep (.tup hb rb) hf q
          · subst e; cases rb; rw [List.append_nil] at q; exact k_rep (.tup ha ra) hf q
    · cases e
  · cases e
theorem o_sub : Op2 w K (rI0 fun i j => .int (i - j)) fSub := fun g H x y dx dy res Q hf hx hy e q => by
  unfold fSub at e
  split at e
  · cases e; cases hx; cases hy; exact ⟨_, _, rfl, rfl, k_int hf q⟩
  · cases e
abbrev rMulA (K : PySem.W.Frag) : R2 := fun x y H Q => rI CMul (fun i j => .int (i * j)) x y H Q ∨ rRep x y H Q ∨ rRepT K x y H Q
theorem r_mul : OpR X (binaryOp .Mult) (rMulA X.K) := op_mul.or (op_rep.or op_repT)
theorem RepL.rep {g : Gh} {vs : List V} {ds : List D} (h : RepL w K g.st g.F vs ds) : ∀ k : Nat, RepL w K g.st g.F (List.replicate k vs).flatten (List.replicate k ds).flatten
  | 0 => .nil
  | k + 1 => by rw [List.replicate_succ, List.replicate_succ, List.flatten_cons, List.flatten_cons]; exact h.append (RepL.rep h k)
theorem o_mul : Op2 w K (rMulA K) fMul := fun g H x y dx dy res Q hf hx hy e q => by
  unfold fMul at e
  split at e
  · split at e
    · rename_i hc
      cases e; cases hx; cases hy
      exact .inl ⟨_, _, rfl, rfl, hc, k_int hf q⟩
    · cases e
  · split at e
    · rename_i hl
      cases e
      cases hx with
      | lst ha ra =>
        cases hy
        exact .inr (.inl ⟨_, _, _, rfl, rfl, ha, hl.1, hl.2.1, by rw [ra.length]; exact hl.2.2, k_lst (ra.rep _) hf q⟩)
    · cases e
  · split at e
    · rename_i hl
      cases e
      cases hx with
      | tup ha ra =>
        cases hy
        refine .inr (.inr ⟨_, _, _, rfl, rfl, hf.seqT ha, fun z => hl.1 ?_, hl.2.1, hl.2.2.1, by rw [ra.length]; exact hl.2.2.2, k_tup (ra.rep _) hf q⟩)
        subst z; cases ra; rfl
    · cases e
  · cases e
theorem o_div : Op2 w K (rI CDivN fun i j => .int (i.fdiv j)) fDiv := fun g H x y dx dy res Q hf hx hy e q => by
  unfold fDiv at e
  split at e
  · split at e
    · rename_i hc
      cases e; cases hx; cases hy; exact ⟨_, _, rfl, rfl, hc, k_int hf q⟩
    · cases e
  · cases e
theorem o_mod : Op2 w K (rI (fun _ j => j ≠ 0) fun i j => .int (i.fmod j)) fMod := fun g H x y dx dy res Q hf hx hy e q => by
  unfold fMod at e
  split at e
  · split at e
    · rename_i hc
      cases e; cases hx; cases hy; exact ⟨_, _, rfl, rfl, hc, k_int hf q⟩
    · cases e
  · cases e
theorem o_shl : Op2 w K (rI CPow fun i j => .int (i * 2 ^ j.toNat)) fShl := fun g H x y dx dy res Q hf hx hy e q => by
  unfold fShl at e
  split at e
  · split at e
    · rename_i hc
      cases e; cases hx; cases hy; exact ⟨_, _, rfl, rfl, hc, k_int hf q⟩
    · cases e
  · cases e
theorem o_shr : Op2 w K (rI (fun _ j => 0 ≤ j) fun i j => .int (i / 2 ^ j.toNat)) fShr := fun g H x y dx dy res Q hf hx hy e q => by
  unfold fShr at e
  split at e
  · split at e
    · rename_i hc
      cases e; cases hx; cases hy; exact ⟨_, _, rfl, rfl, hc, k_int hf q⟩
    · cases e
  · cases e
theorem o_and : Op2 w K (rI0 fun i j => .int (Builtin.bitAnd i j)) fAnd := fun g H x y dx dy res Q hf hx hy e q => by
  unfold fAnd at e
  split at e
  · cases e; cases hx; cases hy; exact ⟨_, _, rfl, rfl, k_int hf q⟩
  · cases e
theorem o_or : Op2 w K (rI0 fun i j => .int (Builtin.bitOr i j)) fOr := fun g H x y dx dy res Q hf hx hy e q => by
  unfold fOr at e
  split at e
  · cases e; cases hx; cases hy; exact ⟨_, _, rfl, rfl, k_int hf q⟩
  · cases e
theorem o_neg : Op1 w K (rU fun i => .int (-i)) fNeg := fun g H x dx res Q hf hx e q => by
  unfold fNeg at e
  split at e
  · cases e; cases hx; exact ⟨_, rfl, k_int hf q⟩
  · cases e
abbrev rLtA : R2 := fun x y H Q => rI0 (fun i j => .bl (decide (i < j))) x y H Q ∨ ∃ i j, x = .str i ∧ y = .str j ∧ Q (.bl (decide (i.cps.toList < j.cps.toList))) H
theorem r_lt : OpR X (compareOp .Lt) rLtA := op_lt.or op_lt_str
theorem o_lt : Op2 w K rLtA fLt := fun g H x y dx dy res Q hf hx hy e q => by
  unfold fLt at e
  split at e
  · cases e; cases hx; cases hy; exact .inl ⟨_, _, rfl, rfl, k_bl hf q⟩
  · cases e
    cases hx with
    | str ha => cases hy with
      | str hb => exact .inr ⟨_, _, rfl, rfl, by rw [sOf_cps, sOf_cps]; exact k_bl hf q⟩
  · cases e
theorem o_le : Op2 w K (rI0 fun i j => .bl (decide (i ≤ j))) fLe := fun g H x y dx dy res Q hf hx hy e q => by
  unfold fLe at e
  split at e
  · cases e; cases hx; cases hy; exact ⟨_, _, rfl, rfl, k_bl hf q⟩
  · cases e
theorem o_gt : Op2 w K (rI0 fun i j => .bl (decide (j < i))) fGt := fun g H x y dx dy res Q hf hx hy e q => by
  unfold fGt at e
  split at e
  · cases e; cases hx; cases hy; exact ⟨_, _, rfl, rfl, k_bl hf q⟩
  · cases e
theorem o_ge : Op2 w K (rI0 fun i j => .bl (decide (j ≤ i))) fGe := fun g H x y dx dy res Q hf hx hy e q => by
  unfold fGe at e
  split at e
  · cases e; cases hx; cases hy; exact ⟨_, _, rfl, rfl, k_bl hf q⟩
  · cases e
theorem o_eq : Op2 w K (rEqD K) fEq := fun g H x y dx dy res Q hf hx hy e q => by
  unfold fEq at e
  split at e
  · rename_i h
    cases e
    obtain ⟨h1, h2⟩ := hx.shaped hf h.1
    obtain ⟨h3, h4⟩ := hy.shaped hf h.2
    exact ⟨_, _, h1, h3, h2, h4, k_bl hf q⟩
  · cases e
theorem o_ne : Op2 w K (rNeD K) fNe := fun g H x y dx dy res Q hf hx hy e q => by
  unfold fNe at e
  split at e
  · rename_i h
    cases e
    obtain ⟨h1, h2⟩ := hx.shaped hf h.1
    obtain ⟨h3, h4⟩ := hy.shaped hf h.2
    exact ⟨_, _, h1, h3, h2, h4, k_bl hf q⟩
  · cases e
theorem isNon_ok {g : Gh} {x : V} {d : D} {k : Bool} (h : Rep1 w K H g x d) (e : isNon d = some k) : decide (x = .non) = k := by
  cases h <;> first | (cases e; rfl) | cases e
abbrev rIsN : R2 := fun x y H Q => y = .non ∧ Q (.bl (decide (x = .non))) H
abbrev rNotN : R2 := fun x y H Q => y = .non ∧ Q (.bl (!decide (x = .non))) H
theorem o_isN : Op2 w K rIsN fIsN := fun g H x y dx dy res Q hf hx hy e q => by
  unfold fIsN at e
  split at e
  · cases e' : isNon dx with
    | none => rw [e'] at e; cases e
    | some k =>
      rw [e'] at e
      cases e
      cases hy
      exact ⟨rfl, by rw [isNon_ok hx e']; exact k_bl hf q⟩
  · cases e
theorem o_notN : Op2 w K rNotN fNotN := fun g H x y dx dy res Q hf hx hy e q => by
  unfold fNotN at e
  split at e
  · cases e' : isNon dx with
    | none => rw [e'] at e; cases e
    | some k =>
      rw [e'] at e
      cases e
      cases hy
      exact ⟨rfl, by rw [isNon_ok hx e']; exact k_bl hf q⟩
  · cases e
end
end PD
namespace PD
open PySem PySem.Spec PyProof.Rows L2

/-! ### dicts, entry by entry -/
mutual
/-- the value v of the abstract heap is the key nk -/
inductive KeyV (K : PySem.W.Frag) (H : Hp) : V → NestedKey → Prop
  | int (i : Int) : KeyV K H (.int i) (.num i)
  | str (x : Str) : KeyV K H (.str x) (.text x)
  | non : KeyV K H .non .none
  | tup {a : Addr} {vs : List V} {ks : List NestedKey} : SqT K H a vs → KeyVs K H vs ks → KeyV K H (.ref a) (.tup ks)
inductive KeyVs (K : PySem.W.Frag) (H : Hp) : List V → List NestedKey → Prop
  | nil : KeyVs K H [] []
  | cons {v : V} {vs : List V} {k : NestedKey} {ks : List NestedKey} : KeyV K H v k → KeyVs K H vs ks → KeyVs K H (v :: vs) (k :: ks)
end
section
variable {w : World} {K : PySem.W.Frag} {st : Option (Addr × Addr)} {F H : Hp}
mutual
theorem Rep.key (hs : Sub F H) : ∀ {v : V} {d : D} {nk : NestedKey}, Rep w K st F v d → toNK d = some nk → KeyV K H v nk
  | _, _, _, .non, e => by simp only [toNK, Option.some.injEq] at e; subst e; exact .non
  | _, _, _, .bl _, e => by simp [toNK] at e
  | _, _, _, .int i, e => by simp only [toNK, Option.some.injEq] at e; subst e; exact .int i
  | _, _, _, .str _, e => by simp only [toNK, Option.some.injEq] at e; subst e; exact .str _
  | _, _, _, .tup a b, e => by
    simp only [toNK, Option.map_eq_some_iff] at e
    obtain ⟨ks, e1, e2⟩ := e
    subst e2
    exact .tup (hs.seqT a) (RepL.keys hs b e1)
  | _, _, _, .lst _ _, e => by simp [toNK] at e
  | _, _, _, .scr _, e => by simp [toNK] at e
  | _, _, _, .dct _ _ _, e => by simp [toNK] at e
  | _, _, _, .st _, e => by simp [toNK] at e
  | _, _, _, .cv _, e => by simp [toNK] at e
theorem RepL.keys (hs : Sub F H) : ∀ {vs : List V} {ds : List D} {ks : List NestedKey}, RepL w K st F vs ds → toNKs ds = some ks → KeyVs K H vs ks
  | _, _, _, .nil, e => by simp only [toNKs, Option.some.injEq] at e; subst e; exact .nil
  | _, _, _, .cons a b, e => by
    simp only [toNKs] at e
    split at e
    · rename_i k ks e1 e2
      cases e
      exact .cons (Rep.key hs a e1) (RepL.keys hs b e2)
    · cases e
end
theorem Rep1.key {g : Gh} (hs : Sub g.F H) {v : V} {d : D} {nk : NestedKey} (r : Rep1 w K H g v d) (e : toNK d = some nk) : KeyV K H v nk := by
  cases r with
  | non => simp only [toNK, Option.some.injEq] at e; subst e; exact .non
  | bl _ => simp [toNK] at e
  | int i => simp only [toNK, Option.some.injEq] at e; subst e; exact .int i
  | str h => simp only [toNK, Option.some.injEq] at e; subst e; exact .str _
  | tup a b => exact Rep.key (F := g.F) (st := g.st) hs (.tup a b) e
  | lst _ _ => simp [toNK] at e
  | scr _ => simp [toNK] at e
  | dct _ _ _ => simp [toNK] at e
  | st _ => simp [toNK] at e
  | cv _ => simp [toNK] at e
mutual
theorem KeyV.mono {H' : Hp} (hs : Sub H H') : ∀ {v : V} {nk : NestedKey}, KeyV K H v nk → KeyV K H' v nk
  | _, _, .int i => .int i
  | _, _, .str x => .str x
  | _, _, .non => .non
  | _, _, .tup a b => .tup (hs.seqT a) (KeyVs.mono hs b)
theorem KeyVs.mono {H' : Hp} (hs : Sub H H') : ∀ {v : List V} {nk : List NestedKey}, KeyVs K H v nk → KeyVs K H' v nk
  | _, _, .nil => .nil
  | _, _, .cons a b => .cons (KeyV.mono hs a) (KeyVs.mono hs b)
end
mutual
/-- a write of a dict changes no key -/
theorem KeyV.upd {a : Addr} {o o' : HO} (ho : H a = some o) (nt : ∀ xs, o ≠ .tup xs) (nf : ∀ q xs, o ≠ .frz q (.tup xs)) : ∀ {v : V} {nk : NestedKey}, KeyV K H v nk → KeyV K (L2.upd H a o') v nk
  | _, _, .int i => .int i
  | _, _, .str x => .str x
  | _, _, .non => .non
  | _, _, .tup b c => .tup (by
      rcases b with (h | ⟨q, h⟩) | h
      · refine .inl (.inl ?_)
        rw [upd_ne (fun e => by rw [e, ho] at h; cases h; exact nt _ rfl)]; exact h
      · refine .inl (.inr ⟨q, ?_⟩)
        rw [upd_ne (fun e => by rw [e, ho] at h; cases h; exact nf _ _ rfl)]; exact h
      · exact .inr h) (KeyVs.upd ho nt nf c)
theorem KeyVs.upd {a : Addr} {o o' : HO} (ho : H a = some o) (nt : ∀ xs, o ≠ .tup xs) (nf : ∀ q xs, o ≠ .frz q (.tup xs)) : ∀ {v : List V} {nk : List NestedKey}, KeyVs K H v nk → KeyVs K (L2.upd H a o') v nk
  | _, _, .nil => .nil
  | _, _, .cons a b => .cons (KeyV.upd ho nt nf a) (KeyVs.upd ho nt nf b)
end
end
section
variable {X : Cx} {pins : List (Addr × Obj)} {σ : L2.St} {H : Hp} {s : Shared}
mutual
theorem KeyV.is (I : Inv X pins σ H s) : ∀ {v : V} {nk : NestedKey} {u : Value}, KeyV X.K H v nk → RelV v u → NestedIs s.heap nk u
  | _, _, _, .int i, r => by obtain ⟨t, rfl⟩ := r; exact .int i t
  | _, _, _, .str x, r => by obtain ⟨t, rfl⟩ := r; exact .text x t
  | _, _, _, .non, r => by cases r; exact .none
  | _, _, _, .tup a b, r => by
    cases r
    obtain ⟨its, rv, ⟨o, ho, hc, n, hd⟩, _⟩ := I.tuple a
    exact .tup ho hc hd (by simpa using KeyVs.is I b rv)
theorem KeyVs.is (I : Inv X pins σ H s) : ∀ {vs : List V} {ks : List NestedKey} {us : List Value}, KeyVs X.K H vs ks → Vals vs us → NestedAll s.heap ks us
  | _, _, _, .nil, r => by cases r; exact .nil
  | _, _, _, .cons a b, r => by
    cases r with
    | cons r1 r2 => exact .cons (KeyV.is I a r1) (KeyVs.is I b r2)
end
end
/-- a key by value: an int, a text -/
def nkKey : NestedKey → Option Key
  | .num i => some (.inl i)
  | .text x => some (.inr x)
  | _ => none
def nkTup : NestedKey → Bool
  | .tup _ => true
  | _ => false
abbrev XE := NestedKey × V × V
/-- an entry and what it is -/
def EntV (w : World) (e : DictEntry) (x : XE) : Prop := RelV x.2.1 e.key ∧ RelV x.2.2 e.val ∧ e.hash = x.1.hash w
/-- what a dict holds, by values -/
structure DV (w : World) (K : PySem.W.Frag) (H : Hp) (a : Addr) (xs : List XE) : Prop where
  ex : ∃ es ep, H a = some (dxO a es ep) ∧ Paired (EntV w) es.toList xs
  key : ∀ x ∈ xs, KeyV K H x.2.1 x.1 ∧ x.1.depth ≤ 8
  fam : (∀ x ∈ xs, (nkKey x.1).isSome = true) ∨ (∀ x ∈ xs, nkTup x.1 = true)
  nd : (xs.map (·.1)).Nodup
def getX (xs : List XE) (k : NestedKey) : Option V := (xs.find? fun x => decide (x.1 = k)).map (·.2.2)
def putX (xs : List XE) (k : NestedKey) (kv v : V) : List XE := if (getX xs k).isSome then xs.map (fun x => if x.1 = k then (x.1, x.2.1, v) else x) else xs ++ [(k, kv, v)]
/-- the key goes with the keys there are -/
def FamOk (xs : List XE) (k : NestedKey) : Prop := ((nkKey k).isSome = true ∧ ∀ x ∈ xs, (nkKey x.1).isSome = true) ∨ (nkTup k = true ∧ ∀ x ∈ xs, nkTup x.1 = true)
theorem nkKey_v {w : World} {K : PySem.W.Frag} {H : Hp} {v : V} {k : NestedKey} {c : Key} (h : KeyV K H v k) (e : nkKey k = some c) : v = kV c ∧ k.hash w = keyH w c := by
  cases h with
  | int i => cases e; exact ⟨rfl, rfl⟩
  | str x => cases e; exact ⟨rfl, rfl⟩
  | non => cases e
  | tup _ _ => cases e
theorem nkTup_v {K : PySem.W.Frag} {H : Hp} {v : V} {k : NestedKey} (h : KeyV K H v k) (e : nkTup k = true) : ∃ a, v = .ref a := by
  cases h with
  | int i => cases e
  | str x => cases e
  | non => cases e
  | tup _ _ => exact ⟨_, rfl⟩
theorem nkKey_inj {a b : NestedKey} {c : Key} (h : nkKey a = some c) (h' : nkKey b = some c) : a = b := by
  cases a <;> cases b <;> simp_all [nkKey] <;> (cases c <;> simp_all)
/-! the library's forms -/
section
variable {P : Program} {w : World} {K : PySem.W.Frag} {H : Hp}
abbrev Rk (x : XE) (q : Key × Value) : Prop := nkKey x.1 = some q.1 ∧ x.2.1 = kV q.1 ∧ RelV x.2.2 q.2
abbrev Rt (x : XE) (y : NestedKey × Addr × Value) : Prop := x.1 = y.1 ∧ x.2.1 = .ref y.2.1 ∧ RelV x.2.2 y.2.2
theorem ent_k : ∀ {es : List DictEntry} {xs : List XE}, Paired (EntV w) es xs → (∀ x ∈ xs, KeyV K H x.2.1 x.1) → (∀ x ∈ xs, (nkKey x.1).isSome = true) →
    ∃ vs : List (Key × Value), Pairs (mixKind P w) es vs ∧ (∀ e ∈ es, ∃ c, (mixKind P w).is c e.key = true ∧ e.hash = (mixKind P w).hash c) ∧ Paired Rk xs vs
  | _, _, .nil, _, _ => ⟨[], .nil, fun _ h => (by cases h), .nil⟩
  | _, _, .cons (a := e) (b := x) r t, hk, hs => by
    obtain ⟨vs, h1, h2, h3⟩ := ent_k t (fun y hy => hk y (List.mem_cons_of_mem _ hy)) (fun y hy => hs y (List.mem_cons_of_mem _ hy))
    obtain ⟨c, hc⟩ := Option.isSome_iff_exists.mp (hs x List.mem_cons_self)
    obtain ⟨ev, eh⟩ := nkKey_v (w := w) (hk x List.mem_cons_self) hc
    obtain ⟨r1, r2, r3⟩ := r
    have his : (mixKind P w).is c e.key = true := kV_is (by rw [← ev]; exact r1)
    refine ⟨(c, e.val) :: vs, .cons his rfl h1, fun e' he => ?_, .cons ⟨hc, ev, r2⟩ h3⟩
    rcases List.mem_cons.mp he with rfl | he
    · exact ⟨c, his, r3.trans eh⟩
    · exact h2 e' he
theorem ent_t : ∀ {es : List DictEntry} {xs : List XE}, Paired (EntV w) es xs → (∀ x ∈ xs, KeyV K H x.2.1 x.1) → (∀ x ∈ xs, nkTup x.1 = true) →
    ∃ ys : List (NestedKey × Addr × Value), es = ys.map (entryOfKey (nestedKind P w)) ∧ Paired Rt xs ys
  | _, _, .nil, _, _ => ⟨[], rfl, .nil⟩
  | _, _, .cons (a := e) (b := x) r t, hk, hs => by
    obtain ⟨ys, h1, h2⟩ := ent_t t (fun y hy => hk y (List.mem_cons_of_mem _ hy)) (fun y hy => hs y (List.mem_cons_of_mem _ hy))
    obtain ⟨b, hb⟩ := nkTup_v (hk x List.mem_cons_self) (hs x List.mem_cons_self)
    obtain ⟨r1, r2, r3⟩ := r
    rw [hb] at r1
    have r1 : e.key = .ref b := r1
    refine ⟨(x.1, b, e.val) :: ys, ?_, .cons ⟨rfl, hb, r2⟩ h2⟩
    rw [h1, List.map_cons]
    obtain ⟨eh, ek, ev⟩ := e
    simp only at r1 r3
    subst r1 r3
    rfl
theorem rk_get {k : NestedKey} {c : Key} (hc : nkKey k = some c) : ∀ {xs : List XE} {vs : List (Key × Value)}, Paired Rk xs vs → RelO (getX xs k) (valueAt vs c)
  | _, _, .nil => trivial
  | _, _, .cons (a := x) (b := q) r t => by
    have ih := rk_get hc t
    unfold getX valueAt at ih ⊢
    rw [List.find?_cons, List.find?_cons]
    by_cases e : x.1 = k
    · have e2 : q.1 = c := by
        have := r.1
        rw [e, hc] at this
        exact (Option.some.inj this).symm
      rw [decide_eq_true e, decide_eq_true e2]
      exact r.2.2
    · have e2 : ¬ q.1 = c := fun z => e (nkKey_inj (by rw [r.1, z]) hc)
      rw [decide_eq_false e, decide_eq_false e2]
      exact ih
theorem rt_get {k : NestedKey} : ∀ {xs : List XE} {ys : List (NestedKey × Addr × Value)}, Paired Rt xs ys → RelO (getX xs k) ((atKey ys k).map (·.2))
  | _, _, .nil => trivial
  | _, _, .cons (a := x) (b := q) r t => by
    have ih := rt_get (k := k) t
    unfold getX atKey at ih ⊢
    rw [List.find?_cons, List.find?_cons]
    by_cases e : x.1 = k
    · rw [decide_eq_true e, decide_eq_true (r.1 ▸ e)]
      exact r.2.2
    · rw [decide_eq_false e, decide_eq_false (fun z => e (r.1.trans z))]
      exact ih
theorem any_valueAt (vs : List (Key × Value)) (c : Key) : (vs.any fun kv => decide (kv.1 = c)) = (valueAt vs c).isSome := by
  induction vs with
  | nil => rfl
  | cons q r ih =>
    unfold valueAt at ih ⊢
    rw [List.any_cons, List.find?_cons]
    by_cases e : q.1 = c
    · simp [e]
    · simp only [e, decide_false, Bool.false_or]
      exact ih
theorem rk_map {k : NestedKey} {c : Key} {v : V} {u : Value} (hc : nkKey k = some c) (rv : RelV v u) : ∀ {xs : List XE} {vs : List (Key × Value)}, Paired Rk xs vs →
    Paired Rk (xs.map fun x => if x.1 = k then (x.1, x.2.1, v) else x) (vs.map fun kv => if kv.1 = c then (kv.1, u) else kv)
  | _, _, .nil => .nil
  | _, _, .cons (a := x) (b := q) r t => by
    refine .cons ?_ (rk_map hc rv t)
    by_cases e : x.1 = k
    · have e2 : q.1 = c := by
        have := r.1
        rw [e, hc] at this
        exact (Option.some.inj this).symm
      show Rk (if x.1 = k then (x.1, x.2.1, v) else x) (if q.1 = c then (q.1, u) else q)
      rw [if_pos e, if_pos e2]
      exact ⟨r.1, r.2.1, rv⟩
    · have e2 : ¬ q.1 = c := fun z => e (nkKey_inj (by rw [r.1, z]) hc)
      show Rk (if x.1 = k then (x.1, x.2.1, v) else x) (if q.1 = c then (q.1, u) else q)
      rw [if_neg e, if_neg e2]
      exact r
theorem paired_app {α β : Type} {F : α → β → Prop} : ∀ {xs : List α} {ys : List β} {xs' : List α} {ys' : List β}, Paired F xs ys → Paired F xs' ys' → Paired F (xs ++ xs') (ys ++ ys')
  | _, _, _, _, .nil, h => h
  | _, _, _, _, .cons r t, h => .cons r (paired_app t h)
theorem rk_put {k : NestedKey} {c : Key} {v : V} {u : Value} (hc : nkKey k = some c) (rv : RelV v u) {xs : List XE} {vs : List (Key × Value)} (h : Paired Rk xs vs) : Paired Rk (putX xs k (kV c) v) (stored vs c u) := by
  have e : (getX xs k).isSome = (vs.any fun kv => decide (kv.1 = c)) := by rw [any_valueAt]; exact (rk_get hc h).isSome_eq
  unfold putX stored
  rw [e]
  split
  · exact rk_map hc rv h
  · exact paired_app h (.cons ⟨hc, rfl, rv⟩ .nil)
theorem rt_map {k : NestedKey} {v : V} {u : Value} (rv : RelV v u) : ∀ {xs : List XE} {ys : List (NestedKey × Addr × Value)}, Paired Rt xs ys →
    Paired Rt (xs.map fun x => if x.1 = k then (x.1, x.2.1, v) else x) (ys.map (putAt k u))
  | _, _, .nil => .nil
  | _, _, .cons (a := x) (b := q) r t => by
    refine .cons ?_ (rt_map rv t)
    show Rt (if x.1 = k then (x.1, x.2.1, v) else x) (if q.1 = k then (q.1, q.2.1, u) else q)
    by_cases e : x.1 = k
    · rw [if_pos e, if_pos (r.1 ▸ e)]
      exact ⟨r.1, r.2.1, rv⟩
    · rw [if_neg e, if_neg (fun z => e (r.1.trans z))]
      exact r
theorem rt_put {k : NestedKey} {b : Addr} {v : V} {u : Value} (rv : RelV v u) {xs : List XE} {ys : List (NestedKey × Addr × Value)} (h : Paired Rt xs ys) : Paired Rt (putX xs k (.ref b) v) (storedH ys k b u) := by
  have e : (getX xs k).isSome = (atKey ys k).isSome := by
    have := (rt_get (k := k) h).isSome_eq
    rw [Option.isSome_map] at this
    exact this
  unfold putX storedH
  rw [e]
  split
  · exact rt_map rv h
  · exact paired_app h (.cons ⟨rfl, rfl, rv⟩ .nil)
theorem back_k : ∀ {es : List DictEntry} {xs : List XE} {vs : List (Key × Value)}, Pairs (mixKind P w) es vs → (∀ e ∈ es, ∃ c, (mixKind P w).is c e.key = true ∧ e.hash = (mixKind P w).hash c) → Paired Rk xs vs → Paired (EntV w) es xs
  | _, _, _, .nil, _, h => by cases h; exact .nil
  | _, _, _, .cons (e := e) hi hv t, hk, h => by
    cases h with
    | cons r rt =>
      rename_i x xs
      refine .cons ⟨?_, ?_, ?_⟩ (back_k t (fun e' he => hk e' (List.mem_cons_of_mem _ he)) rt)
      · rw [r.2.1]
        rcases keyIs_shape hi with ⟨i, t, e1, e2⟩ | ⟨y, t, e1, e2⟩
        · rw [e1, e2]; exact ⟨t, rfl⟩
        · rw [e1, e2]; exact ⟨t, rfl⟩
      · rw [hv]; exact r.2.2
      · obtain ⟨c, h1, h2⟩ := hk e List.mem_cons_self
        have := (mixKind P w).inj _ _ _ h1 hi
        subst this
        rw [h2]
        have hn := r.1
        cases hx : x.1 with
        | none => rw [hx] at hn; cases hn
        | num i => rw [hx] at hn; rw [← Option.some.inj hn]; rfl
        | text y => rw [hx] at hn; rw [← Option.some.inj hn]; rfl
        | tup _ => rw [hx] at hn; cases hn
theorem back_t : ∀ {xs : List XE} {ys : List (NestedKey × Addr × Value)}, Paired Rt xs ys → Paired (EntV w) (ys.map (entryOfKey (nestedKind P w))) xs
  | _, _, .nil => .nil
  | _, _, .cons r t => .cons ⟨by rw [r.2.1]; rfl, r.2.2, by rw [r.1]; rfl⟩ (back_t t)
end
section
variable {X : Cx} {pins : List (Addr × Obj)} {σ : L2.St} {H : Hp} {s : Shared} {A : Around} {E : Value → Shared → Prop} {a : Addr} {xs : List XE} {k : NestedKey} {y v : V} {u r : Value}
theorem rk_keys {xs : List XE} {vs : List (Key × Value)} (h : Paired Rk xs vs) : vs.map (fun q => some q.1) = xs.map (fun x => nkKey x.1) := by
  induction h with
  | nil => rfl
  | cons r _ ih => rw [List.map_cons, List.map_cons, ih, r.1]
theorem rt_keys {xs : List XE} {ys : List (NestedKey × Addr × Value)} (h : Paired Rt xs ys) : ys.map (·.1) = xs.map (·.1) := by
  induction h with
  | nil => rfl
  | cons r _ ih => rw [List.map_cons, List.map_cons, ih, r.1]
theorem paired_at2 {α β : Type} {F : α → β → Prop} : ∀ {xs : List α} {ys : List β} {i : Nat} {y : β}, Paired F xs ys → ys[i]? = some y → ∃ x, xs[i]? = some x ∧ F x y
  | _, _, i, _, .nil, e => by simp at e
  | _, _, 0, _, .cons r _, e => by simp only [List.getElem?_cons_zero, Option.some.injEq] at e; subst e; exact ⟨_, rfl, r⟩
  | _, _, i + 1, _, .cons _ t, e => paired_at2 (i := i) t (by simpa using e)
theorem nd_keys : ∀ {xs : List XE}, (xs.map (·.1)).Nodup → (∀ x ∈ xs, (nkKey x.1).isSome = true) → (xs.map fun x => nkKey x.1).Nodup
  | [], _, _ => List.nodup_nil
  | x :: r, hn, h2 => by
    rw [List.map_cons, List.nodup_cons] at hn ⊢
    refine ⟨fun hm => ?_, nd_keys hn.2 (fun y hy => h2 y (List.mem_cons_of_mem _ hy))⟩
    obtain ⟨z, hz, ez⟩ := List.mem_map.mp hm
    obtain ⟨c, hc⟩ := Option.isSome_iff_exists.mp (h2 x List.mem_cons_self)
    exact hn.1 (by rw [nkKey_inj hc (ez.trans hc)]; exact List.mem_map.mpr ⟨z, hz, rfl⟩)
/-- the two forms -/
theorem DV.forms (I : Inv X pins σ H s) (D : DV X.w X.K H a xs) (F : FamOk xs k) : (a == sysModules) = false ∧ xs.length ≤ sizeLine ∧
    ((∃ c vs, nkKey k = some c ∧ s.heap.DictOf (mixKind X.prog X.w) a vs ∧ Paired Rk xs vs) ∨ (nkTup k = true ∧ ∃ ys, s.heap.DictOfH (nestedKind X.prog X.w) a ys ∧ Paired Rt xs ys)) := by
  obtain ⟨es, ep, e, hp⟩ := D.ex
  obtain ⟨⟨ho, hS, hz⟩, _⟩ := I.hok a _ e
  have hl := hp.length
  simp only [Array.length_toList] at hl
  refine ⟨hS, by omega, ?_⟩
  rcases F with ⟨h1, h2⟩ | ⟨h1, h2⟩
  · obtain ⟨c, hc⟩ := Option.isSome_iff_exists.mp h1
    obtain ⟨vs, q1, q2, q3⟩ := ent_k (P := X.prog) hp (fun x hx => (D.key x hx).1) h2
    refine .inl ⟨c, vs, hc, ⟨_, es, ep, ho, ⟨rfl, rfl, rfl⟩, rfl, fun e he => q2 e (by simpa using he), q1, ?_⟩, q3⟩
    have nd := nd_keys D.nd h2
    rw [← rk_keys q3] at nd
    have nd2 : ((vs.map (·.1)).map some).Nodup := by rw [List.map_map]; exact nd
    exact (List.pairwise_map.mp nd2).imp fun hne e => hne (by rw [e])
  · obtain ⟨ys, q1, q2⟩ := ent_t (P := X.prog) hp (fun x hx => (D.key x hx).1) h2
    refine .inr ⟨h1, ys, ⟨_, es, ep, ho, ⟨rfl, rfl, rfl⟩, rfl, q1, fun y hy => ?_, ?_⟩, q2⟩
    · obtain ⟨i, hi⟩ := List.mem_iff_getElem?.mp hy
      obtain ⟨x, hx, rx⟩ := paired_at2 q2 hi
      obtain ⟨kx, dx⟩ := D.key x (List.mem_of_getElem? hx)
      rw [rx.1, rx.2.1] at kx
      exact ⟨kx.is I rfl, by rw [← rx.1]; exact dx⟩
    · rw [rt_keys q2]; exact D.nd
theorem key_room (hu : A.units + 64 < cLine) : (nestedKind X.prog X.w).room A.in1 := by show A.units + 1 + 8 < cLine; omega
theorem dx_get {Q : Value → Shared → Prop} (hu : A.units + 64 < cLine) (I : Inv X pins σ H s) (D : DV X.w X.K H a xs) (F : FamOk xs k) (hk : KeyV X.K H y k) (hd : k.depth ≤ 8) (g : getX xs k = some v) (ry : RelV y u)
    (h : ∀ w' s', Inv X pins σ H s' → RelV v w' → Q w' s') : wpAny (model X.prog X.w) A (getItem (.ref a) u) Q E s := by
  obtain ⟨hS, hz, ⟨c, vs, hc, dd, rel⟩ | ⟨ht, ys, dd, rel⟩⟩ := D.forms I F
  · obtain ⟨w', hw, rw'⟩ := RelO.some_of (v := v) (o := valueAt vs c) (by rw [← g]; exact rk_get hc rel)
    exact wpAny_getItem_of (kV_is (by rw [← (nkKey_v (w := X.w) hk hc).1]; exact ry)) dd.mapOf hw (h w' _ (I.tok _) rw')
  · obtain ⟨b, rfl⟩ := nkTup_v hk ht
    cases (show u = Value.ref b from ry)
    obtain ⟨w', hw, rw'⟩ := RelO.some_of (v := v) (o := (atKey ys k).map (·.2)) (by rw [← g]; exact rt_get rel)
    obtain ⟨p, hp, hp2⟩ := Option.map_eq_some_iff.mp hw
    exact wpAny_getItem_heap (key_room (X := X) hu) ⟨hk.is I rfl, hd⟩ dd hp (by rw [hp2]; exact h w' _ (I.tok _) rw')
theorem dx_in {Q : Value → Shared → Prop} (hu : A.units + 64 < cLine) (I : Inv X pins σ H s) (D : DV X.w X.K H a xs) (F : FamOk xs k) (hk : KeyV X.K H y k) (hd : k.depth ≤ 8) (ry : RelV y u)
    (h : ∀ s', Inv X pins σ H s' → Q (.bool (getX xs k).isSome) s') : wpAny (model X.prog X.w) A (compareOp .In u (.ref a)) Q E s := by
  obtain ⟨hS, hz, ⟨c, vs, hc, dd, rel⟩ | ⟨ht, ys, dd, rel⟩⟩ := D.forms I F
  · refine wpAny_in_of (kV_is (by rw [← (nkKey_v (w := X.w) hk hc).1]; exact ry)) hS dd.mapOf ?_
    rw [← (rk_get hc rel).isSome_eq]
    exact h _ (I.tok _)
  · obtain ⟨b, rfl⟩ := nkTup_v hk ht
    cases (show u = Value.ref b from ry)
    have e := (rt_get (k := k) rel).isSome_eq
    rw [Option.isSome_map] at e
    exact wpAny_in_heap (key_room (X := X) hu) ⟨hk.is I rfl, hd⟩ hS dd (by rw [← e]; exact h _ (I.tok _))
theorem dx_notIn {Q : Value → Shared → Prop} (hu : A.units + 64 < cLine) (I : Inv X pins σ H s) (D : DV X.w X.K H a xs) (F : FamOk xs k) (hk : KeyV X.K H y k) (hd : k.depth ≤ 8) (ry : RelV y u)
    (h : ∀ s', Inv X pins σ H s' → Q (.bool (!(getX xs k).isSome)) s') : wpAny (model X.prog X.w) A (compareOp .NotIn u (.ref a)) Q E s := by
  obtain ⟨hS, hz, ⟨c, vs, hc, dd, rel⟩ | ⟨ht, ys, dd, rel⟩⟩ := D.forms I F
  · refine wpAny_notIn_of (kV_is (by rw [← (nkKey_v (w := X.w) hk hc).1]; exact ry)) hS dd.mapOf ?_
    rw [← (rk_get hc rel).isSome_eq]
    exact h _ (I.tok _)
  · obtain ⟨b, rfl⟩ := nkTup_v hk ht
    cases (show u = Value.ref b from ry)
    have e := (rt_get (k := k) rel).isSome_eq
    rw [Option.isSome_map] at e
    exact wpAny_notIn_heap (key_room (X := X) hu) ⟨hk.is I rfl, hd⟩ hS dd (by rw [← e]; exact h _ (I.tok _))
theorem getX_none {xs : List XE} {k : NestedKey} (h : (getX xs k).isSome = false) : k ∉ xs.map (·.1) := fun hm => by
  obtain ⟨x, hx, e⟩ := List.mem_map.mp hm
  unfold getX at h
  rw [Option.isSome_map, Option.isSome_eq_false_iff, Option.isNone_iff_eq_none, List.find?_eq_none] at h
  exact h x hx (decide_eq_true e)
theorem putX_keys {xs : List XE} {k : NestedKey} {kv v : V} : ((putX xs k kv v).map (·.1) = xs.map (·.1) ∧ (getX xs k).isSome = true) ∨ ((putX xs k kv v) = xs ++ [(k, kv, v)] ∧ (getX xs k).isSome = false) := by
  unfold putX
  split
  · rename_i h
    refine .inl ⟨?_, h⟩
    rw [List.map_map]
    refine List.map_congr_left fun x _ => ?_
    show (if x.1 = k then (x.1, x.2.1, v) else x).1 = x.1
    split <;> rfl
  · rename_i h
    exact .inr ⟨rfl, by simpa using h⟩
/-- what a dict holds behind d[y] = v -/
theorem DV.put {w : World} {K : PySem.W.Frag} {es' : Array DictEntry} {ep' : Nat} (D : DV w K H a xs) (F : FamOk xs k) (hk : KeyV K H y k) (hd : k.depth ≤ 8) (hp : Paired (EntV w) es'.toList (putX xs k y v)) :
    DV w K (L2.upd H a (dxO a es' ep')) a (putX xs k y v) := by
  obtain ⟨es, ep, e, _⟩ := D.ex
  have up : ∀ {v : V} {nk : NestedKey}, KeyV K H v nk → KeyV K (L2.upd H a (dxO a es' ep')) v nk := fun h => h.upd e (fun _ z => by cases z) (fun _ _ z => by cases z)
  have mem : ∀ z ∈ putX xs k y v, (∃ x ∈ xs, z.1 = x.1 ∧ z.2.1 = x.2.1) ∨ (z.1 = k ∧ z.2.1 = y) := fun z hz => by
    unfold putX at hz
    split at hz
    · obtain ⟨x, hx, ez⟩ := List.mem_map.mp hz
      refine .inl ⟨x, hx, ?_⟩
      rw [← ez]
      split <;> exact ⟨rfl, rfl⟩
    · rcases List.mem_append.mp hz with hz | hz
      · exact .inl ⟨z, hz, rfl, rfl⟩
      · have := List.mem_singleton.mp hz
        subst this
        exact .inr ⟨rfl, rfl⟩
  refine ⟨⟨es', ep', upd_same, hp⟩, fun z hz => ?_, ?_, ?_⟩
  · rcases mem z hz with ⟨x, hx, e1, e2⟩ | ⟨e1, e2⟩
    · rw [e1, e2]; exact ⟨up (D.key x hx).1, (D.key x hx).2⟩
    · rw [e1, e2]; exact ⟨up hk, hd⟩
  · rcases F with ⟨h1, h2⟩ | ⟨h1, h2⟩
    · refine .inl fun z hz => ?_
      rcases mem z hz with ⟨x, hx, e1, _⟩ | ⟨e1, _⟩
      · rw [e1]; exact h2 x hx
      · rw [e1]; exact h1
    · refine .inr fun z hz => ?_
      rcases mem z hz with ⟨x, hx, e1, _⟩ | ⟨e1, _⟩
      · rw [e1]; exact h2 x hx
      · rw [e1]; exact h1
  · rcases putX_keys (xs := xs) (k := k) (kv := y) (v := v) with ⟨h1, _⟩ | ⟨h1, h2⟩
    · rw [h1]; exact D.nd
    · rw [h1, List.map_append, List.nodup_append]
      refine ⟨D.nd, by simp, fun p hp q hq => ?_⟩
      have : q = k := by simpa using hq
      rw [this]
      intro e
      exact getX_none h2 (e ▸ hp)
theorem putX_len (xs : List XE) (k : NestedKey) (kv v : V) : (putX xs k kv v).length ≤ xs.length + 1 := by
  unfold putX
  split
  · rw [List.length_map]; omega
  · rw [List.length_append]; simp
theorem dx_set {Q : Unit → Shared → Prop} (hu : A.units + 64 < cLine) (I : Inv X pins σ H s) (D : DV X.w X.K H a xs) (F : FamOk xs k) (hk : KeyV X.K H y k) (hd : k.depth ≤ 8) (hl : xs.length < sizeLine) (ry : RelV y u) (rv : RelV v r)
    (h : ∀ es' ep' s', Paired (EntV X.w) es'.toList (putX xs k y v) → Inv X pins σ (L2.upd H a (dxO a es' ep')) s' → Q () s') : wpAny (model X.prog X.w) A (setItem (.ref a) u r) Q E s := by
  have e0 := D.ex
  obtain ⟨es, ep, e, _⟩ := e0
  obtain ⟨hS, hz, ⟨c, vs, hc, dd, rel⟩ | ⟨ht, ys, dd, rel⟩⟩ := D.forms I F
  · have hvs : vs.length ≤ sizeLine := by rw [← rel.length]; exact hz
    have ev := (nkKey_v (w := X.w) hk hc).1
    refine wpAny_setItem_pairs (hsz := hvs) (kV_is (by rw [← ev]; exact ry)) dd fun h' dd' hs => ?_
    obtain ⟨o, es', ep', ho, hx, hdat, hko, hpr, hnd⟩ := dd'
    have hp : Paired (EntV X.w) es'.toList (putX xs k y v) := back_k hpr (fun e he => hko e (by simpa using he)) (by rw [ev]; exact rk_put hc rv rel)
    refine h es' ep' _ hp (I.write (x := a) (e := a) (by rw [e]; exact True.intro) (.inl rfl) (fun b q hb z => (hs.2 b hb).trans z) ⟨o, ho⟩ ?_)
    have eo : o = { cls := .type "dict", data := .dict es' ep' } := by
      obtain ⟨c1, c2, c3, c4⟩ := o
      obtain ⟨h1, h2, h3⟩ := hx
      simp only at h1 h2 h3 hdat
      subst h1 h2 h3 hdat
      rfl
    rw [eo] at ho
    have hl2 := hp.length
    have hl3 := putX_len xs k y v
    simp only [Array.length_toList] at hl2
    exact ⟨⟨ho, hS, by omega⟩, ⟨_, ho⟩, fun h1 h2 q st => ⟨st _ q.1, q.2⟩⟩
  · obtain ⟨b, rfl⟩ := nkTup_v hk ht
    cases (show u = Value.ref b from ry)
    have hys : ys.length ≤ sizeLine := by rw [← rel.length]; exact hz
    refine wpAny_setItem_heap (hsz := hys) (key_room (X := X) hu) ⟨hk.is I rfl, hd⟩ dd fun h' dd' hs => ?_
    obtain ⟨o, es', ep', ho, hx, hdat, hes, _, hnd⟩ := dd'
    have hp : Paired (EntV X.w) es'.toList (putX xs k (.ref b) v) := by rw [hes]; exact back_t (rt_put rv rel)
    refine h es' ep' _ hp (I.write (x := a) (e := a) (by rw [e]; exact True.intro) (.inl rfl) (fun b q hb z => (hs.2 b hb).trans z) ⟨o, ho⟩ ?_)
    have eo : o = { cls := .type "dict", data := .dict es' ep' } := by
      obtain ⟨c1, c2, c3, c4⟩ := o
      obtain ⟨h1, h2, h3⟩ := hx
      simp only at h1 h2 h3 hdat
      subst h1 h2 h3 hdat
      rfl
    rw [eo] at ho
    have hl2 := hp.length
    have hl3 := putX_len xs k (.ref b) v
    simp only [Array.length_toList] at hl2
    exact ⟨⟨ho, hS, by omega⟩, ⟨_, ho⟩, fun h1 h2 q st => ⟨st _ q.1, q.2⟩⟩
end
end PD
/-! PD: iterators, by what they walk. -/
namespace PD
open PySem PySem.Spec PyProof.Rows L2

/-- the source stays; its items one by one -/
def JW (src : Hp → Prop) (xs : List V) : It := ⟨fun i H => src H ∧ i < xs.length, fun i H x H' => H' = H ∧ xs[i]? = some x, fun i H => src H ∧ i = xs.length⟩
/-- .. each item in a new tuple -/
def JT (src : Hp → Prop) (xs : List (List V)) : It :=
  ⟨fun i H => src H ∧ i < xs.length, fun i H v H' => ∃ T ys, v = .ref T ∧ H T = none ∧ H' = upd H T (.tup ys) ∧ xs[i]? = some ys, fun i H => src H ∧ i = xs.length⟩
section
variable {P : Program} {w : World} {K : PySem.W.Frag} {tg : Expr} {src : Hp → Prop} {own : List Addr} {it : Addr} {tn : Nat → Heap → Prop}
theorem turn_w {xs : List V} (mem : it ∈ own) (obj : ∀ i h, tn i h → ∀ b ∈ own, ∃ o, h.get? b = some o ∧ ∀ v, o.data ≠ .cell v)
    (keep : ∀ i h h', tn i h → (∀ b ∈ own, ∀ o, h.get? b = some o → h'.get? b = some o) → tn i h')
    (self : ∀ (A : Around) (i : Nat) (s : Shared) (Q : Value → Shared → Prop) (E : Value → Shared → Prop), tn i s.heap → Q (.ref it) s → wpAny (model P w) A (pyIter (.ref it)) Q E s)
    (lg : ∀ (A : Around) (i : Nat) (v : Value) (s : Shared) (Q : Unit → Shared → Prop) (E : Value → Shared → Prop), tn i s.heap → Q () s → wpAny (model P w) A (letOwnedTupleGo tg (.ref it) v) Q E s)
    (step : ∀ (X : Cx), X.prog = P → X.w = w → X.K = K → X.calm = true → ∀ (i : Nat) (pins : List (Addr × Obj)) (s : Shared) (σ : L2.St) (H : Hp), Inv X pins σ H s → src H → (∀ b ∈ own, FpOk X pins H b) → tn i s.heap →
      ∃ fp wr Pv St, Walks X.prog X.w X.A it fp wr xs.length Pv St ∧ (∀ b ∈ wr, b ∈ own) ∧ St i s.heap ∧ (∀ h, St (i + 1) h → tn (i + 1) h) ∧ ∀ v, Pv i v → ∃ x, xs[i]? = some x ∧ RelV x v) :
    Turn P w K tg (JW src xs) own it tn where
  mem := mem
  obj := obj
  keep := keep
  item := by
    intro X hP hw hK hc i pins s σ H E I hf st hg
    obtain ⟨hs, hi⟩ := hg
    obtain ⟨fp, wr, Pv, St, Wk, hwr, st0, nxt, val⟩ := step X hP hw hK hc i pins s σ H I hs hf st
    subst hP hw hK
    refine Wk.item i s _ _ hi st0 fun v h' tk hv st' kk => ?_
    obtain ⟨x, hx, rx⟩ := val v hv
    have I1 : Inv X pins σ H { s with heap := h', toks := tk } := I.turnedL (ch := own) (fun b o hb e => kk b o (fun z => hb (hwr b z)) e) hf
    exact ⟨_, rfl, lg X.A (i + 1) v _ _ _ (nxt _ st') ⟨x, H, I1, rx, ⟨rfl, hx⟩, nxt _ st', fun b hb => (hf b hb).1⟩⟩
  done := by
    intro X hP hw hK hc i pins s σ H E I hf st hg
    obtain ⟨hs, hi⟩ := hg
    obtain ⟨fp, wr, Pv, St, Wk, hwr, st0, nxt, val⟩ := step X hP hw hK hc i pins s σ H I hs hf st
    subst hP hw hK hi
    exact Wk.done s _ _ st0 fun h' tk kk => ⟨rfl, I.turnedL (ch := own) (fun b o hb e => kk b o (fun z => hb (hwr b z)) e) hf⟩
  self := self
theorem turn_t {elts : List Expr} {kk : Nat} {tpos : Pos} {xs : List (List V)} (mem : it ∈ own) (obj : ∀ i h, tn i h → ∀ b ∈ own, ∃ o, h.get? b = some o ∧ ∀ v, o.data ≠ .cell v)
    (keep : ∀ i h h', tn i h → (∀ b ∈ own, ∀ o, h.get? b = some o → h'.get? b = some o) → tn i h')
    (self : ∀ (A : Around) (i : Nat) (s : Shared) (Q : Value → Shared → Prop) (E : Value → Shared → Prop), tn i s.heap → Q (.ref it) s → wpAny (model P w) A (pyIter (.ref it)) Q E s)
    (step : ∀ (X : Cx), X.prog = P → X.w = w → X.K = K → X.calm = true → ∀ (i : Nat) (pins : List (Addr × Obj)) (s : Shared) (σ : L2.St) (H : Hp), Inv X pins σ H s → src H → (∀ b ∈ own, FpOk X pins H b) → tn i s.heap →
      ∃ fp wr Pv St Mid, WalksT X.prog X.w X.A it fp wr xs.length Pv St Mid ∧ (∀ b ∈ wr, b ∈ own) ∧ St i s.heap ∧ (∀ h, St (i + 1) h → tn (i + 1) h) ∧ ∀ vals, Pv i vals → ∃ ys, xs[i]? = some ys ∧ Vals ys vals.toList ∧ ys.length ≤ sizeLine) :
    Turn P w K (.Tuple elts kk tpos) (JT src xs) own it tn where
  mem := mem
  obj := obj
  keep := keep
  item := by
    intro X hP hw hK hc i pins s σ H E I hf st hg
    obtain ⟨hs, hi⟩ := hg
    obtain ⟨fp, wr, Pv, St, Mid, Wk, hwr, st0, nxt, val⟩ := step X hP hw hK hc i pins s σ H I hs hf st
    subst hP hw hK
    have lt : ∀ b ∈ own, b < s.heap.objs.size := fun b hb => let ⟨o, e, _⟩ := obj i _ st b hb; Heap.lt_size e
    refine Wk.item i s _ _ hi st0 fun T vals h' tk hv hT it' md kk1 => ?_
    obtain ⟨ys, hx, rx, hl⟩ := val vals hv
    refine ⟨_, rfl, Wk.go elts kk tpos i T { s with heap := h', toks := tk } _ _ md fun h'' st' kk2 => ?_⟩
    have nT : T ∉ wr := Wk.apart i T h' md
    have it2 : h''.IsTuple T vals := by
      obtain ⟨o, e, r⟩ := it'
      exact ⟨o, kk2 T o nT e, r⟩
    have new : ObjOk X.prog X.w (upd H T (.tup ys)) h'' T (.tup ys) := ⟨hl, vals.toList, rx, (show h''.IsTuple T vals.toList.toArray by simpa using it2)⟩
    have I1 : Inv X pins σ (upd H T (.tup ys)) { s with heap := h'', toks := tk } :=
      I.turnedNew (ch := own) (fun b o hb e => kk2 b o (fun z => hb (hwr b z)) (kk1 b o (fun z => hb (hwr b z)) e)) hf hT new
    refine ⟨.ref T, _, I1, rfl, ⟨T, ys, rfl, I.hok.fresh hT, rfl, hx⟩, nxt _ st', fun b hb => ?_⟩
    rw [upd_ne (Nat.ne_of_lt (Nat.lt_of_lt_of_le (lt b hb) hT))]
    exact (hf b hb).1
  done := by
    intro X hP hw hK hc i pins s σ H E I hf st hg
    obtain ⟨hs, hi⟩ := hg
    obtain ⟨fp, wr, Pv, St, Mid, Wk, hwr, st0, nxt, val⟩ := step X hP hw hK hc i pins s σ H I hs hf st
    subst hP hw hK hi
    exact Wk.done s _ _ st0 fun h' tk kk => ⟨rfl, I.turnedL (ch := own) (fun b o hb e => kk b o (fun z => hb (hwr b z)) e) hf⟩
  self := self
end

/-! ### a list, a tuple, a text -/
inductive Sk where
  | l (a : Addr) | t (a : Addr) | s (x : Str)
def Sk.val : Sk → V
  | .l a => .ref a
  | .t a => .ref a
  | .s x => .str x
def chV (x : Str) : List V := x.cps.toList.map fun c => .str ⟨#[c]⟩
def Sk.At (K : PySem.W.Frag) (H : Hp) : Sk → List V → Prop
  | .l a, xs => SqL K H a xs
  | .t a, xs => SqT K H a xs
  | .s x, xs => xs = chV x
def Sk.itr (tk : Tok) (it : Addr) (i : Nat) (h : Heap) : Sk → Prop
  | .l a => h.IsListIter it a i
  | .t a => h.IsTupleIter it a i
  | .s x => h.IsStrIter it (strIterType x) x tk i
def Sk.obj (tk : Tok) : Sk → Obj
  | .l a => { cls := .type "list_iterator", data := .fields #[.ref a, .int 0 0] }
  | .t a => { cls := .type "tuple_iterator", data := .fields #[.ref a, .int 0 0] }
  | .s x => { cls := .type (strIterType x), data := .fields #[.str x tk, .int 0 0] }
theorem chV_len (x : Str) : (chV x).length = x.cps.size := by simp [chV]
theorem chV_at {x : Str} {i c : Nat} (h : x.cps[i]? = some c) : (chV x)[i]? = some (.str ⟨#[c]⟩) := by
  have h2 : x.cps.toList[i]? = some c := by simpa using h
  simp [chV, h2]
section
variable {tk : Tok} {it : Addr} {i : Nat} {h : Heap} {sk : Sk}
theorem Sk.itr_obj (st : sk.itr tk it i h) : ∃ o, h.get? it = some o ∧ ∀ v, o.data ≠ .cell v := by
  cases sk with
  | l a => obtain ⟨o, e, c, d⟩ := st; exact ⟨o, e, fun v z => by rw [d] at z; cases z⟩
  | t a => obtain ⟨o, e, c, d⟩ := st; exact ⟨o, e, fun v z => by rw [d] at z; cases z⟩
  | s x => obtain ⟨o, e, c, d⟩ := st; exact ⟨o, e, fun v z => by rw [d] at z; cases z⟩
theorem Sk.itr_keep {h' : Heap} (st : sk.itr tk it i h) (k : ∀ o, h.get? it = some o → h'.get? it = some o) : sk.itr tk it i h' := by
  cases sk with
  | l a => exact Heap.IsListIter.at st k
  | t a => exact Heap.IsTupleIter.at st k
  | s x => obtain ⟨o, e, r⟩ := st; exact ⟨o, k o e, r⟩
theorem Sk.itr_new (e : h.get? it = some (sk.obj tk)) : sk.itr tk it 0 h := by
  cases sk <;> exact ⟨_, e, rfl, rfl⟩
theorem Sk.free : (sk.obj tk).isFreed = false := by cases sk <;> rfl
theorem Sk.lg {P : Program} {w : World} {A : Around} {tg : Expr} {v : Value} {s : Shared} {Q : Unit → Shared → Prop} {E : Value → Shared → Prop} (st : sk.itr tk it i s.heap) (q : Q () s) : wpAny (model P w) A (letOwnedTupleGo tg (.ref it) v) Q E s := by
  cases sk with
  | l a => obtain ⟨o, e, c, d⟩ := st; exact go_of e c d (by decide) q
  | t a => obtain ⟨o, e, c, d⟩ := st; exact go_of e c d (by decide) q
  | s x =>
    obtain ⟨o, e, c, d⟩ := st
    refine go_of e c d ?_ q
    unfold strIterType
    split <;> decide
theorem Sk.self {P : Program} {w : World} {A : Around} {s : Shared} {Q : Value → Shared → Prop} {E : Value → Shared → Prop} (st : sk.itr tk it i s.heap) (q : Q (.ref it) s) : wpAny (model P w) A (pyIter (.ref it)) Q E s := by
  cases sk with
  | l a => exact wpAny_pyIter_listiter st q
  | t a => exact wpAny_pyIter_tupleiter st q
  | s x =>
    have st : s.heap.IsStrIter it (strIterType x) x tk i := st
    unfold strIterType at st
    split at st
    · exact wpAny_pyIter_striter_ascii st q
    · exact wpAny_pyIter_striter_wide st q
variable {X : Cx} {pins : List (Addr × Obj)} {σ : L2.St} {H : Hp} {s : Shared} {xs : List V}
theorem fp_base (I : Inv X pins σ H s) {a b : Addr} {o : Obj} (f : FpOk X pins H b) (h : X.base.get? a = some o) : a ≠ b := fun z => by
  subst z
  rcases f.2.2.2.1 with q | q
  · exact I.ok.noex _ _ h q
  · exact absurd (Nat.lt_of_lt_of_le (Heap.lt_size (I.ok.bs _ _ h).1) q) (Nat.lt_irrefl _)
theorem fp_seq (I : Inv X pins σ H s) {a b : Addr} (f : FpOk X pins H b) (h : SqL X.K H a xs ∨ SqT X.K H a xs) : a ≠ b := by
  rcases h with ((h | ⟨o, h⟩) | ⟨o, its, n, hk, _⟩) | ((h | ⟨o, h⟩) | ⟨o, its, n, hk, _⟩)
  · exact fun z => by have := f.1; rw [← z, h] at this; cases this
  · exact fun z => by have := f.1; rw [← z, h] at this; cases this
  · exact fp_base I f (I.mod.kin a o hk)
  · exact fun z => by have := f.1; rw [← z, h] at this; cases this
  · exact fun z => by have := f.1; rw [← z, h] at this; cases this
  · exact fp_base I f (I.mod.kin a o hk)
/-- where the source stands -/
theorem Sk.draws (I : Inv X pins σ H s) (hc : X.calm = true) (a : sk.At X.K H xs) (hf : FpOk X pins H it) (st : sk.itr tk it i s.heap) :
    ∃ fp Pv St, Draws X.prog X.w X.A.in1 it (it :: fp) xs.length Pv St ∧ St i s.heap ∧ (∀ j h, St j h → sk.itr tk it j h) ∧ (∀ j v, Pv j v → ∃ x, xs[j]? = some x ∧ RelV x v) ∧ ∀ b, FpOk X pins H b → b ∉ fp := by
  have hh : X.A.in1.handled = none := I.ok.hd hc
  cases sk with
  | l a' =>
    obtain ⟨its, rv, p, hz⟩ := I.list a
    have hl := rv.length
    have ne : a' ≠ it := fp_seq I hf (.inl a)
    refine ⟨[a'], _, _, (show Draws X.prog X.w X.A.in1 it [it, a'] xs.length (fun i v => its.toArray[i]? = some v) (fun i h => h.IsListIter it a' i ∧ h.IsList a' its.toArray) by
      have := Draws.list (prog := X.prog) (w := X.w) hh it a' ne its.toArray
      rwa [List.size_toArray, ← hl] at this), ⟨st, p.isList⟩, fun j h z => z.1, fun j v hv => ?_, fun b hb => ?_⟩
    · have hv : its.toArray[j]? = some v := hv
      have hj : j < xs.length := by rw [hl]; have := (Array.getElem?_eq_some_iff.mp hv).1; simpa using this
      obtain ⟨u, hu, ru⟩ := rv.get (List.getElem?_eq_getElem hj)
      have : v = u := by
        have e2 : its[j]? = some v := by simpa using hv
        rw [hu] at e2; exact (Option.some.inj e2).symm
      subst this
      exact ⟨_, List.getElem?_eq_getElem hj, ru⟩
    · exact fun z => fp_seq I hb (.inl a) (List.mem_singleton.mp z).symm
  | t a' =>
    obtain ⟨its, rv, p, hz⟩ := I.tuple a
    have p' : s.heap.IsTuple a' its.toArray := p
    have hl := rv.length
    have ne : a' ≠ it := fp_seq I hf (.inr a)
    refine ⟨[a'], _, _, (show Draws X.prog X.w X.A.in1 it [it, a'] xs.length (fun i v => its.toArray[i]? = some v) (fun i h => h.IsTupleIter it a' i ∧ h.IsTuple a' its.toArray) by
      have := Draws.tuple (prog := X.prog) (w := X.w) hh it a' ne its.toArray
      rwa [List.size_toArray, ← hl] at this), ⟨st, p'⟩, fun j h z => z.1, fun j v hv => ?_, fun b hb => ?_⟩
    · have hv : its.toArray[j]? = some v := hv
      have hj : j < xs.length := by rw [hl]; have := (Array.getElem?_eq_some_iff.mp hv).1; simpa using this
      obtain ⟨u, hu, ru⟩ := rv.get (List.getElem?_eq_getElem hj)
      have : v = u := by
        have e2 : its[j]? = some v := by simpa using hv
        rw [hu] at e2; exact (Option.some.inj e2).symm
      subst this
      exact ⟨_, List.getElem?_eq_getElem hj, ru⟩
    · exact fun z => fp_seq I hb (.inr a) (List.mem_singleton.mp z).symm
  | s x =>
    have a : xs = chV x := a
    subst a
    refine ⟨[], _, _, (by rw [chV_len]; exact Draws.text hh it x tk), st, fun j h z => z, fun j v hv => ?_, fun b hb z => by cases z⟩
    obtain ⟨c, u, hcx, rfl⟩ := hv
    exact ⟨_, chV_at hcx, ⟨u, rfl⟩⟩
theorem Sk.walks (I : Inv X pins σ H s) (hc : X.calm = true) (a : sk.At X.K H xs) (hf : FpOk X pins H it) (st : sk.itr tk it i s.heap) :
    ∃ fp wr Pv St, Walks X.prog X.w X.A it fp wr xs.length Pv St ∧ (∀ b ∈ wr, b ∈ [it]) ∧ St i s.heap ∧ (∀ h, St (i + 1) h → sk.itr tk it (i + 1) h) ∧ ∀ v, Pv i v → ∃ x, xs[i]? = some x ∧ RelV x v := by
  have hh : X.A.handled = none := I.ok.hd hc
  cases sk with
  | l a' =>
    obtain ⟨its, rv, p, hz⟩ := I.list a
    have hl := rv.length
    have ne : a' ≠ it := fp_seq I hf (.inl a)
    refine ⟨_, _, _, _, (show Walks X.prog X.w X.A it [it, a'] [it] xs.length (fun i v => its.toArray[i]? = some v) (fun i h => h.IsListIter it a' i ∧ h.IsList a' its.toArray) by
      have := Walks.list (prog := X.prog) (w := X.w) hh it a' ne its.toArray
      rwa [List.size_toArray, ← hl] at this), fun b z => z, ⟨st, p.isList⟩, fun h z => z.1, fun v hv => ?_⟩
    have hv : its.toArray[i]? = some v := hv
    have hj : i < xs.length := by rw [hl]; have := (Array.getElem?_eq_some_iff.mp hv).1; simpa using this
    obtain ⟨u, hu, ru⟩ := rv.get (List.getElem?_eq_getElem hj)
    have : v = u := by
      have e2 : its[i]? = some v := by simpa using hv
      rw [hu] at e2; exact (Option.some.inj e2).symm
    subst this
    exact ⟨_, List.getElem?_eq_getElem hj, ru⟩
  | t a' =>
    obtain ⟨its, rv, p, hz⟩ := I.tuple a
    have p' : s.heap.IsTuple a' its.toArray := p
    have hl := rv.length
    have ne : a' ≠ it := fp_seq I hf (.inr a)
    refine ⟨_, _, _, _, (show Walks X.prog X.w X.A it [it, a'] [it] xs.length (fun i v => its.toArray[i]? = some v) (fun i h => h.IsTupleIter it a' i ∧ h.IsTuple a' its.toArray) by
      have := Walks.tuple (prog := X.prog) (w := X.w) hh it a' ne its.toArray
      rwa [List.size_toArray, ← hl] at this), fun b z => z, ⟨st, p'⟩, fun h z => z.1, fun v hv => ?_⟩
    have hv : its.toArray[i]? = some v := hv
    have hj : i < xs.length := by rw [hl]; have := (Array.getElem?_eq_some_iff.mp hv).1; simpa using this
    obtain ⟨u, hu, ru⟩ := rv.get (List.getElem?_eq_getElem hj)
    have : v = u := by
      have e2 : its[i]? = some v := by simpa using hv
      rw [hu] at e2; exact (Option.some.inj e2).symm
    subst this
    exact ⟨_, List.getElem?_eq_getElem hj, ru⟩
  | s x =>
    have a : xs = chV x := a
    subst a
    have Wk : Walks X.prog X.w X.A it [it] [it] (chV x).length (SignAt x) (fun i h => h.IsStrIter it (strIterType x) x tk i) := by
      rw [chV_len]
      unfold strIterType
      split
      · exact Walks.strAscii hh it x tk
      · exact Walks.strWide hh it x tk
    refine ⟨_, _, _, _, Wk, fun b z => z, st, fun h z => z, fun v hv => ?_⟩
    obtain ⟨c, u, hcx, rfl⟩ := hv
    exact ⟨_, chV_at hcx, ⟨u, rfl⟩⟩
theorem Sk.begins (I : Inv X pins σ H s) (a : sk.At X.K H xs) {u : Value} (r : RelV sk.val u) : ∃ tk Hb, Begins u (sk.obj tk) Hb ∧ Hb s.heap ∧ ∀ b, sk.val = .ref b → b < s.heap.objs.size := by
  cases sk with
  | l a' =>
    obtain ⟨its, rv, p, hz⟩ := I.list a
    cases r
    refine ⟨0, _, begins_list a' its.toArray, p.isList, fun b e => ?_⟩
    cases e; exact p.lt
  | t a' =>
    obtain ⟨its, rv, p, hz⟩ := I.tuple a
    cases r
    refine ⟨0, _, begins_tuple a' its.toArray, p, fun b e => ?_⟩
    cases e
    obtain ⟨o, e, _⟩ := p
    exact Heap.lt_size e
  | s x =>
    obtain ⟨t, rfl⟩ := r
    exact ⟨t, _, begins_text x t, trivial, fun b e => by cases e⟩
end
end PD
/-! PD: what loops walk: values, ranges, enumerate, zip, the views of a dict. -/
namespace PD
open PySem PySem.Spec PyProof.Rows L2

section
variable {X : Cx} {tg : Expr}
/-- an entry and its key / value -/
abbrev EK (e : DictEntry) (x : V) : Prop := RelV x e.key
abbrev EVv (e : DictEntry) (x : V) : Prop := RelV x e.val
abbrev EKV (e : DictEntry) (x : List V) : Prop := ∃ k v, x = [k, v] ∧ RelV k e.key ∧ RelV v e.val
def iVal (K : PySem.W.Frag) (te : TE) : TI := fun σ H R => te σ H fun x H1 =>
  (∃ sk xs, x = Sk.val sk ∧ sk.At K H1 xs ∧ R (JW (fun H => sk.At K H xs) xs) H1) ∨
  (∃ a es ep xs, x = .ref a ∧ H1 a = some (dxO a es ep) ∧ Paired EK es.toList xs ∧ R (JW (fun H => H a = some (dxO a es ep)) xs) H1)
theorem turn_sk {P : Program} {w : World} {K : PySem.W.Frag} {sk : Sk} {xs : List V} (tk : Tok) (it : Addr) : Turn P w K tg (JW (fun H => sk.At K H xs) xs) [it] it (fun i h => sk.itr tk it i h) :=
  turn_w (by simp) (fun i h st b hb => by have : b = it := by simpa using hb
                                          subst this; exact Sk.itr_obj (sk := sk) st)
    (fun i h h' st k => Sk.itr_keep (sk := sk) st fun o e => k it (by simp) o e) (fun A i s Q E st q => Sk.self st q) (fun A i v s Q E st q => Sk.lg st q)
    fun X hP hw hK hc i pins s σ H I hs hf st => by
      subst hP hw hK
      exact Sk.walks I hc hs (hf it (by simp)) st
theorem dx_raw {pins : List (Addr × Obj)} {σ : L2.St} {H : Hp} {s : Shared} {a : Addr} {es : Array DictEntry} {ep : Nat} (I : Inv X pins σ H s) (e : H a = some (dxO a es ep)) : s.heap.DictRaw a es ep ∧ (a == sysModules) = false ∧ es.size ≤ sizeLine := by
  obtain ⟨⟨ho, hS, hz⟩, _⟩ := I.hok a _ e
  exact ⟨⟨_, ho, ⟨rfl, rfl, rfl⟩, rfl⟩, hS, hz⟩
theorem dx_noDict {pins : List (Addr × Obj)} {σ : L2.St} {H : Hp} {s : Shared} {a : Addr} {es : Array DictEntry} {ep : Nat} (I : Inv X pins σ H s) (e : H a = some (dxO a es ep)) : ∀ b, Value.ref a = Value.ref b → ∃ o, s.heap.get? b = some o ∧ o.dict = none := by
  obtain ⟨⟨ho, hS, hz⟩, _⟩ := I.hok a _ e
  intro b hb
  cases hb
  exact ⟨_, ho, rfl⟩
theorem paired_at {α β : Type} {F : α → β → Prop} : ∀ {xs : List α} {ys : List β} {i : Nat} {x : α}, Paired F xs ys → xs[i]? = some x → ∃ y, ys[i]? = some y ∧ F x y
  | _, _, i, _, .nil, e => by simp at e
  | _, _, 0, _, .cons r _, e => by simp only [List.getElem?_cons_zero, Option.some.injEq] at e; subst e; exact ⟨_, rfl, r⟩
  | _, _, i + 1, _, .cons _ t, e => paired_at (i := i) t (by simpa using e)
theorem ent_at {es : Array DictEntry} {i : Nat} (hi : i < es.size) : es.toList[i]? = some es[i] := by simp [hi]
theorem turn_dkeys {P : Program} {w : World} {K : PySem.W.Frag} {a it : Addr} {es : Array DictEntry} {ep : Nat} {xs : List V} (hp : Paired EK es.toList xs) :
    Turn P w K tg (JW (fun H => H a = some (dxO a es ep)) xs) [it] it (fun i h => h.IsKeyIter it a i es.size ep) := by
  have hl : es.size = xs.length := by simpa using hp.length
  refine turn_w (by simp) (fun i h st b hb => ?_) (fun i h h' st k => ?_) (fun A i s Q E st q => wpAny_pyIter_keyiter st q) (fun A i v s Q E st q => ?_) fun X hP hw hK hc i pins s σ H I hs hf st => ?_
  · have : b = it := by simpa using hb
    subst this
    obtain ⟨o, e, c, d⟩ := st
    exact ⟨o, e, fun v z => by rw [d] at z; cases z⟩
  · obtain ⟨o, e, r⟩ := st
    exact ⟨o, k it (by simp) o e, r⟩
  · obtain ⟨o, e, c, d⟩ := st
    exact go_of e c d (by decide) q
  · subst hP hw hK
    obtain ⟨raw, hS, hz⟩ := dx_raw I hs
    have ne : a ≠ it := fun z => by have := (hf it (by simp)).1; rw [← z, hs] at this; cases this
    refine ⟨_, _, _, _, (show Walks X.prog X.w X.A it [it, a] [it] xs.length (fun i v => ∃ hi : i < es.size, v = es[i].key) (fun i h => h.IsKeyIter it a i es.size ep ∧ h.DictRaw a es ep) by
      have := Walks.rawKeys (prog := X.prog) (w := X.w) (I.ok.hd hc) it a ne es ep
      rw [← hl]; exact this), fun b z => z, ⟨st, raw⟩, fun h z => z.1, fun v hv => ?_⟩
    obtain ⟨hi, rfl⟩ := hv
    exact paired_at hp (ent_at hi)
theorem turn_dvals {P : Program} {w : World} {K : PySem.W.Frag} {a it : Addr} {es : Array DictEntry} {ep : Nat} {xs : List V} (hp : Paired EVv es.toList xs) :
    Turn P w K tg (JW (fun H => H a = some (dxO a es ep)) xs) [it] it (fun i h => h.IsValIter it a i es.size ep) := by
  have hl : es.size = xs.length := by simpa using hp.length
  refine turn_w (by simp) (fun i h st b hb => ?_) (fun i h h' st k => ?_) (fun A i s Q E st q => wpAny_pyIter_valiter st q) (fun A i v s Q E st q => ?_) fun X hP hw hK hc i pins s σ H I hs hf st => ?_
  · have : b = it := by simpa using hb
    subst this
    obtain ⟨o, e, c, d⟩ := st
    exact ⟨o, e, fun v z => by rw [d] at z; cases z⟩
  · obtain ⟨o, e, r⟩ := st
    exact ⟨o, k it (by simp) o e, r⟩
  · obtain ⟨o, e, c, d⟩ := st
    exact go_of e c d (by decide) q
  · subst hP hw hK
    obtain ⟨raw, hS, hz⟩ := dx_raw I hs
    have ne : a ≠ it := fun z => by have := (hf it (by simp)).1; rw [← z, hs] at this; cases this
    refine ⟨_, _, _, _, (show Walks X.prog X.w X.A it [it, a] [it] xs.length (fun i v => ∃ hi : i < es.size, v = es[i].val) (fun i h => h.IsValIter it a i es.size ep ∧ h.DictRaw a es ep) by
      have := Walks.rawValues (prog := X.prog) (w := X.w) (I.ok.hd hc) it a ne es ep
      rw [← hl]; exact this), fun b z => z, ⟨st, raw⟩, fun h z => z.1, fun v hv => ?_⟩
    obtain ⟨hi, rfl⟩ := hv
    exact paired_at hp (ent_at hi)
theorem turn_ditems {P : Program} {w : World} {K : PySem.W.Frag} {elts : List Expr} {kk : Nat} {tpos : Pos} {a it : Addr} {es : Array DictEntry} {ep : Nat} {xs : List (List V)} (hp : Paired EKV es.toList xs) :
    Turn P w K (.Tuple elts kk tpos) (JT (fun H => H a = some (dxO a es ep)) xs) [it] it (fun i h => ∃ ok ov, IsItemIter h it a i es.size ep ok ov) := by
  have hl : es.size = xs.length := by simpa using hp.length
  refine turn_t (by simp) (fun i h st b hb => ?_) (fun i h h' st k => ?_) (fun A i s Q E st q => ?_) fun X hP hw hK hc i pins s σ H I hs hf st => ?_
  · have : b = it := by simpa using hb
    subst this
    obtain ⟨ok, ov, e⟩ := st
    exact ⟨_, e, fun v z => by have z' : Data.fields _ = Data.cell v := z; cases z'⟩
  · obtain ⟨ok, ov, e⟩ := st
    exact ⟨ok, ov, k it (by simp) _ e⟩
  · obtain ⟨ok, ov, e⟩ := st
    exact wpAny_pyIter_itemiter e q
  · subst hP hw hK
    obtain ⟨raw, hS, hz⟩ := dx_raw I hs
    have ne : a ≠ it := fun z => by have := (hf it (by simp)).1; rw [← z, hs] at this; cases this
    refine ⟨_, _, _, _, _, (show WalksT X.prog X.w X.A it [it, a] [it] xs.length _ (fun i h => (∃ ok ov, IsItemIter h it a i es.size ep ok ov) ∧ h.DictRaw a es ep) _ by rw [← hl]; exact WalksT.rawItems (I.ok.hd hc) it a ne es ep), fun b z => z, ⟨st, raw⟩, fun h z => z.1, fun v hv => ?_⟩
    obtain ⟨hi, rfl⟩ := hv
    obtain ⟨ys, h1, k, v, rfl, r1, r2⟩ := paired_at hp (ent_at hi)
    exact ⟨_, h1, .cons r1 (.cons r2 .nil), by show 2 ≤ sizeLine; decide⟩
theorem pi_val {e : Expr} {te : TE} (he : PE X e te) : PI X tg e (iVal X.K te) := by
  refine ⟨fun pins s σ H R I h => ?_⟩
  refine thn (he.run pins s σ H _ I h) fun u s1 ⟨x, H1, I1, r1, q1⟩ => ?_
  rcases q1 with ⟨sk, xs, ex, at_, q⟩ | ⟨a, es, ep, xs, ex, ha, hp, q⟩
  · subst ex
    obtain ⟨tk, Hb, B, hb, _⟩ := Sk.begins I1 at_ r1
    exact B.iter _ _ _ _ _ _ hb (pi_one (tk := s1.toks) I1 _ (turn_sk tk _) (Sk.itr_new (tk := tk) (h := s1.heap.push (sk.obj tk)) (Heap.get?_push_size _ Sk.free)) q)
  · subst ex
    cases r1
    obtain ⟨raw, hS, hz⟩ := dx_raw I1 ha
    exact wpAny_pyIter_dict_raw hS raw (pi_one (tk := s1.toks) I1 _ (turn_dkeys hp) ⟨_, Heap.get?_push_size _ rfl, rfl, rfl⟩ q)
/-- d.items(), d.values() -/
def iItm (te : TE) : TI := fun σ H R => te σ H fun x H1 => ∃ a es ep xs, x = .ref a ∧ H1 a = some (dxO a es ep) ∧ Paired EKV es.toList xs ∧ R (JT (fun H => H a = some (dxO a es ep)) xs) H1
def iVls (te : TE) : TI := fun σ H R => te σ H fun x H1 => ∃ a es ep xs, x = .ref a ∧ H1 a = some (dxO a es ep) ∧ Paired EVv es.toList xs ∧ R (JW (fun H => H a = some (dxO a es ep)) xs) H1
variable {e : Expr} {td : TE} {apos cpos : Pos}
theorem pi_vls (he : PE X e td) (hbase : attributeBase e "values" X.env (eval e X.env) = eval e X.env := by rfl) (hline : (apos.endLine == cpos.line) = true := by rfl) : PI X tg (.Call (.Attribute e "values" apos) [] [] cpos) (iVls td) := by
  refine ⟨fun pins s σ H R I h => ?_⟩
  refine wpAny_Call_method (T := "dict") (id := "dict.values") hbase rfl hline F.plainAttrs_dict F.slot_dict_values F.type_dict_values (thn (he.run pins s σ H _ I h) fun u s1 ⟨x, H1, I1, rx, a, es, ep, xs, ex, ha, hp, q⟩ => ?_)
  subst ex
  obtain rfl : u = Value.ref a := rx
  obtain ⟨raw, hS, hz⟩ := dx_raw I1 ha
  refine ⟨raw.typeIs, dx_noDict I1 ha, ?_⟩
  have I2 : Inv X pins σ H1 { s1 with heap := s1.heap.push { cls := .type "dict_values", data := .fields #[.ref a] } } := I1.kept (t' := s1.toks) fun b ob q => Heap.get?_push_of_some _ q
  have fin : wpAny (model X.prog X.w) X.A (pyIter (.ref s1.heap.objs.size)) (PIE X pins σ tg R) X.xe { s1 with heap := s1.heap.push { cls := .type "dict_values", data := .fields #[.ref a] } } :=
    wpAny_pyIter_values_raw (d := a) ⟨_, Heap.get?_push_size _ rfl, rfl, rfl⟩ (dx_raw I2 ha).1 (pi_one (tk := s1.toks) I2 _ (turn_dvals hp) ⟨_, Heap.get?_push_size _ rfl, rfl, rfl⟩ q)
  show wpAny _ _ (callWith cpos (.builtin "dict.values") [.ref a] [] []) _ X.xe s1
  exact method_meetsIn F.slot_dict_values F.entry_dict_values rfl (PySem.evalArgs_none ⟨rfl, raw.typeIs, F.args_dict_values_1 _, _, meets_dict_values_raw a hS, ⟨es, ep, raw⟩, fin⟩)
theorem pi_itm {elts : List Expr} {kk : Nat} {tpos : Pos} (he : PE X e td) (hbase : attributeBase e "items" X.env (eval e X.env) = eval e X.env := by rfl) (hline : (apos.endLine == cpos.line) = true := by rfl) :
    PI X (.Tuple elts kk tpos) (.Call (.Attribute e "items" apos) [] [] cpos) (iItm td) := by
  refine ⟨fun pins s σ H R I h => ?_⟩
  refine wpAny_Call_method (T := "dict") (id := "dict.items") hbase rfl hline F.plainAttrs_dict F.slot_dict_items F.type_dict_items (thn (he.run pins s σ H _ I h) fun u s1 ⟨x, H1, I1, rx, a, es, ep, xs, ex, ha, hp, q⟩ => ?_)
  subst ex
  obtain rfl : u = Value.ref a := rx
  obtain ⟨raw, hS, hz⟩ := dx_raw I1 ha
  refine ⟨raw.typeIs, dx_noDict I1 ha, ?_⟩
  have I2 : Inv X pins σ H1 { s1 with heap := s1.heap.push { cls := .type "dict_items", data := .fields #[.ref a] } } := I1.kept (t' := s1.toks) fun b ob q => Heap.get?_push_of_some _ q
  have fin : wpAny (model X.prog X.w) X.A (pyIter (.ref s1.heap.objs.size)) (PIE X pins σ (.Tuple elts kk tpos) R) X.xe { s1 with heap := s1.heap.push { cls := .type "dict_items", data := .fields #[.ref a] } } :=
    wpAny_pyIter_items_raw (d := a) ⟨_, Heap.get?_push_size _ rfl, rfl, rfl⟩ (dx_raw I2 ha).1 (pi_one (tk := s1.toks) I2 _ (turn_ditems hp) ⟨_, _, Heap.get?_push_size _ rfl⟩ q)
  show wpAny _ _ (callWith cpos (.builtin "dict.items") [.ref a] [] []) _ X.xe s1
  exact method_meetsIn F.slot_dict_items F.entry_dict_items rfl (PySem.evalArgs_none ⟨rfl, raw.typeIs, F.args_dict_items_1 _, _, meets_dict_items_raw a hS, ⟨es, ep, raw⟩, fin⟩)

theorem not_cons {a b : Addr} {l : List Addr} (h : a ≠ b) (h2 : a ∉ l) : a ∉ b :: l := fun z => (List.mem_cons.mp z).elim h h2
/-! ### enumerate, zip -/
def enV (xs : List V) : List (List V) := xs.mapIdx fun i x => [.int (i : Nat), x]
theorem turn_en {P : Program} {w : World} {K : PySem.W.Frag} {elts : List Expr} {kk : Nat} {tpos : Pos} {sk : Sk} {xs : List V} (tk : Tok) (e it : Addr) :
    Turn P w K (.Tuple elts kk tpos) (JT (fun H => sk.At K H xs) (enV xs)) [e, it] e (fun i h => (∃ old, IsEnum h e it (0 + ((i : Nat) : Int)) old) ∧ sk.itr tk it i h ∧ e ≠ it) := by
  refine turn_t (by simp) (fun i h st b hb => ?_) (fun i h h' st k => ?_) (fun A i s Q E st q => ?_) fun X hP hw hK hc i pins s σ H I hs hf st => ?_
  · obtain ⟨⟨old, he⟩, hi, _⟩ := st
    have e' : b = e ∨ b = it := by simpa using hb
    rcases e' with z | z
    · rw [z]; exact ⟨_, he, fun v q => nomatch q⟩
    · rw [z]; exact Sk.itr_obj (sk := sk) hi
  · obtain ⟨⟨old, he⟩, hi, hne⟩ := st
    exact ⟨⟨old, k e (by simp) _ he⟩, Sk.itr_keep (sk := sk) hi fun o q => k it (by simp) o q, hne⟩
  · obtain ⟨⟨_, he⟩, _⟩ := st
    exact wpAny_pyIter_enum he q
  · subst hP hw hK
    obtain ⟨hen, hi, hne⟩ := st
    obtain ⟨fp, Pv, St, D, st0, nxt, val, fr⟩ := Sk.draws I hc hs (hf it (by simp)) hi
    have nfp : e ∉ it :: fp := fun z => by
      rcases List.mem_cons.mp z with z | z
      · exact hne z
      · exact fr _ (hf e (by simp)) z
    have hl : (enV xs).length = xs.length := by simp [enV]
    refine ⟨_, _, _, _, _, (show WalksT X.prog X.w X.A e _ [e, it] (enV xs).length _ (fun i h => (∃ old, IsEnum h e it (0 + ((i : Nat) : Int)) old) ∧ St i h) _ by rw [hl]; exact WalksT.enumFrom 0 D e hne nfp (by simp)), fun b hb => by simpa using hb, ⟨hen, st0⟩, fun h z => ⟨z.1, nxt _ _ z.2, hne⟩, fun vals hv => ?_⟩
    obtain ⟨t, x, hx, rfl⟩ := hv
    obtain ⟨y, hy, ry⟩ := val _ _ hx
    refine ⟨[.int (i : Nat), y], ?_, .cons ⟨t, by simp⟩ (.cons ry .nil), by show 2 ≤ sizeLine; decide⟩
    simp [enV, hy]

theorem meets_en1 {v : Value} {o : Obj} {H : Heap → Prop} (B : Begins v o H) :
    Meets (Builtin.«enumerate.__new__» ⟨[.type "enumerate", v], []⟩) (fun _ R s => H s.heap ∧
      R (.ok (.ret (.ref (s.heap.push o).objs.size))) { s with heap := (s.heap.push o).push { cls := .type "enumerate", data := .fields #[.none, .bool false, .ref s.heap.objs.size, rawInt 0, .none, .none] } }) :=
  .of_wp fun prog w A R s h => by
    obtain ⟨hp, g, d, tk, os⟩ := s; obtain ⟨h1, h⟩ := h
    have sube := sub_enumerate
    have it1 : ∀ {A' : Around} {E' : Value → Shared → Prop} {Q' : Value → Shared → Prop}, Q' (.ref hp.objs.size) ⟨hp.push o, g, d, tk, os⟩ → wpAny (model prog w) A' (pyIter v) Q' E' ⟨hp, g, d, tk, os⟩ :=
      fun q => B.iter prog w _ _ ⟨hp, g, d, tk, os⟩ _ h1 q
    wp_walk using it1
    refine wpAny_stack_any fun stk => wpAny_pure ?_
    split
    · rename_i cc _ _ _ _ _
      cases (cc == Value.type "enumerate") <;> (wp_walk using it1; exact ⟨_, rfl, h⟩)
    · wp_walk using it1
      exact ⟨_, rfl, h⟩
theorem en_begins {prog : Program} {w : World} {A : Around} {E : Value → Shared → Prop} {s : Shared} {v : Value} {o : Obj} {H : Heap → Prop} {Q : Value → Shared → Prop} (B : Begins v o H) (h1 : H s.heap)
    (h : ∀ h', IsEnum h' (s.heap.objs.size + 1) s.heap.objs.size 0 .none → h'.get? s.heap.objs.size = some o → (∀ b o, s.heap.get? b = some o → h'.get? b = some o) → Q (.ref (s.heap.objs.size + 1)) { s with heap := h' }) :
    wpAny (model prog w) A (call (.type "enumerate") [v]) Q E s := by
  refine callType_new F.called_enumerate (by decide) (F.typeCall_enumerate_1 _) (F.newCall_enumerate_1 _) (fun obj => F.args_object_init_2 obj _) F.entry_enumerate_new (meets_en1 B) ⟨h1, ?_⟩
  have hz : (s.heap.push o).objs.size = s.heap.objs.size + 1 := Heap.size_push ..
  show _ ∧ _
  rw [hz]
  have he := Heap.get?_push_size (s.heap.push o) (o := { cls := .type "enumerate", data := .fields #[.none, .bool false, .ref s.heap.objs.size, rawInt 0, .none, .none] }) rfl
  rw [hz] at he
  exact ⟨⟨_, he, rfl⟩, h _ he (Heap.get?_push_of_some _ (Heap.get?_push_size _ B.free)) fun b o x => Heap.get?_push_of_some _ (Heap.get?_push_of_some _ x)⟩
/-- the cells of a zip lie apart -/
def Apart : List Addr → Prop
  | [] => True
  | a :: r => (∀ b ∈ r, a ≠ b) ∧ Apart r
def z2V (xs ys : List V) : List (List V) := List.zipWith (fun x y => [x, y]) xs ys
def z3V (xs ys zs : List V) : List (List V) := List.zipWith (fun x yz => x :: yz) xs (z2V ys zs)
theorem z2_at {xs ys : List V} {i : Nat} {x y : V} (h1 : xs[i]? = some x) (h2 : ys[i]? = some y) : (z2V xs ys)[i]? = some [x, y] := by simp [z2V, List.getElem?_zipWith, h1, h2]
theorem z3_at {xs ys zs : List V} {i : Nat} {x y z : V} (h1 : xs[i]? = some x) (h2 : ys[i]? = some y) (h3 : zs[i]? = some z) : (z3V xs ys zs)[i]? = some [x, y, z] := by simp [z3V, List.getElem?_zipWith, h1, z2_at h2 h3]
theorem turn_z2 {P : Program} {w : World} {K : PySem.W.Frag} {elts : List Expr} {kk : Nat} {tpos : Pos} {sk sk2 : Sk} {xs ys : List V} (tk tk2 : Tok) (z TI TO i1 i2 : Addr) (ap : Apart [z, TI, TO, i1, i2]) :
    Turn P w K (.Tuple elts kk tpos) (JT (fun H => sk.At K H xs ∧ sk2.At K H ys) (z2V xs ys)) [z, TI, TO, i1, i2] z
      (fun i h => IsZip h z TI TO .none ∧ IsTupOf2 h TI (.ref i1) (.ref i2) ∧ (∃ x y, IsTupOf2 h TO x y) ∧ sk.itr tk i1 i h ∧ sk2.itr tk2 i2 i h) := by
  simp only [Apart, List.mem_cons, List.not_mem_nil, or_false, forall_eq_or_imp, forall_eq, and_true, implies_true, true_and] at ap
  obtain ⟨⟨zTI, zTO, z1, z2⟩, ⟨TITO, TI1, TI2⟩, ⟨TO1, TO2⟩, i12, _⟩ := ap
  refine turn_t (by simp) (fun i h st c hc => ?_) (fun i h h' st k => ?_) (fun A i s Q E st q => wpAny_pyIter_zip st.1 q) fun X hP hw hK hc i pins s σ H I hs hf st => ?_
  · obtain ⟨hz, hTI, ⟨x, y, hTO⟩, h1, h2⟩ := st
    have e' : c = z ∨ c = TI ∨ c = TO ∨ c = i1 ∨ c = i2 := by simpa using hc
    rcases e' with q | q | q | q | q
    · rw [q]; exact ⟨_, hz, fun v q => nomatch q⟩
    · rw [q]; exact ⟨_, hTI, fun v q => nomatch q⟩
    · rw [q]; exact ⟨_, hTO, fun v q => nomatch q⟩
    · rw [q]; exact Sk.itr_obj (sk := sk) h1
    · rw [q]; exact Sk.itr_obj (sk := sk2) h2
  · obtain ⟨hz, hTI, ⟨x, y, hTO⟩, h1, h2⟩ := st
    exact ⟨k z (by simp) _ hz, k TI (by simp) _ hTI, ⟨x, y, k TO (by simp) _ hTO⟩, Sk.itr_keep (sk := sk) h1 fun o q => k i1 (by simp) o q, Sk.itr_keep (sk := sk2) h2 fun o q => k i2 (by simp) o q⟩
  · subst hP hw hK
    obtain ⟨hz, hTI, hTO, h1, h2⟩ := st
    obtain ⟨s1, s2⟩ := hs
    obtain ⟨fp1, Pv1, St1, D1, st1, nxt1, val1, fr1⟩ := Sk.draws I hc s1 (hf i1 (by simp)) h1
    obtain ⟨fp2, Pv2, St2, D2, st2, nxt2, val2, fr2⟩ := Sk.draws I hc s2 (hf i2 (by simp)) h2
    have S : ZipSep2 z TI TO i1 i2 (i1 :: fp1) (i2 :: fp2) :=
      { TIz := Ne.symm zTI, TOz := Ne.symm zTO, TITO := TITO, TIi1 := TI1, mem1 := by simp, zf1 := not_cons z1 (fr1 _ (hf z (by simp))), Tf1 := not_cons TO1 (fr1 _ (hf TO (by simp))),
        TIi2 := TI2, mem2 := by simp, zf2 := not_cons z2 (fr2 _ (hf z (by simp))), Tf2 := not_cons TO2 (fr2 _ (hf TO (by simp))), sep1_2 := not_cons i12 (fr2 _ (hf i1 (by simp))), sep2_1 := not_cons (Ne.symm i12) (fr1 _ (hf i2 (by simp))) }
    have hl : (z2V xs ys).length = min xs.length ys.length := by simp [z2V]
    refine ⟨_, _, _, _, _, (show WalksT X.prog X.w X.A z _ [z, TO, i1, i2] (z2V xs ys).length _ (fun i h => IsZip h z TI TO .none ∧ IsTupOf2 h TI (.ref i1) (.ref i2) ∧ (∃ a1 a2, IsTupOf2 h TO a1 a2) ∧ St1 i h ∧ St2 i h) _ by rw [hl]; exact WalksT.zipD2 S D1 D2),
      fun b hb => ?_, ⟨hz, hTI, hTO, st1, st2⟩, fun h q => ⟨q.1, q.2.1, q.2.2.1, nxt1 _ _ q.2.2.2.1, nxt2 _ _ q.2.2.2.2⟩, fun vals hv => ?_⟩
    · have hb : b = z ∨ b = TO ∨ b = i1 ∨ b = i2 := by simpa using hb
      rcases hb with q | q | q | q <;> simp [q]
    · obtain ⟨x, y, hx, hy, rfl⟩ := hv
      obtain ⟨x', hx', rx⟩ := val1 _ _ hx
      obtain ⟨y', hy', ry⟩ := val2 _ _ hy
      exact ⟨[x', y'], z2_at hx' hy', .cons rx (.cons ry .nil), by show 2 ≤ sizeLine; decide⟩
theorem turn_z3 {P : Program} {w : World} {K : PySem.W.Frag} {elts : List Expr} {kk : Nat} {tpos : Pos} {sk sk2 sk3 : Sk} {xs ys zs : List V} (tk tk2 tk3 : Tok) (z TI TO i1 i2 i3 : Addr) (ap : Apart [z, TI, TO, i1, i2, i3]) :
    Turn P w K (.Tuple elts kk tpos) (JT (fun H => sk.At K H xs ∧ sk2.At K H ys ∧ sk3.At K H zs) (z3V xs ys zs)) [z, TI, TO, i1, i2, i3] z
      (fun i h => IsZip h z TI TO .none ∧ IsTupOf3 h TI (.ref i1) (.ref i2) (.ref i3) ∧ (∃ x y u, IsTupOf3 h TO x y u) ∧ sk.itr tk i1 i h ∧ sk2.itr tk2 i2 i h ∧ sk3.itr tk3 i3 i h) := by
  simp only [Apart, List.mem_cons, List.not_mem_nil, or_false, forall_eq_or_imp, forall_eq, and_true, implies_true, true_and] at ap
  obtain ⟨⟨zTI, zTO, z1, z2, z3⟩, ⟨TITO, TI1, TI2, TI3⟩, ⟨TO1, TO2, TO3⟩, ⟨i12, i13⟩, i23, _⟩ := ap
  refine turn_t (by simp) (fun i h st c hc => ?_) (fun i h h' st k => ?_) (fun A i s Q E st q => wpAny_pyIter_zip st.1 q) fun X hP hw hK hc i pins s σ H I hs hf st => ?_
  · obtain ⟨hz, hTI, ⟨x, y, u, hTO⟩, h1, h2, h3⟩ := st
    have e' : c = z ∨ c = TI ∨ c = TO ∨ c = i1 ∨ c = i2 ∨ c = i3 := by simpa using hc
    rcases e' with q | q | q | q | q | q
    · rw [q]; exact ⟨_, hz, fun v q => nomatch q⟩
    · rw [q]; exact ⟨_, hTI, fun v q => nomatch q⟩
    · rw [q]; exact ⟨_, hTO, fun v q => nomatch q⟩
    · rw [q]; exact Sk.itr_obj (sk := sk) h1
    · rw [q]; exact Sk.itr_obj (sk := sk2) h2
    · rw [q]; exact Sk.itr_obj (sk := sk3) h3
  · obtain ⟨hz, hTI, ⟨x, y, u, hTO⟩, h1, h2, h3⟩ := st
    exact ⟨k z (by simp) _ hz, k TI (by simp) _ hTI, ⟨x, y, u, k TO (by simp) _ hTO⟩, Sk.itr_keep (sk := sk) h1 fun o q => k i1 (by simp) o q, Sk.itr_keep (sk := sk2) h2 fun o q => k i2 (by simp) o q, Sk.itr_keep (sk := sk3) h3 fun o q => k i3 (by simp) o q⟩
  · subst hP hw hK
    obtain ⟨hz, hTI, hTO, h1, h2, h3⟩ := st
    obtain ⟨s1, s2, s3⟩ := hs
    obtain ⟨fp1, Pv1, St1, D1, st1, nxt1, val1, fr1⟩ := Sk.draws I hc s1 (hf i1 (by simp)) h1
    obtain ⟨fp2, Pv2, St2, D2, st2, nxt2, val2, fr2⟩ := Sk.draws I hc s2 (hf i2 (by simp)) h2
    obtain ⟨fp3, Pv3, St3, D3, st3, nxt3, val3, fr3⟩ := Sk.draws I hc s3 (hf i3 (by simp)) h3
    have S : ZipSep3 z TI TO i1 i2 i3 (i1 :: fp1) (i2 :: fp2) (i3 :: fp3) :=
      { TIz := Ne.symm zTI, TOz := Ne.symm zTO, TITO := TITO, TIi1 := TI1, mem1 := by simp, zf1 := not_cons z1 (fr1 _ (hf z (by simp))), Tf1 := not_cons TO1 (fr1 _ (hf TO (by simp))),
        TIi2 := TI2, mem2 := by simp, zf2 := not_cons z2 (fr2 _ (hf z (by simp))), Tf2 := not_cons TO2 (fr2 _ (hf TO (by simp))),
        TIi3 := TI3, mem3 := by simp, zf3 := not_cons z3 (fr3 _ (hf z (by simp))), Tf3 := not_cons TO3 (fr3 _ (hf TO (by simp))),
        sep1_2 := not_cons i12 (fr2 _ (hf i1 (by simp))), sep1_3 := not_cons i13 (fr3 _ (hf i1 (by simp))), sep2_1 := not_cons (Ne.symm i12) (fr1 _ (hf i2 (by simp))),
        sep2_3 := not_cons i23 (fr3 _ (hf i2 (by simp))), sep3_1 := not_cons (Ne.symm i13) (fr1 _ (hf i3 (by simp))), sep3_2 := not_cons (Ne.symm i23) (fr2 _ (hf i3 (by simp))) }
    have hl : (z3V xs ys zs).length = min (min xs.length ys.length) zs.length := by simp [z3V, z2V, Nat.min_assoc]
    refine ⟨_, _, _, _, _, (show WalksT X.prog X.w X.A z _ [z, TO, i1, i2, i3] (z3V xs ys zs).length _ (fun i h => IsZip h z TI TO .none ∧ IsTupOf3 h TI (.ref i1) (.ref i2) (.ref i3) ∧ (∃ a1 a2 a3, IsTupOf3 h TO a1 a2 a3) ∧ St1 i h ∧ St2 i h ∧ St3 i h) _ by rw [hl]; exact WalksT.zipD3 S D1 D2 D3),
      fun b hb => ?_, ⟨hz, hTI, hTO, st1, st2, st3⟩, fun h q => ⟨q.1, q.2.1, q.2.2.1, nxt1 _ _ q.2.2.2.1, nxt2 _ _ q.2.2.2.2.1, nxt3 _ _ q.2.2.2.2.2⟩, fun vals hv => ?_⟩
    · have hb : b = z ∨ b = TO ∨ b = i1 ∨ b = i2 ∨ b = i3 := by simpa using hb
      rcases hb with q | q | q | q | q <;> simp [q]
    · obtain ⟨x, y, u, hx, hy, hu, rfl⟩ := hv
      obtain ⟨x', hx', rx⟩ := val1 _ _ hx
      obtain ⟨y', hy', ry⟩ := val2 _ _ hy
      obtain ⟨u', hu', ru⟩ := val3 _ _ hu
      exact ⟨[x', y', u'], z3_at hx' hy' hu', .cons rx (.cons ry (.cons ru .nil)), by show 3 ≤ sizeLine; decide⟩

def iEn (K : PySem.W.Frag) (ta : TA) : TI := fun σ H R => ta σ H fun vs H1 => ∃ sk xs, vs = [Sk.val sk] ∧ sk.At K H1 xs ∧ R (JT (fun H => sk.At K H xs) (enV xs)) H1
def iZ2 (K : PySem.W.Frag) (ta : TA) : TI := fun σ H R => ta σ H fun vs H1 => ∃ sk xs sk2 ys, vs = [Sk.val sk, Sk.val sk2] ∧ sk.At K H1 xs ∧ sk2.At K H1 ys ∧ R (JT (fun H => sk.At K H xs ∧ sk2.At K H ys) (z2V xs ys)) H1
def iZ3 (K : PySem.W.Frag) (ta : TA) : TI := fun σ H R => ta σ H fun vs H1 => ∃ sk xs sk2 ys sk3 zs, vs = [Sk.val sk, Sk.val sk2, Sk.val sk3] ∧ sk.At K H1 xs ∧ sk2.At K H1 ys ∧ sk3.At K H1 zs ∧ R (JT (fun H => sk.At K H xs ∧ sk2.At K H ys ∧ sk3.At K H zs) (z3V xs ys zs)) H1
theorem pi_en {ta : TA} {p pos tpos : Pos} {elts : List Expr} {kk : Nat} (hg : Gl X "enumerate") (hm : X.mg "enumerate" = none) (ha : PA X [e] ta) (hs : starEach [e] X.env = [(false, eval e X.env)] := by rfl) :
    PI X (.Tuple elts kk tpos) (.Call (.Name "enumerate" p) [e] [] pos) (iEn X.K ta) := by
  refine ⟨fun pins s σ H R I h => ?_⟩
  refine Call_ (ld_blt I hg hm boot_enumerate (PyProof.Rows.callWith_type1 (thn (ha.run pos pins s σ H _ I h) fun us s1 ⟨vs, H1, I1, r1, q1⟩ => ?_) hs rfl))
  obtain ⟨sk, xs, ex, at_, q⟩ := q1
  subst ex
  cases r1 with
  | cons r rr =>
    cases rr
    obtain ⟨tk, Hb, B, hb, _⟩ := Sk.begins I1 at_ r
    refine en_begins B hb fun h' he hit hk => wpAny_pyIter_enum he ?_
    have I2 : Inv X pins σ H1 { s1 with heap := h' } := I1.kept (t' := s1.toks) hk
    refine ⟨s1.heap.objs.size + 1, [s1.heap.objs.size + 1, s1.heap.objs.size], _, _, H1, rfl, I2, turn_en tk (s1.heap.objs.size + 1) s1.heap.objs.size, ⟨⟨.none, he⟩, Sk.itr_new hit, Nat.succ_ne_self _⟩, fun b hb => ?_, q⟩
    have e' : b = s1.heap.objs.size + 1 ∨ b = s1.heap.objs.size := by simpa using hb
    have hle : s1.heap.objs.size ≤ b := by rcases e' with z | z <;> (rw [z]; first | exact Nat.le_refl _ | exact Nat.le_add_right _ _)
    exact I1.fpOk hle (I1.hok.fresh hle)
theorem pi_z2 {e2 : Expr} {ta : TA} {p pos tpos : Pos} {elts : List Expr} {kk : Nat} (hg : Gl X "zip") (hm : X.mg "zip" = none) (ha : PA X [e, e2] ta)
    (hs : starEach [e, e2] X.env = (false, eval e X.env) :: starEach [e2] X.env := by rfl) (hpl : (backTo pos (starEach [e2] X.env)).any (·.1) = false := by rfl) :
    PI X (.Tuple elts kk tpos) (.Call (.Name "zip" p) [e, e2] [] pos) (iZ2 X.K ta) := by
  refine ⟨fun pins s σ H R I h => ?_⟩
  refine Call_ (ld_blt I hg hm PyProof.Rows.boot_zip (PyProof.Rows.callWith_type1 (thn (ha.run pos pins s σ H _ I h) fun us s1 ⟨vs, H1, I1, r1, q1⟩ => ?_) hs hpl))
  obtain ⟨sk, xs, sk2, ys, ex, at1, at2, q⟩ := q1
  subst ex
  cases r1 with
  | cons r rr =>
    cases rr with
    | cons r' rr =>
      cases rr
      obtain ⟨tk, Hb, B, hb, _⟩ := Sk.begins I1 at1 r
      obtain ⟨tk2, Hb2, B2, hb2, _⟩ := Sk.begins I1 at2 r'
      refine zip_begins2 B B2 hb hb2 fun h' hz hTI hTO h1 h2 hsz hk => wpAny_pyIter_zip hz ?_
      have I2 : Inv X pins σ H1 { s1 with heap := h' } := I1.kept (t' := s1.toks) hk
      refine ⟨s1.heap.objs.size + 4, [s1.heap.objs.size + 4, s1.heap.objs.size + 2, s1.heap.objs.size + 3, s1.heap.objs.size, s1.heap.objs.size + 1], _, _, H1, rfl, I2,
        turn_z2 tk tk2 _ _ _ _ _ ?_, ⟨hz, hTI, ⟨_, _, hTO⟩, Sk.itr_new h1, Sk.itr_new h2⟩, fun c hcm => ?_, q⟩
      · have ap : ∀ N : Nat, Apart [N + 4, N + 2, N + 3, N, N + 1] := fun N => by
          simp only [Apart, List.mem_cons, List.not_mem_nil, or_false, forall_eq_or_imp, forall_eq, and_true]
          refine ⟨⟨?_, ?_, ?_, ?_⟩, ⟨?_, ?_, ?_⟩, ⟨?_, ?_⟩, ?_⟩ <;> first | (intro b hb; cases hb) | (intro z; have z' : (_ : Nat) = _ := z; omega) | (refine ⟨fun z => ?_, fun b hb => by cases hb⟩; have z' : (_ : Nat) = _ := z; omega)
        exact ap _
      · have e' : c = s1.heap.objs.size + 4 ∨ c = s1.heap.objs.size + 2 ∨ c = s1.heap.objs.size + 3 ∨ c = s1.heap.objs.size ∨ c = s1.heap.objs.size + 1 := by simpa using hcm
        have hle : s1.heap.objs.size ≤ c := by rcases e' with z | z | z | z | z <;> (rw [z]; first | exact Nat.le_refl _ | exact Nat.le_add_right _ _)
        exact I1.fpOk hle (I1.hok.fresh hle)
theorem pi_z3 {e2 e3 : Expr} {ta : TA} {p pos tpos : Pos} {elts : List Expr} {kk : Nat} (hg : Gl X "zip") (hm : X.mg "zip" = none) (ha : PA X [e, e2, e3] ta)
    (hs : starEach [e, e2, e3] X.env = (false, eval e X.env) :: starEach [e2, e3] X.env := by rfl) (hpl : (backTo pos (starEach [e2, e3] X.env)).any (·.1) = false := by rfl) :
    PI X (.Tuple elts kk tpos) (.Call (.Name "zip" p) [e, e2, e3] [] pos) (iZ3 X.K ta) := by
  refine ⟨fun pins s σ H R I h => ?_⟩
  refine Call_ (ld_blt I hg hm PyProof.Rows.boot_zip (PyProof.Rows.callWith_type1 (thn (ha.run pos pins s σ H _ I h) fun us s1 ⟨vs, H1, I1, r1, q1⟩ => ?_) hs hpl))
  obtain ⟨sk, xs, sk2, ys, sk3, zs, ex, at1, at2, at3, q⟩ := q1
  subst ex
  cases r1 with
  | cons r rr =>
    cases rr with
    | cons r' rr =>
      cases rr with
      | cons r'' rr =>
        cases rr
        obtain ⟨tk, Hb, B, hb, _⟩ := Sk.begins I1 at1 r
        obtain ⟨tk2, Hb2, B2, hb2, _⟩ := Sk.begins I1 at2 r'
        obtain ⟨tk3, Hb3, B3, hb3, _⟩ := Sk.begins I1 at3 r''
        refine zip_begins3 B B2 B3 hb hb2 hb3 fun h' hz hTI hTO h1 h2 h3 hsz hk => wpAny_pyIter_zip hz ?_
        have I2 : Inv X pins σ H1 { s1 with heap := h' } := I1.kept (t' := s1.toks) hk
        refine ⟨s1.heap.objs.size + 5, [s1.heap.objs.size + 5, s1.heap.objs.size + 3, s1.heap.objs.size + 4, s1.heap.objs.size, s1.heap.objs.size + 1, s1.heap.objs.size + 2], _, _, H1, rfl, I2,
          turn_z3 tk tk2 tk3 _ _ _ _ _ _ ?_, ⟨hz, hTI, ⟨_, _, _, hTO⟩, Sk.itr_new h1, Sk.itr_new h2, Sk.itr_new h3⟩, fun c hcm => ?_, q⟩
        · have ap : ∀ N : Nat, Apart [N + 5, N + 3, N + 4, N, N + 1, N + 2] := fun N => by
            simp only [Apart, List.mem_cons, List.not_mem_nil, or_false, forall_eq_or_imp, forall_eq, and_true]
            refine ⟨⟨?_, ?_, ?_, ?_, ?_⟩, ⟨?_, ?_, ?_, ?_⟩, ⟨?_, ?_, ?_⟩, ⟨?_, ?_⟩, ?_⟩ <;> first | (intro b hb; cases hb) | (intro z; have z' : (_ : Nat) = _ := z; omega) | (refine ⟨fun z => ?_, fun b hb => by cases hb⟩; have z' : (_ : Nat) = _ := z; omega)
          exact ap _
        · have e' : c = s1.heap.objs.size + 5 ∨ c = s1.heap.objs.size + 3 ∨ c = s1.heap.objs.size + 4 ∨ c = s1.heap.objs.size ∨ c = s1.heap.objs.size + 1 ∨ c = s1.heap.objs.size + 2 := by simpa using hcm
          have hle : s1.heap.objs.size ≤ c := by rcases e' with z | z | z | z | z | z <;> (rw [z]; first | exact Nat.le_refl _ | exact Nat.le_add_right _ _)
          exact I1.fpOk hle (I1.hok.fresh hle)
end
end PD
/-! PD: what loops walk, as data. -/
namespace PD
open PySem PySem.Spec PyProof.Rows L2

/-- a list, a tuple, a text: its items -/
def seqD : D → Option (List D)
  | .tup xs => some xs
  | .lst xs => some xs
  | .str l => some (l.map fun c => .str [c])
  | .scr ns => some (ns.map .int)
  | _ => none
def itemsD : D → Option (List D)
  | .dct kvs => some (kvs.map (·.1))
  | d => seqD d
def mIt (m : M R) : M (List D) := fun s => (m s).bind fun p => (mShare p.1 p.2).bind fun q => (itemsD q.1).map fun is => (is, q.2)
def valsD : D → Option (List D)
  | .dct kvs => some (kvs.map (·.2))
  | _ => none
def itmsD : D → Option (List D)
  | .dct kvs => some (kvs.map fun p => .tup [p.1, p.2])
  | _ => none
def mItV (m : M R) : M (List D) := fun s => (m s).bind fun p => (mShare p.1 p.2).bind fun q => (valsD q.1).map fun is => (is, q.2)
def mItI (m : M R) : M (List D) := fun s => (m s).bind fun p => (mShare p.1 p.2).bind fun q => (itmsD q.1).map fun is => (is, q.2)
def mItA (f : List D → Option (List D)) (ms : List (M R)) : M (List D) := fun s => (mShs ms s).bind fun p => (f p.1).map fun is => (is, p.2)
def rgB (j : Int) : Bool := decide (-(2 ^ 62) ≤ j) && decide (j < 2 ^ 62)
def fRng1 : List D → Option (List D)
  | [.int j] => if rgB j = true then some ((List.range j.toNat).map fun i => .int (0 + (i : Nat))) else none
  | _ => none
def fRng2 : List D → Option (List D)
  | [.int i, .int j] => if (rgB i && rgB j) = true then some ((List.range (j - i).toNat).map fun k => .int (i + (k : Nat))) else none
  | _ => none
instance (i j c : Int) (n : Nat) : Decidable (RgC i j c n) := by unfold RgC; infer_instance
def fRng3 : List D → Option (List D)
  | [.int i, .int j, .int c] => if RgC i j c (Builtin.Range.rangeSize i j c).toNat then some ((List.range (Builtin.Range.rangeSize i j c).toNat).map fun k => .int (i + (k : Nat) * c)) else none
  | _ => none
def enD (xs : List D) : List (List D) := xs.mapIdx fun i x => [.int (i : Nat), x]
def fEn : List D → Option (List D)
  | [d] => (seqD d).map fun xs => (enD xs).map .tup
  | _ => none
def z2D (xs ys : List D) : List (List D) := List.zipWith (fun x y => [x, y]) xs ys
def z3D (xs ys zs : List D) : List (List D) := List.zipWith (fun x yz => x :: yz) xs (z2D ys zs)
def fZ2 : List D → Option (List D)
  | [d, e] => (seqD d).bind fun xs => (seqD e).map fun ys => (z2D xs ys).map .tup
  | _ => none
def fZ3 : List D → Option (List D)
  | [d, e, f] => (seqD d).bind fun xs => (seqD e).bind fun ys => (seqD f).map fun zs => (z3D xs ys zs).map .tup
  | _ => none
section
variable {w : World} {K : PySem.W.Frag} {g : Gh} {σ : St} {H : Hp}
theorem itok_w {src : Hp → Prop} {xs : List V} {ds : List D} (hs : ∀ H1, Sub g.F H1 → src H1) (r : RepL w K g.st g.F xs ds) : ItOk w K (JW src xs) g ds where
  go := fun i g1 H1 hF hS hH hi => ⟨⟨hs H1 (hF.trans hH), by rw [r.length]; exact hi⟩, fun x H2 ⟨e, hx⟩ => by
    subst e
    obtain ⟨d, hd, rd⟩ := r.get hx
    exact ⟨g1, ExtP.refl hH, d, hd, rd.mono hS hF⟩⟩
  stop := fun i g1 H1 hF hS hH hi => ⟨hs H1 (hF.trans hH), by rw [r.length]; exact hi⟩
inductive RepLL (w : World) (K : PySem.W.Frag) (g : Gh) : List (List V) → List (List D) → Prop
  | nil : RepLL w K g [] []
  | cons {x : List V} {xs : List (List V)} {d : List D} {ds : List (List D)} : RepL w K g.st g.F x d → RepLL w K g xs ds → RepLL w K g (x :: xs) (d :: ds)
theorem RepLL.length {xs : List (List V)} {ds : List (List D)} (h : RepLL w K g xs ds) : xs.length = ds.length := by
  induction h with
  | nil => rfl
  | cons _ _ ih => rw [List.length_cons, List.length_cons, ih]
theorem RepLL.get {xs : List (List V)} {ds : List (List D)} (h : RepLL w K g xs ds) : ∀ {i : Nat} {x : List V}, xs[i]? = some x → ∃ d, ds[i]? = some d ∧ RepL w K g.st g.F x d := by
  induction h with
  | nil => intro i x e; simp at e
  | cons a _ ih =>
    intro i x e
    cases i with
    | zero => simp only [List.getElem?_cons_zero, Option.some.injEq] at e; subst e; exact ⟨_, rfl, a⟩
    | succ i => exact ih (by simpa using e)
theorem itok_t {src : Hp → Prop} {xs : List (List V)} {ds : List (List D)} (hs : ∀ H1, Sub g.F H1 → src H1) (r : RepLL w K g xs ds) : ItOk w K (JT src xs) g (ds.map .tup) where
  go := fun i g1 H1 hF hS hH hi => ⟨⟨hs H1 (hF.trans hH), by rw [r.length]; simpa using hi⟩, fun x H2 ⟨T, ys, ex, hT, e, hx⟩ => by
    subst e ex
    obtain ⟨d, hd, rd⟩ := r.get hx
    have EP : ExtP g1 H1 (frzG g1 (upd H1 T (.tup ys)) T) (upd H1 T (.tup ys)) := ExtP.newF' hH hT
    refine ⟨_, EP, .tup d, by simp [hd], ?_⟩
    exact Rep.tup (SqT.of (show frzF g1.F (upd H1 T (.tup ys)) T T = some (.tup ys) by rw [frzF_same, upd_same])) (rd.mono hS (hF.trans EP.mono))⟩
  stop := fun i g1 H1 hF hS hH hi => ⟨hs H1 (hF.trans hH), by rw [r.length]; simpa using hi⟩
theorem rep_sk {v : V} {d : D} {ds : List D} (h : Rep w K g.st g.F v d) (e : seqD d = some ds) : ∃ sk xs, v = Sk.val sk ∧ (∀ H1, Sub g.F H1 → sk.At K H1 xs) ∧ RepL w K g.st g.F xs ds := by
  cases h with
  | tup a b => cases e; exact ⟨.t _, _, rfl, fun H1 s => s.seqT a, b⟩
  | lst a b => cases e; exact ⟨.l _, _, rfl, fun H1 s => SqL.of (s _ _ a), b⟩
  | @str l hl =>
    cases e
    refine ⟨.s (sOf l), chV (sOf l), rfl, fun _ _ => rfl, ?_⟩
    have : ∀ l' : List Nat, (∀ c ∈ l', c < 128) → RepL w K g.st g.F (l'.map fun c => V.str ⟨#[c]⟩) (l'.map fun c => D.str [c]) := fun l' => by
      induction l' with
      | nil => exact fun _ => .nil
      | cons c l' ih =>
        intro h
        refine .cons ?_ (ih fun c' hc => h c' (List.mem_cons_of_mem _ hc))
        exact Rep.str (l := [c]) ⟨by show 1 ≤ sizeLine; decide, fun c' hc => by rw [List.mem_singleton.mp hc]; exact h c List.mem_cons_self⟩
    have e2 : chV (sOf l) = l.map fun c => V.str ⟨#[c]⟩ := by unfold chV; rw [sOf_cps]
    rw [e2]
    exact this l hl.2
  | @scr a ns h =>
    cases e
    refine ⟨.l _, _, rfl, fun H1 s => s.seq h, ?_⟩
    clear h
    induction ns with
    | nil => exact .nil
    | cons n ns ih => exact .cons (.int n) ih
  | _ => cases e
theorem repE_k {es : List DictEntry} {kvs : List (D × D)} (h : RepE w K g.st g.F es kvs) : ∃ xs, Paired EK es xs ∧ RepL w K g.st g.F xs (kvs.map (·.1)) := by
  have : ∀ {es : List DictEntry} {kvs : List (D × D)}, RepE w K g.st g.F es kvs → ∃ xs, Paired EK es xs ∧ RepL w K g.st g.F xs (kvs.map (·.1)) := by
    intro es
    induction es with
    | nil => intro kvs h; cases h; exact ⟨[], .nil, .nil⟩
    | cons e es ih =>
      intro kvs h
      cases h with
      | cons a b c d t => obtain ⟨xs, h1, h2⟩ := ih t; exact ⟨_ :: xs, .cons a h1, .cons b h2⟩
  exact this h
theorem repE_v {es : List DictEntry} {kvs : List (D × D)} (h : RepE w K g.st g.F es kvs) : ∃ xs, Paired EVv es xs ∧ RepL w K g.st g.F xs (kvs.map (·.2)) := by
  have : ∀ {es : List DictEntry} {kvs : List (D × D)}, RepE w K g.st g.F es kvs → ∃ xs, Paired EVv es xs ∧ RepL w K g.st g.F xs (kvs.map (·.2)) := by
    intro es
    induction es with
    | nil => intro kvs h; cases h; exact ⟨[], .nil, .nil⟩
    | cons e es ih =>
      intro kvs h
      cases h with
      | cons a b c d t => obtain ⟨xs, h1, h2⟩ := ih t; exact ⟨_ :: xs, .cons c h1, .cons d h2⟩
  exact this h
theorem repE_i {es : List DictEntry} {kvs : List (D × D)} (h : RepE w K g.st g.F es kvs) : ∃ xs, Paired EKV es xs ∧ RepLL w K g xs (kvs.map fun p => [p.1, p.2]) := by
  have : ∀ {es : List DictEntry} {kvs : List (D × D)}, RepE w K g.st g.F es kvs → ∃ xs, Paired EKV es xs ∧ RepLL w K g xs (kvs.map fun p => [p.1, p.2]) := by
    intro es
    induction es with
    | nil => intro kvs h; cases h; exact ⟨[], .nil, .nil⟩
    | cons e es ih =>
      intro kvs h
      cases h with
      | cons a b c d t => obtain ⟨xs, h1, h2⟩ := ih t; exact ⟨_ :: xs, .cons ⟨_, _, rfl, a, c⟩ h1, .cons (.cons b (.cons d .nil)) h2⟩
  exact this h
theorem sh_LI {m : M R} {f : D → Option (List D)} {r : V → Hp → (It → Hp → Prop) → Prop} {R : It → Hp → Prop}
    (hr : ∀ (g : Gh) (H : Hp) (v : V) (d : D) (is : List D), Sub g.F H → Rep w K g.st g.F v d → f d = some is → (∀ J, ItOk w K J g is → R J H) → r v H R)
    (h : LI w K (fun s => (m s).bind fun p => (mShare p.1 p.2).bind fun q => (f q.1).map fun is => (is, q.2)) σ H R) : LE w K m σ H fun x H1 => r x H1 R := by
  obtain ⟨g, s, G, items, s', e, q⟩ := h
  have e : ((m s).bind fun p => (mShare p.1 p.2).bind fun q => (f q.1).map fun is => (is, q.2)) = some (items, s') := e
  cases ea : m s with
  | none => rw [ea] at e; cases e
  | some p =>
    obtain ⟨ra, s1⟩ := p
    rw [ea] at e
    simp only [Option.bind_some] at e
    cases eb : mShare ra s1 with
    | none => rw [eb] at e; cases e
    | some p2 =>
      obtain ⟨da, s2⟩ := p2
      rw [eb] at e
      simp only [Option.bind_some] at e
      cases ec : f da with
      | none => rw [ec] at e; cases e
      | some is =>
        rw [ec] at e
        simp only [Option.map_some, Option.some.injEq, Prod.mk.injEq] at e
        obtain ⟨rfl, rfl⟩ := e
        refine LE.use G ea fun v1 g1 H1 G1 E1 R1 => ?_
        obtain ⟨g2, G2, E2, rep, hm, hst⟩ := share_ok G1 R1 E1 eb
        exact hr g2 H1 v1 da is G2.fr rep ec fun J it => q J g2 H1 G2 E2 it
theorem iVal_LI {m : M R} {R : It → Hp → Prop} (h : LI w K (mIt m) σ H R) : iVal K (LE w K m) σ H R :=
  sh_LI (r := fun x H1 R => (∃ sk xs, x = Sk.val sk ∧ sk.At K H1 xs ∧ R (JW (fun H => sk.At K H xs) xs) H1) ∨ (∃ a es ep xs, x = .ref a ∧ H1 a = some (dxO a es ep) ∧ Paired EK es.toList xs ∧ R (JW (fun H => H a = some (dxO a es ep)) xs) H1))
    (fun g H v d is hf rep e k => by
      have sq : seqD d = some is → ∃ sk xs, v = Sk.val sk ∧ sk.At K H xs ∧ R (JW (fun H => sk.At K H xs) xs) H := fun e => by
        obtain ⟨sk, xs, ev, at_, rl⟩ := rep_sk rep e
        exact ⟨sk, xs, ev, at_ H hf, k _ (itok_w at_ rl)⟩
      cases d with
      | dct kvs =>
        cases e
        cases rep with
        | dct ha hd he =>
          obtain ⟨xs, hp, rl⟩ := repE_k he
          exact .inr ⟨_, _, _, xs, rfl, hf _ _ ha, hp, k _ (itok_w (fun H1 s => s _ _ ha) rl)⟩
      | tup _ => exact .inl (sq e)
      | lst _ => exact .inl (sq e)
      | str _ => exact .inl (sq e)
      | scr _ => exact .inl (sq e)
      | non => cases e
      | bl _ => cases e
      | int _ => cases e
      | st => cases e
      | cv _ => cases e) h
theorem iVls_LI {m : M R} {R : It → Hp → Prop} (h : LI w K (mItV m) σ H R) : iVls (LE w K m) σ H R :=
  sh_LI (r := fun x H1 R => ∃ a es ep xs, x = .ref a ∧ H1 a = some (dxO a es ep) ∧ Paired EVv es.toList xs ∧ R (JW (fun H => H a = some (dxO a es ep)) xs) H1)
    (fun g H v d is hf rep e k => by
      cases d with
      | dct kvs =>
        cases e
        cases rep with
        | dct ha hd he =>
          obtain ⟨xs, hp, rl⟩ := repE_v he
          exact ⟨_, _, _, xs, rfl, hf _ _ ha, hp, k _ (itok_w (fun H1 s => s _ _ ha) rl)⟩
      | _ => cases e) h
theorem iItm_LI {m : M R} {R : It → Hp → Prop} (h : LI w K (mItI m) σ H R) : iItm (LE w K m) σ H R :=
  sh_LI (r := fun x H1 R => ∃ a es ep xs, x = .ref a ∧ H1 a = some (dxO a es ep) ∧ Paired EKV es.toList xs ∧ R (JT (fun H => H a = some (dxO a es ep)) xs) H1)
    (fun g H v d is hf rep e k => by
      cases d with
      | dct kvs =>
        cases e
        cases rep with
        | dct ha hd he =>
          obtain ⟨xs, hp, rl⟩ := repE_i he
          have := itok_t (src := fun H => H _ = some (dxO _ _ _)) (fun H1 s => s _ _ ha) rl
          rw [List.map_map] at this
          exact ⟨_, _, _, xs, rfl, hf _ _ ha, hp, k _ this⟩
      | _ => cases e) h
theorem a_LI {ms : List (M R)} {f : List D → Option (List D)} {r : List V → Hp → (It → Hp → Prop) → Prop} {R : It → Hp → Prop}
    (hr : ∀ (g : Gh) (H : Hp) (vs : List V) (ds : List D) (is : List D), Sub g.F H → RepL w K g.st g.F vs ds → f ds = some is → (∀ J, ItOk w K J g is → R J H) → r vs H R)
    (h : LI w K (mItA f ms) σ H R) : LD w K (mShs ms) σ H fun x H1 => r x H1 R := by
  obtain ⟨g, s, G, items, s', e, q⟩ := h
  unfold mItA at e
  cases ea : mShs ms s with
  | none => rw [ea] at e; cases e
  | some p =>
    obtain ⟨ds, s1⟩ := p
    rw [ea] at e
    simp only [Option.bind_some] at e
    cases ec : f ds with
    | none => rw [ec] at e; cases e
    | some is =>
      rw [ec] at e
      simp only [Option.map_some, Option.some.injEq, Prod.mk.injEq] at e
      obtain ⟨rfl, rfl⟩ := e
      exact ⟨g, s, G, ds, s1, ea, fun vs g1 H1 G1 E1 R1 => hr g1 H1 vs ds is G1.fr R1 ec fun J it => q J g1 H1 G1 E1 it⟩
theorem itok_rng {lo : Int} {n : Nat} : ItOk w K (Itr lo n) g ((List.range n).map fun k => .int (lo + (k : Nat))) where
  go := fun i g1 H1 hF hS hH hi => by
    have hi : i < n := by simpa using hi
    refine ⟨hi, fun x H2 ⟨e, hx⟩ => ?_⟩
    subst e hx
    exact ⟨g1, ExtP.refl hH, .int (lo + (i : Nat)), by simp [hi], .int _⟩
  stop := fun i g1 H1 hF hS hH hi => by
    have hi : i = n := by simpa using hi
    exact Nat.le_of_eq hi.symm
theorem itok_rngC {lo c : Int} {n : Nat} : ItOk w K (Itc lo c n) g ((List.range n).map fun k => .int (lo + (k : Nat) * c)) where
  go := fun i g1 H1 hF hS hH hi => by
    have hi : i < n := by simpa using hi
    refine ⟨hi, fun x H2 ⟨e, hx⟩ => ?_⟩
    subst e hx
    exact ⟨g1, ExtP.refl hH, .int (lo + (i : Nat) * c), by simp [hi], .int _⟩
  stop := fun i g1 H1 hF hS hH hi => by
    have hi : i = n := by simpa using hi
    exact Nat.le_of_eq hi.symm
theorem rgB_ok {j : Int} (h : rgB j = true) : -(2 ^ 62) ≤ j ∧ j < 2 ^ 62 := by
  unfold rgB at h
  simpa only [Bool.and_eq_true, decide_eq_true_eq] using h
theorem repl_int1 {vs : List V} {j : Int} (h : RepL w K g.st g.F vs [.int j]) : vs = [.int j] := by
  cases h with
  | cons a b => cases a; cases b; rfl
theorem iRng1_LI {ms : List (M R)} {R : It → Hp → Prop} (h : LI w K (mItA fRng1 ms) σ H R) : iRng1 (LD w K (mShs ms)) σ H R :=
  a_LI (r := fun vs H1 R => ∃ j : Int, vs = [.int j] ∧ -(2 ^ 62) ≤ j ∧ j < 2 ^ 62 ∧ R (Itr 0 j.toNat) H1) (fun g H vs ds is hf rl e k => by
    unfold fRng1 at e
    split at e
    · split at e
      · rename_i hb
        cases e
        cases repl_int1 rl
        exact ⟨_, rfl, (rgB_ok hb).1, (rgB_ok hb).2, k _ itok_rng⟩
      · cases e
    · cases e) h
theorem iRng2_LI {ms : List (M R)} {R : It → Hp → Prop} (h : LI w K (mItA fRng2 ms) σ H R) : iRng2 (LD w K (mShs ms)) σ H R :=
  a_LI (r := fun vs H1 R => ∃ i j : Int, vs = [.int i, .int j] ∧ (-(2 ^ 62) ≤ i ∧ i < 2 ^ 62 ∧ -(2 ^ 62) ≤ j ∧ j < 2 ^ 62) ∧ R (Itr i (j - i).toNat) H1) (fun g H vs ds is hf rl e k => by
    unfold fRng2 at e
    split at e
    · split at e
      · rename_i hb
        rw [Bool.and_eq_true] at hb
        cases e
        cases rl with
        | cons a b =>
          cases a
          cases repl_int1 b
          exact ⟨_, _, rfl, ⟨(rgB_ok hb.1).1, (rgB_ok hb.1).2, (rgB_ok hb.2).1, (rgB_ok hb.2).2⟩, k _ itok_rng⟩
      · cases e
    · cases e) h
theorem iRng3_LI {ms : List (M R)} {R : It → Hp → Prop} (h : LI w K (mItA fRng3 ms) σ H R) : iRng3 (LD w K (mShs ms)) σ H R :=
  a_LI (r := fun vs H1 R => ∃ (i j c : Int) (n : Nat), vs = [.int i, .int j, .int c] ∧ RgC i j c n ∧ R (Itc i c n) H1) (fun g H vs ds is hf rl e k => by
    unfold fRng3 at e
    split at e
    · split at e
      · rename_i hb
        cases e
        cases rl with
        | cons a b =>
          cases a
          cases b with
          | cons a b =>
            cases a
            cases repl_int1 b
            exact ⟨_, _, _, _, rfl, hb, k _ itok_rngC⟩
      · cases e
    · cases e) h
theorem repll_en {xs : List V} {ds : List D} (r : RepL w K g.st g.F xs ds) : RepLL w K g (enV xs) (ds.mapIdx fun i x => [.int (i : Nat), x]) := by
  have : ∀ {xs : List V} {ds : List D} (n : Nat), RepL w K g.st g.F xs ds → RepLL w K g (xs.mapIdx fun i x => [V.int ((i + n : Nat) : Int), x]) (ds.mapIdx fun i x => [D.int ((i + n : Nat) : Int), x]) := by
    intro xs
    induction xs with
    | nil => intro ds n h; cases h; exact .nil
    | cons x xs ih =>
      intro ds n h
      cases h with
      | cons a b =>
        rw [List.mapIdx_cons, List.mapIdx_cons]
        refine .cons (.cons (.int _) (.cons a .nil)) ?_
        have := ih (n + 1) b
        simpa only [Nat.add_assoc, Nat.add_comm 1 n] using this
  simpa [enV] using this 0 r
theorem repll_z2 {xs ys : List V} {ds es : List D} (r : RepL w K g.st g.F xs ds) (r2 : RepL w K g.st g.F ys es) : RepLL w K g (z2V xs ys) (z2D ds es) := by
  have : ∀ {xs ys : List V} {ds es : List D}, RepL w K g.st g.F xs ds → RepL w K g.st g.F ys es → RepLL w K g (z2V xs ys) (z2D ds es) := by
    intro xs
    induction xs with
    | nil => intro ys ds es h _; cases h; exact .nil
    | cons x xs ih =>
      intro ys ds es h h2
      cases h with
      | cons a b =>
        cases h2 with
        | nil => exact .nil
        | cons c d => exact .cons (.cons a (.cons c .nil)) (ih b d)
  exact this r r2
theorem repll_z3 {xs ys zs : List V} {ds es fs : List D} (r : RepL w K g.st g.F xs ds) (r2 : RepL w K g.st g.F ys es) (r3 : RepL w K g.st g.F zs fs) : RepLL w K g (z3V xs ys zs) (z3D ds es fs) := by
  have : ∀ {xs : List V} {ds : List D} {yy : List (List V)} {ee : List (List D)}, RepL w K g.st g.F xs ds → RepLL w K g yy ee → RepLL w K g (List.zipWith (fun x yz => x :: yz) xs yy) (List.zipWith (fun x yz => x :: yz) ds ee) := by
    intro xs
    induction xs with
    | nil => intro ds yy ee h _; cases h; exact .nil
    | cons x xs ih =>
      intro ds yy ee h h2
      cases h with
      | cons a b =>
        cases h2 with
        | nil => exact .nil
        | cons c d => exact .cons (.cons a c) (ih b d)
  exact this r (repll_z2 r2 r3)
theorem iEn_LI {ms : List (M R)} {R : It → Hp → Prop} (h : LI w K (mItA fEn ms) σ H R) : iEn K (LD w K (mShs ms)) σ H R :=
  a_LI (r := fun vs H1 R => ∃ sk xs, vs = [Sk.val sk] ∧ sk.At K H1 xs ∧ R (JT (fun H => sk.At K H xs) (enV xs)) H1) (fun g H vs ds is hf rl e k => by
    unfold fEn at e
    split at e
    · obtain ⟨xs, e1, e2⟩ := Option.map_eq_some_iff.mp e
      subst e2
      cases rl with
      | cons a b =>
        cases b
        obtain ⟨sk, ys, ev, at_, rl⟩ := rep_sk a e1
        subst ev
        exact ⟨sk, ys, rfl, at_ H hf, k _ (itok_t at_ (repll_en rl))⟩
    · cases e) h
theorem iZ2_LI {ms : List (M R)} {R : It → Hp → Prop} (h : LI w K (mItA fZ2 ms) σ H R) : iZ2 K (LD w K (mShs ms)) σ H R :=
  a_LI (r := fun vs H1 R => ∃ sk xs sk2 ys, vs = [Sk.val sk, Sk.val sk2] ∧ sk.At K H1 xs ∧ sk2.At K H1 ys ∧ R (JT (fun H => sk.At K H xs ∧ sk2.At K H ys) (z2V xs ys)) H1) (fun g H vs ds is hf rl e k => by
    unfold fZ2 at e
    split at e
    · obtain ⟨xs, e1, e2⟩ := Option.bind_eq_some_iff.mp e
      obtain ⟨ys, e3, e4⟩ := Option.map_eq_some_iff.mp e2
      subst e4
      cases rl with
      | cons a b =>
        cases b with
        | cons b c =>
          cases c
          obtain ⟨sk, us, ev, at1, rl1⟩ := rep_sk a e1
          obtain ⟨sk2, us2, ev2, at2, rl2⟩ := rep_sk b e3
          subst ev ev2
          exact ⟨sk, us, sk2, us2, rfl, at1 H hf, at2 H hf, k _ (itok_t (fun H1 s => ⟨at1 H1 s, at2 H1 s⟩) (repll_z2 rl1 rl2))⟩
    · cases e) h
theorem iZ3_LI {ms : List (M R)} {R : It → Hp → Prop} (h : LI w K (mItA fZ3 ms) σ H R) : iZ3 K (LD w K (mShs ms)) σ H R :=
  a_LI (r := fun vs H1 R => ∃ sk xs sk2 ys sk3 zs, vs = [Sk.val sk, Sk.val sk2, Sk.val sk3] ∧ sk.At K H1 xs ∧ sk2.At K H1 ys ∧ sk3.At K H1 zs ∧ R (JT (fun H => sk.At K H xs ∧ sk2.At K H ys ∧ sk3.At K H zs) (z3V xs ys zs)) H1) (fun g H vs ds is hf rl e k => by
    unfold fZ3 at e
    split at e
    · obtain ⟨xs, e1, e2⟩ := Option.bind_eq_some_iff.mp e
      obtain ⟨ys, e3, e4⟩ := Option.bind_eq_some_iff.mp e2
      obtain ⟨zs, e5, e6⟩ := Option.map_eq_some_iff.mp e4
      subst e6
      cases rl with
      | cons a b =>
        cases b with
        | cons b c =>
          cases c with
          | cons c d =>
            cases d
            obtain ⟨sk, us, ev, at1, rl1⟩ := rep_sk a e1
            obtain ⟨sk2, us2, ev2, at2, rl2⟩ := rep_sk b e3
            obtain ⟨sk3, us3, ev3, at3, rl3⟩ := rep_sk c e5
            subst ev ev2 ev3
            exact ⟨sk, us, sk2, us2, sk3, us3, rfl, at1 H hf, at2 H hf, at3 H hf, k _ (itok_t (fun H1 s => ⟨at1 H1 s, at2 H1 s, at3 H1 s⟩) (repll_z3 rl1 rl2 rl3))⟩
    · cases e) h
end
end PD
/-! PD: dicts as data. -/
namespace PD
open PySem PySem.Spec PyProof.Rows L2

def getK (kvs : List (D × D)) (k : NestedKey) : Option D := (kvs.find? fun p => decide (toNK p.1 = some k)).map (·.2)
def putK (kvs : List (D × D)) (k : NestedKey) (kd v : D) : List (D × D) := if (getK kvs k).isSome then kvs.map (fun p => if toNK p.1 = some k then (p.1, v) else p) else kvs ++ [(kd, v)]
/-- the key goes with the keys there are -/
def keyOk (kvs : List (D × D)) (kd : D) : Option NestedKey := (toNK kd).bind fun nk => if (kfam kd != 0 && kvs.all (fun p => kfam p.1 == kfam kd) && decide (nk.depth ≤ 8)) = true then some nk else none
section
variable (w : World) (K : PySem.W.Frag) (st : Option (Addr × Addr)) (F : Hp)
inductive RepX : List XE → List (D × D) → Prop
  | nil : RepX [] []
  | cons {nk : NestedKey} {kv vv : V} {kd vd : D} {xs : List XE} {kvs : List (D × D)} : toNK kd = some nk → Rep w K st F kv kd → Rep w K st F vv vd → RepX xs kvs → RepX ((nk, kv, vv) :: xs) ((kd, vd) :: kvs)
end
section
variable {w : World} {K : PySem.W.Frag} {st : Option (Addr × Addr)} {F H : Hp}
theorem toX : ∀ {es : List DictEntry} {kvs : List (D × D)}, RepE w K st F es kvs → (∀ (i : Nat) (e : DictEntry) (p : D × D), es[i]? = some e → kvs[i]? = some p → ∃ nk, toNK p.1 = some nk ∧ nk.depth ≤ 8 ∧ e.hash = nk.hash w) →
    ∃ xs, Paired (EntV w) es xs ∧ RepX w K st F xs kvs ∧ ∀ x ∈ xs, x.1.depth ≤ 8
  | [], kvs, h, _ => by cases h; exact ⟨[], .nil, .nil, fun x hx => by cases hx⟩
  | e :: es, kvs, h, hk => by
    cases h with
    | cons a b c d t =>
      obtain ⟨xs, h1, h2, h3⟩ := toX t fun i e p q1 q2 => hk (i + 1) e p (by simpa using q1) (by simpa using q2)
      obtain ⟨nk, e1, e2, e3⟩ := hk 0 _ _ rfl rfl
      refine ⟨(nk, _, _) :: xs, .cons ⟨a, c, e3⟩ h1, .cons e1 b d h2, fun x hx => ?_⟩
      rcases List.mem_cons.mp hx with rfl | hx
      · exact e2
      · exact h3 x hx
theorem ofX : ∀ {es : List DictEntry} {xs : List XE} {kvs : List (D × D)}, Paired (EntV w) es xs → RepX w K st F xs kvs → (∀ x ∈ xs, x.1.depth ≤ 8) →
    RepE w K st F es kvs ∧ ∀ (i : Nat) (e : DictEntry) (p : D × D), es[i]? = some e → kvs[i]? = some p → ∃ nk, toNK p.1 = some nk ∧ nk.depth ≤ 8 ∧ e.hash = nk.hash w
  | _, _, kvs, .nil, h, _ => by cases h; exact ⟨.nil, fun i e p q1 => by simp at q1⟩
  | _, _, kvs, .cons r t, h, hd => by
    cases h with
    | cons e1 b c h2 =>
      obtain ⟨h3, h4⟩ := ofX t h2 fun x hx => hd x (List.mem_cons_of_mem _ hx)
      refine ⟨.cons r.1 b r.2.1 c h3, fun i e p q1 q2 => ?_⟩
      cases i with
      | zero =>
        simp only [List.getElem?_cons_zero, Option.some.injEq] at q1 q2
        subst q1 q2
        exact ⟨_, e1, hd _ List.mem_cons_self, r.2.2⟩
      | succ i => exact h4 i e p (by simpa using q1) (by simpa using q2)
theorem repX_keys {xs : List XE} {kvs : List (D × D)} (h : RepX w K st F xs kvs) : kvs.map (fun p => toNK p.1) = xs.map fun x => some x.1 := by
  induction h with
  | nil => rfl
  | cons e _ _ _ ih => rw [List.map_cons, List.map_cons, ih, e]
theorem kfam_nk {d : D} {nk : NestedKey} (e : toNK d = some nk) : (kfam d = 1 → (nkKey nk).isSome = true) ∧ (kfam d = 2 → nkTup nk = true) := by
  cases d with
  | tup xs =>
    simp only [toNK, Option.map_eq_some_iff] at e
    obtain ⟨ks, _, rfl⟩ := e
    exact ⟨fun z => (by cases z), fun _ => rfl⟩
  | int i => simp only [toNK, Option.some.injEq] at e; subst e; exact ⟨fun _ => rfl, fun z => (by cases z)⟩
  | str i => simp only [toNK, Option.some.injEq] at e; subst e; exact ⟨fun _ => rfl, fun z => (by cases z)⟩
  | _ => exact ⟨fun z => (by cases z), fun z => (by cases z)⟩
theorem repX_fam {xs : List XE} {kvs : List (D × D)} {n : Nat} (h : RepX w K st F xs kvs) (hf : ∀ p ∈ kvs, kfam p.1 = n) : (n = 1 → ∀ x ∈ xs, (nkKey x.1).isSome = true) ∧ (n = 2 → ∀ x ∈ xs, nkTup x.1 = true) := by
  induction h with
  | nil => exact ⟨fun _ x hx => (by cases hx), fun _ x hx => (by cases hx)⟩
  | cons e _ _ _ ih =>
    obtain ⟨h1, h2⟩ := ih fun p hp => hf p (List.mem_cons_of_mem _ hp)
    have h0 := hf _ List.mem_cons_self
    refine ⟨fun hn x hx => ?_, fun hn x hx => ?_⟩
    · rcases List.mem_cons.mp hx with rfl | hx
      · exact (kfam_nk e).1 (h0.trans hn)
      · exact h1 hn x hx
    · rcases List.mem_cons.mp hx with rfl | hx
      · exact (kfam_nk e).2 (h0.trans hn)
      · exact h2 hn x hx
theorem repX_dv {a : Addr} {es : Array DictEntry} {ep : Nat} {kvs : List (D × D)} (hs : Sub F H) (ha : H a = some (dxO a es ep)) (ok : DctOk w es.toList kvs) (re : RepE w K st F es.toList kvs) : ∃ xs, DV w K H a xs ∧ RepX w K st F xs kvs := by
  obtain ⟨xs, h1, h2, h3⟩ := toX re ok.key
  have hk : ∀ {xs : List XE} {kvs : List (D × D)}, RepX w K st F xs kvs → ∀ x ∈ xs, KeyV K H x.2.1 x.1 := by
    intro xs kvs h
    induction h with
    | nil => exact fun x hx => by cases hx
    | cons e b c t ih =>
      intro x hx
      rcases List.mem_cons.mp hx with rfl | hx
      · exact Rep.key hs b e
      · exact ih x hx
  refine ⟨xs, ⟨⟨es, ep, ha, h1⟩, fun x hx => ⟨hk h2 x hx, h3 x hx⟩, ?_, ?_⟩, h2⟩
  · rcases ok.fam with h | h
    · exact .inl ((repX_fam h2 h).1 rfl)
    · exact .inr ((repX_fam h2 h).2 rfl)
  · have := ok.nd
    rw [repX_keys h2, show (xs.map fun x => some x.1) = (xs.map (·.1)).map some by rw [List.map_map]; rfl] at this
    exact (List.pairwise_map.mp this).imp fun hne e => hne (by rw [e])
theorem keyOk_fam {xs : List XE} {kvs : List (D × D)} {kd : D} {nk : NestedKey} (h : RepX w K st F xs kvs) (e : keyOk kvs kd = some nk) : toNK kd = some nk ∧ FamOk xs nk ∧ nk.depth ≤ 8 ∧ ((∀ p ∈ kvs, kfam p.1 = 1) ∧ kfam kd = 1 ∨ (∀ p ∈ kvs, kfam p.1 = 2) ∧ kfam kd = 2) := by
  unfold keyOk at e
  obtain ⟨nk', e1, e2⟩ := Option.bind_eq_some_iff.mp e
  split at e2
  · rename_i hc
    cases e2
    simp only [Bool.and_eq_true, bne_iff_ne, ne_eq, List.all_eq_true, beq_iff_eq, decide_eq_true_eq] at hc
    obtain ⟨⟨h1, h2⟩, h3⟩ := hc
    have hk : kfam kd = 1 ∨ kfam kd = 2 := by
      cases kd <;> simp [kfam] at h1 ⊢
    rcases hk with hk | hk
    · rw [hk] at h2
      exact ⟨e1, .inl ⟨(kfam_nk e1).1 hk, (repX_fam h h2).1 rfl⟩, h3, .inl ⟨h2, hk⟩⟩
    · rw [hk] at h2
      exact ⟨e1, .inr ⟨(kfam_nk e1).2 hk, (repX_fam h h2).2 rfl⟩, h3, .inr ⟨h2, hk⟩⟩
  · cases e2
theorem repX_get {xs : List XE} {kvs : List (D × D)} {k : NestedKey} (h : RepX w K st F xs kvs) : (getX xs k).isSome = (getK kvs k).isSome ∧ ∀ d, getK kvs k = some d → ∃ v, getX xs k = some v ∧ Rep w K st F v d := by
  induction h with
  | nil => exact ⟨rfl, fun d e => by cases e⟩
  | @cons nk kv vv kd vd xs kvs e a b t ih =>
    unfold getX getK at ih ⊢
    rw [List.find?_cons, List.find?_cons]
    by_cases hk : nk = k
    · have h2 : toNK kd = some k := by rw [e, hk]
      rw [decide_eq_true hk, decide_eq_true h2]
      exact ⟨rfl, fun d e => by cases e; exact ⟨vv, rfl, b⟩⟩
    · have h2 : ¬ toNK kd = some k := by rw [e]; exact fun z => hk (Option.some.inj z)
      rw [decide_eq_false hk, decide_eq_false h2]
      exact ih
theorem repX_put {xs : List XE} {kvs : List (D × D)} {k : NestedKey} {kd vd : D} {y v : V} (h : RepX w K st F xs kvs) (hk : toNK kd = some k) (ry : Rep w K st F y kd) (rv : Rep w K st F v vd) : RepX w K st F (putX xs k y v) (putK kvs k kd vd) := by
  unfold putX putK
  rw [(repX_get h).1]
  split
  · have : ∀ {xs : List XE} {kvs : List (D × D)}, RepX w K st F xs kvs → RepX w K st F (xs.map fun x => if x.1 = k then (x.1, x.2.1, v) else x) (kvs.map fun p => if toNK p.1 = some k then (p.1, vd) else p) := by
      intro xs kvs h
      induction h with
      | nil => exact .nil
      | @cons nk kv vv kd' vd' xs kvs e a b t ih =>
        rw [List.map_cons, List.map_cons]
        by_cases hk : nk = k
        · rw [if_pos hk, if_pos (by rw [e, hk])]
          exact .cons e a rv ih
        · rw [if_neg hk, if_neg (by rw [e]; exact fun z => hk (Option.some.inj z))]
          exact .cons e a b ih
    exact this h
  · have : ∀ {xs : List XE} {kvs : List (D × D)}, RepX w K st F xs kvs → RepX w K st F (xs ++ [(k, y, v)]) (kvs ++ [(kd, vd)]) := by
      intro xs kvs h
      induction h with
      | nil => exact .cons hk ry rv .nil
      | cons e a b t ih => exact .cons e a b ih
    exact this h
theorem putK_keys (kvs : List (D × D)) (k : NestedKey) (kd vd : D) : ∀ p ∈ putK kvs k kd vd, (∃ q ∈ kvs, p.1 = q.1) ∨ p.1 = kd := fun p hp => by
  unfold putK at hp
  split at hp
  · obtain ⟨q, hq, e⟩ := List.mem_map.mp hp
    refine .inl ⟨q, hq, ?_⟩
    rw [← e]
    split <;> rfl
  · rcases List.mem_append.mp hp with hp | hp
    · exact .inl ⟨p, hp, rfl⟩
    · exact .inr (by rw [List.mem_singleton.mp hp])
/-- what stands in a dict behind d[k] = v -/
theorem dct_put {a : Addr} {xs : List XE} {kvs : List (D × D)} {k : NestedKey} {kd vd : D} {y v : V} {es' : Array DictEntry} (hs : Sub F H) (dv : DV w K H a xs) (h : RepX w K st F xs kvs) (e : keyOk kvs kd = some k) (ry : Rep w K st F y kd) (rv : Rep w K st F v vd)
    (hp : Paired (EntV w) es'.toList (putX xs k y v)) : DctOk w es'.toList (putK kvs k kd vd) ∧ RepE w K st F es'.toList (putK kvs k kd vd) := by
  obtain ⟨e1, fam, dep, hf⟩ := keyOk_fam h e
  have hx := repX_put (k := k) h e1 ry rv
  have dv' := dv.put (ep' := 0) fam (Rep.key hs ry e1) dep hp
  obtain ⟨h1, h2⟩ := ofX hp hx fun x hx => (dv'.key x hx).2
  have hl1 := hp.length
  have hl2 : (putX xs k y v).length = (putK kvs k kd vd).length := by
    have := congrArg List.length (repX_keys hx)
    simpa using this.symm
  refine ⟨⟨hl1.trans hl2, h2, ?_, ?_⟩, h1⟩
  · rcases hf with ⟨h3, h4⟩ | ⟨h3, h4⟩
    · exact .inl fun p hp => by
        rcases putK_keys _ _ _ _ p hp with ⟨q, hq, e⟩ | e
        · rw [e]; exact h3 q hq
        · rw [e]; exact h4
    · exact .inr fun p hp => by
        rcases putK_keys _ _ _ _ p hp with ⟨q, hq, e⟩ | e
        · rw [e]; exact h3 q hq
        · rw [e]; exact h4
  · rw [repX_keys hx]
    have nd := dv'.nd
    rw [show ((putX xs k y v).map fun x => some x.1) = ((putX xs k y v).map (·.1)).map some by rw [List.map_map]; rfl]
    exact List.pairwise_map.mpr (nd.imp fun hne e => hne (Option.some.inj e))
end
end PD
/-! PD: index, membership, slices, builtins on data. -/
namespace PD
open PySem PySem.Spec PyProof.Rows L2

/-! ### index -/
def fIx : D → D → Option R
  | .tup xs, .int i => (atI xs i).map .d
  | .lst xs, .int i => (atI xs i).map .d
  | .scr ns, .int i => (atI ns i).map fun n => .d (.int n)
  | .str l, .int i => (atI l i).map fun c => .d (.str [c])
  | .dct kvs, k => (keyOk kvs k).bind fun nk => (getK kvs nk).map .d
  | _, _ => none
def rIxX (w : World) (K : PySem.W.Frag) : R2 := fun x y H Q => rIx K x y H Q ∨ ∃ a xs k v, x = .ref a ∧ DV w K H a xs ∧ FamOk xs k ∧ KeyV K H y k ∧ k.depth ≤ 8 ∧ getX xs k = some v ∧ Q v H
section
variable {X : Cx}
theorem ix_dx (hu : X.A.units + 64 < cLine) : IxR X (fun x y H Q => ∃ a xs k v, x = .ref a ∧ DV X.w X.K H a xs ∧ FamOk xs k ∧ KeyV X.K H y k ∧ k.depth ≤ 8 ∧ getX xs k = some v ∧ Q v H) := by
  intro value slice pins s σ H x y v u Q I rx ry h hs
  obtain ⟨a, xs, k, z, rfl, dv, fam, hk, hd, g, q⟩ := h
  cases rx
  have hT : s.TypeIs (.ref a) "dict" := by
    obtain ⟨es, ep, e, _⟩ := dv.ex
    exact (dx_raw I e).1.typeIs
  exact tail_any hT slot_dict_getitem.lookup (dx_get hu I dv fam hk hd g ry fun w' s' I' r => ⟨z, H, I', r, q⟩) hs
theorem ix_x (hu : X.A.units + 64 < cLine) : IxR X (rIxX X.w X.K) := ix_seq.or (ix_dx hu)
end
section
variable {w : World} {K : PySem.W.Frag}
theorem atI_map {α β : Type} (f : α → β) (xs : List α) (i : Int) : atI (xs.map f) i = (atI xs i).map f := by
  unfold atI
  rw [List.length_map]
  cases ixN xs.length i with
  | none => rfl
  | some j => simp
theorem atI_rep {st : Option (Addr × Addr)} {F : Hp} {vs : List V} {ds : List D} {i : Int} {d : D} (r : RepL w K st F vs ds) (e : atI ds i = some d) : ∃ v, atI vs i = some v ∧ Rep w K st F v d := by
  unfold atI at e ⊢
  rw [r.length]
  obtain ⟨j, e1, e2⟩ := Option.bind_eq_some_iff.mp e
  obtain ⟨v, h1, h2⟩ := r.get' e2
  exact ⟨v, by rw [e1]; exact h1, h2⟩
theorem o_ix : Op2 w K (rIxX w K) fIx := fun g H x y dx dy res Q hf hx hy e q => by
  unfold fIx at e
  split at e
  · obtain ⟨d, e1, rfl⟩ := Option.map_eq_some_iff.mp e
    cases hy
    cases hx with
    | tup ha ra =>
      obtain ⟨v, h1, h2⟩ := atI_rep ra e1
      exact .inl (.inr (.inl ⟨_, _, _, v, rfl, rfl, hf.seqT ha, h1, k_rep h2 hf q⟩))
  · obtain ⟨d, e1, rfl⟩ := Option.map_eq_some_iff.mp e
    cases hy
    cases hx with
    | lst ha ra =>
      obtain ⟨v, h1, h2⟩ := atI_rep ra e1
      exact .inl (.inl ⟨_, _, _, v, rfl, rfl, SqL.of ha, h1, k_rep h2 hf q⟩)
  · obtain ⟨d, e1, rfl⟩ := Option.map_eq_some_iff.mp e
    cases hy
    cases hx with
    | scr ha => exact .inl (.inl ⟨_, _, _, .int d, rfl, rfl, ha, by rw [atI_map, e1]; rfl, k_int hf q⟩)
  · obtain ⟨c, e1, rfl⟩ := Option.map_eq_some_iff.mp e
    cases hy
    cases hx with
    | str hl =>
      obtain ⟨j, _, hj, _⟩ := atI_get e1
      have hc := List.mem_of_getElem? hj
      exact .inl (.inr (.inr ⟨_, _, c, rfl, rfl, by rw [sOf_len]; exact hl.1, by rw [sOf_cps]; exact e1,
        k_str (l := [c]) ⟨by show 1 ≤ sizeLine; decide, fun z hz => by rw [List.mem_singleton.mp hz]; exact hl.2 c hc⟩ hf q⟩))
  · obtain ⟨nk, e1, e2⟩ := Option.bind_eq_some_iff.mp e
    obtain ⟨d, e3, rfl⟩ := Option.map_eq_some_iff.mp e2
    cases hx with
    | dct ha ok re =>
      obtain ⟨xs, dv, rx⟩ := repX_dv hf ha ok re
      obtain ⟨t1, fam, dep, _⟩ := keyOk_fam rx e1
      obtain ⟨v, h1, h2⟩ := (repX_get rx).2 d e3
      exact .inr ⟨_, xs, nk, v, rfl, dv, fam, hy.key hf t1, dep, h1, k_rep h2 hf q⟩
  · cases e

/-! ### in, not in -/
def fInB : D → D → Option Bool
  | .str x, .str l => match x with
    | [c] => some (decide (c ∈ l))
    | _ => none
  | x, .tup xs => if pl 60 x = true ∧ pl 60 (.tup xs) = true then some (xs.any fun z => eqD z x) else none
  | x, .lst xs => if pl 60 x = true ∧ pl 60 (.lst xs) = true then some (xs.any fun z => eqD z x) else none
  | x, .dct kvs => (keyOk kvs x).map fun nk => (getK kvs nk).isSome
  | _, _ => none
def fIn (x y : D) : Option R := (fInB x y).map fun k => .d (.bl k)
def fNotIn (x y : D) : Option R := (fInB x y).map fun k => .d (.bl (!k))
/-- by values: k is the answer -/
def rInV (w : World) (K : PySem.W.Frag) (x y : V) (H : Hp) (k : Bool) : Prop :=
  (∃ (c : Nat) (z : Str), x = .str ⟨#[c]⟩ ∧ y = .str z ∧ k = decide (c ∈ z.cps.toList)) ∨
  (∃ d ds, Dp K H x d ∧ (Dp K H y (.list ds) ∨ Dp K H y (.tuple ds)) ∧ SeqAt.shaped d = true ∧ SeqAt.shaped (.list ds) = true ∧ k = ds.any fun z => PyData.eqv z d) ∨
  (∃ a xs nk, y = .ref a ∧ DV w K H a xs ∧ FamOk xs nk ∧ KeyV K H x nk ∧ nk.depth ≤ 8 ∧ k = (getX xs nk).isSome)
def rInX (w : World) (K : PySem.W.Frag) : R2 := fun x y H Q => ∃ k, rInV w K x y H k ∧ Q (.bl k) H
def rNotInX (w : World) (K : PySem.W.Frag) : R2 := fun x y H Q => ∃ k, rInV w K x y H k ∧ Q (.bl (!k)) H
theorem shaped_tup {ds : List PyData} (h : SeqAt.shaped (.list ds) = true) : SeqAt.shaped (.tuple ds) = true := h
section
variable {X : Cx}
theorem op_inX (hu : X.A.units + 65 < cLine) : OpR X (compareOp .In) (rInX X.w X.K) := by
  intro pins s σ H x y v u Q I rx ry h
  obtain ⟨k, h, q⟩ := h
  rcases h with ⟨c, z, ex, ey, ek⟩ | ⟨d, ds, hd, he, sd, se, ek⟩ | ⟨a, xs, nk, ey, dv, fam, hk, hd, ek⟩
  · exact op_in_sign pins s σ H x y v u Q I rx ry ⟨c, z, ex, ey, ek ▸ q⟩
  · rcases he with he | he
    · exact op_inD hu pins s σ H x y v u Q I rx ry ⟨d, ds, hd, he, sd, se, ek ▸ q⟩
    · obtain ⟨as, r1⟩ := Dp.reads I d x v hd rx
      obtain ⟨bs, r2⟩ := Dp.reads I (.tuple ds) y u he ry
      exact SeqAt.in_tuple_reads r2 r1 (SeqAt.canLay_of_shaped (shaped_tup se)) (SeqAt.canLay_of_shaped sd) (room_in_shaped sd hu) ⟨.bl _, H, I, rfl, ek ▸ q⟩
  · subst ey
    cases ry
    exact dx_in (by omega) I dv fam hk hd rx fun s' I' => ⟨.bl _, H, I', rfl, ek ▸ q⟩
theorem op_notInX (hu : X.A.units + 65 < cLine) : OpR X (compareOp .NotIn) (rNotInX X.w X.K) := by
  intro pins s σ H x y v u Q I rx ry h
  obtain ⟨k, h, q⟩ := h
  rcases h with ⟨c, z, ex, ey, ek⟩ | ⟨d, ds, hd, he, sd, se, ek⟩ | ⟨a, xs, nk, ey, dv, fam, hk, hd, ek⟩
  · exact op_notIn_sign pins s σ H x y v u Q I rx ry ⟨c, z, ex, ey, ek ▸ q⟩
  · rcases he with he | he
    · exact op_notInD hu pins s σ H x y v u Q I rx ry ⟨d, ds, hd, he, sd, se, ek ▸ q⟩
    · obtain ⟨as, r1⟩ := Dp.reads I d x v hd rx
      obtain ⟨bs, r2⟩ := Dp.reads I (.tuple ds) y u he ry
      exact SeqAt.notIn_tuple_reads r2 r1 (SeqAt.canLay_of_shaped (shaped_tup se)) (SeqAt.canLay_of_shaped sd) (room_in_shaped sd hu) ⟨.bl _, H, I, rfl, ek ▸ q⟩
  · subst ey
    cases ry
    exact dx_notIn (by omega) I dv fam hk hd rx fun s' I' => ⟨.bl _, H, I', rfl, ek ▸ q⟩
end
theorem toPys_any (xs : List D) (x : D) : ((toPys xs).any fun z => PyData.eqv z (toPy x)) = xs.any fun z => eqD z x := by
  induction xs with
  | nil => rfl
  | cons a xs ih =>
    show (PyData.eqv (toPy a) (toPy x) || _) = _
    rw [ih]; rfl
theorem inV_of {g : Gh} {H : Hp} {x y : V} {dx dy : D} {k : Bool} (hf : Sub g.F H) (hx : Rep1 w K H g x dx) (hy : Rep1 w K H g y dy) (e : fInB dx dy = some k) : rInV w K x y H k := by
  unfold fInB at e
  split at e
  · split at e
    · rename_i c
      cases e
      cases hy with
      | str hl => cases hx with
        | str hc => exact .inl ⟨c, _, rfl, rfl, by rw [sOf_cps]⟩
    · cases e
  · rename_i xs
    split at e
    · rename_i h
      cases e
      obtain ⟨h1, h2⟩ := hx.shaped hf h.1
      obtain ⟨h3, h4⟩ := hy.shaped hf h.2
      exact .inr (.inl ⟨_, toPys xs, h1, .inr h3, h2, h4, (toPys_any xs _).symm⟩)
    · cases e
  · rename_i xs
    split at e
    · rename_i h
      cases e
      obtain ⟨h1, h2⟩ := hx.shaped hf h.1
      obtain ⟨h3, h4⟩ := hy.shaped hf h.2
      exact .inr (.inl ⟨_, toPys xs, h1, .inl h3, h2, h4, (toPys_any xs _).symm⟩)
    · cases e
  · obtain ⟨nk, e1, e2⟩ := Option.map_eq_some_iff.mp e
    subst e2
    cases hy with
    | dct ha ok re =>
      obtain ⟨xs, dv, rx⟩ := repX_dv hf ha ok re
      obtain ⟨t1, fam, dep, _⟩ := keyOk_fam rx e1
      exact .inr (.inr ⟨_, xs, nk, rfl, dv, fam, hx.key hf t1, dep, (repX_get rx).1.symm⟩)
  · cases e
theorem o_in : Op2 w K (rInX w K) fIn := fun g H x y dx dy res Q hf hx hy e q => by
  obtain ⟨k, e1, rfl⟩ := Option.map_eq_some_iff.mp e
  exact ⟨k, inV_of hf hx hy e1, k_bl hf q⟩
theorem o_notIn : Op2 w K (rNotInX w K) fNotIn := fun g H x y dx dy res Q hf hx hy e q => by
  obtain ⟨k, e1, rfl⟩ := Option.map_eq_some_iff.mp e
  exact ⟨k, inV_of hf hx hy e1, k_bl hf q⟩

/-! ### slices -/
def cutL {α : Type} (xs : List α) (lo hi : Option Int) : List α := (xs.drop (HT.sIx xs.length 0 lo)).take (HT.sIx xs.length xs.length hi - HT.sIx xs.length 0 lo)
def fSl : D → Option Int → Option Int → Option R
  | .lst xs, lo, hi => some (.t (.l (cutL xs lo hi)))
  | .tup xs, lo, hi => some (.d (.tup (cutL xs lo hi)))
  | .str l, lo, hi => some (.d (.str (cutL l lo hi)))
  | _, _, _ => none
def mNoPart : M (Option Int) := fun s => some (none, s)
def mPart (m : M R) : M (Option Int) := fun s => (m s).bind fun p => match p.1 with
  | .d (.int i) => some (some i, p.2)
  | _ => none
def mSl (m : M R) (lo hi : M (Option Int)) : M R := fun s => (m s).bind fun p => (lo p.2).bind fun l => (hi l.2).bind fun h => (p.1.peek h.2.env).bind fun x => (fSl x l.1 h.1).map fun r => (r, h.2)
def LO (w : World) (K : PySem.W.Frag) (m : M (Option Int)) : TO := fun σ H Q => ∃ g s, Good w K g s σ H ∧ ∃ r s', m s = some (r, s') ∧ ∀ g' H', Good w K g' s' σ H' → Ext (PD.W g s.env σ) g H (PD.W g' s'.env σ) g' H' → Q r H'
variable {σ : St} {H : Hp}
theorem tNoPart_LO {Q : Option Int → Hp → Prop} (h : LO w K mNoPart σ H Q) : tNoPart σ H Q := by
  obtain ⟨g, s, G, r, s', e, q⟩ := h
  cases e
  exact q g H G (Ext.refl _ _ _)
theorem tPart_LO {m : M R} {Q : Option Int → Hp → Prop} (h : LO w K (mPart m) σ H Q) : tPart (LE w K m) σ H Q := by
  obtain ⟨g, s, G, r, s', e, q⟩ := h
  unfold mPart at e
  cases ea : m s with
  | none => rw [ea] at e; cases e
  | some p =>
    obtain ⟨ra, s1⟩ := p
    rw [ea] at e
    simp only [Option.bind_some] at e
    split at e
    · simp only [Option.some.injEq, Prod.mk.injEq] at e
      obtain ⟨rfl, rfl⟩ := e
      refine LE.use G ea fun v g1 H1 G1 E1 R1 => ?_
      cases R1 with
      | d h => cases h; exact ⟨_, rfl, q g1 H1 G1 E1⟩
    · cases e
abbrev rSlX (K : PySem.W.Frag) : V → Option Int → Option Int → Hp → VK → Prop := fun x lo hi H Q => rSlL K x lo hi H Q ∨ (rSlA K x lo hi H Q ∨ rSlS x lo hi H Q)
theorem sl_x {X : Cx} : SlR X (rSlX X.K) := sl_list.or (sl_tupA.or sl_str)
theorem RepL.cut {st : Option (Addr × Addr)} {F : Hp} {vs : List V} {ds : List D} (r : RepL w K st F vs ds) (lo hi : Option Int) : RepL w K st F (cutV vs lo hi) (cutL ds lo hi) := by
  unfold cutV cutL
  rw [r.length]
  exact (r.drop _).take _
theorem cutS_sOf (l : List Nat) (lo hi : Option Int) : cutS (sOf l) lo hi = sOf (cutL l lo hi) := by
  unfold cutS cutL
  rw [sOf_cps, sOf_len]; rfl
theorem sl_ok {g : Gh} {x : V} {dx : D} {lo hi : Option Int} {res : R} {Q : VK} (hf : Sub g.F H) (hx : Rep1 w K H g x dx) (e : fSl dx lo hi = some res) (q : Kont w K g H Q res) : rSlX K x lo hi H Q := by
  unfold fSl at e
  split at e
  · cases e
    cases hx with
    | lst ha ra => exact .inl ⟨_, _, rfl, SqL.of ha, k_lst (ra.cut lo hi) hf q⟩
  · cases e
    cases hx with
    | @tup a vs ds ha ra =>
      refine .inr (.inl ⟨_, _, rfl, hf.seqT ha, fun h => ?_, fun _ => k_tup (ra.cut lo hi) hf q⟩)
      refine k_rep (.tup ha ?_) hf q
      have := ra.cut lo hi
      unfold cutV at this
      rw [h.1, h.2] at this
      simpa using this
  · cases e
    cases hx with
    | @str l hl =>
      refine .inr (.inr ⟨_, rfl, by rw [sOf_len]; exact hl.1, ?_⟩)
      rw [cutS_sOf]
      refine k_str (hl.sub (fun c hc => ?_) ?_) hf q
      · exact List.mem_of_mem_drop (List.mem_of_mem_take hc)
      · unfold cutL
        rw [List.length_take, List.length_drop]
        omega
  · cases e
theorem tSl_LE {m : M R} {lo hi : M (Option Int)} {Q : VK} (h : LE w K (mSl m lo hi) σ H Q) : tSl (rSlX K) (LE w K m) (LO w K lo) (LO w K hi) σ H Q := by
  obtain ⟨g, s, G, res, s', e, q⟩ := h
  unfold mSl at e
  cases ea : m s with
  | none => rw [ea] at e; cases e
  | some p =>
    obtain ⟨ra, s1⟩ := p
    rw [ea] at e
    simp only [Option.bind_some] at e
    cases eb : lo s1 with
    | none => rw [eb] at e; cases e
    | some p2 =>
      obtain ⟨l, s2⟩ := p2
      rw [eb] at e
      simp only [Option.bind_some] at e
      cases ec : hi s2 with
      | none => rw [ec] at e; cases e
      | some p3 =>
        obtain ⟨u, s3⟩ := p3
        rw [ec] at e
        simp only [Option.bind_some] at e
        cases ed : ra.peek s3.env with
        | none => rw [ed] at e; cases e
        | some x =>
          rw [ed] at e
          simp only [Option.bind_some] at e
          obtain ⟨res', e1, e2⟩ := Option.map_eq_some_iff.mp e
          simp only [Prod.mk.injEq] at e2
          obtain ⟨rfl, rfl⟩ := e2
          refine LE.use G ea fun v1 g1 H1 G1 E1 R1 => ?_
          refine ⟨g1, s1, G1, l, s2, eb, fun g2 H2 G2 E2 => ?_⟩
          refine ⟨g2, s2, G2, u, s3, ec, fun g3 H3 G3 E3 => ?_⟩
          have R3 := (R1.step E2).step E3
          refine sl_ok G3.fr (R3.peek G3 ed) e1 fun v g4 H4 EP RPv => ?_
          exact q v g4 H4 (G3.pure EP) (((E1.trans E2).trans E3).trans (Ext.ofP EP)) ((RPv.rr G3 EP).sooner fun b z => E1.dom b (E2.dom b (E3.dom b z)))
end
end PD
/-! PD: builtins and methods on data. -/
namespace PD
open PySem PySem.Spec PyProof.Rows L2

/-! ### builtins -/
def fLen : List D → Option R
  | [.str l] => some (.d (.int l.length))
  | [.tup l] => some (.d (.int l.length))
  | [.lst l] => some (.d (.int l.length))
  | [.scr l] => some (.d (.int l.length))
  | _ => none
def fAbs : List D → Option R
  | [.int i] => some (.d (.int (if i < 0 then -i else i)))
  | _ => none
def fInt : List D → Option R
  | [.int i] => some (.d (.int i))
  | [.bl k] => some (.d (.int (if k then 1 else 0)))
  | _ => none
def intsD : List D → Option (List Int)
  | [] => some []
  | .int i :: xs => (intsD xs).map (i :: ·)
  | _ => none
def blsD : List D → Option (List Bool)
  | [] => some []
  | .bl i :: xs => (blsD xs).map (i :: ·)
  | _ => none
def strsD : List D → Option (List (List Nat))
  | [] => some []
  | .str i :: xs => (strsD xs).map (i :: ·)
  | _ => none
def fSum : List D → Option R
  | [.lst xs] => (intsD xs).map fun ns => .d (.int ns.sum)
  | _ => none
def fAll : List D → Option R
  | [.lst xs] => (blsD xs).map fun bs => .d (.bl (bs.all id))
  | _ => none
def fAny : List D → Option R
  | [.lst xs] => (blsD xs).map fun bs => .d (.bl (bs.any id))
  | _ => none
def maxL : List Int → Int
  | [] => 0
  | [x] => x
  | x :: xs => max x (maxL xs)
def minL : List Int → Int
  | [] => 0
  | [x] => x
  | x :: xs => min x (minL xs)
def fMax : List D → Option R
  | [.int i, .int j] => some (.d (.int (if j > i then j else i)))
  | [.lst xs] => match intsD xs with
    | some (n :: ns) => some (.d (.int (maxL (n :: ns))))
    | _ => none
  | _ => none
def fMin : List D → Option R
  | [.int i, .int j] => some (.d (.int (if j < i then j else i)))
  | [.lst xs] => match intsD xs with
    | some (n :: ns) => some (.d (.int (minL (n :: ns))))
    | _ => none
  | _ => none
def fList : List D → Option R
  | [.lst xs] => some (.t (.l xs))
  | [.tup xs] => some (.t (.l xs))
  | [.str l] => some (.t (.l (l.map fun c => .str [c])))
  | _ => none
def fTuple : List D → Option R
  | [.lst xs] => some (.d (.tup xs))
  | [.tup xs] => some (.d (.tup xs))
  | _ => none
def kindD : D → Option String
  | .non => some "NoneType"
  | .bl _ => some "bool"
  | .int _ => some "int"
  | .str _ => some "str"
  | .tup _ => some "tuple"
  | .lst _ => some "list"
  | _ => none
def fIsi : List D → Option R
  | [x, .cv (.ty T)] => (kindD x).bind fun t => (kitB t T).map fun b => .d (.bl b)
  | _ => none
/-! methods that read -/
def joinL (a : List Nat) : List (List Nat) → List Nat
  | [] => []
  | x :: xs => x ++ (xs.map fun y => a ++ y).flatten
def fJoin : D → List D → Option R
  | .str a, [.lst xs] => (strsD xs).bind fun ls => if (ls.map (·.length)).sum + ls.length * a.length ≤ 16777216 then some (.d (.str (joinL a ls))) else none
  | .str a, [.tup xs] => (strsD xs).bind fun ls => if (ls.map (·.length)).sum + ls.length * a.length ≤ 16777216 then some (.d (.str (joinL a ls))) else none
  | _, _ => none
def fCount : D → List D → Option R
  | .str a, [.str b] => some (.d (.int (Txt.count (sOf a) (sOf b))))
  | _, _ => none
def fDGet : D → List D → Option R
  | .dct kvs, [k, d] => (keyOk kvs k).map fun nk => .d ((getK kvs nk).getD d)
  | _, _ => none
section
variable {w : World} {K : PySem.W.Frag} {g : Gh} {H : Hp}
abbrev rLen (K : PySem.W.Frag) : List V → Hp → VK → Prop := fun xs H Q => ∃ x n, xs = [x] ∧ LenV K x H n ∧ Q (.int n) H
theorem o_len : OpN w K (rLen K) fLen := fun g H xs ds res Q hf hx e q => by
  unfold fLen at e
  split at e
  · cases e
    cases hx with
    | cons a b =>
      cases b
      cases a with
      | str hl => exact ⟨_, _, rfl, ⟨by rw [sOf_len]; exact hl.1, (sOf_len _).symm⟩, k_int hf q⟩
  · cases e
    cases hx with
    | cons a b =>
      cases b
      cases a with
      | tup ha ra => exact ⟨_, _, rfl, .inr ⟨_, hf.seqT ha, rfl⟩, by rw [ra.length]; exact k_int hf q⟩
  · cases e
    cases hx with
    | cons a b =>
      cases b
      cases a with
      | lst ha ra => exact ⟨_, _, rfl, .inl ⟨_, SqL.of ha, rfl⟩, by rw [ra.length]; exact k_int hf q⟩
  · cases e
    cases hx with
    | cons a b =>
      cases b
      cases a with
      | scr ha => exact ⟨_, _, rfl, .inl ⟨_, ha, rfl⟩, by rw [List.length_map]; exact k_int hf q⟩
  · cases e
abbrev rAbs : List V → Hp → VK → Prop := fun xs H Q => ∃ i, xs = [.int i] ∧ Q (.int (if i < 0 then -i else i)) H
theorem o_abs : OpN w K rAbs fAbs := fun g H xs ds res Q hf hx e q => by
  unfold fAbs at e
  split at e
  · cases e
    cases hx with
    | cons a b => cases b; cases a; exact ⟨_, rfl, k_int hf q⟩
  · cases e
abbrev rInt : List V → Hp → VK → Prop := fun xs H Q => (∃ i, xs = [.int i] ∧ Q (.int i) H) ∨ ∃ k, xs = [.bl k] ∧ Q (.int (if k then 1 else 0)) H
theorem o_int : OpN w K rInt fInt := fun g H xs ds res Q hf hx e q => by
  unfold fInt at e
  split at e
  · cases e
    cases hx with
    | cons a b => cases b; cases a; exact .inl ⟨_, rfl, k_int hf q⟩
  · cases e
    cases hx with
    | cons a b => cases b; cases a; exact .inr ⟨_, rfl, k_int hf q⟩
  · cases e
theorem intsD_rep : ∀ {ds : List D} {vs : List V} {ns : List Int}, intsD ds = some ns → RepL w K g.st g.F vs ds → vs = ns.map V.int
  | [], _, _, e, r => by cases e; cases r; rfl
  | d :: ds, _, ns, e, r => by
    cases r with
    | cons a b =>
      cases d with
      | int i =>
        unfold intsD at e
        obtain ⟨ms, e1, rfl⟩ := Option.map_eq_some_iff.mp e
        cases a
        rw [List.map_cons, intsD_rep e1 b]
      | _ => cases e
theorem blsD_rep : ∀ {ds : List D} {vs : List V} {ns : List Bool}, blsD ds = some ns → RepL w K g.st g.F vs ds → vs = ns.map V.bl
  | [], _, _, e, r => by cases e; cases r; rfl
  | d :: ds, _, ns, e, r => by
    cases r with
    | cons a b =>
      cases d with
      | bl i =>
        unfold blsD at e
        obtain ⟨ms, e1, rfl⟩ := Option.map_eq_some_iff.mp e
        cases a
        rw [List.map_cons, blsD_rep e1 b]
      | _ => cases e
theorem strsD_rep : ∀ {ds : List D} {vs : List V} {ns : List (List Nat)}, strsD ds = some ns → RepL w K g.st g.F vs ds → vs = (ns.map sOf).map V.str ∧ ∀ l ∈ ns, StrG l
  | [], _, _, e, r => by cases e; cases r; exact ⟨rfl, fun l hl => by cases hl⟩
  | d :: ds, _, ns, e, r => by
    cases r with
    | cons a b =>
      cases d with
      | str i =>
        unfold strsD at e
        obtain ⟨ms, e1, rfl⟩ := Option.map_eq_some_iff.mp e
        cases a with
        | str hl =>
          obtain ⟨h1, h2⟩ := strsD_rep e1 b
          refine ⟨by rw [List.map_cons, List.map_cons, h1], fun l hl' => ?_⟩
          rcases List.mem_cons.mp hl' with rfl | hl'
          · exact hl
          · exact h2 l hl'
      | _ => cases e
theorem o_sum : OpN w K (rSum K) fSum := fun g H xs ds res Q hf hx e q => by
  unfold fSum at e
  split at e
  · obtain ⟨ns, e1, rfl⟩ := Option.map_eq_some_iff.mp e
    cases hx with
    | cons a b =>
      cases b
      cases a with
      | lst ha ra => exact ⟨_, ns, rfl, SqL.of (by rw [← intsD_rep e1 ra]; exact ha), k_int hf q⟩
  · cases e
theorem o_all : OpN w K (rAll K) fAll := fun g H xs ds res Q hf hx e q => by
  unfold fAll at e
  split at e
  · obtain ⟨ns, e1, rfl⟩ := Option.map_eq_some_iff.mp e
    cases hx with
    | cons a b =>
      cases b
      cases a with
      | lst ha ra => exact ⟨_, ns, rfl, SqL.of (by rw [← blsD_rep e1 ra]; exact ha), k_bl hf q⟩
  · cases e
theorem o_any : OpN w K (rAny K) fAny := fun g H xs ds res Q hf hx e q => by
  unfold fAny at e
  split at e
  · obtain ⟨ns, e1, rfl⟩ := Option.map_eq_some_iff.mp e
    cases hx with
    | cons a b =>
      cases b
      cases a with
      | lst ha ra => exact ⟨_, ns, rfl, SqL.of (by rw [← blsD_rep e1 ra]; exact ha), k_bl hf q⟩
  · cases e
theorem maxL_is : ∀ (n : Int) (ns : List Int), maxL (n :: ns) ∈ n :: ns ∧ ∀ y ∈ n :: ns, y ≤ maxL (n :: ns)
  | n, [] => ⟨List.mem_cons_self, fun y hy => by rw [List.mem_singleton.mp hy]; exact Int.le_refl _⟩
  | n, m :: ns => by
    obtain ⟨h1, h2⟩ := maxL_is m ns
    have e : maxL (n :: m :: ns) = max n (maxL (m :: ns)) := rfl
    rw [e]
    refine ⟨?_, fun y hy => ?_⟩
    · by_cases h : n ≤ maxL (m :: ns)
      · rw [Int.max_eq_right h]; exact List.mem_cons_of_mem _ h1
      · rw [Int.max_eq_left (by omega)]; exact List.mem_cons_self
    · rcases List.mem_cons.mp hy with rfl | hy
      · exact Int.le_max_left _ _
      · exact Int.le_trans (h2 y hy) (Int.le_max_right _ _)
theorem minL_is : ∀ (n : Int) (ns : List Int), minL (n :: ns) ∈ n :: ns ∧ ∀ y ∈ n :: ns, minL (n :: ns) ≤ y
  | n, [] => ⟨List.mem_cons_self, fun y hy => by rw [List.mem_singleton.mp hy]; exact Int.le_refl _⟩
  | n, m :: ns => by
    obtain ⟨h1, h2⟩ := minL_is m ns
    have e : minL (n :: m :: ns) = min n (minL (m :: ns)) := rfl
    rw [e]
    refine ⟨?_, fun y hy => ?_⟩
    · by_cases h : n ≤ minL (m :: ns)
      · rw [Int.min_eq_left h]; exact List.mem_cons_self
      · rw [Int.min_eq_right (by omega)]; exact List.mem_cons_of_mem _ h1
    · rcases List.mem_cons.mp hy with rfl | hy
      · exact Int.min_le_left _ _
      · exact Int.le_trans (Int.min_le_right _ _) (h2 y hy)
abbrev rMaxX (K : PySem.W.Frag) : List V → Hp → VK → Prop := fun xs H Q => (∃ i j, xs = [.int i, .int j] ∧ Q (.int (if j > i then j else i)) H) ∨ ∃ (a : Addr) (ns : List Int), xs = [V.ref a] ∧ SqL K H a (ns.map V.int) ∧ 0 < ns.length ∧ Q (.int (maxL ns)) H
abbrev rMinX (K : PySem.W.Frag) : List V → Hp → VK → Prop := fun xs H Q => (∃ i j, xs = [.int i, .int j] ∧ Q (.int (if j < i then j else i)) H) ∨ ∃ (a : Addr) (ns : List Int), xs = [V.ref a] ∧ SqL K H a (ns.map V.int) ∧ 0 < ns.length ∧ Q (.int (minL ns)) H
theorem call_maxX {X : Cx} (hc : X.calm = true) : CallR X (.builtin "max") (rMaxX X.K) := by
  intro pins s σ H xs us Q I r h
  rcases h with h | ⟨a, ns, ex, hq, hn, q⟩
  · exact call_max2 hc pins s σ H xs us Q I r h
  · refine cr_max hc pins s σ H xs us Q I r ⟨a, ns, ex, hq, hn, fun m hm hle => ?_⟩
    cases ns with
    | nil => cases hn
    | cons n ns =>
      obtain ⟨h1, h2⟩ := maxL_is n ns
      rw [show m = maxL (n :: ns) from Int.le_antisymm (h2 m hm) (hle _ h1)]
      exact q
theorem call_minX {X : Cx} (hc : X.calm = true) : CallR X (.builtin "min") (rMinX X.K) := by
  intro pins s σ H xs us Q I r h
  rcases h with h | ⟨a, ns, ex, hq, hn, q⟩
  · exact call_min2 hc pins s σ H xs us Q I r h
  · refine cr_min hc pins s σ H xs us Q I r ⟨a, ns, ex, hq, hn, fun m hm hle => ?_⟩
    cases ns with
    | nil => cases hn
    | cons n ns =>
      obtain ⟨h1, h2⟩ := minL_is n ns
      rw [show m = minL (n :: ns) from Int.le_antisymm (hle _ h1) (h2 m hm)]
      exact q
theorem o_max : OpN w K (rMaxX K) fMax := fun g H xs ds res Q hf hx e q => by
  unfold fMax at e
  split at e
  · cases e
    cases hx with
    | cons a b => cases b with
      | cons b c => cases c; cases a; cases b; exact .inl ⟨_, _, rfl, k_int hf q⟩
  · split at e
    · rename_i h
      cases e
      cases hx with
      | cons a b =>
        cases b
        cases a with
        | lst ha ra => exact .inr ⟨_, _, rfl, SqL.of (by rw [← intsD_rep h ra]; exact ha), (by simp), k_int hf q⟩
    · cases e
  · cases e
theorem o_min : OpN w K (rMinX K) fMin := fun g H xs ds res Q hf hx e q => by
  unfold fMin at e
  split at e
  · cases e
    cases hx with
    | cons a b => cases b with
      | cons b c => cases c; cases a; cases b; exact .inl ⟨_, _, rfl, k_int hf q⟩
  · split at e
    · rename_i h
      cases e
      cases hx with
      | cons a b =>
        cases b
        cases a with
        | lst ha ra => exact .inr ⟨_, _, rfl, SqL.of (by rw [← intsD_rep h ra]; exact ha), (by simp), k_int hf q⟩
    · cases e
  · cases e
abbrev rListX (K : PySem.W.Frag) : List V → Hp → VK → Prop := fun xs H Q => (∃ p ys, xs = [.ref p] ∧ (SqL K H p ys ∨ SqT K H p ys) ∧ ∀ l, H l = none → Q (.ref l) (upd H l (.lst ys))) ∨
  ∃ x : Str, xs = [.str x] ∧ x.cps.size ≤ sizeLine ∧ ∀ l, H l = none → Q (.ref l) (upd H l (.lst (chV x)))
theorem vals_of : ∀ {xs : List V} {us : List Value}, xs.length = us.length → (∀ (i : Nat) (x : V) (u : Value), xs[i]? = some x → us[i]? = some u → RelV x u) → Vals xs us
  | [], [], _, _ => .nil
  | x :: xs, u :: us, hl, h => .cons (h 0 x u rfl rfl) (vals_of (by simpa using hl) fun i x u e1 e2 => h (i + 1) x u (by simpa using e1) (by simpa using e2))
  | [], _ :: _, hl, _ => by cases hl
  | _ :: _, [], hl, _ => by cases hl
theorem items_vals {x : Str} {acc : Array Value} {n : Nat} (h : ItemsOf (SignAt x) acc n) (hn : n = x.cps.size) : Vals (chV x) acc.toList := by
  refine vals_of (by rw [chV_len, Array.length_toList]; exact (h.1.trans hn).symm) fun i v u e1 e2 => ?_
  have e2 : acc[i]? = some u := by simpa using e2
  obtain ⟨c, t, hc, eu⟩ := h.2 i u e2
  have := chV_at hc
  rw [e1] at this
  cases this
  exact ⟨t, eu⟩
theorem call_listX {X : Cx} (hc : X.calm = true) : CallR X (.type "list") (rListX X.K) := by
  intro pins s σ H xs us Q I r h
  rcases h with h | ⟨x, ex, hz, q⟩
  · exact call_list_of pins s σ H xs us Q I r h
  · subst ex
    obtain ⟨u, rfl, ru⟩ := Vals.one r
    obtain ⟨t, rfl⟩ := ru
    refine call_list_str (I.ok.hd hc) x t (fun h' tk acc c' hk hS ia => ?_) hz
    have hv := items_vals ia rfl
    have hl : (chV x).length ≤ sizeLine := by rw [chV_len]; exact hz
    have I1 : Inv X pins σ (upd H s.heap.objs.size (.lst (chV x))) { s with heap := h', toks := tk } := I.laid (fun b o e => hk b o e) (Nat.le_refl _) ⟨hl, acc.toList, c', hv, by rw [Array.toArray_toList]; exact hS⟩
    exact ⟨.ref s.heap.objs.size, _, I1, rfl, q _ (I.hok.fresh (Nat.le_refl _))⟩
theorem o_list : OpN w K (rListX K) fList := fun g H xs ds res Q hf hx e q => by
  unfold fList at e
  split at e
  · cases e
    cases hx with
    | cons a b =>
      cases b
      cases a with
      | lst ha ra => exact .inl ⟨_, _, rfl, .inl (SqL.of ha), k_lst ra hf q⟩
  · cases e
    cases hx with
    | cons a b =>
      cases b
      cases a with
      | tup ha ra => exact .inl ⟨_, _, rfl, .inr (hf.seqT ha), k_lst ra hf q⟩
  · cases e
    cases hx with
    | cons a b =>
      cases b
      cases a with
      | str hl =>
        obtain ⟨sk, ys, ev, at_, rl⟩ := rep_sk (w := w) (K := K) (g := g) (Rep.str hl) rfl
        refine .inr ⟨_, rfl, by show Array.size _ ≤ _; simpa [sOf] using hl.1, ?_⟩
        cases sk with
        | s z =>
          cases ev
          have : ys = chV _ := at_ H hf
          subst this
          exact k_lst rl hf q
        | l _ => cases ev
        | t _ => cases ev
  · cases e
abbrev rTupleX (K : PySem.W.Frag) : List V → Hp → VK → Prop := fun xs H Q => ∃ p ys, xs = [.ref p] ∧ ((SqL K H p ys ∧ ∀ l, H l = none → Q (.ref l) (upd H l (.tup ys))) ∨ (SqT K H p ys ∧ Q (.ref p) H))
theorem o_tuple : OpN w K (rTupleX K) fTuple := fun g H xs ds res Q hf hx e q => by
  unfold fTuple at e
  split at e
  · cases e
    cases hx with
    | cons a b =>
      cases b
      cases a with
      | lst ha ra => exact ⟨_, _, rfl, .inl ⟨SqL.of ha, k_tup ra hf q⟩⟩
  · cases e
    cases hx with
    | cons a b =>
      cases b
      cases a with
      | tup ha ra => exact ⟨_, _, rfl, .inr ⟨hf.seqT ha, k_rep (.tup ha ra) hf q⟩⟩
  · cases e
theorem ty_of {x : V} {d : D} {t : String} (hf : Sub g.F H) (h : Rep1 w K H g x d) (e : kindD d = some t) : TyX K H x (.type t) := by
  cases h with
  | non => cases e; exact .base .non
  | bl b => cases e; exact .base (.bl _)
  | int i => cases e; exact .base (.int _)
  | str _ => cases e; exact .base (.str _)
  | tup ha _ =>
    cases e
    rcases hf.seqT ha with (h | ⟨o, h⟩) | ⟨o, its, n, hk, hc, _⟩
    · exact .base (.tup h)
    · exact .fTuple h
    · exact .kTuple hk hc
  | lst ha _ => cases e; exact .base (.lst ha)
  | scr _ => cases e
  | dct _ _ _ => cases e
  | st _ => cases e
  | cv _ => cases e
theorem o_isi : OpN w K (rIsi K) fIsi := fun g H xs ds res Q hf hx e q => by
  unfold fIsi at e
  split at e
  · rename_i x T
    obtain ⟨t, e1, e2⟩ := Option.bind_eq_some_iff.mp e
    obtain ⟨b, e3, rfl⟩ := Option.map_eq_some_iff.mp e2
    cases hx with
    | cons a b =>
      cases b with
      | cons b c =>
        cases c
        cases b
        exact ⟨_, _, _, _, _, rfl, .ty T, ty_of hf a e1, kit_ty e3, k_bl hf q⟩
  · cases e

/-! ### methods -/
def tyX (K : PySem.W.Frag) (T : String) (x : V) (H : Hp) : Prop := tyV K T x H ∨ (T = "dict" ∧ ∃ a es ep, x = .ref a ∧ H a = some (dxO a es ep))
theorem tyX_is {X : Cx} {pins : List (Addr × Obj)} {σ : St} {H : Hp} {s : Shared} {T : String} {x : V} {v : Value} (I : Inv X pins σ H s) (r : RelV x v) (ty : tyX X.K T x H) :
    s.TypeIs v T ∧ ∀ a, v = .ref a → ∃ ob, s.heap.get? a = some ob ∧ ob.dict = none := by
  rcases ty with ty | ⟨rfl, a, es, ep, rfl, h⟩
  · exact tyV_is I r ty
  · cases r
    exact ⟨(dx_raw I h).1.typeIs, fun b e => dx_noDict I h b e⟩
def tBX (K : PySem.W.Frag) (T : String) (r : V → List V → Hp → VK → Prop) (to : TE) (t : TA) : TE := fun σ H Q => to σ H fun x H1 => tyX K T x H1 ∧ t σ H1 fun xs H2 => r x xs H2 Q
def tBX0 (K : PySem.W.Frag) (T : String) (r : V → List V → Hp → VK → Prop) (to : TE) : TE := fun σ H Q => to σ H fun x H1 => tyX K T x H1 ∧ r x [] H1 Q
section
variable {X : Cx} {o e : Expr} {es : List Expr} {to : TE} {t : TA} {name : Str} {apos cpos : Pos} {T id : String} {r : V → List V → Hp → VK → Prop}
theorem pe_bx0 (pa : PlainAttrs T) (slot : Slot T name id) (hty : typeOf (.builtin id) = pure (.type "method_descriptor")) (hm : MtR X id r) (ho : PE X o to)
    (hbase : attributeBase o name X.env (eval o X.env) = eval o X.env := by rfl) (hline : (apos.endLine == cpos.line) = true := by rfl) : PE X (.Call (.Attribute o name apos) [] [] cpos) (tBX0 X.K T r to) := by
  refine ⟨fun pins s σ H Q I h => ?_⟩
  refine wpAny_Call_method0_late hbase hline (thn (ho.run pins s σ H _ I h) fun v s1 ⟨x, H1, I1, r1, ty, q1⟩ => ?_)
  obtain ⟨h1, h2⟩ := tyX_is I1 r1 ty
  exact ⟨T, id, pa, slot, hty, h1, h2, Calls.callWith_builtin rfl (PySem.evalArgs_none (hm pins s1 σ H1 x [] v [] Q I1 r1 .nil q1))⟩
theorem pe_bx (pa : PlainAttrs T) (slot : Slot T name id) (hty : typeOf (.builtin id) = pure (.type "method_descriptor")) (hm : MtR X id r) (ho : PE X o to) (ha : PA X (e :: es) t)
    (hbase : attributeBase o name X.env (eval o X.env) = eval o X.env := by rfl)
    (hfew : ((backTo cpos (starEach (e :: es) X.env)).all (fun x => !x.1) && (backToKw cpos (keywordEach [] X.env)).all (fun x => x.1.isSome) && decide ((e :: es).length + ([] : List Keyword).length + (if ([] : List Keyword).isEmpty then 0 else 1) < 30)) = true := by rfl)
    (hline : (apos.endLine == cpos.line) = true := by rfl) (hs : starEach (e :: es) X.env = (false, eval e X.env) :: starEach es X.env := by rfl) (hplain : (backTo cpos (starEach es X.env)).any (·.1) = false := by rfl) :
    PE X (.Call (.Attribute o name apos) (e :: es) [] cpos) (tBX X.K T r to t) := by
  refine ⟨fun pins s σ H Q I h => ?_⟩
  refine wpAny_Call_method_late hbase hfew hline rfl (thn (ho.run pins s σ H _ I h) fun v s1 ⟨x, H1, I1, r1, ty, q1⟩ => ?_)
  obtain ⟨h1, h2⟩ := tyX_is I1 r1 ty
  refine ⟨T, id, pa, slot, hty, h1, h2, ?_⟩
  have hA := ha.run cpos pins s1 σ H1 _ I1 q1
  rw [hs] at hA ⊢
  refine Calls.callWith_builtin (by show (false || (backTo cpos (starEach es X.env)).any (·.1)) = false; rw [hplain] <;> rfl) (Calls.evalArgs_plain ?_)
  exact thn hA fun us s2 ⟨vs, H2, I2, r2, q2⟩ => hm pins s2 σ H2 x vs v us Q I2 r1 r2 q2
end
/-! reading methods: the receiver's type by what it is -/
def tyD (T : String) : D → Bool
  | .str _ => T == "str"
  | .int _ => T == "int"
  | .lst _ => T == "list"
  | .dct _ => T == "dict"
  | _ => false
theorem ty_D {T : String} {x : V} {d : D} (h : Rep1 w K H g x d) (e : tyD T d = true) : tyX K T x H := by
  cases h with
  | str _ => exact .inl (show T = "str" by simpa [tyD] using e)
  | int _ => exact .inl (show T = "int" by simpa [tyD] using e)
  | lst ha _ => exact .inl (.inl ⟨by simpa [tyD] using e, _, SqL.of ha⟩)
  | dct ha _ _ => exact .inr ⟨by simpa [tyD] using e, _, _, _, rfl, ha⟩
  | non => cases e
  | bl _ => cases e
  | tup _ _ => cases e
  | scr _ => cases e
  | st _ => cases e
  | cv _ => cases e
/-- o.m(args): the receiver read, the arguments shared -/
def mMethT (T : String) (f : D → List D → Option R) (o : M R) (ms : List (M R)) : M R := fun s => (o s).bind fun p => (p.1.peek p.2.env).bind fun d0 => if tyD T d0 = true then
  (mShs ms p.2).bind fun q => (p.1.peek q.2.env).bind fun d => (f d q.1).map fun r => (r, q.2) else none
/-- a reading method, by values -/
def OpT (w : World) (K : PySem.W.Frag) (r : V → List V → Hp → VK → Prop) (f : D → List D → Option R) : Prop := ∀ (g : Gh) (H : Hp) (x : V) (xs : List V) (dx : D) (ds : List D) (res : R) (Q : VK), Sub g.F H → Rep1 w K H g x dx → RepL w K g.st g.F xs ds → f dx ds = some res → Kont w K g H Q res → r x xs H Q
variable {σ : St}
theorem tBX_LE {T : String} {r : V → List V → Hp → VK → Prop} {f : D → List D → Option R} {o : M R} {ms : List (M R)} {Q : VK} (hr : OpT w K r f) (h : LE w K (mMethT T f o ms) σ H Q) : tBX K T r (LE w K o) (LD w K (mShs ms)) σ H Q := by
  obtain ⟨g, s, G, res, s', e, q⟩ := h
  unfold mMethT at e
  cases ea : o s with
  | none => rw [ea] at e; cases e
  | some p =>
    obtain ⟨ra, s1⟩ := p
    rw [ea] at e
    simp only [Option.bind_some] at e
    obtain ⟨d0, e0, e⟩ := Option.bind_eq_some_iff.mp e
    split at e
    · rename_i hT
      cases eb : mShs ms s1 with
      | none => rw [eb] at e; cases e
      | some p2 =>
        obtain ⟨ds, s2⟩ := p2
        rw [eb] at e
        simp only [Option.bind_some] at e
        obtain ⟨d, e1, e⟩ := Option.bind_eq_some_iff.mp e
        obtain ⟨res', e2, e3⟩ := Option.map_eq_some_iff.mp e
        simp only [Prod.mk.injEq] at e3
        obtain ⟨rfl, rfl⟩ := e3
        refine LE.use G ea fun v1 g1 H1 G1 E1 R1 => ?_
        refine ⟨ty_D (R1.peek G1 e0) hT, g1, s1, G1, ds, s2, eb, fun vs g2 H2 G2 E2 R2 => ?_⟩
        refine hr g2 H2 v1 vs d ds _ Q G2.fr ((R1.step E2).peek G2 e1) R2 e2 fun v g3 H3 EP RPv => ?_
        exact q v g3 H3 (G2.pure EP) ((E1.trans E2).trans (Ext.ofP EP)) ((RPv.rr G2 EP).sooner fun b z => E1.dom b (E2.dom b z))
    · cases e
abbrev rCount : V → List V → Hp → VK → Prop := fun x xs H Q => ∃ a b, x = .str a ∧ xs = [.str b] ∧ Q (.int (Txt.count a b)) H
theorem o_count : OpT w K rCount fCount := fun g H x xs dx ds res Q hf hx hxs e q => by
  unfold fCount at e
  split at e
  · cases e
    cases hx with
    | str ha =>
      cases hxs with
      | cons a b => cases b; cases a; exact ⟨_, _, rfl, rfl, k_int hf q⟩
  · cases e
theorem join_sOf (a : List Nat) (ls : List (List Nat)) : Txt.join (sOf a) (ls.map sOf) = sOf (joinL a ls) := by
  cases ls with
  | nil => rfl
  | cons x xs =>
    have : ∀ (xs : List (List Nat)) (acc : Array Nat), (xs.map sOf).foldl (fun acc p => acc ++ (sOf a).cps ++ p.cps) acc = acc ++ ((xs.map fun y => a ++ y).flatten).toArray := by
      intro xs
      induction xs with
      | nil => intro acc; simp
      | cons y ys ih =>
        intro acc
        rw [List.map_cons, List.foldl_cons, ih, List.map_cons, List.flatten_cons]
        simp [sOf]
    have e2 := this xs (sOf x).cps
    show (⟨_⟩ : Str) = ⟨_⟩
    congr 1
    simp only [List.map_cons, List.drop_succ_cons, List.drop_zero, List.headD_cons]
    rw [e2]
    simp [sOf, joinL]
abbrev rJoin (K : PySem.W.Frag) : V → List V → Hp → VK → Prop := fun x xs H Q => ∃ a p, ∃ ys : List Str, x = .str a ∧ xs = [.ref p] ∧ (SqL K H p (ys.map V.str) ∨ SqT K H p (ys.map V.str)) ∧ (ys.map (·.length)).sum + ys.length * a.length ≤ 16777216 ∧ Q (.str (Txt.join a ys)) H
theorem join_len (a : List Nat) (ls : List (List Nat)) : (joinL a ls).length ≤ (ls.map (·.length)).sum + ls.length * a.length := by
  cases ls with
  | nil => exact Nat.zero_le _
  | cons x xs =>
    have : ((xs.map fun y => a ++ y).flatten).length = (xs.map (·.length)).sum + xs.length * a.length := by
      induction xs with
      | nil => simp
      | cons y ys ih =>
        simp only [List.map_cons, List.flatten_cons, List.length_append, List.sum_cons, List.length_cons]
        rw [ih, Nat.add_mul]
        omega
    simp only [joinL, List.length_append, List.map_cons, List.sum_cons, List.length_cons]
    rw [this, Nat.add_mul]
    omega
theorem join_g {a : List Nat} {ls : List (List Nat)} (ha : StrG a) (hl : ∀ l ∈ ls, StrG l) (h : (ls.map (·.length)).sum + ls.length * a.length ≤ 16777216) : StrG (joinL a ls) := by
  refine ⟨Nat.le_trans (join_len a ls) (Nat.le_trans h (by decide)), fun c hc => ?_⟩
  cases ls with
  | nil => cases hc
  | cons x xs =>
    rcases List.mem_append.mp hc with hc | hc
    · exact (hl x List.mem_cons_self).2 c hc
    · obtain ⟨z, hz, hcz⟩ := List.mem_flatten.mp hc
      obtain ⟨y, hy, rfl⟩ := List.mem_map.mp hz
      rcases List.mem_append.mp hcz with hcz | hcz
      · exact ha.2 c hcz
      · exact (hl y (List.mem_cons_of_mem _ hy)).2 c hcz
theorem o_join : OpT w K (rJoin K) fJoin := fun g H x xs dx ds res Q hf hx hxs e q => by
  have fin : ∀ {a : List Nat} {zs : List D} {vs : List V} {p : Addr}, x = .str (sOf a) → StrG a → RepL w K g.st g.F vs zs → (SqL K H p vs ∨ SqT K H p vs) → xs = [.ref p] →
      ((strsD zs).bind fun ls => if (ls.map (·.length)).sum + ls.length * a.length ≤ 16777216 then some (PD.R.d (.str (joinL a ls))) else none) = some res → rJoin K x xs H Q := fun {a zs vs p} ex ha rl sq exs e => by
    obtain ⟨ls, e1, e2⟩ := Option.bind_eq_some_iff.mp e
    split at e2
    · rename_i hz
      cases e2
      obtain ⟨h1, h2⟩ := strsD_rep e1 rl
      refine ⟨sOf a, p, ls.map sOf, ex, exs, by rw [← h1]; exact sq, ?_, ?_⟩
      · have : ((ls.map sOf).map (·.length)) = ls.map (·.length) := by rw [List.map_map]; exact List.map_congr_left fun l _ => sOf_len l
        rw [this, List.length_map, sOf_len]; exact hz
      · rw [join_sOf]; exact k_str (join_g ha h2 hz) hf q
    · cases e2
  unfold fJoin at e
  split at e
  · cases hx with
    | str ha =>
      cases hxs with
      | cons a b =>
        cases b
        cases a with
        | lst h1 h2 => exact fin rfl ha h2 (.inl (SqL.of (hf _ _ h1))) rfl e
  · cases hx with
    | str ha =>
      cases hxs with
      | cons a b =>
        cases b
        cases a with
        | tup h1 h2 => exact fin rfl ha h2 (.inr (hf.seqT h1)) rfl e
  · cases e
end
end PD
/-! PD: what changes a slot's object. -/
namespace PD
open PySem PySem.Spec PyProof.Rows L2

section
variable {w : World} {K : PySem.W.Frag} {g : Gh} {s : S} {σ : St} {H : Hp}
/-- the object of a slot is written -/
theorem Good.mut {i : Nat} {a : Addr} {o o2 : Own} {u : HO} (G : Good w K g s σ H) (hi : s.env[i]? = some (.o o)) (hσ : σ[i]? = some (some (.ref a))) (h2 : OwnAt w K (upd H a u) g a o2) :
    Good w K g { s with env := s.env.set i (.o o2) } σ (upd H a u) := by
  have own : OwnF w K H g a o := by
    have := G.env i _ _ hi hσ
    cases this with
    | o r => exact r
  have nst : ¬ StA g a := G.apart a ⟨i, o, hi, hσ⟩
  have keep : ∀ b, b ≠ a → upd H a u b = H b := fun b hb => upd_ne hb
  have hl : i < s.env.length := (List.getElem?_eq_some_iff.mp hi).1
  refine ⟨fun b x e => ?_, ?_, by show (s.env.set i _).length = _; rw [List.length_set]; exact G.len, fun j sl x h1 hx => ?_, fun j k p q b h1 hk h3 h4 => ?_, fun b ⟨j, p, h1, hb⟩ z => ?_⟩
  · rw [keep b (fun z => by rw [z, own.nf] at e; cases e)]; exact G.fr b x e
  · have := G.ds
    show DSRep (upd H a u) g s.ds
    cases hd : s.ds with
    | none => rw [hd] at this; exact this
    | some d =>
      rw [hd] at this
      obtain ⟨sa, ca, e1, ne, h1, h2, f1, f2⟩ := this
      refine ⟨sa, ca, e1, ne, ?_, ?_, f1, f2⟩
      · rw [keep sa (fun z => nst (by rw [← z]; exact ⟨sa, ca, e1, .inl rfl⟩))]; exact h1
      · rw [keep ca (fun z => nst (by rw [← z]; exact ⟨sa, ca, e1, .inr rfl⟩))]; exact h2
  · by_cases e : i = j
    · subst e
      have h1 : (s.env.set i (.o o2))[i]? = some sl := h1
      rw [List.getElem?_set_self hl] at h1
      rw [hσ] at hx
      cases h1; cases hx
      exact .o ⟨h2, own.nf⟩
    · have h9 : s.env[j]? = some sl := by
        rw [← List.getElem?_set_ne e (a := .o o2)]; exact h1
      clear h1
      have sr := G.env j sl x h9 hx
      cases sr with
      | no => exact .no
      | d r => exact .d r
      | o r =>
        rename_i b y
        have hne : b ≠ a := fun z => e (G.uniq i j o y a hi h9 hσ (by rw [← z]; exact hx))
        refine .o ⟨?_, r.nf⟩
        cases y with
        | l ys => obtain ⟨us, e1, r1⟩ := r.at_; exact ⟨us, by rw [keep b hne]; exact e1, r1⟩
        | k kvs => obtain ⟨es, ep, e1, r1, r2⟩ := r.at_; exact ⟨es, ep, by rw [keep b hne]; exact e1, r1, r2⟩
  · have back : ∀ {j : Nat} {p : Own}, (s.env.set i (.o o2))[j]? = some (.o p) → ∃ p', s.env[j]? = some (.o p') := fun {j p} h => by
      by_cases e : i = j
      · subst e; exact ⟨o, hi⟩
      · rw [List.getElem?_set_ne e] at h; exact ⟨p, h⟩
    obtain ⟨p', h5⟩ := back h1
    obtain ⟨q', h6⟩ := back hk
    exact G.uniq j k p' q' b h5 h6 h3 h4
  · have h1 : (s.env.set i (.o o2))[j]? = some (.o p) := h1
    by_cases e : i = j
    · subst e; exact G.apart b ⟨i, o, hi, hb⟩ z
    · rw [List.getElem?_set_ne e] at h1; exact G.apart b ⟨j, p, h1, hb⟩ z
theorem Ext.mut {i : Nat} {a : Addr} {o o2 : Own} {u : HO} (G : Good w K g s σ H) (hi : s.env[i]? = some (.o o)) (hσ : σ[i]? = some (some (.ref a))) :
    Ext (PD.W g s.env σ) g H (PD.W g (s.env.set i (.o o2)) σ) g (upd H a u) where
  pr := fun b x e n => by
    rw [upd_ne (fun z => n (by rw [z]; exact .inl ⟨i, o, hi, hσ⟩))]; exact e
  dom := fun b e => by
    by_cases z : b = a
    · subst z; rw [upd_same] at e; cases e
    · rw [upd_ne z] at e; exact e
  mono := Sub.refl _
  newF := fun b x e e' => by rw [e] at e'; cases e'
  wsub := fun b hb => by
    rcases hb with ⟨j, p, h1, h2⟩ | hb
    · by_cases e : i = j
      · subst e; exact .inl (.inl ⟨i, o, hi, h2⟩)
      · rw [List.getElem?_set_ne e] at h1; exact .inl (.inl ⟨j, p, h1, h2⟩)
    · exact .inl (.inr hb)
  st := StLe.refl _
/-- a changing method: of an own object and shared arguments -/
def OpMut (w : World) (K : PySem.W.Frag) (r : V → List V → Hp → VK → Prop) (f : Own → List D → Option (D × Own)) : Prop :=
  ∀ (g : Gh) (H : Hp) (a : Addr) (vs : List V) (o : Own) (ds : List D) (z : D × Own) (Q : VK), Sub g.F H → OwnAt w K H g a o → RepL w K g.st g.F vs ds → f o ds = some z →
    (∀ v u, Rep w K g.st g.F v z.1 → OwnAt w K (upd H a u) g a z.2 → Q v (upd H a u)) → r (.ref a) vs H Q
def tyO (T : String) : Own → Bool
  | .l _ => T == "list"
  | .k _ => T == "dict"
def mMut (T : String) (f : Own → List D → Option (D × Own)) (m : M R) (ms : List (M R)) : M R := fun s => (m s).bind fun p => match p.1 with
  | .b i => match p.2.env[i]? with
    | some (.o o0) => if tyO T o0 = true then (mShs ms p.2).bind fun q => match q.2.env[i]? with
        | some (.o o) => (f o q.1).map fun z => (.d z.1, { q.2 with env := q.2.env.set i (.o z.2) })
        | _ => none
      else none
    | _ => none
  | _ => none
theorem ty_O {T : String} {a : Addr} {o : Own} (h : OwnAt w K H g a o) (e : tyO T o = true) : tyX K T (.ref a) H := by
  cases o with
  | l xs => obtain ⟨vs, ha, _⟩ := h; exact .inl (.inl ⟨by simpa [tyO] using e, _, SqL.of ha⟩)
  | k kvs => obtain ⟨es, ep, ha, _⟩ := h; exact .inr ⟨by simpa [tyO] using e, _, _, _, rfl, ha⟩
theorem mut_core {i : Nat} {r : V → List V → Hp → VK → Prop} {f : Own → List D → Option (D × Own)} {a : Addr} {vs : List V} {ds : List D} {o : Own} {z : D × Own} {Q : VK} (hr : OpMut w K r f) (G : Good w K g s σ H) (hi : s.env[i]? = some (.o o)) (hσ : σ[i]? = some (some (.ref a)))
    (rl : RepL w K g.st g.F vs ds) (e : f o ds = some z) (q : ∀ v H', Good w K g { s with env := s.env.set i (.o z.2) } σ H' → Ext (PD.W g s.env σ) g H (PD.W g (s.env.set i (.o z.2)) σ) g H' → Rep w K g.st g.F v z.1 → Q v H') : r (.ref a) vs H Q := by
  have sr := G.env i _ _ hi hσ
  cases sr with
  | o ow => exact hr g H a vs o ds z Q G.fr ow.at_ rl e fun v u rv ow2 => q v _ (G.mut hi hσ ow2) (Ext.mut G hi hσ) rv
theorem tMut_LE {T : String} {r : V → List V → Hp → VK → Prop} {f : Own → List D → Option (D × Own)} {m : M R} {ms : List (M R)} {Q : VK} (hr : OpMut w K r f) (h : LE w K (mMut T f m ms) σ H Q) : tBX K T r (LE w K m) (LD w K (mShs ms)) σ H Q := by
  obtain ⟨g, s, G, res, s', e, q⟩ := h
  unfold mMut at e
  cases ea : m s with
  | none => rw [ea] at e; cases e
  | some p =>
    obtain ⟨ra, s1⟩ := p
    rw [ea] at e
    simp only [Option.bind_some] at e
    split at e
    · rename_i i
      split at e
      · rename_i o0 h0
        split at e
        · rename_i hT
          cases eb : mShs ms s1 with
          | none => rw [eb] at e; cases e
          | some p2 =>
            obtain ⟨ds, s2⟩ := p2
            rw [eb] at e
            simp only [Option.bind_some] at e
            split at e
            · rename_i o h2
              obtain ⟨z, e2, e3⟩ := Option.map_eq_some_iff.mp e
              simp only [Prod.mk.injEq] at e3
              obtain ⟨rfl, rfl⟩ := e3
              refine LE.use G ea fun v1 g1 H1 G1 E1 R1 => ?_
              cases R1 with
              | b hσ =>
                have sr := G1.env i _ _ h0 hσ
                cases sr with
                | o ow =>
                  refine ⟨ty_O ow.at_ hT, g1, s1, G1, ds, s2, eb, fun vs g2 H2 G2 E2 R2 => ?_⟩
                  exact mut_core hr G2 h2 hσ R2 e2 fun v H3 G3 E3 rv => q v g2 H3 G3 ((E1.trans E2).trans E3) (.d rv)
            · cases e
        · cases e
      · cases e
    · cases e
theorem tMut0_LE {T : String} {r : V → List V → Hp → VK → Prop} {f : Own → List D → Option (D × Own)} {m : M R} {Q : VK} (hr : OpMut w K r f) (h : LE w K (mMut T f m []) σ H Q) : tBX0 K T r (LE w K m) σ H Q := by
  have := tMut_LE hr h
  obtain ⟨g, s, G, r', s', e, q⟩ := this
  exact ⟨g, s, G, r', s', e, fun v g' H' a b c => let ⟨h1, h2⟩ := q v g' H' a b c; ⟨h1, LD_nil h2⟩⟩
/-! ### lists -/
def fAppend : Own → List D → Option (D × Own)
  | .l xs, [d] => if xs.length < sizeLine then some (.non, .l (xs ++ [d])) else none
  | _, _ => none
theorem o_append : OpMut w K rAppend fAppend := fun g H a vs o ds z Q hf ow rl e q => by
  unfold fAppend at e
  split at e
  · split at e
    · rename_i hz
      cases e
      obtain ⟨us, ha, ru⟩ := ow
      cases rl with
      | cons b c =>
        cases c
        exact ⟨a, us, _, rfl, rfl, ha, by rw [ru.length]; exact hz, q .non _ .non ⟨_, upd_same, ru.append (.one b)⟩⟩
    · cases e
  · cases e
def fExtend : Own → List D → Option (D × Own)
  | .l xs, [.lst ys] => if xs.length + ys.length ≤ sizeLine then some (.non, .l (xs ++ ys)) else none
  | _, _ => none
theorem o_extend : OpMut w K rExtend fExtend := fun g H a vs o ds z Q hf ow rl e q => by
  unfold fExtend at e
  split at e
  · split at e
    · rename_i hz
      cases e
      obtain ⟨us, ha, ru⟩ := ow
      cases rl with
      | cons b c =>
        cases c
        cases b with
        | lst hb rb => exact ⟨a, _, us, _, rfl, rfl, ha, hf _ _ hb, by rw [ru.length, rb.length]; exact hz, q .non _ .non ⟨_, upd_same, ru.append rb⟩⟩
    · cases e
  · cases e
def fPop : Own → List D → Option (D × Own)
  | .l xs, [] => (xs[xs.length - 1]?).map fun d => (d, .l xs.dropLast)
  | _, _ => none
theorem o_pop : OpMut w K rPop fPop := fun g H a vs o ds z Q hf ow rl e q => by
  unfold fPop at e
  split at e
  · obtain ⟨d, e1, rfl⟩ := Option.map_eq_some_iff.mp e
    obtain ⟨us, ha, ru⟩ := ow
    cases rl
    obtain ⟨v, h1, h2⟩ := ru.get' e1
    exact ⟨a, us, v, rfl, rfl, ha, by rw [ru.length]; exact h1, q v _ h2 ⟨_, upd_same, ru.dropLast⟩⟩
  · cases e
def fPopAt : Own → List D → Option (D × Own)
  | .l xs, [.int i] => if -(2 ^ 63) ≤ i ∧ i < 2 ^ 63 then (seqIndex? i xs.length).bind fun k => (xs[k]?).map fun d => (d, .l (xs.eraseIdx k)) else none
  | _, _ => none
theorem o_popAt : OpMut w K rPopAt fPopAt := fun g H a vs o ds z Q hf ow rl e q => by
  unfold fPopAt at e
  split at e
  · split at e
    · rename_i hb
      obtain ⟨k, e1, e2⟩ := Option.bind_eq_some_iff.mp e
      obtain ⟨d, e3, rfl⟩ := Option.map_eq_some_iff.mp e2
      obtain ⟨us, ha, ru⟩ := ow
      cases rl with
      | cons b c =>
        cases c
        cases b
        obtain ⟨v, h1, h2⟩ := ru.get' e3
        exact ⟨a, us, _, k, v, rfl, rfl, ha, hb.1, hb.2, by rw [ru.length]; exact e1, h1, q v _ h2 ⟨_, upd_same, ru.erase k⟩⟩
    · cases e
  · cases e
def fReverse : Own → List D → Option (D × Own)
  | .l xs, [] => some (.non, .l xs.reverse)
  | _, _ => none
theorem o_reverse : OpMut w K rReverse fReverse := fun g H a vs o ds z Q hf ow rl e q => by
  unfold fReverse at e
  split at e
  · cases e
    obtain ⟨us, ha, ru⟩ := ow
    cases rl
    exact ⟨a, us, rfl, rfl, ha, q .non _ .non ⟨_, upd_same, ru.reverse⟩⟩
  · cases e
/-! ### o[i] = v -/
def fSetI : Own → List D → Option (D × Own)
  | .l xs, [.int i, d] => (ixN xs.length i).map fun j => (.non, .l (xs.set j d))
  | .k kvs, [k, d] => if kvs.length < sizeLine then (keyOk kvs k).map fun nk => (.non, .k (putK kvs nk k d)) else none
  | _, _ => none
def rSetX (w : World) (K : PySem.W.Frag) : TSet := fun o i v H Q => rSetL o i v H Q ∨
  ∃ a xs k, o = .ref a ∧ DV w K H a xs ∧ FamOk xs k ∧ KeyV K H i k ∧ k.depth ≤ 8 ∧ xs.length < sizeLine ∧ ∀ es' ep', Paired (EntV w) es'.toList (putX xs k i v) → Q (upd H a (dxO a es' ep'))
theorem set_x {X : Cx} (hu : X.A.units + 64 < cLine) : PSet X (rSetX X.w X.K) := by
  intro pins s σ H o i v ov iv u Q I ro ri rv h
  rcases h with h | ⟨a, xs, k, eo, dv, fam, hk, hd, hz, q⟩
  · exact set_list pins s σ H o i v ov iv u Q I ro ri rv h
  · subst eo
    cases ro
    exact dx_set hu I dv fam hk hd hz ri rv fun es' ep' s' hp I' => ⟨_, I', q es' ep' hp⟩
theorem setI_ok {g : Gh} {a : Addr} {i v : V} {o : Own} {di dv : D} {z : D × Own} {Q : Hp → Prop} (hf : Sub g.F H) (ow : OwnAt w K H g a o) (ri : Rep1 w K H g i di) (rk : Rep w K g.st g.F i di) (rv : Rep w K g.st g.F v dv) (e : fSetI o [di, dv] = some z)
    (q : ∀ u, OwnAt w K (upd H a u) g a z.2 → Q (upd H a u)) : rSetX w K (.ref a) i v H Q := by
  unfold fSetI at e
  split at e
  · rename_i e1
    simp only [List.cons.injEq, and_true] at e1
    obtain ⟨rfl, rfl⟩ := e1
    obtain ⟨j, e2, rfl⟩ := Option.map_eq_some_iff.mp e
    obtain ⟨us, ha, ru⟩ := ow
    cases ri
    exact .inl ⟨a, us, _, j, rfl, rfl, ha, by rw [ru.length]; exact e2, q _ ⟨_, upd_same, ru.set rv j⟩⟩
  · rename_i e1
    simp only [List.cons.injEq, and_true] at e1
    obtain ⟨rfl, rfl⟩ := e1
    split at e
    · rename_i hz
      obtain ⟨nk, e2, rfl⟩ := Option.map_eq_some_iff.mp e
      obtain ⟨es, ep, ha, ok, re⟩ := ow
      obtain ⟨xs, dv', rx⟩ := repX_dv hf ha ok re
      obtain ⟨t1, fam, dep, _⟩ := keyOk_fam rx e2
      have hl := congrArg List.length (repX_keys rx)
      simp only [List.length_map] at hl
      refine .inr ⟨a, xs, nk, rfl, dv', fam, ri.key hf t1, dep, by omega, fun es' ep' hp => q _ ?_⟩
      obtain ⟨h1, h2⟩ := dct_put (st := g.st) hf dv' rx e2 rk rv hp
      exact ⟨es', ep', upd_same, h1, h2⟩
    · cases e
  · cases e
/-- the target o[i] -/
def tgSub (mo mi : M R) : D → S → Option S := fun d s => (mo s).bind fun p => match p.1 with
  | .b i => (mi p.2).bind fun q => (mShare q.1 q.2).bind fun q2 => match q2.2.env[i]? with
    | some (.o o) => (fSetI o [q2.1, d]).map fun z => { q2.2 with env := q2.2.env.set i (.o z.2) }
    | _ => none
  | _ => none
theorem gSub_LG {ts : List Nat} {mo mi : M R} {v : V} {Q : St → Hp → Prop} (h : LG w K ts (tgSub mo mi) v σ H Q) : gSub (LE w K mo) (LE w K mi) (rSetX w K) v σ H Q := by
  obtain ⟨g, s, d, G, rv, s', e, q⟩ := h
  unfold tgSub at e
  cases ea : mo s with
  | none => rw [ea] at e; cases e
  | some p =>
    obtain ⟨ra, s1⟩ := p
    rw [ea] at e
    simp only [Option.bind_some] at e
    split at e
    · rename_i i
      cases eb : mi s1 with
      | none => rw [eb] at e; cases e
      | some p2 =>
        obtain ⟨rb, s2⟩ := p2
        rw [eb] at e
        simp only [Option.bind_some] at e
        cases ec : mShare rb s2 with
        | none => rw [ec] at e; cases e
        | some p3 =>
          obtain ⟨di, s3⟩ := p3
          rw [ec] at e
          simp only [Option.bind_some] at e
          split at e
          · rename_i o h3
            obtain ⟨z, e2, rfl⟩ := Option.map_eq_some_iff.mp e
            refine LE.use G ea fun v1 g1 H1 G1 E1 R1 => ?_
            cases R1 with
            | b hσ =>
              rename_i vb
              refine LE.use G1 eb fun v2 g2 H2 G2 E2 R2 => ?_
              obtain ⟨g3, G3, E3, rep, hm, hst⟩ := share_ok G2 R2 E2 ec
              have sr := G3.env i _ _ h3 hσ
              cases sr with
              | o ow =>
                have E13 := E1.trans E3
                exact setI_ok G3.fr ow.at_ (rep.one1 G3.fr) rep (rv.mono E13.st E13.mono) e2 fun u ow2 => q σ g3 _ (G3.mut h3 hσ ow2) (E13.trans (Ext.mut G3 h3 hσ)) (Off.refl _ _)
          · cases e
    · cases e

/-! ### dicts: get, sum of the values -/
def rDGet (w : World) (K : PySem.W.Frag) : V → List V → Hp → VK → Prop := fun x vs H Q => ∃ a xs k y d, x = .ref a ∧ vs = [y, d] ∧ DV w K H a xs ∧ FamOk xs k ∧ KeyV K H y k ∧ k.depth ≤ 8 ∧ Q ((getX xs k).getD d) H
theorem relO_getD {o : Option V} {u : Option Value} {d : V} {e : Value} (h : RelO o u) (r : RelV d e) : RelV (o.getD d) (u.getD e) := by
  cases o with
  | none => cases u with
    | none => exact r
    | some _ => exact absurd h (by intro z; cases z)
  | some v => cases u with
    | none => exact absurd h (by intro z; cases z)
    | some _ => exact h
theorem mt_dget {X : Cx} (hu : X.A.units + 64 < cLine) : MtR X "dict.get" (rDGet X.w X.K) := by
  intro pins s σ H x vs v us Q I rx rv h
  obtain ⟨a, xs, k, y, d, rfl, rfl, dv, fam, hk, hd, q⟩ := h
  cases rx
  obtain ⟨u1, u2, rfl, r1, r2⟩ := Vals.two rv
  have hT : s.TypeIs (.ref a) "dict" := by
    obtain ⟨es, ep, e, _⟩ := dv.ex
    exact (dx_raw I e).1.typeIs
  obtain ⟨hS, hz, ⟨c, kvs, hc, dd, rel⟩ | ⟨ht, ys, dd, rel⟩⟩ := dv.forms I fam
  · refine call_meetsIn PySem.F.slot_dict_get hT PySem.F.entry_dict_get (PySem.F.args_dict_get_3 _ _ _) (meets_dict_get_default (mixKind X.prog X.w) a (k := c) (kV_is (by rw [← (nkKey_v (w := X.w) hk hc).1]; exact r1)) hS u2) ⟨_, dd.mapOf, ?_⟩
    exact ⟨_, H, I.tok _, relO_getD (rk_get hc rel) r2, q⟩
  · obtain ⟨b, rfl⟩ := nkTup_v hk ht
    cases r1
    refine call_meetsIn PySem.F.slot_dict_get hT PySem.F.entry_dict_get (PySem.F.args_dict_get_3 _ _ _) (meetsH_dict_get_default (nestedKind X.prog X.w) a b hS u2) ⟨key_room (X := X) hu, k, ys, ⟨hk.is I rfl, hd⟩, dd, ?_⟩
    exact ⟨_, H, I.tok _, relO_getD (rt_get rel) r2, q⟩
theorem o_dget : OpT w K (rDGet w K) fDGet := fun g H x xs dx ds res Q hf hx hxs e q => by
  unfold fDGet at e
  split at e
  · obtain ⟨nk, e1, rfl⟩ := Option.map_eq_some_iff.mp e
    cases hx with
    | dct ha ok re =>
      cases hxs with
      | cons a b =>
        cases b with
        | cons b c =>
          cases c
          obtain ⟨xs, dv, rx⟩ := repX_dv hf ha ok re
          obtain ⟨t1, fam, dep, _⟩ := keyOk_fam rx e1
          refine ⟨_, xs, nk, _, _, rfl, rfl, dv, fam, (a.one1 hf).key hf t1, dep, k_rep ?_ hf q⟩
          obtain ⟨h1, h2⟩ := repX_get (k := nk) rx
          cases h3 : getK _ nk with
          | none =>
            rw [h3] at h1
            cases h4 : getX xs nk with
            | none => exact b
            | some _ => rw [h4] at h1; cases h1
          | some d =>
            obtain ⟨v, h4, h5⟩ := h2 d h3
            rw [h4]; exact h5
  · cases e
/-- sum(d.values()) -/
def viewO (r a : Addr) : HO := .ext fun h => h.get? r = some { cls := .type "dict_values", data := .fields #[.ref a] }
def tVals (te : TE) : TE := fun σ H Q => te σ H fun x H1 => ∃ a es ep, x = .ref a ∧ H1 a = some (dxO a es ep) ∧ ∀ r, H1 r = none → Q (.ref r) (upd H1 r (viewO r a))
theorem pe_vals {X : Cx} {e : Expr} {te : TE} {apos cpos : Pos} (he : PE X e te) (hbase : attributeBase e "values" X.env (eval e X.env) = eval e X.env := by rfl) (hline : (apos.endLine == cpos.line) = true := by rfl) : PE X (.Call (.Attribute e "values" apos) [] [] cpos) (tVals te) := by
  refine ⟨fun pins s σ H Q I h => ?_⟩
  refine wpAny_Call_method (T := "dict") (id := "dict.values") hbase rfl hline F.plainAttrs_dict F.slot_dict_values F.type_dict_values (thn (he.run pins s σ H _ I h) fun u s1 ⟨x, H1, I1, rx, a, es, ep, ex, ha, q⟩ => ?_)
  subst ex
  obtain rfl : u = Value.ref a := rx
  obtain ⟨raw, hS, hz⟩ := dx_raw I1 ha
  refine ⟨raw.typeIs, dx_noDict I1 ha, ?_⟩
  have gp : (s1.heap.push { cls := .type "dict_values", data := .fields #[.ref a] }).get? s1.heap.objs.size = some { cls := .type "dict_values", data := .fields #[.ref a] } := Heap.get?_push_size _ rfl
  have I2 : Inv X pins σ (upd H1 s1.heap.objs.size (viewO s1.heap.objs.size a)) { s1 with heap := s1.heap.push { cls := .type "dict_values", data := .fields #[.ref a] } } :=
    I1.laid (t' := s1.toks) (fun b ob q => Heap.get?_push_of_some _ q) (Nat.le_refl _) ⟨gp, ⟨_, gp⟩, fun h1 h2 e k => k _ e⟩
  show wpAny _ _ (callWith cpos (.builtin "dict.values") [.ref a] [] []) _ X.xe s1
  exact method_meetsIn F.slot_dict_values F.entry_dict_values rfl (PySem.evalArgs_none ⟨rfl, raw.typeIs, F.args_dict_values_1 _, _, meets_dict_values_raw a hS, ⟨es, ep, raw⟩, ⟨.ref s1.heap.objs.size, _, I2, rfl, q _ (I1.hok.fresh (Nat.le_refl _))⟩⟩)
def rSumV : List V → Hp → VK → Prop := fun vs H Q => ∃ r a es ep, ∃ ns : List Int, vs = [.ref r] ∧ H r = some (viewO r a) ∧ H a = some (dxO a es ep) ∧ Paired EVv es.toList (ns.map V.int) ∧ Q (.int ns.sum) H
theorem call_sumV {X : Cx} (hc : X.calm = true) : CallR X (.builtin "sum") rSumV := by
  intro pins s σ H xs us Q I r h
  obtain ⟨rv, a, es, ep, ns, rfl, hr, ha, hp, q⟩ := h
  obtain ⟨u, rfl, ru⟩ := Vals.one r
  cases ru
  obtain ⟨raw, hS, hz⟩ := dx_raw I ha
  obtain ⟨hv, _⟩ := I.hok rv _ hr
  have hv : s.heap.get? rv = some { cls := .type "dict_values", data := .fields #[.ref a] } := hv
  have hl : es.size = ns.length := by simpa using hp.length
  refine call_sum_walkG (wpAny_pyIter_values_raw (d := a) ⟨_, hv, rfl, rfl⟩ raw ?_)
  have hal : a < s.heap.objs.size := by obtain ⟨o, e, _⟩ := raw; exact Heap.lt_size e
  refine ⟨s.heap.objs.size, _, _, _, _, _, fun i => ns.getD i 0, rfl, Walks.rawValues (prog := X.prog) (w := X.w) (A := X.A.in1) (show X.A.in1.handled = none from I.ok.hd hc) _ a (Nat.ne_of_lt hal) es ep, ⟨⟨_, Heap.get?_push_size _ rfl, rfl, rfl⟩, raw.at fun o e => Heap.get?_push_of_some _ e⟩, fun b hb => ?_, fun i v hv => ?_, fun h' tk t' hk => ?_⟩
  · rw [Heap.size_push]
    have : b = s.heap.objs.size ∨ b = a := by simpa using hb
    rcases this with rfl | rfl
    · exact Nat.lt_succ_self _
    · exact Nat.lt_succ_of_lt hal
  · obtain ⟨hi, rfl⟩ := hv
    obtain ⟨x, hx, rx⟩ := paired_at hp (ent_at hi)
    rw [List.getElem?_map] at hx
    obtain ⟨n, hn, rfl⟩ := Option.map_eq_some_iff.mp hx
    obtain ⟨t, e⟩ := rx
    exact ⟨t, by rw [e]; simp [hn]⟩
  · rw [PyProof.Rows.preSum_getD, hl, List.take_length]
    refine ⟨.int ns.sum, H, I.kept (fun b o e => ?_), ⟨_, rfl⟩, q⟩
    exact hk b o (fun z => by rw [List.mem_singleton.mp z] at e; exact absurd (Heap.lt_size e) (Nat.lt_irrefl _)) (Heap.get?_push_of_some _ e)
def fSumV : D → Option R
  | .dct kvs => (intsD (kvs.map (·.2))).map fun ns => .d (.int ns.sum)
  | _ => none
theorem tSumV_LE {m : M R} {Q : VK} (h : LE w K (mUn fSumV m) σ H Q) : tCB rSumV (tCons (tVals (LE w K m)) tNil) σ H Q := by
  obtain ⟨g, s, G, res, s', e, q⟩ := h
  unfold mUn at e
  cases ea : m s with
  | none => rw [ea] at e; cases e
  | some p =>
    obtain ⟨ra, s1⟩ := p
    rw [ea] at e
    simp only [Option.bind_some] at e
    split at e
    · rename_i x e1
      obtain ⟨res', e2, e3⟩ := Option.map_eq_some_iff.mp e
      simp only [Prod.mk.injEq] at e3
      obtain ⟨rfl, rfl⟩ := e3
      refine LE.use G ea fun v1 g1 H1 G1 E1 R1 => ?_
      have r1 := R1.peek G1 e1
      unfold fSumV at e2
      split at e2
      · obtain ⟨ns, e4, rfl⟩ := Option.map_eq_some_iff.mp e2
        cases r1 with
        | dct ha ok re =>
          obtain ⟨xs, hp, rl⟩ := repE_v re
          refine ⟨_, _, _, rfl, ha, fun r hr => ?_⟩
          have hne := ne_of_none ha hr
          refine ⟨r, _, _, _, ns, rfl, upd_same, by rw [upd_ne hne]; exact ha, by rw [← intsD_rep e4 rl]; exact hp, ?_⟩
          exact q _ g1 _ (G1.pure (ExtP.new G1.fr hr)) (E1.trans (Ext.ofP (ExtP.new G1.fr hr))) (.d (.int _))
      · cases e2
    · cases e
end
end PD
/-! PD: new dicts, dict comprehensions (the kit's own walk of a block, the dict told entry by entry). -/
namespace PD
open PySem PySem.Spec PyProof.Rows L2

section
variable {X : Cx} {pins : List (Addr × Obj)} {σ : L2.St} {H : Hp} {s : Shared} {A : Around} {E : Value → Shared → Prop} {a : Addr} {xs : List XE} {k : NestedKey} {y v : V} {u r : Value}
theorem key_roomA (hu : A.units + 64 < cLine) : (nestedKind X.prog X.w).room A := by show A.units + 8 < cLine; omega
theorem dx_dset {Q : Unit → Shared → Prop} (hu : A.units + 64 < cLine) (I : Inv X pins σ H s) (D : DV X.w X.K H a xs) (F : FamOk xs k) (hk : KeyV X.K H y k) (hd : k.depth ≤ 8) (hl : xs.length < sizeLine) (ry : RelV y u) (rv : RelV v r)
    (h : ∀ es' ep' s', Paired (EntV X.w) es'.toList (putX xs k y v) → Inv X pins σ (L2.upd H a (dxO a es' ep')) s' → Q () s') : wpAny (model X.prog X.w) A (dictSet a u r) Q E s := by
  have e0 := D.ex
  obtain ⟨es, ep, e, _⟩ := e0
  obtain ⟨hS, hz, ⟨c, vs, hc, dd, rel⟩ | ⟨ht, ys, dd, rel⟩⟩ := D.forms I F
  · have hvs : vs.length ≤ sizeLine := by rw [← rel.length]; exact hz
    have ev := (nkKey_v (w := X.w) hk hc).1
    refine wpAny_dictSet_pairs (hsz := hvs) (kV_is (by rw [← ev]; exact ry)) dd fun h' dd' hs => ?_
    obtain ⟨o, es', ep', ho, hx, hdat, hko, hpr, hnd⟩ := dd'
    have hp : Paired (EntV X.w) es'.toList (putX xs k y v) := back_k hpr (fun e he => hko e (by simpa using he)) (by rw [ev]; exact rk_put hc rv rel)
    refine h es' ep' _ hp (I.write (x := a) (e := a) (by rw [e]; exact True.intro) (.inl rfl) (fun b q hb z => (hs.2 b hb).trans z) ⟨o, ho⟩ ?_)
    have eo : o = { cls := .type "dict", data := .dict es' ep' } := by
      obtain ⟨c1, c2, c3, c4⟩ := o
      obtain ⟨h1, h2, h3⟩ := hx
      simp only at h1 h2 h3 hdat
      subst h1 h2 h3 hdat
      rfl
    rw [eo] at ho
    have hl2 := hp.length
    have hl3 := putX_len xs k y v
    simp only [Array.length_toList] at hl2
    exact ⟨⟨ho, hS, by omega⟩, ⟨_, ho⟩, fun h1 h2 q st => ⟨st _ q.1, q.2⟩⟩
  · obtain ⟨b, rfl⟩ := nkTup_v hk ht
    cases (show u = Value.ref b from ry)
    have hys : ys.length ≤ sizeLine := by rw [← rel.length]; exact hz
    refine wpAny_dictSet_heap (hsz := hys) (key_roomA (X := X) hu) ⟨hk.is I rfl, hd⟩ dd fun h' dd' hs => ?_
    obtain ⟨o, es', ep', ho, hx, hdat, hes, _, hnd⟩ := dd'
    have hp : Paired (EntV X.w) es'.toList (putX xs k (.ref b) v) := by rw [hes]; exact back_t (rt_put rv rel)
    refine h es' ep' _ hp (I.write (x := a) (e := a) (by rw [e]; exact True.intro) (.inl rfl) (fun b q hb z => (hs.2 b hb).trans z) ⟨o, ho⟩ ?_)
    have eo : o = { cls := .type "dict", data := .dict es' ep' } := by
      obtain ⟨c1, c2, c3, c4⟩ := o
      obtain ⟨h1, h2, h3⟩ := hx
      simp only at h1 h2 h3 hdat
      subst h1 h2 h3 hdat
      rfl
    rw [eo] at ho
    have hl2 := hp.length
    have hl3 := putX_len xs k (.ref b) v
    simp only [Array.length_toList] at hl2
    exact ⟨⟨ho, hS, by omega⟩, ⟨_, ho⟩, fun h1 h2 q st => ⟨st _ q.1, q.2⟩⟩
end
abbrev noE : Array DictEntry := #[]
theorem dx_new {P : Program} {w : World} {H : Hp} (h : Heap) (hb : sysModules < h.objs.size) : ObjOk P w H (h.push { cls := .type "dict", data := .dict #[] }) h.objs.size (dxO h.objs.size noE 0) := by
  have g : (h.push { cls := .type "dict", data := .dict #[] }).get? h.objs.size = some { cls := .type "dict", data := .dict #[] } := Heap.get?_push_size _ rfl
  exact ⟨⟨g, beq_eq_false_iff_ne.mpr (Ne.symm (Nat.ne_of_lt hb)), Nat.zero_le _⟩, ⟨_, g⟩, fun h1 h2 e kk => ⟨kk _ e.1, e.2⟩⟩
section
variable {X : Cx}
/-- {} -/
def tDNewX : TE := fun _ H Q => ∀ p, H p = none → Q (.ref p) (upd H p (dxO p noE 0))
theorem pe_dnewX {pos : Pos} : PE X (.Dict [] [] pos) tDNewX := by
  refine ⟨fun pins s σ H Q I h => wpAny_Dict_empty ?_⟩
  exact ⟨.ref s.heap.objs.size, _, I.laid (t' := s.toks) (fun _ _ q => Heap.get?_push_of_some _ q) (Nat.le_refl _) (dx_new s.heap I.big), rfl, h _ (I.hok.fresh (Nat.le_refl _))⟩
/-- the new dict at E, entry by entry -/
def tDcX (w : World) (K : PySem.W.Frag) (wi : TI) (g : TG) (tt : TT) (tk tv : TE) (vs : List Nat) : TE := fun σ H Q => wi σ H fun J H1 => ∀ D, H1 D = none → ∃ W : Nat → Nat → Hp → Prop, (∃ m, W 0 m (upd H1 D (dxO D noE 0))) ∧ ∀ i m H, W i m H →
  (J.stop i H ∧ Q (.ref D) H) ∨ (J.go i H ∧ ∃ Nx : Hp → Prop, (∀ H', Nx H' → ∃ m', m' < m ∧ W (i + 1) m' H') ∧ ∀ x H', J.yld i H x H' → g x (wipe σ vs) H' fun σ2 H2 => wipe σ2 vs = wipe σ vs ∧ tt σ2 H2 fun b H3 =>
    if b = true then tk σ2 H3 fun y H4 => tv σ2 H4 fun z H5 => ∃ xs k, DV w K H5 D xs ∧ FamOk xs k ∧ KeyV K H5 y k ∧ k.depth ≤ 8 ∧ xs.length < sizeLine ∧ ∀ es' ep', Paired (EntV w) es'.toList (putX xs k y z) → Nx (upd H5 D (dxO D es' ep')) else Nx H3)
theorem dcx_core {pins : List (Addr × Obj)} {s : Shared} {σ : St} {H : Hp} {Q : VK} {kx vx tg iter : Expr} {ifs : List Expr} {scope : Scope} {own : List (Str × Nat)} {pos pos' : Pos} {wi : TI} {g : TG} {tt : TT} {tk tv : TE} {use : Option (Value → Sem Unit)} {Qf : Value → Shared → Prop}
    (hu : X.A.units + 64 < cLine) (hc : X.calm = true) (hN : X.N.Nodup) (I : Inv X pins σ H s) (hi : PI X tg iter wi) (ok : BlkOk X.N X.env.scope scope own)
    (hg : ∀ (s : Shared) (H : Hp) (C : Addr) (cl : List (Str × Addr)) (fp : List Addr), PG (X.blk s H scope (compEnvC scope cl C X.env) fp) tg g) (ht : ∀ (s : Shared) (H : Hp) (C : Addr) (cl : List (Str × Addr)) (fp : List Addr), PTs (X.blk s H scope (compEnvC scope cl C X.env) fp) ifs tt)
    (hk : ∀ (s : Shared) (H : Hp) (C : Addr) (cl : List (Str × Addr)) (fp : List Addr), PE (X.blk s H scope (compEnvC scope cl C X.env) fp) kx tk)
    (he : ∀ (s : Shared) (H : Hp) (C : Addr) (cl : List (Str × Addr)) (fp : List Addr), PE (X.blk s H scope (compEnvC scope cl C X.env) fp) vx tv) (hs : ∀ x, foldedSetIterable iter X.env x = pure x)
    (h : tDcX X.w X.K wi g tt tk tv (own.map (·.2)) σ H Q)
    (hRR : ∀ D C s' m H', Inv X pins σ H' s' → Q (.ref D) H' → s'.heap.Ns C m → FpOk X pins H' C → compPost (model X.prog X.w) X.A X.xe use Qf (.ref D) C (.ok .next) s') :
    wpAny (model X.prog X.w) X.A (comprehension (.DictComp kx vx [⟨tg, iter, ifs, 0⟩] scope pos) scope X.env pos' newDict false (eval iter X.env) use) Qf X.xe s := by
  have hfree : ∀ y ∈ scope.names, y.2 = .free → ∃ c, X.env.cells.lookup y.1 = some c := fun y hy e => by
    rcases ok.free y hy e with k | k
    · exact I.ok.has _ (.inl k)
    · exact I.ok.has _ (.inr k)
  refine wpAny_comprehension_free (use := use) rfl hs (closure_ok hfree) ok.kind (fun y hy e => by rw [ok.uniq y hy, e])
    (thn (hi.run pins s σ H _ I h) fun xv s1 hx => thn hx fun itv s2 h2 => ?_)
  obtain ⟨it, fp, tn, J, H2, e, I2, T, st2, f2, q⟩ := h2
  subst e
  refine wpAny_newObj_type (newEnv_comp ?_)
  generalize hD : s2.heap.objs.size = D
  have hDn : H2 D = none := I2.hok.fresh (Nat.le_of_eq hD)
  obtain ⟨W, ⟨m0, w0⟩, turn⟩ := q D hDn
  -- the new list
  generalize hs3 : ({ s2 with heap := s2.heap.push { cls := .type "dict", data := .dict #[] } } : Shared) = s3
  have I3 : Inv X pins σ (upd H2 D (dxO D noE 0)) s3 := by
    rw [← hs3]
    refine I2.laid (t' := s2.toks) (fun b o e => Heap.get?_push_of_some _ e) (Nat.le_of_eq hD) ?_
    rw [← hD]
    exact dx_new s2.heap I2.big
  have h3 : s3.heap = s2.heap.push { cls := .type "dict", data := .dict #[] } := by rw [← hs3]
  have sz : ∀ b ∈ fp, b < s2.heap.objs.size := fun b hb => by
    obtain ⟨o, e, _⟩ := T.obj _ _ st2 b hb
    exact Heap.lt_size e
  have f3 : ∀ b ∈ fp, FpOk X pins (upd H2 D (dxO D noE 0)) b ∧ b < s3.heap.objs.size := fun b hb => by
    have hlt := sz b hb
    refine ⟨⟨?_, (f2 b hb).2⟩, by rw [h3, Heap.size_push]; exact Nat.lt_succ_of_lt hlt⟩
    rw [upd_ne (by rw [← hD]; exact Nat.ne_of_lt hlt)]
    exact (f2 b hb).1
  have st3 : tn 0 s3.heap := T.keep _ _ _ st2 fun b _ o e => by rw [h3]; exact Heap.get?_push_of_some _ e
  have I4 := block_start I3 ok hN f3
  have pg := hg s3 (upd H2 D (dxO D noE 0)) s3.heap.objs.size (cellsFrom (s3.heap.objs.size + 1) scope.names (cloFrom X.env.cells scope.names [])) fp
  have pt := ht s3 (upd H2 D (dxO D noE 0)) s3.heap.objs.size (cellsFrom (s3.heap.objs.size + 1) scope.names (cloFrom X.env.cells scope.names [])) fp
  have pk := hk s3 (upd H2 D (dxO D noE 0)) s3.heap.objs.size (cellsFrom (s3.heap.objs.size + 1) scope.names (cloFrom X.env.cells scope.names [])) fp
  have pe := he s3 (upd H2 D (dxO D noE 0)) s3.heap.objs.size (cellsFrom (s3.heap.objs.size + 1) scope.names (cloFrom X.env.cells scope.names [])) fp
  show codeAny _ _ (.compStart (.DictComp kx vx [⟨tg, iter, ifs, 0⟩] scope pos) 0 (.ref it) (.ref D) (compEnvC scope (cellsFrom (s3.heap.objs.size + 1) scope.names (cloFrom X.env.cells scope.names [])) s3.heap.objs.size X.env)) (compPost (model X.prog X.w) X.A X.xe use Qf (.ref D) s3.heap.objs.size) { s3 with heap := pushCells (s3.heap.push { cls := .type "dict", data := .dict #[] }) scope.names }
  have nfp : ∀ b ∈ fp, (upd H2 D (dxO D noE 0)) b = none := fun b hb => (f3 b hb).1.1
  generalize hce : compEnvC scope (cellsFrom (s3.heap.objs.size + 1) scope.names (cloFrom X.env.cells scope.names [])) s3.heap.objs.size X.env = ce at I4 pg pt pk pe ⊢
  have cL : ce.locals = s3.heap.objs.size := by subst hce; rfl
  generalize hH3 : upd H2 D (dxO D noE 0) = H3 at I3 I4 pg pt pk pe w0 nfp f3
  generalize hs4 : ({ s3 with heap := pushCells (s3.heap.push { cls := .type "dict", data := .dict #[] }) scope.names } : Shared) = s4 at I4 ⊢
  have st4 : tn 0 s4.heap := T.keep _ _ _ st3 fun b _ o e => by rw [← hs4]; exact pushCells_keeps _ _ _ _ (Heap.get?_push_of_some _ e)
  have stat : ∀ {σ' : St} {H' : Hp} {s' : Shared}, Inv (X.blk s3 H3 scope ce fp) [] σ' H' s' → (∀ b ∈ fp, H' b = none) → ∀ b ∈ fp, FpOk (X.blk s3 H3 scope ce fp) [] H' b := fun {σ' H' s'} I' hn b hb =>
    ⟨hn b hb, (I'.ok.exf b hb).1, I'.ok.exfs b hb, .inl hb, fun x c e => (I'.ok.exf b hb).2 x c e, fun p hp => absurd (show p ∈ ([] : List (Addr × Obj)) ++ [] from hp) (by simp)⟩
  have loop : codeAny (model X.prog X.w) X.A (.compLoop (.DictComp kx vx [⟨tg, iter, ifs, 0⟩] scope pos) 0 (.ref it) (.ref D) ce) (compPost (model X.prog X.w) X.A X.xe use Qf (.ref D) s3.heap.objs.size) s4 := by
    refine compLoop_anyD (fun n s' => ∃ i H', Inv (X.blk s3 H3 scope ce fp) [] (wipe σ (own.map (·.2))) H' s' ∧ tn i s'.heap ∧ (∀ b ∈ fp, H' b = none) ∧ W i n H') ?_ m0 ⟨0, H3, I4, st4, nfp, w0⟩
    rintro n s5 ⟨i, H5, I5, st5, n5, w5⟩
    rcases turn i n H5 w5 with ⟨stop, qq⟩ | ⟨go, Nx, hNx, step⟩
    · have td := T.done (X.blk s3 H3 scope ce fp) rfl rfl rfl hc i [] s5 _ H5 (fun _ _ => False) I5 (stat I5 n5) st5 stop
      refine thnF td fun r s6 ⟨hr, I6⟩ => ?_
      subst hr
      -- back in the def's context
      have I7 : Inv X pins σ H5 s6 := I3.call' (ch := fp) I6.os I6.base I6.hok I6.bare fun b hb => ⟨(f3 b hb).1.2.2.2.1, (f3 b hb).1.2.1, (f3 b hb).1.2.2.2.2.1, (f3 b hb).1.2.2.2.2.2⟩
      have nC : H5 s3.heap.objs.size = none := by
        have z : H5 ce.locals = none := I6.free
        rw [cL] at z
        exact z
      obtain ⟨m, hn, _⟩ := I6.loc
      have hn : s6.heap.Ns ce.locals m := hn
      rw [cL] at hn
      exact hRR D s3.heap.objs.size s6 m H5 I7 qq hn (I3.fpOk (Nat.le_refl _) nC)
    · have ti := T.item (X.blk s3 H3 scope ce fp) rfl rfl rfl hc i [] s5 _ H5 (fun _ _ => False) I5 (stat I5 n5) st5 go
      refine thnF ti fun r s6 ⟨u, hr, h6⟩ => ?_
      subst hr
      refine thnF h6 fun _ s7 ⟨x, H7, I7, r7, y7, st7, n7⟩ => ?_
      have I7' := I7.pinned (stat I7 n7) (T.obj _ _ st7)
      refine thnF (pg.run _ s7 _ H7 x u _ I7' r7 (step x H7 y7)) fun _ s8 ⟨σ8, H8, I8, hw8, q8⟩ => ?_
      refine thnF (pt.run _ s8 σ8 H8 _ I8 q8) fun b s9 ⟨H9, I9, q9⟩ => ?_
      -- the turn's end
      have fin : ∀ {s' : Shared} {H' : Hp}, Inv (X.blk s3 H3 scope ce fp) ([] ++ pinsAt fp s7.heap) σ8 H' s' → Nx H' → ∃ m, m < n ∧ ∃ i H', Inv (X.blk s3 H3 scope ce fp) [] (wipe σ (own.map (·.2))) H' s' ∧ tn i s'.heap ∧ (∀ b ∈ fp, H' b = none) ∧ W i m H' := fun {s' H'} I' nx => by
        obtain ⟨m', hm, w'⟩ := hNx H' nx
        have pin' : ∀ b ∈ fp, ∀ o, s7.heap.get? b = some o → s'.heap.get? b = some o ∧ H' b = none := fun b hb o e =>
          let z := I'.pin (b, o) (List.mem_append_right _ (List.mem_append_right _ (mem_pinsAt hb e)))
          ⟨z.1, z.2.1⟩
        have hl : (wipe σ (own.map (·.2))).length = σ8.length := by rw [← hw8, wipe_length]
        refine ⟨m', hm, i + 1, H', (I'.unpinned (pins := [])).weak hl (fun j v e => ?_), T.keep _ _ _ st7 fun b hb o e => (pin' b hb o e).1, fun b hb => ?_, w'⟩
        · rw [← hw8] at e
          exact (wipe_some e).1
        · obtain ⟨o, e, _⟩ := T.obj _ _ st7 b hb
          exact (pin' b hb o e).2
      cases b with
      | false =>
        simp only [Bool.false_eq_true, if_false] at q9 ⊢
        exact fin I9 q9
      | true =>
        simp only [if_true] at q9 ⊢
        refine thnF (pk.run _ s9 σ8 H9 _ I9 q9) fun z s10 ⟨yk, H10, I10, r10, q10⟩ => ?_
        refine thnF (pe.run _ s10 σ8 H10 _ I10 q10) fun z2 s11 ⟨yv, H11, I11, r11, xs, k, dv, fam, kk, dep, hz11, nx⟩ => ?_
        exact dx_dset (X := X.blk s3 H3 scope ce fp) hu I11 dv fam kk dep hz11 r10 r11 fun es' ep' s12 hp I12 => fin I12 (nx es' ep' hp)
  exact codeAny_compStart_dict loop (T.self X.A 0 _ _ _ st4 loop)
/-- as a value -/
theorem pe_dcx {kx vx tg iter : Expr} {ifs : List Expr} {scope : Scope} {own : List (Str × Nat)} {pos : Pos} {wi : TI} {g : TG} {tt : TT} {tk tv : TE} (hu : X.A.units + 64 < cLine) (hc : X.calm = true) (hN : X.N.Nodup) (hi : PI X tg iter wi) (ok : BlkOk X.N X.env.scope scope own)
    (hg : ∀ (s : Shared) (H : Hp) (C : Addr) (cl : List (Str × Addr)) (fp : List Addr), PG (X.blk s H scope (compEnvC scope cl C X.env) fp) tg g) (ht : ∀ (s : Shared) (H : Hp) (C : Addr) (cl : List (Str × Addr)) (fp : List Addr), PTs (X.blk s H scope (compEnvC scope cl C X.env) fp) ifs tt)
    (hk : ∀ (s : Shared) (H : Hp) (C : Addr) (cl : List (Str × Addr)) (fp : List Addr), PE (X.blk s H scope (compEnvC scope cl C X.env) fp) kx tk)
    (he : ∀ (s : Shared) (H : Hp) (C : Addr) (cl : List (Str × Addr)) (fp : List Addr), PE (X.blk s H scope (compEnvC scope cl C X.env) fp) vx tv) (hs : ∀ x, foldedSetIterable iter X.env x = pure x := by intro _; rfl) :
    PE X (.DictComp kx vx [⟨tg, iter, ifs, 0⟩] scope pos) (tDcX X.w X.K wi g tt tk tv (own.map (·.2))) := by
  refine ⟨fun pins s σ H Q I h => ?_⟩
  rw [arm_eval_DictComp]
  refine dcx_core hu hc hN I hi ok hg ht hk he hs h fun D C s' m H' I' q hn f => ⟨m, hn, fun h'' sb => ?_⟩
  obtain ⟨f0, f1, f2, f3, f4, f5⟩ := f
  exact ⟨.ref D, H', I'.turned (t' := s'.toks) (fun b o hb e => (sb.2 b hb).trans e) f0 f1 f3 f4 f5, rfl, q⟩
end
end PD
/-! PD: dict displays and comprehensions as data. -/
namespace PD
open PySem PySem.Spec PyProof.Rows L2

def mDNew : M R := fun s => some (.t (.k []), s)
def dcLoop (t : D → S → Option S) (tt : M Bool) (tk tv : M R) (vs : List Nat) : List D → List (D × D) → M (List (D × D))
  | [], acc => fun s => some (acc, s)
  | d :: ds, acc => fun s => (t d s).bind fun s1 => (tt s1).bind fun p => if p.1 = true then
      (tk p.2).bind fun rk => (mShare rk.1 rk.2).bind fun k => (tv k.2).bind fun rv => (mShare rv.1 rv.2).bind fun v =>
        if acc.length < sizeLine then (keyOk acc k.1).bind fun nk => dcLoop t tt tk tv vs ds (putK acc nk k.1 v.1) (wipeS vs v.2) else none
    else dcLoop t tt tk tv vs ds acc (wipeS vs p.2)
def mDc (mi : M (List D)) (t : D → S → Option S) (tt : M Bool) (tk tv : M R) (vs : List Nat) : M R := fun s => (mi s).bind fun p =>
  (dcLoop t tt tk tv vs p.1 [] (wipeS vs p.2)).bind fun q => some (.t (.k q.1), ⟨restE p.2.env vs q.2.env, q.2.ds⟩)
section
variable {w : World} {K : PySem.W.Frag} {g : Gh} {s : S} {σ : St} {H : Hp}
theorem dct_nil : DctOk w ([] : List DictEntry) [] := ⟨rfl, fun i e p h => (by simp at h), .inl fun p hp => (by cases hp), List.nodup_nil⟩
theorem tDNew_LE {Q : VK} (h : LE w K mDNew σ H Q) : tDNewX σ H Q := by
  obtain ⟨g, s, G, res, s', e, q⟩ := h
  cases e
  intro p hp
  have EP : ExtP g H g (upd H p (dxO p noE 0)) := ExtP.new G.fr hp
  have hr : RP w K H g (upd H p (dxO p noE 0)) (.ref p) (.t (.k [])) := .t hp ⟨⟨noE, 0, upd_same, dct_nil, .nil⟩, G.fr.none hp⟩
  exact q (.ref p) _ _ (G.pure EP) (Ext.ofP EP) (hr.rr G EP)
/-- an object of ours that is no slot's is written -/
theorem acc_upd {A : Addr} {u : HO} (G : Good w K g s σ H) (nF : g.F A = none) (nW : ¬ PD.W g s.env σ A) : Good w K g s σ (upd H A u) := by
  have keep : ∀ b, b ≠ A → upd H A u b = H b := fun b hb => upd_ne hb
  refine ⟨fun b o e => ?_, ?_, G.len, fun i sl x h1 h2 => ?_, G.uniq, G.apart⟩
  · rw [keep b (fun z => by rw [z, nF] at e; cases e)]; exact G.fr b o e
  · have := G.ds
    cases hd : s.ds with
    | none => rw [hd] at this; exact this
    | some d =>
      rw [hd] at this
      obtain ⟨sa, ca, e1, ne, h1, h2, f1, f2⟩ := this
      refine ⟨sa, ca, e1, ne, ?_, ?_, f1, f2⟩
      · rw [keep sa (fun z => nW (by rw [← z]; exact .inr ⟨sa, ca, e1, .inl rfl⟩))]; exact h1
      · rw [keep ca (fun z => nW (by rw [← z]; exact .inr ⟨sa, ca, e1, .inr rfl⟩))]; exact h2
  · have sr := G.env i sl x h1 h2
    cases sr with
    | no => exact .no
    | d r => exact .d r
    | o r =>
      rename_i a o
      have hne : a ≠ A := fun z => nW (by rw [← z]; exact .inl ⟨i, o, h1, h2⟩)
      refine .o ⟨?_, r.nf⟩
      cases o with
      | l ys => obtain ⟨us, e1, r1⟩ := r.at_; exact ⟨us, by rw [keep a hne]; exact e1, r1⟩
      | k kvs => obtain ⟨es, ep, e1, r1, r2⟩ := r.at_; exact ⟨es, ep, by rw [keep a hne]; exact e1, r1, r2⟩
theorem tDc_LE {mi : M (List D)} {ts vs : List Nat} {t : D → S → Option S} {tt : M Bool} {tk tv : M R} {Q : VK} (hts : ∀ i ∈ ts, i ∈ vs) (h : LE w K (mDc mi t tt tk tv vs) σ H Q) :
    tDcX w K (LI w K mi) (LG w K ts t) (LT w K tt) (LE w K tk) (LE w K tv) vs σ H Q := by
  obtain ⟨g, s, G, res, s', e, q⟩ := h
  unfold mDc at e
  cases ea : mi s with
  | none => rw [ea] at e; cases e
  | some p =>
    obtain ⟨items, s1⟩ := p
    rw [ea] at e
    simp only [Option.bind_some] at e
    cases el : dcLoop t tt tk tv vs items [] (wipeS vs s1) with
    | none => rw [el] at e; cases e
    | some p2 =>
      obtain ⟨fin, sf⟩ := p2
      rw [el] at e
      simp only [Option.bind_some, Option.some.injEq, Prod.mk.injEq] at e
      obtain ⟨rfl, rfl⟩ := e
      refine ⟨g, s, G, items, s1, ea, fun J g1 H1 G1 E1 IT A hA => ?_⟩
      have Gb : Good w K g1 (wipeS vs s1) (L2.wipe σ vs) H1 := G1.wipe vs
      have EP0 : ExtP g1 H1 g1 (upd H1 A (dxO A noE 0)) := ExtP.new G1.fr hA
      let σb := L2.wipe σ vs
      let Inv (i : Nat) (Hx : Hp) : Prop := ∃ gx sx es ep acc, Good w K gx sx σb Hx ∧ Sub g1.F gx.F ∧ StLe g1.st gx.st ∧ Hx A = some (dxO A es ep) ∧ gx.F A = none ∧ ¬ PD.W gx sx.env σb A ∧ DctOk w es.toList acc ∧ RepE w K gx.st gx.F es.toList acc ∧
        dcLoop t tt tk tv vs (items.drop i) acc sx = some (fin, sf) ∧ Ext (PD.W g1 (wipeE vs s1.env) σb) g1 H1 (PD.W gx sx.env σb) gx Hx
      refine ⟨fun i m Hx => m = items.length - i ∧ i ≤ items.length ∧ Inv i Hx, ⟨_, rfl, Nat.zero_le _, g1, wipeS vs s1, noE, 0, [], Gb.pure EP0, Sub.refl _, StLe.refl _, upd_same, G1.fr.none hA, fun z => W_ne Gb z hA, dct_nil, .nil, by rw [List.drop_zero]; exact el, Ext.ofP EP0⟩, ?_⟩
      rintro i m Hx ⟨rfl, hi, gx, sx, es, ep, acc, Gx, hF, hS, hAx, nF, nW, ok, re, e, Ex⟩
      by_cases hlt : i < items.length
      · have hd : items.drop i = items[i] :: items.drop (i + 1) := List.drop_eq_getElem_cons hlt
        rw [hd] at e
        unfold dcLoop at e
        cases et : t items[i] sx with
        | none => rw [et] at e; cases e
        | some s2 =>
          rw [et] at e
          simp only [Option.bind_some] at e
          cases ett : tt s2 with
          | none => rw [ett] at e; cases e
          | some p3 =>
            obtain ⟨k, s3⟩ := p3
            rw [ett] at e
            simp only [Option.bind_some] at e
            obtain ⟨hgo, hy⟩ := IT.go i gx Hx hF hS Gx.fr hlt
            refine .inr ⟨hgo, fun H' => Inv (i + 1) H', fun H' h => ⟨items.length - (i + 1), by omega, rfl, hlt, h⟩, fun x H2 hx => ?_⟩
            obtain ⟨g2, EP, d, hd2, rp⟩ := hy x H2 hx
            rw [List.getElem?_eq_getElem hlt] at hd2
            cases hd2
            have G2 := Gx.pure EP
            have E2 := Ext.ofP (env := sx.env) (σ := σb) EP
            refine ⟨g2, sx, _, G2, rp, s2, et, fun σ3 g3 H3 G3 E3 O3 => ?_⟩
            have hw : L2.wipe σ3 vs = σb := by rw [wipe_off O3 hts]; exact wipe_idem σ vs
            refine ⟨hw, g3, s2, G3, k, s3, ett, fun g4 H4 G4 E4 => ?_⟩
            have E24 : Ext (PD.W gx sx.env σb) gx Hx (PD.W g4 s3.env σ3) g4 H4 := (E2.trans E3).trans E4
            have stays : ∀ {g5 : Gh} {s5 : S} {H5 : Hp}, Ext (PD.W gx sx.env σb) gx Hx (PD.W g5 s5.env σ3) g5 H5 → H5 A = some (dxO A es ep) ∧ g5.F A = none ∧ ¬ PD.W g5 s5.env σ3 A := fun {g5 s5 H5} E5 => by
              refine ⟨E5.pr A _ hAx nW, ?_, fun z => ?_⟩
              · cases qq : g5.F A with
                | none => rfl
                | some u =>
                  rcases E5.newF A u nF qq with z | z | ⟨ys, z⟩
                  · rw [hAx] at z; cases z
                  · exact absurd z nW
                  · rw [hAx] at z; cases z
              · rcases E5.wsub A z with y | y
                · exact nW y
                · rw [hAx] at y; cases y
            cases k with
            | false =>
              rw [if_neg Bool.false_ne_true] at e
              refine iteF ?_
              obtain ⟨a1, a2, a3⟩ := stays E24
              have Gw := G4.wipe vs
              rw [hw] at Gw
              have wsub : ∀ b, PD.W g4 (wipeE vs s3.env) σb b → PD.W g4 s3.env σ3 b := fun b hb => by
                rw [← hw] at hb; exact W_wipe hb
              exact ⟨g4, wipeS vs s3, es, ep, acc, Gw, hF.trans E24.mono, fun p hp => E24.st p (hS p hp), a1, a2, fun z => a3 (wsub _ z), ok, re.mono E24.st E24.mono, e, (Ex.trans E24).less fun b hb => .inl (wsub b hb)⟩
            | true =>
              rw [if_pos rfl] at e
              refine iteT ?_
              cases etk : tk s3 with
              | none => rw [etk] at e; cases e
              | some p5 =>
                obtain ⟨rk, s5⟩ := p5
                rw [etk] at e
                simp only [Option.bind_some] at e
                cases esk : mShare rk s5 with
                | none => rw [esk] at e; cases e
                | some p6 =>
                  obtain ⟨dk, s6⟩ := p6
                  rw [esk] at e
                  simp only [Option.bind_some] at e
                  cases etv : tv s6 with
                  | none => rw [etv] at e; cases e
                  | some p7 =>
                    obtain ⟨rv, s7⟩ := p7
                    rw [etv] at e
                    simp only [Option.bind_some] at e
                    cases esv : mShare rv s7 with
                    | none => rw [esv] at e; cases e
                    | some p8 =>
                      obtain ⟨dv, s8⟩ := p8
                      rw [esv] at e
                      simp only [Option.bind_some] at e
                      split at e
                      · rename_i hz
                        obtain ⟨nk, ek, e⟩ := Option.bind_eq_some_iff.mp e
                        refine LE.use G4 etk fun y g5 H5 G5 E5 R5 => ?_
                        obtain ⟨g6, G6, E6, rp6, _, _⟩ := share_ok G5 R5 E5 esk
                        refine LE.use G6 etv fun z g7 H7 G7 E7 R7 => ?_
                        obtain ⟨g8, G8, E8, rp8, _, _⟩ := share_ok G7 R7 E7 esv
                        have E28 := (E24.trans E6).trans E8
                        obtain ⟨a1, a2, a3⟩ := stays E28
                        have re8 := re.mono E28.st E28.mono
                        have rk8 := rp6.mono E8.st E8.mono
                        obtain ⟨xs, dx, rx⟩ := repX_dv G8.fr a1 ok re8
                        obtain ⟨t1, fam, dep, _⟩ := keyOk_fam rx ek
                        have hlx := congrArg List.length (repX_keys rx)
                        simp only [List.length_map] at hlx
                        refine ⟨xs, nk, dx, fam, Rep.key G8.fr rk8 t1, dep, by omega, fun es' ep' hp => ?_⟩
                        obtain ⟨ok9, re9⟩ := dct_put (st := g8.st) G8.fr dx rx ek rk8 rp8 hp
                        have G9 := acc_upd (u := dxO A es' ep') G8 a2 a3
                        have Gw := G9.wipe vs
                        rw [hw] at Gw
                        have wsub : ∀ b, PD.W g8 (wipeE vs s8.env) σb b → PD.W g8 s8.env σ3 b := fun b hb => by
                          rw [← hw] at hb; exact W_wipe hb
                        refine ⟨g8, wipeS vs s8, es', ep', _, Gw, hF.trans E28.mono, fun p hp => E28.st p (hS p hp), upd_same, a2, fun z => a3 (wsub _ z), ok9, re9, e, ?_⟩
                        have E7' := Ex.trans E28
                        refine ⟨fun b o hb hn => ?_, fun b hb => ?_, E7'.mono, E7'.newF, fun b hb => E7'.wsub b (wsub b hb), E7'.st⟩
                        · rw [upd_ne (show b ≠ A from fun z => by rw [z, hA] at hb; cases hb)]
                          exact E7'.pr b o hb hn
                        · by_cases z : b = A
                          · rw [z]; exact hA
                          · rw [upd_ne z] at hb; exact E7'.dom b hb
                      · cases e
      · have : i = items.length := by omega
        subst this
        rw [List.drop_length] at e
        have e : some (acc, sx) = some (fin, sf) := e
        simp only [Option.some.injEq, Prod.mk.injEq] at e
        obtain ⟨rfl, rfl⟩ := e
        refine .inl ⟨IT.stop _ gx Hx hF hS Gx.fr rfl, ?_⟩
        obtain ⟨GB, WB⟩ := Good.back (vs := vs) G1 Gx Ex
        have EB : Ext (PD.W g1 s1.env σ) g1 H1 (PD.W gx (restE s1.env vs sx.env) σ) gx Hx :=
          ⟨fun b o hb hn => Ex.pr b o hb fun z => hn (W_wipe z), Ex.dom, Ex.mono, fun b o h1 h2 => (Ex.newF b o h1 h2).elim .inl fun z => z.elim (fun y => .inr (.inl (W_wipe y))) fun y => .inr (.inr y), WB, Ex.st⟩
        refine q (.ref A) gx Hx GB (E1.trans EB) (.t (E1.dom A hA) ⟨⟨es, ep, hAx, ok, re⟩, nF⟩ fun z => ?_)
        have hl : s1.env.length = sx.env.length := by rw [G1.len, Gx.len, wipe_length]
        rcases z with ⟨i, o, h1, h2⟩ | z
        · rcases restE_at hl h1 with ⟨h5, h6⟩ | ⟨h5, h6⟩
          · exact nW (.inl ⟨i, o, h6, by rw [wipe_get (List.getElem?_eq_some_iff.mp h2).1, if_neg h5]; exact h2⟩)
          · exact W_ne G1 (.inl ⟨i, o, h6, h2⟩) hA
        · exact nW (.inr z)
end
end PD
/-! PD: list comprehensions with two for. -/
namespace PD
open PySem PySem.Spec PyProof.Rows L2

def lc2Loop (t : D → S → Option S) (tt : M Bool) (mi1 : M (List D)) (t1 : D → S → Option S) (tt1 : M Bool) (te : M R) (vs vs1 : List Nat) : List D → M (List D)
  | [] => fun s => some ([], s)
  | d :: ds => fun s => (t d s).bind fun s1 => (tt s1).bind fun p => if p.1 = true then
      (mi1 p.2).bind fun p1 => (lcLoop t1 tt1 te vs1 p1.1 (wipeS vs1 p1.2)).bind fun q => (lc2Loop t tt mi1 t1 tt1 te vs vs1 ds (wipeS vs q.2)).bind fun z => some (q.1 ++ z.1, z.2)
    else lc2Loop t tt mi1 t1 tt1 te vs vs1 ds (wipeS vs p.2)
def mLc2 (mi : M (List D)) (t : D → S → Option S) (tt : M Bool) (mi1 : M (List D)) (t1 : D → S → Option S) (tt1 : M Bool) (te : M R) (vs vs1 : List Nat) : M R := fun s => (mi s).bind fun p =>
  (lc2Loop t tt mi1 t1 tt1 te vs vs1 p.1 (wipeS vs p.2)).bind fun q => if q.1.length ≤ sizeLine then some (.t (.l q.1), ⟨restE p.2.env vs q.2.env, q.2.ds⟩) else none
section
variable {w : World} {K : PySem.W.Frag} {g : Gh} {s : S} {σ : St} {H : Hp}
theorem wipe_get? (σ : St) (vs : List Nat) (j : Nat) : (L2.wipe σ vs)[j]? = if j < σ.length then (if j ∈ vs then some none else σ[j]?) else none := by
  by_cases hj : j < σ.length
  · rw [wipe_get hj, if_pos hj]
  · rw [List.getElem?_eq_none (by rw [wipe_length]; omega), if_neg hj]
theorem wipe_wipe (σ : St) {vs vs1 : List Nat} (h : ∀ i ∈ vs1, i ∈ vs) : L2.wipe (L2.wipe σ vs1) vs = L2.wipe σ vs := by
  refine List.ext_getElem? fun j => ?_
  rw [wipe_get?, wipe_get?, wipe_get?, wipe_length]
  by_cases hj : j < σ.length
  · rw [if_pos hj, if_pos hj, if_pos hj]
    by_cases h1 : j ∈ vs
    · rw [if_pos h1, if_pos h1]
    · rw [if_neg h1, if_neg h1, if_neg (fun z => h1 (h j z))]
  · rw [if_neg hj, if_neg hj]
theorem list_stays {g5 : Gh} {W0 W5 : Addr → Prop} {H5 : Hp} {A : Addr} {o : HO} (hAx : H A = some o) (hno : ∀ ys, o ≠ .tup ys) (nF : g.F A = none) (nW : ¬ W0 A) (E5 : Ext W0 g H W5 g5 H5) : H5 A = some o ∧ g5.F A = none ∧ ¬ W5 A := by
  refine ⟨E5.pr A _ hAx nW, ?_, fun z => ?_⟩
  · cases qq : g5.F A with
    | none => rfl
    | some u =>
      rcases E5.newF A u nF qq with z | z | ⟨ys, z⟩
      · rw [hAx] at z; cases z
      · exact absurd z nW
      · rw [hAx] at z; cases z; exact absurd rfl (hno ys)
  · rcases E5.wsub A z with y | y
    · exact nW y
    · rw [hAx] at y; cases y
/-- the walk of an inner for: A the list, Wb gb Hb from before A was made -/
theorem inner_ok {J : It} {items : List D} {ts vs : List Nat} {t : D → S → Option S} {tt : M Bool} {te : M R} {Wb : Addr → Prop} {gb : Gh} {Hb : Hp} {A : Addr} {xs : List V} {acc rest : List D} {sf : S} {Nx : Hp → Prop} (hts : ∀ i ∈ ts, i ∈ vs)
    (G : Good w K g s σ H) (hAb : Hb A = none) (hAx0 : H A = some (.lst xs)) (nF0 : g.F A = none) (nW0 : ¬ PD.W g s.env σ A) (ra0 : RepL w K g.st g.F xs acc) (E0 : Ext Wb gb Hb (PD.W g s.env σ) g H) (IT : ItOk w K J g items)
    (el : lcLoop t tt te vs items (wipeS vs s) = some (rest, sf)) (hz : (acc ++ rest).length ≤ sizeLine)
    (q : ∀ gx Hx xs', Good w K gx sf (L2.wipe σ vs) Hx → Ext Wb gb Hb (PD.W gx sf.env (L2.wipe σ vs)) gx Hx → Sub g.F gx.F → StLe g.st gx.st → Hx A = some (.lst xs') → gx.F A = none → ¬ PD.W gx sf.env (L2.wipe σ vs) A → RepL w K gx.st gx.F xs' (acc ++ rest) → Nx Hx) :
    ∃ W1 : Nat → Nat → Hp → Prop, (∃ m, W1 0 m H) ∧ ∀ j k H, W1 j k H → (J.stop j H ∧ Nx H) ∨ (J.go j H ∧ ∃ Nx1 : Hp → Prop, (∀ H', Nx1 H' → ∃ k', k' < k ∧ W1 (j + 1) k' H') ∧
      ∀ x H', J.yld j H x H' → LG w K ts t x (L2.wipe σ vs) H' fun σ3 H5 => L2.wipe σ3 vs = L2.wipe σ vs ∧ LT w K tt σ3 H5 fun b H6 => if b = true then LE w K te σ3 H6 fun y H7 => ∃ acc, H7 A = some (.lst acc) ∧ acc.length < sizeLine ∧ Nx1 (upd H7 A (.lst (acc ++ [y]))) else Nx1 H6) := by
  have Gb : Good w K g (wipeS vs s) (L2.wipe σ vs) H := G.wipe vs
  let σb := L2.wipe σ vs
  let Inv (i : Nat) (Hx : Hp) : Prop := ∃ gx sx xs acc1 rest1, Good w K gx sx σb Hx ∧ Sub g.F gx.F ∧ StLe g.st gx.st ∧ Hx A = some (.lst xs) ∧ gx.F A = none ∧ ¬ PD.W gx sx.env σb A ∧ RepL w K gx.st gx.F xs acc1 ∧
    lcLoop t tt te vs (items.drop i) sx = some (rest1, sf) ∧ acc1 ++ rest1 = acc ++ rest ∧ Ext Wb gb Hb (PD.W gx sx.env σb) gx Hx
  have wsub0 : ∀ b, PD.W g (wipeE vs s.env) σb b → PD.W g s.env σ b := fun b hb => W_wipe hb
  refine ⟨fun i m Hx => m = items.length - i ∧ i ≤ items.length ∧ Inv i Hx, ⟨_, rfl, Nat.zero_le _, g, wipeS vs s, xs, acc, rest, Gb, Sub.refl _, StLe.refl _, hAx0, nF0, fun z => nW0 (wsub0 _ z), ra0, by rw [List.drop_zero]; exact el, rfl, E0.less fun b hb => .inl (wsub0 b hb)⟩, ?_⟩
  rintro i m Hx ⟨rfl, hi, gx, sx, xs, acc1, rest1, Gx, hF, hS, hAx, nF, nW, ra, e, hfe, Ex⟩
  by_cases hlt : i < items.length
  · have hd : items.drop i = items[i] :: items.drop (i + 1) := List.drop_eq_getElem_cons hlt
    rw [hd] at e
    unfold lcLoop at e
    cases et : t items[i] sx with
    | none => rw [et] at e; cases e
    | some s2 =>
      rw [et] at e
      simp only [Option.bind_some] at e
      cases ett : tt s2 with
      | none => rw [ett] at e; cases e
      | some p3 =>
        obtain ⟨k, s3⟩ := p3
        rw [ett] at e
        simp only [Option.bind_some] at e
        obtain ⟨hgo, hy⟩ := IT.go i gx Hx hF hS Gx.fr hlt
        refine .inr ⟨hgo, fun H' => Inv (i + 1) H', fun H' h => ⟨items.length - (i + 1), by omega, rfl, hlt, h⟩, fun x H2 hx => ?_⟩
        obtain ⟨g2, EP, d, hd2, rp⟩ := hy x H2 hx
        rw [List.getElem?_eq_getElem hlt] at hd2
        cases hd2
        have G2 := Gx.pure EP
        have E2 := Ext.ofP (env := sx.env) (σ := σb) EP
        refine ⟨g2, sx, _, G2, rp, s2, et, fun σ3 g3 H3 G3 E3 O3 => ?_⟩
        have hw : L2.wipe σ3 vs = σb := by rw [wipe_off O3 hts]; exact wipe_idem σ vs
        refine ⟨hw, g3, s2, G3, k, s3, ett, fun g4 H4 G4 E4 => ?_⟩
        have E24 : Ext (PD.W gx sx.env σb) gx Hx (PD.W g4 s3.env σ3) g4 H4 := (E2.trans E3).trans E4
        cases k with
        | false =>
          rw [if_neg Bool.false_ne_true] at e
          refine iteF ?_
          obtain ⟨a1, a2, a3⟩ := list_stays hAx (fun _ z => by cases z) nF nW E24
          have Gw := G4.wipe vs
          rw [hw] at Gw
          have wsub : ∀ b, PD.W g4 (wipeE vs s3.env) σb b → PD.W g4 s3.env σ3 b := fun b hb => by
            rw [← hw] at hb; exact W_wipe hb
          exact ⟨g4, wipeS vs s3, xs, acc1, rest1, Gw, hF.trans E24.mono, fun p hp => E24.st p (hS p hp), a1, a2, fun z => a3 (wsub _ z), ra.mono E24.st E24.mono, e, hfe, (Ex.trans E24).less fun b hb => .inl (wsub b hb)⟩
        | true =>
          rw [if_pos rfl] at e
          refine iteT ?_
          cases ete : te s3 with
          | none => rw [ete] at e; cases e
          | some p5 =>
            obtain ⟨r5, s5⟩ := p5
            rw [ete] at e
            simp only [Option.bind_some] at e
            cases esh : mShare r5 s5 with
            | none => rw [esh] at e; cases e
            | some p6 =>
              obtain ⟨d6, s6⟩ := p6
              rw [esh] at e
              simp only [Option.bind_some] at e
              cases erest : lcLoop t tt te vs (items.drop (i + 1)) (wipeS vs s6) with
              | none => rw [erest] at e; cases e
              | some p7 =>
                obtain ⟨rest', s7⟩ := p7
                rw [erest] at e
                simp only [Option.bind_some, Option.some.injEq, Prod.mk.injEq] at e
                obtain ⟨rfl, rfl⟩ := e
                refine LE.use G4 ete fun y g5 H5 G5 E5 R5 => ?_
                obtain ⟨g6, G6, E6, rp6, _, _⟩ := share_ok G5 R5 E5 esh
                have E26 := E24.trans E6
                obtain ⟨a1, a2, a3⟩ := list_stays hAx (fun _ z => by cases z) nF nW E26
                have ra6 := ra.mono E26.st E26.mono
                have hlen : acc1.length < sizeLine := by
                  have h1 : (acc1 ++ d6 :: rest').length = (acc ++ rest).length := by rw [hfe]
                  rw [List.length_append, List.length_cons] at h1
                  omega
                refine ⟨xs, a1, by rw [ra.length]; exact hlen, ?_⟩
                obtain ⟨G8, r8⟩ := acc_app G6 a1 a2 a3 ra6 rp6
                have Gw := G8.wipe vs
                rw [hw] at Gw
                have wsub : ∀ b, PD.W g6 (wipeE vs s6.env) σb b → PD.W g6 s6.env σ3 b := fun b hb => by
                  rw [← hw] at hb; exact W_wipe hb
                refine ⟨g6, wipeS vs s6, xs ++ [y], acc1 ++ [d6], rest', Gw, hF.trans E26.mono, fun p hp => E26.st p (hS p hp), upd_same, a2, fun z => a3 (wsub _ z), r8, erest, by rw [List.append_assoc]; exact hfe, ?_⟩
                have E7 := Ex.trans E26
                refine ⟨fun b o hb hn => ?_, fun b hb => ?_, E7.mono, E7.newF, fun b hb => E7.wsub b (wsub b hb), E7.st⟩
                · rw [upd_ne (show b ≠ A from fun z => by rw [z, hAb] at hb; cases hb)]
                  exact E7.pr b o hb hn
                · by_cases z : b = A
                  · rw [z]; exact hAb
                  · rw [upd_ne z] at hb; exact E7.dom b hb
  · have : i = items.length := by omega
    subst this
    rw [List.drop_length] at e
    have e : some (([] : List D), sx) = some (rest1, sf) := e
    simp only [Option.some.injEq, Prod.mk.injEq] at e
    obtain ⟨rfl, rfl⟩ := e
    rw [List.append_nil] at hfe
    subst hfe
    exact .inl ⟨IT.stop _ gx Hx hF hS Gx.fr rfl, q gx Hx xs Gx Ex hF hS hAx nF nW ra⟩
theorem tLc2_LE {mi mi1 : M (List D)} {ts vs ts1 vs1 : List Nat} {t t1 : D → S → Option S} {tt tt1 : M Bool} {te : M R} {Q : VK} (hts : ∀ i ∈ ts, i ∈ vs) (hts1 : ∀ i ∈ ts1, i ∈ vs1) (hvs : ∀ i ∈ vs1, i ∈ vs) (h : LE w K (mLc2 mi t tt mi1 t1 tt1 te vs vs1) σ H Q) :
    tLc2 (LI w K mi) (LG w K ts t) (LT w K tt) (LI w K mi1) (LG w K ts1 t1) (LT w K tt1) (LE w K te) vs vs1 σ H Q := by
  obtain ⟨g, s, G, res, s', e, q⟩ := h
  unfold mLc2 at e
  cases ea : mi s with
  | none => rw [ea] at e; cases e
  | some p =>
    obtain ⟨items, s1⟩ := p
    rw [ea] at e
    simp only [Option.bind_some] at e
    cases el : lc2Loop t tt mi1 t1 tt1 te vs vs1 items (wipeS vs s1) with
    | none => rw [el] at e; cases e
    | some p2 =>
      obtain ⟨fin, sf⟩ := p2
      rw [el] at e
      simp only [Option.bind_some] at e
      split at e
      · rename_i hfin
        simp only [Option.some.injEq, Prod.mk.injEq] at e
        obtain ⟨rfl, rfl⟩ := e
        refine ⟨g, s, G, items, s1, ea, fun J g1 H1 G1 E1 IT A hA => ?_⟩
        have Gb : Good w K g1 (wipeS vs s1) (L2.wipe σ vs) H1 := G1.wipe vs
        have EP0 : ExtP g1 H1 g1 (upd H1 A (.lst [])) := ExtP.new G1.fr hA
        let σb := L2.wipe σ vs
        let Inv (i : Nat) (Hx : Hp) : Prop := ∃ gx sx xs acc rest, Good w K gx sx σb Hx ∧ Sub g1.F gx.F ∧ StLe g1.st gx.st ∧ Hx A = some (.lst xs) ∧ gx.F A = none ∧ ¬ PD.W gx sx.env σb A ∧ RepL w K gx.st gx.F xs acc ∧
          lc2Loop t tt mi1 t1 tt1 te vs vs1 (items.drop i) sx = some (rest, sf) ∧ acc ++ rest = fin ∧ Ext (PD.W g1 (wipeE vs s1.env) σb) g1 H1 (PD.W gx sx.env σb) gx Hx
        refine ⟨fun i m Hx => m = items.length - i ∧ i ≤ items.length ∧ Inv i Hx, ⟨_, rfl, Nat.zero_le _, g1, wipeS vs s1, [], [], fin, Gb.pure EP0, Sub.refl _, StLe.refl _, upd_same, G1.fr.none hA, fun z => W_ne Gb z hA, .nil, by rw [List.drop_zero]; exact el, rfl, Ext.ofP EP0⟩, ?_⟩
        rintro i m Hx ⟨rfl, hi, gx, sx, xs, acc, rest, Gx, hF, hS, hAx, nF, nW, ra, e, hfe, Ex⟩
        by_cases hlt : i < items.length
        · have hd : items.drop i = items[i] :: items.drop (i + 1) := List.drop_eq_getElem_cons hlt
          rw [hd] at e
          unfold lc2Loop at e
          cases et : t items[i] sx with
          | none => rw [et] at e; cases e
          | some s2 =>
            rw [et] at e
            simp only [Option.bind_some] at e
            cases ett : tt s2 with
            | none => rw [ett] at e; cases e
            | some p3 =>
              obtain ⟨k, s3⟩ := p3
              rw [ett] at e
              simp only [Option.bind_some] at e
              obtain ⟨hgo, hy⟩ := IT.go i gx Hx hF hS Gx.fr hlt
              refine .inr ⟨hgo, fun H' => Inv (i + 1) H', fun H' h => ⟨items.length - (i + 1), by omega, rfl, hlt, h⟩, fun x H2 hx => ?_⟩
              obtain ⟨g2, EP, d, hd2, rp⟩ := hy x H2 hx
              rw [List.getElem?_eq_getElem hlt] at hd2
              cases hd2
              have G2 := Gx.pure EP
              have E2 := Ext.ofP (env := sx.env) (σ := σb) EP
              refine ⟨g2, sx, _, G2, rp, s2, et, fun σ3 g3 H3 G3 E3 O3 => ?_⟩
              have hw : L2.wipe σ3 vs = σb := by rw [wipe_off O3 hts]; exact wipe_idem σ vs
              refine ⟨hw, g3, s2, G3, k, s3, ett, fun g4 H4 G4 E4 => ?_⟩
              have E24 : Ext (PD.W gx sx.env σb) gx Hx (PD.W g4 s3.env σ3) g4 H4 := (E2.trans E3).trans E4
              cases k with
              | false =>
                rw [if_neg Bool.false_ne_true] at e
                refine iteF ?_
                obtain ⟨a1, a2, a3⟩ := list_stays hAx (fun _ z => by cases z) nF nW E24
                have Gw := G4.wipe vs
                rw [hw] at Gw
                have wsub : ∀ b, PD.W g4 (wipeE vs s3.env) σb b → PD.W g4 s3.env σ3 b := fun b hb => by
                  rw [← hw] at hb; exact W_wipe hb
                exact ⟨g4, wipeS vs s3, xs, acc, rest, Gw, hF.trans E24.mono, fun p hp => E24.st p (hS p hp), a1, a2, fun z => a3 (wsub _ z), ra.mono E24.st E24.mono, e, hfe, (Ex.trans E24).less fun b hb => .inl (wsub b hb)⟩
              | true =>
                rw [if_pos rfl] at e
                refine iteT ?_
                cases ei : mi1 s3 with
                | none => rw [ei] at e; cases e
                | some p5 =>
                  obtain ⟨items1, s5⟩ := p5
                  rw [ei] at e
                  simp only [Option.bind_some] at e
                  cases el1 : lcLoop t1 tt1 te vs1 items1 (wipeS vs1 s5) with
                  | none => rw [el1] at e; cases e
                  | some p6 =>
                    obtain ⟨rest1, s6⟩ := p6
                    rw [el1] at e
                    simp only [Option.bind_some] at e
                    cases er : lc2Loop t tt mi1 t1 tt1 te vs vs1 (items.drop (i + 1)) (wipeS vs s6) with
                    | none => rw [er] at e; cases e
                    | some p7 =>
                      obtain ⟨rest2, s7⟩ := p7
                      rw [er] at e
                      simp only [Option.bind_some, Option.some.injEq, Prod.mk.injEq] at e
                      obtain ⟨rfl, rfl⟩ := e
                      refine ⟨g4, s3, G4, items1, s5, ei, fun J1 g5 H5 G5 E5 IT1 => ?_⟩
                      have E25 := E24.trans E5
                      obtain ⟨a1, a2, a3⟩ := list_stays hAx (fun _ z => by cases z) nF nW E25
                      have hz : (acc ++ rest1).length ≤ sizeLine := by
                        have h1 : (acc ++ (rest1 ++ rest2)).length = fin.length := by rw [hfe]
                        simp only [List.length_append] at h1 ⊢
                        omega
                      refine inner_ok hts1 G5 hA a1 a2 a3 (ra.mono E25.st E25.mono) (Ex.trans E25) IT1 el1 hz fun g8 H8 xs' G8 E8 hF8 hS8 b1 b2 b3 r8 => ?_
                      have Gw := G8.wipe vs
                      have hw2 : L2.wipe (L2.wipe σ3 vs1) vs = σb := by rw [wipe_wipe σ3 hvs]; exact hw
                      rw [hw2] at Gw
                      have wsub : ∀ b, PD.W g8 (wipeE vs s6.env) σb b → PD.W g8 s6.env (L2.wipe σ3 vs1) b := fun b hb => by
                        rw [← hw2] at hb; exact W_wipe hb
                      refine ⟨g8, wipeS vs s6, xs', acc ++ rest1, rest2, Gw, (hF.trans E25.mono).trans hF8, fun p hp => hS8 p (E25.st p (hS p hp)), b1, b2, fun z => b3 (wsub _ z), r8, er, by rw [List.append_assoc]; exact hfe, E8.less fun b hb => .inl (wsub b hb)⟩
        · have : i = items.length := by omega
          subst this
          rw [List.drop_length] at e
          have e : some (([] : List D), sx) = some (rest, sf) := e
          simp only [Option.some.injEq, Prod.mk.injEq] at e
          obtain ⟨rfl, rfl⟩ := e
          rw [List.append_nil] at hfe
          subst hfe
          refine .inl ⟨IT.stop _ gx Hx hF hS Gx.fr rfl, ?_⟩
          obtain ⟨GB, WB⟩ := Good.back (vs := vs) G1 Gx Ex
          have EB : Ext (PD.W g1 s1.env σ) g1 H1 (PD.W gx (restE s1.env vs sx.env) σ) gx Hx :=
            ⟨fun b o hb hn => Ex.pr b o hb fun z => hn (W_wipe z), Ex.dom, Ex.mono, fun b o h1 h2 => (Ex.newF b o h1 h2).elim .inl fun z => z.elim (fun y => .inr (.inl (W_wipe y))) fun y => .inr (.inr y), WB, Ex.st⟩
          refine q (.ref A) gx Hx GB (E1.trans EB) (.t (E1.dom A hA) ⟨⟨xs, hAx, ra⟩, nF⟩ fun z => ?_)
          have hl : s1.env.length = sx.env.length := by rw [G1.len, Gx.len, wipe_length]
          rcases z with ⟨i, o, h1, h2⟩ | z
          · rcases restE_at hl h1 with ⟨h5, h6⟩ | ⟨h5, h6⟩
            · exact nW (.inl ⟨i, o, h6, by rw [wipe_get (List.getElem?_eq_some_iff.mp h2).1, if_neg h5]; exact h2⟩)
            · exact W_ne G1 (.inl ⟨i, o, h6, h2⟩) hA
          · exact nW (.inr z)
      · cases e
end
end PD
/-! PD: the rules by form. -/
namespace PD
open PySem PySem.Spec PyProof.Rows L2

abbrev PX (X : Cx) (e : Expr) (m : M R) : Prop := PE X e (LE X.w X.K m)
abbrev XT (X : Cx) (e : Expr) (m : M Bool) : Prop := PT X e (LT X.w X.K m)
abbrev XW (X : Cx) (e : Expr) (m : M Bool) : Prop := PW X e (LT X.w X.K m)
abbrev XD (X : Cx) (es : List Expr) (ms : List (M R)) : Prop := PA X es (LD X.w X.K (mShs ms))
abbrev XA (X : Cx) (es : List Expr) (ms : List (M R)) : Prop := PA X es (LA X.w X.K (mArgs ms))
abbrev XS (X : Cx) (st : Stmt) (m : MS) : Prop := PS X st (LS X.w X.K m)
abbrev XSs (X : Cx) (st : List Stmt) (m : MS) : Prop := PSs X st (LS X.w X.K m)
abbrev XI (X : Cx) (tg e : Expr) (m : M (List D)) : Prop := PI X tg e (LI X.w X.K m)
abbrev XG (X : Cx) (tg : Expr) (ts : List Nat) (t : D → S → Option S) : Prop := PG X tg (LG X.w X.K ts t)
abbrev XGs (X : Cx) (tg : List Expr) (ts : List Nat) (t : List D → S → Option S) : Prop := PGs X tg (LGs X.w X.K ts t)
abbrev XO (X : Cx) (e : Option Expr) (m : M (Option Int)) : Prop := PO X e (LO X.w X.K m)
abbrev Blk (X : Cx) (sc : Scope) (f : Cx → Prop) : Prop := ∀ (s : Shared) (H : Hp) (C : Addr) (cl : List (Str × Addr)) (fp : List Addr), f (X.blk s H sc (compEnvC sc cl C X.env) fp)
theorem POi {X : Cx} {e : Option Expr} {t t' : TO} (h : PO X e t) (i : ∀ σ H Q, t' σ H Q → t σ H Q) : PO X e t' := ⟨fun p s σ H Q I q => h.run p s σ H Q I (i σ H Q q)⟩

section
variable {X : Cx} {a b c e o : Expr} {es rest : List Expr} {ma mb mc me mo : M R} {ms : List (M R)} {ta tb tc : M Bool} {pos p apos cpos : Pos}
/-! ### names, constants -/
instance (l : List Nat) : Decidable (StrG l) := by unfold StrG; infer_instance
theorem e_v (i : Nat) {x : Str} (hN : X.N[i]? = some x := by rfl) (hv : Vis X.env.scope x := by first | exact Or.inl rfl | exact Or.inr (Or.inl rfl) | exact Or.inr (Or.inr rfl)) (hd : (x == ("__debug__" : Str)) = false := by decide) (hcd : (x == ("__classdict__" : Str)) = false := by decide) : PX X (.Name x pos) (mVar i) :=
  PEi (pv i hN hv hd hcd) fun _ _ _ h => tVar_LE h
theorem e_int {i : Int} {j : Nat} : PX X (.Constant (.int i) j pos) (mC (.int i)) := PEi pe_int fun _ _ _ h => tC_LE (fun _ _ => .int i) h
theorem e_bl {i : Bool} {j : Nat} : PX X (.Constant (.bool i) j pos) (mC (.bl i)) := PEi pe_bl fun _ _ _ h => tC_LE (fun _ _ => .bl i) h
theorem e_non {j : Nat} : PX X (.Constant .none j pos) (mC .non) := PEi pe_non fun _ _ _ h => tC_LE (fun _ _ => .non) h
theorem e_str {x : Str} {j : Nat} (l : List Nat) (hx : x = sOf l := by rfl) (hg : StrG l := by decide) : PX X (.Constant (.str x) j pos) (mC (.str l)) :=
  PEi pe_str fun _ _ _ h => (by subst hx; exact tC_LE (fun _ _ => .str hg) h)
/-- the name of a built-in class, as a value -/
theorem e_ty {x : Str} {T : String} (hg : Gl X x) (hm : X.mg x = none) (hv : bootBuiltins x = some (.type T)) (hn : x ≠ "__name__" := by decide) (hd : (x == ("__debug__" : Str)) = false := by decide) : PX X (.Name x pos) (mC (.cv (.ty T))) :=
  PEi (pe_bltn (v := .ty T) hg hm hv rfl hn hd) fun _ _ _ h => tC_LE (fun _ _ => .cv _) h
/-! ### operators -/
theorem e_op {op : Operator} {r : R2} {f : D → D → Option R} (ho : OpR X (binaryOp op) r) (hf : Op2 X.w X.K r f) (ha : PX X a ma) (hb : PX X b mb) : PX X (.BinOp a op b pos) (mBin f ma mb) :=
  PEi (pe_op ho ha hb) fun _ _ _ h => tOp_LE hf h
theorem e_add (ha : PX X a ma) (hb : PX X b mb) : PX X (.BinOp a .Add b pos) (mBin fAdd ma mb) := e_op r_add o_add ha hb
theorem e_sub (ha : PX X a ma) (hb : PX X b mb) : PX X (.BinOp a .Sub b pos) (mBin fSub ma mb) := e_op op_sub o_sub ha hb
theorem e_mul (ha : PX X a ma) (hb : PX X b mb) : PX X (.BinOp a .Mult b pos) (mBin fMul ma mb) := e_op r_mul o_mul ha hb
theorem e_div (ha : PX X a ma) (hb : PX X b mb) : PX X (.BinOp a .FloorDiv b pos) (mBin fDiv ma mb) := e_op op_fdivN o_div ha hb
theorem e_mod (ha : PX X a ma) (hb : PX X b mb) : PX X (.BinOp a .Mod b pos) (mBin fMod ma mb) := e_op op_modN o_mod ha hb
theorem e_shl (ha : PX X a ma) (hb : PX X b mb) : PX X (.BinOp a .LShift b pos) (mBin fShl ma mb) := e_op op_shl o_shl ha hb
theorem e_shr (ha : PX X a ma) (hb : PX X b mb) : PX X (.BinOp a .RShift b pos) (mBin fShr ma mb) := e_op op_shr o_shr ha hb
theorem e_band (ha : PX X a ma) (hb : PX X b mb) : PX X (.BinOp a .BitAnd b pos) (mBin fAnd ma mb) := e_op op_and o_and ha hb
theorem e_bor (ha : PX X a ma) (hb : PX X b mb) : PX X (.BinOp a .BitOr b pos) (mBin fOr ma mb) := e_op op_or o_or ha hb
theorem e_neg (ha : PX X a ma) : PX X (.UnaryOp .USub a pos) (mUn fNeg ma) := PEi (pe_un un_neg ha) fun _ _ _ h => tUn_LE o_neg h
/-- what a comparison is -/
structure CmpOk (X : Cx) (op : CmpOp) (f : D → D → Option R) : Prop where
  ex : ∃ r, OpR X (compareOp op) r ∧ Op2 X.w X.K r f
theorem c_eq (hu : X.A.units + 64 < cLine) : CmpOk X .Eq fEq := ⟨⟨_, op_eqD hu, o_eq⟩⟩
theorem c_ne (hu : X.A.units + 64 < cLine) : CmpOk X .NotEq fNe := ⟨⟨_, op_neD hu, o_ne⟩⟩
theorem c_lt : CmpOk X .Lt fLt := ⟨⟨_, r_lt, o_lt⟩⟩
theorem c_le : CmpOk X .LtE fLe := ⟨⟨_, op_le, o_le⟩⟩
theorem c_gt : CmpOk X .Gt fGt := ⟨⟨_, op_gt, o_gt⟩⟩
theorem c_ge : CmpOk X .GtE fGe := ⟨⟨_, op_ge, o_ge⟩⟩
theorem c_is : CmpOk X .Is fIsN := ⟨⟨_, op_isN, o_isN⟩⟩
theorem c_isnot : CmpOk X .IsNot fNotN := ⟨⟨_, op_notN, o_notN⟩⟩
theorem c_in (hu : X.A.units + 65 < cLine) : CmpOk X .In fIn := ⟨⟨_, op_inX hu, o_in⟩⟩
theorem c_notin (hu : X.A.units + 65 < cLine) : CmpOk X .NotIn fNotIn := ⟨⟨_, op_notInX hu, o_notIn⟩⟩
theorem e_cmp {op : CmpOp} {f : D → D → Option R} (ho : CmpOk X op f) (ha : PX X a ma) (hb : PX X b mb) (hm : behindInMarks op b = false := by with_unfolding_all rfl) : PX X (.Compare a [op] [b] pos) (mBin f ma mb) :=
  let ⟨_, h1, h2⟩ := ho.ex
  PEi (pe_cmpR h1 ha hb hm) fun _ _ _ h => tOp_LE h2 h
theorem LE.imp {w : World} {K : PySem.W.Frag} {m : M R} {σ : St} {H : Hp} {Q Q' : VK} (h : LE w K m σ H Q) (i : ∀ v H, Q v H → Q' v H) : LE w K m σ H Q' :=
  let ⟨g, s, G, r, s', e, q⟩ := h
  ⟨g, s, G, r, s', e, fun v g' H' a b c => i _ _ (q v g' H' a b c)⟩
theorem tOp_imp {w : World} {K : PySem.W.Frag} {r : R2} {f : D → D → Option R} (h2 : Op2 w K r f) {σ : St} {H : Hp} {Q : Bool → Hp → Prop} (h : LT w K (mTest (mBin f ma mb)) σ H Q) : tTest (tOp r (LE w K ma) (LE w K mb)) σ H Q := tOp_LE h2 (tTest_LT h)
theorem t_cmp {op : CmpOp} {f : D → D → Option R} (ho : CmpOk X op f) (ha : PX X a ma) (hb : PX X b mb) (hm : behindInMarks op b = false := by with_unfolding_all rfl) : XT X (.Compare a [op] [b] pos) (mTest (mBin f ma mb)) :=
  let ⟨_, h1, h2⟩ := ho.ex
  PTi (pt_cmpR h1 ha hb hm) fun _ _ _ h => tOp_imp h2 h
/-! ### tests -/
theorem t_and1 (ha : XT X a ta) : XW X (.BoolOp .And [a] pos) ta := pw_and1 ha
theorem t_or1 (ha : XT X a ta) : XW X (.BoolOp .Or [a] pos) ta := pw_or1 ha
theorem t_and (ha : XT X a ta) (hb : XW X (.BoolOp .And (b :: rest) pos) tb) : XW X (.BoolOp .And (a :: b :: rest) pos) (mAnd ta tb) := PWi (pw_and ha hb) fun _ _ _ h => tAnd_LT h
theorem t_or (ha : XT X a ta) (hb : XW X (.BoolOp .Or (b :: rest) pos) tb) : XW X (.BoolOp .Or (a :: b :: rest) pos) (mOr ta tb) := PWi (pw_or ha hb) fun _ _ _ h => tOr_LT h
theorem t_w (h : XW X a ta) : XT X a ta := h.pt
theorem t_not (ha : XT X a ta) : XT X (.UnaryOp .Not a pos) (mNot ta) := PTi (pt_not ha) fun _ _ _ h => tNot_LT h
theorem t_tru (ha : PX X a ma) (he : ∀ whole, isTrue a X.env whole = (do let v ← whole; standAt a.pos; holding [v] (truthy v)) := by intro _; rfl) : XT X a (mTru ma) := PTi (pt_truth ha he) fun _ _ _ h => mTru_LT h
theorem e_if (hc : XT X c tc) (ha : PX X a ma) (hb : PX X b mb) : PX X (.IfExp c a b pos) (mIf tc ma mb) := PEi (pe_ifExp hc ha hb) fun _ _ _ h => tIf_LE h
/-- and, or, not as values: bools -/
def mRetR (r : R) : M R := fun s => some (r, s)
def mBlK (k : Bool → M R) (a : M R) : M R := fun s => (a s).bind fun p => (p.1.bl?).bind fun c => k c p.2
def mAndV (a b : M R) : M R := mBlK (fun c => if c = true then b else mRetR (.d (.bl false))) a
def mOrV (a b : M R) : M R := mBlK (fun c => if c = true then mRetR (.d (.bl true)) else b) a
def mNotV (a : M R) : M R := mBlK (fun c => mRetR (.d (.bl (!c)))) a
theorem tBl_core {w : World} {K : PySem.W.Frag} {k : Bool → M R} {σ : St} {H : Hp} {Q : VK} (h : LE w K (mBlK k ma) σ H Q) : LE w K ma σ H fun x H1 => ∃ c, x = .bl c ∧ LE w K (k c) σ H1 Q := by
  obtain ⟨g, s, G, res, s', e, q⟩ := h
  unfold mBlK at e
  obtain ⟨⟨r1, s1⟩, e1, e⟩ := Option.bind_eq_some_iff.mp e
  obtain ⟨c, e2, e⟩ := Option.bind_eq_some_iff.mp e
  have er := R.bl_eq e2
  simp only at er
  subst er
  refine LE.use G e1 fun v g1 H1 G1 E1 R1 => ?_
  cases R1 with
  | d h => cases h; exact ⟨c, rfl, LE.use G1 e fun v g2 H2 G2 E2 R2 => q v g2 H2 G2 (E1.trans E2) (R2.sooner E1.dom)⟩
theorem e_one {op : BoolOp} (h : PX X a ma) : PX X (.BoolOp op [a] pos) ma := pe_one h
theorem bl_ret {w : World} {K : PySem.W.Frag} {k : Bool} {σ : St} {H : Hp} {Q : VK} (h : LE w K (mRetR (.d (.bl k))) σ H Q) : Q (.bl k) H := by
  obtain ⟨g, s, G, res, s', e, q⟩ := h
  cases e
  exact q _ g H G (Ext.refl _ _ _) (.d (.bl k))
theorem tAndV_LE {w : World} {K : PySem.W.Frag} {σ : St} {H : Hp} {Q : VK} (h : LE w K (mAndV ma mb) σ H Q) : tAndV (LE w K ma) (LE w K mb) σ H Q := by
  refine LE.imp (tBl_core h) fun x H1 ⟨c, ex, h⟩ => ⟨c, ex, ?_⟩
  cases c with
  | true => exact h
  | false => exact bl_ret h
theorem tOrV_LE {w : World} {K : PySem.W.Frag} {σ : St} {H : Hp} {Q : VK} (h : LE w K (mOrV ma mb) σ H Q) : tOrV (LE w K ma) (LE w K mb) σ H Q := by
  refine LE.imp (tBl_core h) fun x H1 ⟨c, ex, h⟩ => ⟨c, ex, ?_⟩
  cases c with
  | false => exact h
  | true => exact bl_ret h
theorem tNotV_LE {w : World} {K : PySem.W.Frag} {σ : St} {H : Hp} {Q : VK} (h : LE w K (mNotV ma) σ H Q) : tNotV (LE w K ma) σ H Q :=
  LE.imp (tBl_core h) fun x H1 ⟨c, ex, h⟩ => ⟨c, ex, bl_ret h⟩
theorem e_and (ha : PX X a ma) (hb : PX X (.BoolOp .And (b :: rest) pos) mb) : PX X (.BoolOp .And (a :: b :: rest) pos) (mAndV ma mb) := PEi (pe_and ha hb) fun _ _ _ h => tAndV_LE h
theorem e_or (ha : PX X a ma) (hb : PX X (.BoolOp .Or (b :: rest) pos) mb) : PX X (.BoolOp .Or (a :: b :: rest) pos) (mOrV ma mb) := PEi (pe_or ha hb) fun _ _ _ h => tOrV_LE h
theorem e_not (ha : PX X a ma) : PX X (.UnaryOp .Not a pos) (mNotV ma) := PEi (pe_not ha) fun _ _ _ h => tNotV_LE h
/-- a op b op' c -/
def mChain (f f' : D → D → Option R) (a b c : M R) : M R := fun s => (a s).bind fun p => (b p.2).bind fun q => (p.1.peek q.2.env).bind fun x => (q.1.peek q.2.env).bind fun y => (f x y).bind fun z => (z.bl?).bind fun k =>
  if k = true then (c q.2).bind fun t => (q.1.peek t.2.env).bind fun y2 => (t.1.peek t.2.env).bind fun w => (f' y2 w).map fun r => (r, t.2) else some (.d (.bl false), q.2)
theorem tChain_LE {w : World} {K : PySem.W.Frag} {r r' : R2} {f f' : D → D → Option R} (h1 : Op2 w K r f) (h2 : Op2 w K r' f') {σ : St} {H : Hp} {Q : VK} (h : LE w K (mChain f f' ma mb mc) σ H Q) : tChain r r' (LE w K ma) (LE w K mb) (LE w K mc) σ H Q := by
  obtain ⟨g, s, G, res, s', e, q⟩ := h
  unfold mChain at e
  obtain ⟨⟨ra, s1⟩, ea, e⟩ := Option.bind_eq_some_iff.mp e
  obtain ⟨⟨rb, s2⟩, eb, e⟩ := Option.bind_eq_some_iff.mp e
  obtain ⟨x, ex, e⟩ := Option.bind_eq_some_iff.mp e
  obtain ⟨y, ey, e⟩ := Option.bind_eq_some_iff.mp e
  obtain ⟨z, ez, e⟩ := Option.bind_eq_some_iff.mp e
  obtain ⟨k, ek, e9⟩ := Option.bind_eq_some_iff.mp e
  clear e
  have er := R.bl_eq ek
  subst er
  refine LE.use G ea fun v1 g1 H1 G1 E1 R1 => LE.use G1 eb fun v2 g2 H2 G2 E2 R2 => ?_
  refine h1 g2 H2 v1 v2 x y _ _ G2.fr ((R1.step E2).peek G2 ex) (R2.peek G2 ey) ez fun v g3 H3 EP RPv => ?_
  cases RPv with
  | d hv =>
    cases hv
    have G3 := G2.pure EP
    have E23 := (E1.trans E2).trans (Ext.ofP EP)
    refine ⟨k, rfl, ?_⟩
    cases k with
    | false =>
      simp only [Bool.false_eq_true, if_false] at e9
      cases e9
      exact iteF (q _ g3 H3 G3 E23 (.d (.bl false)))
    | true =>
      simp only [if_true] at e9
      obtain ⟨⟨rc, s4⟩, ec, e⟩ := Option.bind_eq_some_iff.mp e9
      obtain ⟨y2, ey2, e⟩ := Option.bind_eq_some_iff.mp e
      obtain ⟨w', ew, e⟩ := Option.bind_eq_some_iff.mp e
      obtain ⟨res', e4, e5⟩ := Option.map_eq_some_iff.mp e
      simp only [Prod.mk.injEq] at e5
      obtain ⟨rfl, rfl⟩ := e5
      refine iteT (LE.use G3 ec fun v4 g4 H4 G4 E4 R4 => ?_)
      have R2' := (R2.step (Ext.ofP EP)).step E4
      refine h2 g4 H4 v2 v4 y2 w' _ Q G4.fr (R2'.peek G4 ey2) (R4.peek G4 ew) e4 fun v g5 H5 EP5 RPv => ?_
      exact q v g5 H5 (G4.pure EP5) ((E23.trans E4).trans (Ext.ofP EP5)) ((RPv.rr G4 EP5).sooner fun b z => E23.dom b (E4.dom b z))
theorem e_chain {op op' : CmpOp} {f f' : D → D → Option R} (h1 : CmpOk X op f) (h2 : CmpOk X op' f') (ha : PX X a ma) (hb : PX X b mb) (hc : PX X c mc) (hm : lastMarks [op, op'] [b, c] = false := by with_unfolding_all rfl) : PX X (.Compare a [op, op'] [b, c] pos) (mChain f f' ma mb mc) :=
  let ⟨_, h3, h4⟩ := h1.ex
  let ⟨_, h5, h6⟩ := h2.ex
  PEi (pe_chain h3 h5 ha hb hc hm) fun _ _ _ h => tChain_LE h4 h6 h
theorem t_chain {op op' : CmpOp} {f f' : D → D → Option R} (h1 : CmpOk X op f) (h2 : CmpOk X op' f') (ha : PX X a ma) (hb : PX X b mb) (hc : PX X c mc) (hm : lastMarks [op, op'] [b, c] = false := by with_unfolding_all rfl) : XT X (.Compare a [op, op'] [b, c] pos) (mTest (mChain f f' ma mb mc)) :=
  let ⟨_, h3, h4⟩ := h1.ex
  let ⟨_, h5, h6⟩ := h2.ex
  PTi (pt_chain h3 h5 ha hb hc hm) fun _ _ _ h => tChain_LE h4 h6 (tTest_LT h)
/-! ### subscripts, displays -/
theorem e_ix (hu : X.A.units + 64 < cLine) (ha : PX X a ma) (hb : PX X b mb) (hs : PlainIx b := by exact fun _ _ => rfl) : PX X (.Subscript a b pos) (mBin fIx ma mb) := PEi (pe_ix (ix_x hu) ha hb hs) fun _ _ _ h => tOp_LE o_ix h
theorem o_none : XO X none mNoPart := POi po_none fun _ _ _ h => tNoPart_LO h
theorem o_some (h : PX X e me) : XO X (some e) (mPart me) := POi (po_some h) fun _ _ _ h => tPart_LO h
theorem e_sl {lo hi : Option Expr} {ml mh : M (Option Int)} {p2 : Pos} (ha : PX X a ma) (hl : XO X lo ml) (hh : XO X hi mh) : PX X (.Subscript a (.Slice lo hi none p2) pos) (mSl ma ml mh) := PEi (pe_slice sl_x ha hl hh) fun _ _ _ h => tSl_LE h
theorem d_nil : XD X [] [] := ⟨fun pos p s σ H Q I h => pa_nil.run pos p s σ H Q I (LD_nil h)⟩
theorem d_cons (he : PX X e me) (hr : XD X es ms) (hs : starEach (e :: es) X.env = (false, eval e X.env) :: starEach es X.env := by rfl) : XD X (e :: es) (me :: ms) := ⟨fun pos p s σ H Q I h => (pa_cons he hr hs).run pos p s σ H Q I (LD_cons h)⟩
theorem a_nil : XA X [] [] := ⟨fun pos p s σ H Q I h => pa_nil.run pos p s σ H Q I (LA_nil h)⟩
theorem a_cons (he : PX X e me) (hr : XA X es ms) (hs : starEach (e :: es) X.env = (false, eval e X.env) :: starEach es X.env := by rfl) : XA X (e :: es) (me :: ms) := ⟨fun pos p s σ H Q I h => (pa_cons he hr hs).run pos p s σ H Q I (LA_cons h)⟩
theorem e_tup {x1 : Nat} (h : XD X es ms) : PX X (.Tuple es x1 pos) (mTup ms) := PEi (pe_tup h) fun _ _ _ h => tTup_LE h
theorem e_lst (h : XD X es ms) : PX X (.List es pos) (mLst ms) := PEi (pe_lst h) fun _ _ _ h => tLst_LE h
theorem e_dnew : PX X (.Dict [] [] pos) mDNew := PEi pe_dnewX fun _ _ _ h => tDNew_LE h
/-! ### calls -/
theorem e_cb {x : Str} {id : String} {r : List V → Hp → VK → Prop} {f : List D → Option R} (hc : CallR X (.builtin id) r) (hf : OpN X.w X.K r f) (hg : Gl X x) (hm : X.mg x = none) (hv : bootBuiltins x = some (.builtin id)) (ha : XA X (e :: es) ms) (hn : x ≠ "__name__" := by decide) (hdb : (x == ("__debug__" : Str)) = false := by decide)
    (he : starEach (e :: es) X.env = (false, eval e X.env) :: starEach es X.env := by rfl) (hpl : (backTo pos (starEach es X.env)).any (·.1) = false := by rfl) : PX X (.Call (.Name x p) (e :: es) [] pos) (mPrim f (mArgs ms)) :=
  PEi (pe_callB hc hg hm hv ha hn hdb he hpl) fun _ _ _ h => tPrim_LE hf h
theorem e_ct {x : Str} {T : String} {r : List V → Hp → VK → Prop} {f : List D → Option R} (hc : CallR X (.type T) r) (hf : OpN X.w X.K r f) (hg : Gl X x) (hm : X.mg x = none) (hv : bootBuiltins x = some (.type T)) (ha : XA X (e :: es) ms) (hn : x ≠ "__name__" := by decide) (hdb : (x == ("__debug__" : Str)) = false := by decide)
    (he : starEach (e :: es) X.env = (false, eval e X.env) :: starEach es X.env := by rfl) (hpl : (backTo pos (starEach es X.env)).any (·.1) = false := by rfl) : PX X (.Call (.Name x p) (e :: es) [] pos) (mPrim f (mArgs ms)) :=
  PEi (pe_callTy hc hg hm hv ha hn hdb he hpl) fun _ _ _ h => tPrim_LE hf h
theorem e_sumV (hc : X.calm = true) (hg : Gl X "sum") (hm : X.mg "sum" = none) (hv : bootBuiltins "sum" = some (.builtin "sum")) (ha : PX X a ma) (hbase : attributeBase a "values" X.env (eval a X.env) = eval a X.env := by rfl) (hline : (apos.endLine == cpos.line) = true := by rfl)
    (he : starEach [.Call (.Attribute a "values" apos) [] [] cpos] X.env = [(false, eval (.Call (.Attribute a "values" apos) [] [] cpos) X.env)] := by rfl) : PX X (.Call (.Name "sum" p) [.Call (.Attribute a "values" apos) [] [] cpos] [] pos) (mUn fSumV ma) :=
  PEi (pe_callB (call_sumV hc) hg hm hv (pa_cons (pe_vals ha hbase hline) pa_nil he) (by decide) (by decide) he rfl) fun _ _ _ h => tSumV_LE h
theorem e_mr {name : Str} {T id : String} {r : V → List V → Hp → VK → Prop} {f : D → List D → Option R} (pa : PlainAttrs T) (slot : Slot T name id) (hty : typeOf (.builtin id) = pure (.type "method_descriptor")) (hm : MtR X id r) (hf : OpT X.w X.K r f) (ho : PX X o mo) (ha : XD X (e :: es) ms)
    (hbase : attributeBase o name X.env (eval o X.env) = eval o X.env := by rfl)
    (hfew : ((backTo cpos (starEach (e :: es) X.env)).all (fun x => !x.1) && (backToKw cpos (keywordEach [] X.env)).all (fun x => x.1.isSome) && decide ((e :: es).length + ([] : List Keyword).length + (if ([] : List Keyword).isEmpty then 0 else 1) < 30)) = true := by rfl)
    (hline : (apos.endLine == cpos.line) = true := by rfl) (hs : starEach (e :: es) X.env = (false, eval e X.env) :: starEach es X.env := by rfl) (hplain : (backTo cpos (starEach es X.env)).any (·.1) = false := by rfl) :
    PX X (.Call (.Attribute o name apos) (e :: es) [] cpos) (mMethT T f mo ms) := PEi (pe_bx pa slot hty hm ho ha hbase hfew hline hs hplain) fun _ _ _ h => tBX_LE hf h
theorem e_mm {name : Str} {T id : String} {r : V → List V → Hp → VK → Prop} {f : Own → List D → Option (D × Own)} (pa : PlainAttrs T) (slot : Slot T name id) (hty : typeOf (.builtin id) = pure (.type "method_descriptor")) (hm : MtR X id r) (hf : OpMut X.w X.K r f) (ho : PX X o mo) (ha : XD X (e :: es) ms)
    (hbase : attributeBase o name X.env (eval o X.env) = eval o X.env := by rfl)
    (hfew : ((backTo cpos (starEach (e :: es) X.env)).all (fun x => !x.1) && (backToKw cpos (keywordEach [] X.env)).all (fun x => x.1.isSome) && decide ((e :: es).length + ([] : List Keyword).length + (if ([] : List Keyword).isEmpty then 0 else 1) < 30)) = true := by rfl)
    (hline : (apos.endLine == cpos.line) = true := by rfl) (hs : starEach (e :: es) X.env = (false, eval e X.env) :: starEach es X.env := by rfl) (hplain : (backTo cpos (starEach es X.env)).any (·.1) = false := by rfl) :
    PX X (.Call (.Attribute o name apos) (e :: es) [] cpos) (mMut T f mo ms) := PEi (pe_bx pa slot hty hm ho ha hbase hfew hline hs hplain) fun _ _ _ h => tMut_LE hf h
theorem e_mm0 {name : Str} {T id : String} {r : V → List V → Hp → VK → Prop} {f : Own → List D → Option (D × Own)} (pa : PlainAttrs T) (slot : Slot T name id) (hty : typeOf (.builtin id) = pure (.type "method_descriptor")) (hm : MtR X id r) (hf : OpMut X.w X.K r f) (ho : PX X o mo)
    (hbase : attributeBase o name X.env (eval o X.env) = eval o X.env := by rfl) (hline : (apos.endLine == cpos.line) = true := by rfl) : PX X (.Call (.Attribute o name apos) [] [] cpos) (mMut T f mo []) := PEi (pe_bx0 pa slot hty hm ho hbase hline) fun _ _ _ h => tMut0_LE hf h
/-- f(..), f a def of the program -/
theorem e_call {k : Nat} {f : Addr} {fd : FuncData} {ps : List Str} {x : Str} {fn : Fn} {n : Nat} (F : FnOk X.prog X.w X.K X.mg X.base CX0 k f fd ps (spF X.w X.K fn n)) (hr : Room k X.A) (hg : Gl X x) (hm : X.mg x = some (.ref f)) (hk : PySem.W.keepIn X.K (.ref f) = true) (hb : Binds X.K fd ps [])
    (ha : XA X (e :: es) ms) (hl : ms.length = n := by rfl) (hdb : (x == ("__debug__" : Str)) = false := by decide) (he : starEach (e :: es) X.env = (false, eval e X.env) :: starEach es X.env := by rfl) (hpl : (backTo pos (starEach es X.env)).any (·.1) = false := by rfl) :
    PX X (.Call (.Name x p) (e :: es) [] pos) (mCall fn (mArgs ms)) :=
  PEi (pe_call (E := E0) F hr hg hm hk hb .nil pass0 ha hdb he hpl) fun _ _ _ h => tCall_LE (fun s rs s' e => by rw [mArgs_len e]; exact hl) h
end
end PD
/-! PD: the rules by form: loops, targets, statements, defs. -/
namespace PD
open PySem PySem.Spec PyProof.Rows L2

section
variable {X : Cx} {a b c e o tg iter : Expr} {es rest : List Expr} {ma mb mc me mo : M R} {ms : List (M R)} {ta tb tc : M Bool} {pos p apos cpos : Pos} {elts : List Expr} {kk : Nat} {tpos : Pos}
/-! ### what is walked -/
theorem i_val (he : PX X e me) : XI X tg e (mIt me) := PIi (pi_val he) fun _ _ _ h => iVal_LI h
theorem i_vls (he : PX X e me) (hbase : attributeBase e "values" X.env (eval e X.env) = eval e X.env := by rfl) (hline : (apos.endLine == cpos.line) = true := by rfl) : XI X tg (.Call (.Attribute e "values" apos) [] [] cpos) (mItV me) := PIi (pi_vls he hbase hline) fun _ _ _ h => iVls_LI h
theorem i_itm (he : PX X e me) (hbase : attributeBase e "items" X.env (eval e X.env) = eval e X.env := by rfl) (hline : (apos.endLine == cpos.line) = true := by rfl) : XI X (.Tuple elts kk tpos) (.Call (.Attribute e "items" apos) [] [] cpos) (mItI me) := PIi (pi_itm he hbase hline) fun _ _ _ h => iItm_LI h
theorem i_rng1 (hg : Gl X "range") (hm : X.mg "range" = none) (ha : XD X [a] ms) (hs : starEach [a] X.env = [(false, eval a X.env)] := by rfl) : XI X tg (.Call (.Name "range" p) [a] [] pos) (mItA fRng1 ms) := PIi (pi_range1 hg hm ha hs) fun _ _ _ h => iRng1_LI h
theorem i_rng2 (hg : Gl X "range") (hm : X.mg "range" = none) (ha : XD X [a, b] ms) (hs : starEach [a, b] X.env = [(false, eval a X.env), (false, eval b X.env)] := by rfl) (hs2 : starEach [b] X.env = [(false, eval b X.env)] := by rfl) : XI X tg (.Call (.Name "range" p) [a, b] [] pos) (mItA fRng2 ms) := PIi (pi_range2 hg hm ha hs hs2) fun _ _ _ h => iRng2_LI h
theorem i_rng3 (hg : Gl X "range") (hm : X.mg "range" = none) (ha : XD X [a, b, c] ms) (hs : starEach [a, b, c] X.env = (false, eval a X.env) :: starEach [b, c] X.env := by rfl) (hpl : (backTo pos (starEach [b, c] X.env)).any (·.1) = false := by rfl) : XI X tg (.Call (.Name "range" p) [a, b, c] [] pos) (mItA fRng3 ms) := PIi (pi_range3 hg hm ha hs hpl) fun _ _ _ h => iRng3_LI h
theorem i_en (hg : Gl X "enumerate") (hm : X.mg "enumerate" = none) (ha : XD X [e] ms) (hs : starEach [e] X.env = [(false, eval e X.env)] := by rfl) : XI X (.Tuple elts kk tpos) (.Call (.Name "enumerate" p) [e] [] pos) (mItA fEn ms) := PIi (pi_en hg hm ha hs) fun _ _ _ h => iEn_LI h
theorem i_z2 (hg : Gl X "zip") (hm : X.mg "zip" = none) (ha : XD X [a, b] ms) (hs : starEach [a, b] X.env = (false, eval a X.env) :: starEach [b] X.env := by rfl) (hpl : (backTo pos (starEach [b] X.env)).any (·.1) = false := by rfl) : XI X (.Tuple elts kk tpos) (.Call (.Name "zip" p) [a, b] [] pos) (mItA fZ2 ms) := PIi (pi_z2 hg hm ha hs hpl) fun _ _ _ h => iZ2_LI h
theorem i_z3 (hg : Gl X "zip") (hm : X.mg "zip" = none) (ha : XD X [a, b, c] ms) (hs : starEach [a, b, c] X.env = (false, eval a X.env) :: starEach [b, c] X.env := by rfl) (hpl : (backTo pos (starEach [b, c] X.env)).any (·.1) = false := by rfl) : XI X (.Tuple elts kk tpos) (.Call (.Name "zip" p) [a, b, c] [] pos) (mItA fZ3 ms) := PIi (pi_z3 hg hm ha hs hpl) fun _ _ _ h => iZ3_LI h
/-! ### targets -/
theorem g_n {ts : List Nat} (i : Nat) {x : Str} (hN : X.N.Nodup) (hi : X.N[i]? = some x := by rfl) (hx : Loc X.env.scope x := by first | exact .inl rfl | exact .inr rfl) (hf : X.fn x = true ∨ X.env.scope.names.lookup x = some .local := by first | exact .inl rfl | exact .inr rfl | assumption) (hm : i ∈ ts := by decide) : XG X (.Name x pos) ts (tgN i) :=
  PGi (pg_name hN hi hx hf) fun _ _ _ _ h => gName_LG hm h
theorem gs_nil {ts : List Nat} : XGs X [] ts tgNil := PGsi pgs_nil fun _ _ _ _ h => gNil_LG h
theorem gs_cons {ts : List Nat} {t : D → S → Option S} {u : List D → S → Option S} (h1 : XG X e ts t) (h2 : XGs X es ts u) (hs : (assignEach (e :: es) X.env).map (·.2) = assign e X.env :: (assignEach es X.env).map (·.2) := by rfl) : XGs X (e :: es) ts (tgCons t u) :=
  PGsi (pgs_cons h1 h2 hs) fun _ _ _ _ h => gCons_LG h
theorem g_t {ts : List Nat} {t : List D → S → Option S} {n : Nat} (hc : X.calm = true) (h : XGs X es ts t) (hl : ∀ ds s s', t ds s = some s' → ds.length = n) (hn : (assignEach es X.env).length = n := by rfl) (hst : (assignEach es X.env).findIdx? (·.1) = none := by rfl) : XG X (.Tuple es kk pos) ts (tgT t) :=
  PGi (pg_tup hc h hn hst) fun _ _ _ _ h => gTup_LG hl h
theorem g_sub {ts : List Nat} (hu : X.A.units + 64 < cLine) (ho : PX X o mo) (hi : PX X e me)
    (ha : ∀ v, assign (.Subscript o e pos) X.env v = (do
      let ov ← holding [v] (eval o X.env)
      let iv ← holding [v, ov] (eval e X.env)
      standAt pos
      holding [v, ov, iv] (setItem ov iv v)
      release [v, ov, iv] []) := by intro _; rfl) : XG X (.Subscript o e pos) ts (tgSub mo me) := PGi (pg_sub ho hi (set_x hu) ha) fun _ _ _ _ h => gSub_LG h
/-! ### statements -/
variable {st : Stmt} {sts : List Stmt} {m n m1 m2 : MS}
theorem ss_nil : XSs X [] mSkip := PSsi pss_nil fun _ _ _ h => tNext_LS h
theorem ss_one (h : XS X st m) : XSs X [st] m := pss_one h
theorem ss_cons (h1 : XS X st m) (h2 : XSs X sts n) : XSs X (st :: sts) (mThen m n) := PSsi (pss_cons h1 h2) fun _ _ _ h => tSeq_LS h
theorem s_break : XS X (.Break pos) mBreak := PSi ps_break fun _ _ _ h => by obtain ⟨g, s, G, fl, s', e, q⟩ := h; cases e; exact q _ g _ G (Ext.refl _ _ _)
theorem s_cont : XS X (.Continue pos) mCont := PSi ps_continue fun _ _ _ h => by obtain ⟨g, s, G, fl, s', e, q⟩ := h; cases e; exact q _ g _ G (Ext.refl _ _ _)
theorem s_pass : XS X (.Pass pos) mSkip := PSi ps_pass fun _ _ _ h => tNext_LS h
theorem s_expr (he : PX X e me) (hs : swapsWith e none pos.line X.env = pure false := by rfl) : XS X (.Expr e pos) (mDrop me) := PSi (ps_expr he hs) fun _ _ _ h => tDrop_LS h
theorem s_ret (he : PX X e me) : XS X (.Return (some e) pos) (mRetS me) := PSi (ps_ret he) fun _ _ _ h => tRet_LS h
theorem s_if (hc : XT X c tc) (ha : XSs X sts m) {st2 : List Stmt} (hb : XSs X st2 n) : XS X (.If c sts st2 pos) (mIfS tc m n) := PSi (ps_if hc ha hb) fun _ _ _ h => tIfS_LS h
theorem s_set {i : Nat} {x : Str} {pos' : Pos} (hN : X.N.Nodup) (he : PX X e me) (hi : X.N[i]? = some x := by rfl) (hx : Loc X.env.scope x := by first | exact .inl rfl | exact .inr rfl) (hs : swapsWith e (some (.Name x pos')) pos.line X.env = pure false := by rfl) (hf : X.fn x = true ∨ X.env.scope.names.lookup x = some .local := by first | exact .inl rfl | exact .inr rfl) : XS X (.Assign [.Name x pos'] e pos) (mSet i me) :=
  PSi (ps_set hN hi hx he hs hf) fun _ _ _ h => tSet_LS h
theorem s_asg {ts : List Nat} {t : D → S → Option S} (he : PX X e me) (hg : XG X tg ts t) (hs : swapsWithSole [tg] e pos.line X.env = pure false := by rfl) (hw : swappedStores [tg] e X.env = pure none := by rfl) (h1 : (assignEach [tg] X.env).map (·.2) = [assign tg X.env] := by rfl) : XS X (.Assign [tg] e pos) (mAsg t me) :=
  PSi (ps_asg he hg hs hw h1) fun _ _ _ h => tAsg_LS h
theorem s_par {i j : Nat} {x y : Str} {px py pt : Pos} {kt k2 : Nat} {pt2 : Pos} (hc : X.calm = true) (hN : X.N.Nodup) (ha : PX X a ma) (hb : PX X b mb) (hi : X.N[i]? = some x := by rfl) (hj : X.N[j]? = some y := by rfl) (hij : i ≠ j := by decide)
    (hx : X.env.scope.names.lookup x = some .local := by rfl) (hy : X.env.scope.names.lookup y = some .local := by rfl) (h1 : starEach [a, b] X.env = (false, eval a X.env) :: starEach [b] X.env := by rfl) (h2 : starEach [b] X.env = (false, eval b X.env) :: starEach [] X.env := by rfl)
    (hw : swappedStores [.Tuple [.Name x px, .Name y py] kt pt] (.Tuple [a, b] k2 pt2) X.env = pure (some [x, y]) := by rfl) (hs : swapsWithSole [.Tuple [.Name x px, .Name y py] kt pt] (.Tuple [a, b] k2 pt2) pos.line X.env = pure false := by rfl) :
    XS X (.Assign [.Tuple [.Name x px, .Name y py] kt pt] (.Tuple [a, b] k2 pt2) pos) (mPar i j ma mb) :=
  PSi (ps_par hc hN hi hj hij hx hy (pa_cons ha (pa_cons hb pa_nil h2) h1) hw hs) fun _ _ _ h => tPar_LS h
theorem s_for {ts : List Nat} {t : D → S → Option S} {mi : M (List D)} (hp : PassesOwn (model X.prog X.w) X.A X.env X.xe) (hc : X.calm = true) (hi : XI X tg iter mi) (hg : XG X tg ts t) (hb : XSs X sts m) (hs : ∀ x, foldedSetIterable iter X.env x = pure x := by intro _; rfl) : XS X (.For tg iter sts [] pos) (mFor mi t m) :=
  PSi (ps_for hp hc hi hg hb hs) fun _ _ _ h => tFor_LS h
theorem s_while (hp : PassesOwn (model X.prog X.w) X.A X.env X.xe) (hc : XT X c tc) (hb : XSs X sts m) : XS X (.While c sts [] pos) (mWhile tc m) := PSi (ps_while hp hc hb) fun _ _ _ h => tWhile_LS h
def addI : D → D → Option D
  | .int i, .int j => some (.int (i + j))
  | _, _ => none
def subI : D → D → Option D
  | .int i, .int j => some (.int (i - j))
  | _, _ => none
theorem s_aug {op : Operator} {f : Int → Int → Int} {fd : D → D → Option D} {i : Nat} {x : Str} {pos' : Pos} (ho : PIp X op (ipI f)) (hfd : ∀ dx dy dz, fd dx dy = some dz → ∃ i j, dx = .int i ∧ dy = .int j ∧ dz = .int (f i j)) (hN : X.N.Nodup) (he : PX X e me) (hi : X.N[i]? = some x := by rfl) (hx : Loc X.env.scope x := by first | exact .inl rfl | exact .inr rfl)
    (hf : X.fn x = true ∨ X.env.scope.names.lookup x = some .local := by first | exact .inl rfl | exact .inr rfl) : XS X (.AugAssign (.Name x pos') op e pos) (mAug i fd me) :=
  PSi (ps_aug hN hi hx he ho hf) fun _ _ _ h => tAug_LS (fun g H x y dx dy dz Q hs rx ry e q => by
    obtain ⟨i, j, rfl, rfl, rfl⟩ := hfd _ _ _ e
    cases rx; cases ry
    exact ⟨i, j, rfl, rfl, q _ (.int _)⟩) h
theorem addI_ok : ∀ dx dy dz, addI dx dy = some dz → ∃ i j, dx = .int i ∧ dy = .int j ∧ dz = .int (i + j) := fun dx dy dz e => by
  unfold addI at e
  split at e
  · cases e; exact ⟨_, _, rfl, rfl, rfl⟩
  · cases e
theorem subI_ok : ∀ dx dy dz, subI dx dy = some dz → ∃ i j, dx = .int i ∧ dy = .int j ∧ dz = .int (i - j) := fun dx dy dz e => by
  unfold subI at e
  split at e
  · cases e; exact ⟨_, _, rfl, rfl, rfl⟩
  · cases e
/-! ### comprehensions -/
abbrev XTs (X : Cx) (ifs : List Expr) (m : M Bool) : Prop := PTs X ifs (LT X.w X.K m)
theorem ts_nil : XTs X [] mYes := ⟨fun pins s σ H Q I h => pts_nil.run pins s σ H Q I (by obtain ⟨g, s, G, r, s', e, q⟩ := h; cases e; exact q g H G (Ext.refl _ _ _))⟩
theorem ts_one (h : XT X c tc) : XTs X [c] tc := pts_one h
variable {elt : Expr} {ifs : List Expr} {scope : Scope} {own : List (Str × Nat)} {ts ts1 vs1 : List Nat} {t t1 : D → S → Option S} {mi mi1 : M (List D)} {tt tt1 : M Bool} {tg1 iter1 : Expr} {ifs1 : List Expr}
theorem e_lc (hc : X.calm = true) (hN : X.N.Nodup) (ok : BlkOk X.N X.env.scope scope own) (hi : XI X tg iter mi) (hg : Blk X scope fun X => XG X tg ts t) (ht : Blk X scope fun X => XTs X ifs tt) (he : Blk X scope fun X => PX X elt me) (hs : ∀ x, foldedSetIterable iter X.env x = pure x := by intro _; rfl) (hts : ∀ i ∈ ts, i ∈ own.map (·.2) := by decide) :
    PX X (.ListComp elt [⟨tg, iter, ifs, 0⟩] scope pos) (mLc mi t tt me (own.map (·.2))) := PEi (pe_lc hc hN hi ok hg ht he hs) fun _ _ _ h => tLc_LE hts h
theorem LEA {w : World} {K : PySem.W.Frag} {i : Nat} {mm : M R} {T : TE} {D : Ends} {σ : St} {H : Hp} (h : LS w K (mSet i mm) D σ H) (ht : ∀ σ H Q, LE w K mm σ H Q → T σ H Q) : tAsg T (gName i) D σ H := ht _ _ _ (tSet_LS h)
theorem s_lc {i : Nat} {y : Str} {py spos : Pos} (hc : X.calm = true) (hN : X.N.Nodup) (ok : BlkOk X.N X.env.scope scope own) (hi : XI X tg iter mi) (hg : Blk X scope fun X => XG X tg ts t) (ht : Blk X scope fun X => XTs X ifs tt) (he : Blk X scope fun X => PX X elt me)
    (ha : (scope.names.any fun (n, k) => n == y && (k == .local || k == .cell)) = false := by decide +kernel) (hy : X.N[i]? = some y := by rfl) (hyl : X.env.scope.names.lookup y = some .local := by rfl) (hk : X.env.scope.kind = .function := by rfl) (hl : (py.line == pos.line) = true := by rfl) (hs : ∀ x, foldedSetIterable iter X.env x = pure x := by intro _; rfl) (hts : ∀ i ∈ ts, i ∈ own.map (·.2) := by decide) :
    XS X (.Assign [.Name y py] (.ListComp elt [⟨tg, iter, ifs, 0⟩] scope pos) spos) (mSet i (mLc mi t tt me (own.map (·.2)))) :=
  PSi (ps_setLc hc hN hy hyl (sw_true hk hyl hl ha) hi ok hg ht he hs) fun _ _ _ h => LEA h fun _ _ _ h => tLc_LE hts h
theorem e_lc2 (hc : X.calm = true) (hN : X.N.Nodup) (ok : BlkOk X.N X.env.scope scope own) (hi : XI X tg iter mi) (hg : Blk X scope fun X => XG X tg ts t) (ht : Blk X scope fun X => XTs X ifs tt) (hi1 : Blk X scope fun X => XI X tg1 iter1 mi1) (hg1 : Blk X scope fun X => XG X tg1 ts1 t1) (ht1 : Blk X scope fun X => XTs X ifs1 tt1) (he : Blk X scope fun X => PX X elt me)
    (hv : ∀ i ∈ vs1, i ∈ own.map (·.2) := by decide) (hs : ∀ x, foldedSetIterable iter X.env x = pure x := by intro _; rfl) (hs1 : ∀ env x, foldedSetIterable iter1 env x = pure x := by intro _ _; rfl) (hts : ∀ i ∈ ts, i ∈ own.map (·.2) := by decide) (hts1 : ∀ i ∈ ts1, i ∈ vs1 := by decide) :
    PX X (.ListComp elt [⟨tg, iter, ifs, 0⟩, ⟨tg1, iter1, ifs1, 0⟩] scope pos) (mLc2 mi t tt mi1 t1 tt1 me (own.map (·.2)) vs1) := PEi (pe_lc2 hc hN hi ok hv hg ht hi1 hg1 ht1 he hs hs1) fun _ _ _ h => tLc2_LE hts hts1 hv h
theorem s_lc2 {i : Nat} {y : Str} {py spos : Pos} (hc : X.calm = true) (hN : X.N.Nodup) (ok : BlkOk X.N X.env.scope scope own) (hi : XI X tg iter mi) (hg : Blk X scope fun X => XG X tg ts t) (ht : Blk X scope fun X => XTs X ifs tt) (hi1 : Blk X scope fun X => XI X tg1 iter1 mi1) (hg1 : Blk X scope fun X => XG X tg1 ts1 t1) (ht1 : Blk X scope fun X => XTs X ifs1 tt1) (he : Blk X scope fun X => PX X elt me)
    (ha : (scope.names.any fun (n, k) => n == y && (k == .local || k == .cell)) = false := by decide +kernel) (hy : X.N[i]? = some y := by rfl) (hyl : X.env.scope.names.lookup y = some .local := by rfl) (hk : X.env.scope.kind = .function := by rfl) (hl : (py.line == pos.line) = true := by rfl)
    (hv : ∀ i ∈ vs1, i ∈ own.map (·.2) := by decide) (hs : ∀ x, foldedSetIterable iter X.env x = pure x := by intro _; rfl) (hs1 : ∀ env x, foldedSetIterable iter1 env x = pure x := by intro _ _; rfl) (hts : ∀ i ∈ ts, i ∈ own.map (·.2) := by decide) (hts1 : ∀ i ∈ ts1, i ∈ vs1 := by decide) :
    XS X (.Assign [.Name y py] (.ListComp elt [⟨tg, iter, ifs, 0⟩, ⟨tg1, iter1, ifs1, 0⟩] scope pos) spos) (mSet i (mLc2 mi t tt mi1 t1 tt1 me (own.map (·.2)) vs1)) :=
  PSi (ps_setLc2 hc hN hy hyl (sw_true hk hyl hl ha) hi ok hv hg ht hi1 hg1 ht1 he hs hs1) fun _ _ _ h => LEA h fun _ _ _ h => tLc2_LE hts hts1 hv h
variable {kx vx : Expr} {mk mv : M R}
theorem e_dc (hu : X.A.units + 64 < cLine) (hc : X.calm = true) (hN : X.N.Nodup) (ok : BlkOk X.N X.env.scope scope own) (hi : XI X tg iter mi) (hg : Blk X scope fun X => XG X tg ts t) (ht : Blk X scope fun X => XTs X ifs tt) (hk : Blk X scope fun X => PX X kx mk) (he : Blk X scope fun X => PX X vx mv) (hs : ∀ x, foldedSetIterable iter X.env x = pure x := by intro _; rfl) (hts : ∀ i ∈ ts, i ∈ own.map (·.2) := by decide) :
    PX X (.DictComp kx vx [⟨tg, iter, ifs, 0⟩] scope pos) (mDc mi t tt mk mv (own.map (·.2))) := PEi (pe_dcx hu hc hN hi ok hg ht hk he hs) fun _ _ _ h => tDc_LE hts h
end
/-! ### defs -/
def runFn (n locals : Nat) (body : MS) : Fn := fun args ds => if args.length = n then (body ⟨args.map .d ++ List.replicate locals .no, ds⟩).bind fun p => match p.1 with
  | .nx => some (.d .non, p.2.ds)
  | .rt r => some (r, p.2.ds)
  | _ => none else none
section
variable {P : Program} {w : World} {K : PySem.W.Frag} {mg : Str → Option Value} {base : Heap}
theorem fn_start {g : Gh} {ds : Option DS} {H : Hp} {vs : List V} {xs : List D} {N : List Str} {n : Nat} (G : GoodH g ds H) (r : RepL w K g.st g.F vs xs) (hl : vs.length = n) (hn : n ≤ N.length) : Good w K g ⟨xs.map .d ++ List.replicate (N.length - n) .no, ds⟩ (L2.start N vs) H ∧ ∀ b, PD.W g (xs.map .d ++ List.replicate (N.length - n) Sl.no) (L2.start N vs) b → StA g b := by
  have hxl := r.length
  have own : ∀ (j : Nat) (o : Own), (xs.map Sl.d ++ List.replicate (N.length - n) Sl.no)[j]? = some (.o o) → False := fun j o h => by
    by_cases hj : j < xs.length
    · rw [List.getElem?_append_left (by simpa using hj), List.getElem?_map] at h
      obtain ⟨z, _, e⟩ := Option.map_eq_some_iff.mp h
      cases e
    · rw [List.getElem?_append_right (by simpa using hj)] at h
      have := List.mem_of_getElem? h
      have := List.eq_of_mem_replicate this
      cases this
  refine ⟨⟨G.fr, G.ds, ?_, fun j sl x h1 h2 => ?_, fun i j o o' a h1 => (own i o h1).elim, fun a ⟨j, o, h1, _⟩ => (own j o h1).elim⟩, fun b hb => hb.elim (fun ⟨j, o, h1, _⟩ => (own j o h1).elim) id⟩
  · show (xs.map Sl.d ++ List.replicate (N.length - n) Sl.no).length = (L2.start N vs).length
    unfold L2.start
    simp only [List.length_append, List.length_map, List.length_replicate]
    omega
  · have h1 : (xs.map Sl.d ++ List.replicate (N.length - n) Sl.no)[j]? = some sl := h1
    unfold L2.start at h2
    by_cases hj : j < xs.length
    · rw [List.getElem?_append_left (by simpa using hj), List.getElem?_map, List.getElem?_eq_getElem hj] at h1
      rw [List.getElem?_append_left (by simp; omega), List.getElem?_map] at h2
      obtain ⟨v, hv, ev⟩ := Option.map_eq_some_iff.mp h2
      obtain ⟨d, hd, rd⟩ := r.get hv
      rw [List.getElem?_eq_getElem hj] at hd
      cases h1; cases hd; cases ev
      exact .d rd
    · rw [List.getElem?_append_right (by simpa using hj)] at h1
      rw [List.getElem?_append_right (by simp; omega)] at h2
      have e1 := List.eq_of_mem_replicate (List.mem_of_getElem? h1)
      have e2 := List.eq_of_mem_replicate (List.mem_of_getElem? h2)
      subst e1 e2
      exact .no
theorem fn_ok {x qual : Str} {st : Stmt} {f : Addr} {fd : FuncData} {N ps : List Str} {k : Nat} {body : MS} (F : Fun K x qual st f fd) (S : FnScope N ps (defScope st)) (hn : ps.length ≤ N.length)
    (hb : ∀ (cdv : Value) (A : Around) (outer : List Env) (s : Shared) (H : Hp) (E : XK), Room k (A.deeper (envOfC qual (defScope st) s.heap.objs.size f cdv)) → XSs (cxOf CX0 P w K mg base N qual (defScope st) f cdv A outer s H E).nox (defBody st) body) :
    FnOk P w K mg base CX0 (k + 1) f fd ps (spF w K (runFn ps.length (N.length - ps.length) body) ps.length) := by
  refine F.ok S (fun vs H Q E ⟨g, ds, xs, _, _, hl, _⟩ => hl) (fun cdv A outer s H vs Q E hr h => ⟨_, hb cdv A outer s H E hr, ?_⟩)
  obtain ⟨g, ds, xs, GH, RL, hl, r, ds', e, q⟩ := h
  obtain ⟨G, own⟩ := fn_start (N := N) GH RL hl hn
  unfold runFn at e
  split at e
  · obtain ⟨⟨fl, s'⟩, e1, e2⟩ := Option.bind_eq_some_iff.mp e
    refine ⟨g, _, G, fl, s', e1, ?_⟩
    cases fl with
    | nx =>
      cases e2
      intro σ' g' H' G' E'
      refine q .non g' H' ?_ G'.h (.d .non)
      exact (E'.more own fun b hb => (E'.wsub b hb).imp (own b) id).less fun b hb => .inl (.inr hb)
    | rt r' =>
      cases e2
      intro v g' H' G' E' R'
      refine q v g' H' (E'.more own fun b hb => (E'.wsub b hb).imp (own b) id) G' ?_
      cases R' with
      | d h => exact .d h
      | t h0 ho hs => exact .t (h0.imp id (own _)) ho hs
    | bk => cases e2
    | ct => cases e2
  · cases e
end
end PD
/-! PD: name = {dict comprehension} on one line. -/
namespace PD
open PySem PySem.Spec PyProof.Rows L2

section
variable {X : Cx}
theorem ps_setDcx {i : Nat} {y : Str} {py : Pos} {kx vx tg iter : Expr} {ifs : List Expr} {scope : Scope} {own : List (Str × Nat)} {pos spos : Pos} {wi : TI} {g : TG} {tt : TT} {tk tv : TE} (hu : X.A.units + 64 < cLine) (hc : X.calm = true) (hN : X.N.Nodup) (hy : X.N[i]? = some y) (hyl : X.env.scope.names.lookup y = some .local)
    (hsw : swapsWith (.DictComp kx vx [⟨tg, iter, ifs, 0⟩] scope pos) (some (.Name y py)) spos.line X.env = pure true) (hi : PI X tg iter wi) (ok : BlkOk X.N X.env.scope scope own)
    (hg : ∀ (s : Shared) (H : Hp) (C : Addr) (cl : List (Str × Addr)) (fp : List Addr), PG (X.blk s H scope (compEnvC scope cl C X.env) fp) tg g) (ht : ∀ (s : Shared) (H : Hp) (C : Addr) (cl : List (Str × Addr)) (fp : List Addr), PTs (X.blk s H scope (compEnvC scope cl C X.env) fp) ifs tt)
    (hk : ∀ (s : Shared) (H : Hp) (C : Addr) (cl : List (Str × Addr)) (fp : List Addr), PE (X.blk s H scope (compEnvC scope cl C X.env) fp) kx tk)
    (he : ∀ (s : Shared) (H : Hp) (C : Addr) (cl : List (Str × Addr)) (fp : List Addr), PE (X.blk s H scope (compEnvC scope cl C X.env) fp) vx tv) (hs : ∀ x, foldedSetIterable iter X.env x = pure x := by intro _; rfl) :
    PS X (.Assign [.Name y py] (.DictComp kx vx [⟨tg, iter, ifs, 0⟩] scope pos) spos) (tAsg (tDcX X.w X.K wi g tt tk tv (own.map (·.2))) (gName i)) := by
  refine ⟨fun pins s σ H D I h => ?_⟩
  rw [exec_Assign_Name_used _ _ _ _ hsw]
  refine wpAny_bind (wpAny_standAt (wpAny_bind ?_))
  show wpAny _ X.A (do let _ ← comprehension (.DictComp kx vx [⟨tg, iter, ifs, 0⟩] scope pos) scope X.env (firstIterPos [⟨tg, iter, ifs, 0⟩] pos) newDict false (eval iter X.env) (some (assign (.Name y py) X.env))) _ _ s
  have h : tDcX X.w X.K wi g tt tk tv (own.map (·.2)) σ H (fun x H1 => gName i x σ H1 D.nx) := h
  refine wpAny_bind (thn (dcx_core (Qf := fun _ s' => SP X pins D .next s') hu hc hN I hi ok hg ht hk he hs h fun L C s' m H' I' q hn f => ?_) fun _ s' hq => wpAny_pure (wpAny_pure hq))
  show wpAny _ _ (assign (.Name y py) X.env (.ref L)) _ _ _
  refine wpAny_assign_Name (store_ok2 (v := V.ref L) I' hN hy (.inl hyl) rfl (fun s2 I2 ⟨a, sb, ha⟩ => ?_) (.inr hyl))
  obtain ⟨f0, f1, f2, f3, f4, f5⟩ := f
  have haC : C ≠ a := by
    rcases ha with z | z
    · rw [z]; exact f1
    · exact fun e => f4 y a z e.symm
  refine ⟨m, hn.sameBut sb haC, fun h3 sb3 => ?_⟩
  exact ⟨_, H', I2.turned (t' := s2.toks) (fun b o hb e => (sb3.2 b hb).trans e) f0 f1 f3 f4 f5, q⟩
theorem sw_trueD {kx vx : Expr} {gs : List Comprehension} {scope : Scope} {pos py : Pos} {y : Str} {l : Nat} {env : Env} (hk : env.scope.kind = .function) (hy : env.scope.names.lookup y = some .local) (hl : (py.line == pos.line) = true)
    (ha : (scope.names.any fun (n, k) => n == y && (k == .local || k == .cell)) = false) : swapsWith (.DictComp kx vx gs scope pos) (some (.Name y py)) l env = pure true := by
  have ky : env.kindOf y = some .local := hy
  have hb : env.blockKind = .function := by unfold Env.blockKind; rw [hk]; rfl
  unfold swapsWith
  simp only [hb, ky, ha, Expr.pos, hl]
  rfl

variable {tg iter kx vx : Expr} {ifs : List Expr} {scope : Scope} {own : List (Str × Nat)} {ts : List Nat} {t : D → S → Option S} {mi : M (List D)} {tt : M Bool} {mk mv : M R} {pos : Pos}
theorem s_dc {i : Nat} {y : Str} {py spos : Pos} (hu : X.A.units + 64 < cLine) (hc : X.calm = true) (hN : X.N.Nodup) (ok : BlkOk X.N X.env.scope scope own) (hi : XI X tg iter mi) (hg : Blk X scope fun X => XG X tg ts t) (ht : Blk X scope fun X => XTs X ifs tt) (hk : Blk X scope fun X => PX X kx mk) (he : Blk X scope fun X => PX X vx mv)
    (ha : (scope.names.any fun (n, k) => n == y && (k == .local || k == .cell)) = false := by decide +kernel) (hy : X.N[i]? = some y := by rfl) (hyl : X.env.scope.names.lookup y = some .local := by rfl) (hkd : X.env.scope.kind = .function := by rfl) (hl : (py.line == pos.line) = true := by rfl) (hs : ∀ x, foldedSetIterable iter X.env x = pure x := by intro _; rfl) (hts : ∀ i ∈ ts, i ∈ own.map (·.2) := by decide) :
    XS X (.Assign [.Name y py] (.DictComp kx vx [⟨tg, iter, ifs, 0⟩] scope pos) spos) (mSet i (mDc mi t tt mk mv (own.map (·.2)))) :=
  PSi (ps_setDcx hu hc hN hy hyl (sw_trueD hkd hyl hl ha) hi ok hg ht hk he hs) fun _ _ _ h => LEA h fun _ _ _ h => tDc_LE hts h
end
end PD
/-! PD: a def as it stands; the laws' draws, as data. -/
namespace PD
open PySem PySem.Spec PyProof.Rows L2

structure Has (K : PySem.W.Frag) (mg : Str → Option Value) (name : Str) (st : Stmt) (ps : List Str) (f : Addr) (fd : FuncData) : Prop where
  fn : Fun K name name st f fd
  mg : mg name = some (.ref f)
  bd : Binds K fd ps []
theorem room65 {k : Nat} {A : Around} (hr : Room k A) : A.units + 65 < cLine := by have := hr.un; omega
theorem fn_none {P : Program} {w : World} {K : PySem.W.Frag} {mg : Str → Option Value} {base : Heap} {k n : Nat} {f : Addr} {fd : FuncData} {ps : List Str} : FnOk P w K mg base CX0 k f fd ps (spF w K (fun _ _ => none) n) :=
  ⟨fun vs H Q E ⟨g, ds, xs, _, _, _, r, ds', e, _⟩ => (by cases e), fun A outer s H args us vs Q E hr he hb hv ⟨g, ds, xs, _, _, _, r, ds', e, _⟩ => (by cases e)⟩
theorem has_mk {K : PySem.W.Frag} {mg : Str → Option Value} {x : Str} {st : Stmt} {ps : List Str} {f : Addr} {oc : Value} {od an : Option Addr} {osl : Array (Option Value)} {kV doc pm cdv ct : Value}
    (l : K.lookup f = some ⟨oc, od, .func (PySem.W.fnOf x x (defArgs st) (defBody st) (defScope st) .none kV doc pm an cdv ct), osl⟩) (c : PySem.W.codeIn K cdv x = true) (k : PySem.W.keepIn K (.ref f) = true) (m : mg x = some (.ref f))
    (h : ∀ (kV doc pm : Value) (an : Option Addr) (cdv ct : Value) (us : List Value), us.length = ps.length → bindArgs (PySem.W.fnOf x x (defArgs st) (defBody st) (defScope st) .none kV doc pm an cdv ct) ⟨us, []⟩ = pure (ps.zip us)) : Has K mg x st ps f (PySem.W.fnOf x x (defArgs st) (defBody st) (defScope st) .none kV doc pm an cdv ct) :=
  ⟨fun_mk l c k, m, (fun_mk l c k).binds h⟩
/-! ### the draws -/
def absI (i : Int) : Int := if i < 0 then -i else i
def seedOf (ns : List Int) : Int := ns.foldl (fun s c => (s * 31 + c).fmod 1000003) 7
def f__law_state : Fn := fun args ds => match args, ds with
  | [.scr ns], none => if ns.length ≤ sizeLine then some (.d .st, some ⟨ns.map absI, seedOf ns + 1⟩) else none
  | _, _ => none
def dropZ : List Int → List Int
  | 0 :: l => dropZ l
  | l => l
def drawR (cells : List Int) (seed many : Int) : Int × DS := match dropZ cells with
  | c :: l => (c.fmod many, ⟨c.fdiv many :: l, seed⟩)
  | [] => ((((seed * 48271 + 12345).fmod 2147483647).fdiv 64).fmod many, ⟨[], (seed * 48271 + 12345).fmod 2147483647⟩)
def f__law_draw : Fn := fun args ds => match args, ds with
  | [.st, .int many], some d => if 0 < many ∧ many < 1073741824 then some (.d (.int (drawR d.cells d.seed many).1), some (drawR d.cells d.seed many).2) else none
  | _, _ => none
end PD
/-! PD: what a term of data does, as conditions. -/
namespace PD
open PySem PySem.Spec PyProof.Rows L2

def wp {α : Type} (m : M α) (s : S) (Q : α → S → Prop) : Prop := ∃ a s', m s = some (a, s') ∧ Q a s'
def wf (f : Fn) (args : List D) (ds : Option DS) (Q : R → Option DS → Prop) : Prop := ∃ r ds', f args ds = some (r, ds') ∧ Q r ds'
theorem wp.mono {α : Type} {m : M α} {s : S} {Q Q' : α → S → Prop} (h : wp m s Q) (i : ∀ a s', Q a s' → Q' a s') : wp m s Q' := let ⟨a, s', e, q⟩ := h; ⟨a, s', e, i _ _ q⟩
theorem wf.mono {f : Fn} {args : List D} {ds : Option DS} {Q Q' : R → Option DS → Prop} (h : wf f args ds Q) (i : ∀ a s', Q a s' → Q' a s') : wf f args ds Q' := let ⟨a, s', e, q⟩ := h; ⟨a, s', e, i _ _ q⟩
section
variable {α β : Type} {s : S}
theorem wp_bind {m : M α} {k : α × S → Option (β × S)} {Q : β → S → Prop} : (∃ b s', (m s).bind k = some (b, s') ∧ Q b s') ↔ wp m s fun a s1 => ∃ b s', k (a, s1) = some (b, s') ∧ Q b s' := by
  constructor
  · rintro ⟨b, s', e, q⟩
    obtain ⟨⟨a, s1⟩, e1, e2⟩ := Option.bind_eq_some_iff.mp e
    exact ⟨a, s1, e1, b, s', e2, q⟩
  · rintro ⟨a, s1, e1, b, s', e2, q⟩
    exact ⟨b, s', by rw [e1]; exact e2, q⟩
variable {Q : R → S → Prop} {a b m o : M R} {i : Nat}
theorem wp_c {d : D} : wp (mC d) s Q ↔ Q (.d d) s := ⟨fun ⟨_, _, e, q⟩ => by cases e; exact q, fun q => ⟨_, _, rfl, q⟩⟩
theorem wp_var : wp (mVar i) s Q ↔ match s.env[i]? with
    | some (.d x) => Q (.d x) s
    | some (.o _) => Q (.b i) s
    | _ => False := by
  unfold wp mVar
  cases s.env[i]? with
  | none => exact ⟨fun ⟨_, _, e, _⟩ => (by cases e), fun q => q.elim⟩
  | some sl => cases sl <;> first | exact ⟨fun ⟨_, _, e, q⟩ => (by cases e; exact q), fun q => ⟨_, _, rfl, q⟩⟩ | exact ⟨fun ⟨_, _, e, _⟩ => (by cases e), fun q => q.elim⟩
theorem wp_bin {f : D → D → Option R} : wp (mBin f a b) s Q ↔ wp a s fun ra s1 => wp b s1 fun rb s2 => ∃ x, ra.peek s2.env = some x ∧ ∃ y, rb.peek s2.env = some y ∧ ∃ r, f x y = some r ∧ Q r s2 := by
  have h : wp (mBin f a b) s Q ↔ ∃ r s', ((a s).bind fun p => (b p.2).bind fun q => match p.1.peek q.2.env, q.1.peek q.2.env with
    | some x, some y => (f x y).map fun r => (r, q.2)
    | _, _ => none) = some (r, s') ∧ Q r s' := Iff.rfl
  rw [h, wp_bind]
  simp only [wp_bind]
  constructor <;> (rintro ⟨ra, s1, e1, rb, s2, e2, hh⟩; refine ⟨ra, s1, e1, rb, s2, e2, ?_⟩)
  · obtain ⟨r, s', e, q⟩ := hh
    try simp only at e
    split at e
    · rename_i x y h1 h2
      obtain ⟨r', h3, h4⟩ := Option.map_eq_some_iff.mp e
      cases h4
      exact ⟨x, h1, y, h2, _, h3, q⟩
    · cases e
  · obtain ⟨x, h1, y, h2, r, h3, q⟩ := hh
    exact ⟨r, s2, by simp [h1, h2, h3], q⟩
theorem wp_un {f : D → Option R} : wp (mUn f a) s Q ↔ wp a s fun ra s1 => ∃ x, ra.peek s1.env = some x ∧ ∃ r, f x = some r ∧ Q r s1 := by
  have h : wp (mUn f a) s Q ↔ ∃ r s', ((a s).bind fun p => match p.1.peek p.2.env with
    | some x => (f x).map fun r => (r, p.2)
    | none => none) = some (r, s') ∧ Q r s' := Iff.rfl
  rw [h, wp_bind]
  constructor <;> (rintro ⟨ra, s1, e1, hh⟩; refine ⟨ra, s1, e1, ?_⟩)
  · obtain ⟨r, s', e, q⟩ := hh
    try simp only at e
    split at e
    · rename_i x h1
      obtain ⟨r', h3, h4⟩ := Option.map_eq_some_iff.mp e
      cases h4
      exact ⟨x, h1, _, h3, q⟩
    · cases e
  · obtain ⟨x, h1, r, h3, q⟩ := hh
    exact ⟨r, s1, by simp [h1, h3], q⟩
theorem wp_if {t : M Bool} : wp (mIf t a b) s Q ↔ wp t s fun k s1 => if k = true then wp a s1 Q else wp b s1 Q := by
  have h : wp (mIf t a b) s Q ↔ ∃ r s', ((t s).bind fun p => if p.1 = true then a p.2 else b p.2) = some (r, s') ∧ Q r s' := Iff.rfl
  rw [h, wp_bind]
  constructor <;> (rintro ⟨k, s1, e1, hh⟩; refine ⟨k, s1, e1, ?_⟩; cases k <;> exact hh)
theorem wp_test {Q : Bool → S → Prop} : wp (mTest m) s Q ↔ wp m s fun r s1 => ∃ k, r.bl? = some k ∧ Q k s1 := by
  have h : wp (mTest m) s Q ↔ ∃ r s', ((m s).bind fun p => (p.1.bl?).map fun k => (k, p.2)) = some (r, s') ∧ Q r s' := Iff.rfl
  rw [h, wp_bind]
  constructor <;> (rintro ⟨ra, s1, e1, hh⟩; refine ⟨ra, s1, e1, ?_⟩)
  · obtain ⟨r, s', e, q⟩ := hh
    obtain ⟨r', h3, h4⟩ := Option.map_eq_some_iff.mp e
    cases h4
    exact ⟨_, h3, q⟩
  · obtain ⟨k, h1, q⟩ := hh
    exact ⟨k, s1, by simp [h1], q⟩
theorem wp_tru {Q : Bool → S → Prop} : wp (mTru m) s Q ↔ wp m s fun r s1 => ∃ d, r.peek s1.env = some d ∧ ∃ k, truD d = some k ∧ Q k s1 := by
  have h : wp (mTru m) s Q ↔ ∃ r s', ((m s).bind fun p => ((p.1.peek p.2.env).bind truD).map fun k => (k, p.2)) = some (r, s') ∧ Q r s' := Iff.rfl
  rw [h, wp_bind]
  constructor <;> (rintro ⟨ra, s1, e1, hh⟩; refine ⟨ra, s1, e1, ?_⟩)
  · obtain ⟨r, s', e, q⟩ := hh
    obtain ⟨r', h3, h4⟩ := Option.map_eq_some_iff.mp e
    obtain ⟨d, h5, h6⟩ := Option.bind_eq_some_iff.mp h3
    cases h4
    exact ⟨d, h5, _, h6, q⟩
  · obtain ⟨d, h1, k, h2, q⟩ := hh
    exact ⟨k, s1, by simp [h1, h2], q⟩
variable {ta tb : M Bool} {Qb : Bool → S → Prop}
theorem wp_and : wp (mAnd ta tb) s Qb ↔ wp ta s fun k s1 => if k = true then wp tb s1 Qb else Qb false s1 := by
  have h : wp (mAnd ta tb) s Qb ↔ ∃ r s', ((ta s).bind fun p => if p.1 = true then tb p.2 else some (false, p.2)) = some (r, s') ∧ Qb r s' := Iff.rfl
  rw [h, wp_bind]
  constructor <;> (rintro ⟨k, s1, e1, hh⟩; refine ⟨k, s1, e1, ?_⟩; cases k)
  · obtain ⟨r, s', e, q⟩ := hh; cases e; exact q
  · exact hh
  · exact ⟨_, _, rfl, hh⟩
  · exact hh
theorem wp_or : wp (mOr ta tb) s Qb ↔ wp ta s fun k s1 => if k = true then Qb true s1 else wp tb s1 Qb := by
  have h : wp (mOr ta tb) s Qb ↔ ∃ r s', ((ta s).bind fun p => if p.1 = true then some (true, p.2) else tb p.2) = some (r, s') ∧ Qb r s' := Iff.rfl
  rw [h, wp_bind]
  constructor <;> (rintro ⟨k, s1, e1, hh⟩; refine ⟨k, s1, e1, ?_⟩; cases k)
  · exact hh
  · obtain ⟨r, s', e, q⟩ := hh; cases e; exact q
  · exact hh
  · exact ⟨_, _, rfl, hh⟩
theorem wp_not : wp (mNot ta) s Qb ↔ wp ta s fun k s1 => Qb (!k) s1 := by
  have h : wp (mNot ta) s Qb ↔ ∃ r s', ((ta s).bind fun p => some (!p.1, p.2)) = some (r, s') ∧ Qb r s' := Iff.rfl
  rw [h, wp_bind]
  constructor <;> (rintro ⟨k, s1, e1, hh⟩; refine ⟨k, s1, e1, ?_⟩)
  · obtain ⟨r, s', e, q⟩ := hh; cases e; exact q
  · exact ⟨_, _, rfl, hh⟩
theorem wp_yes : wp mYes s Qb ↔ Qb true s := ⟨fun ⟨_, _, e, q⟩ => by cases e; exact q, fun q => ⟨_, _, rfl, q⟩⟩
theorem wp_blk {k : Bool → M R} : wp (mBlK k a) s Q ↔ wp a s fun r s1 => ∃ c, r.bl? = some c ∧ wp (k c) s1 Q := by
  have h : wp (mBlK k a) s Q ↔ ∃ r s', ((a s).bind fun p => (p.1.bl?).bind fun c => k c p.2) = some (r, s') ∧ Q r s' := Iff.rfl
  rw [h, wp_bind]
  constructor <;> (rintro ⟨ra, s1, e1, hh⟩; refine ⟨ra, s1, e1, ?_⟩)
  · obtain ⟨r, s', e, q⟩ := hh
    obtain ⟨c, h1, h2⟩ := Option.bind_eq_some_iff.mp e
    exact ⟨c, h1, r, s', h2, q⟩
  · obtain ⟨c, h1, r, s', h2, q⟩ := hh
    exact ⟨r, s', by simp [h1, h2], q⟩
theorem wp_retR {r : R} : wp (mRetR r) s Q ↔ Q r s := ⟨fun ⟨_, _, e, q⟩ => by cases e; exact q, fun q => ⟨_, _, rfl, q⟩⟩
theorem wp_andV : wp (mAndV a b) s Q ↔ wp a s fun r s1 => ∃ c, r.bl? = some c ∧ if c = true then wp b s1 Q else Q (.d (.bl false)) s1 := by
  unfold mAndV
  rw [wp_blk]
  constructor <;> refine fun h => h.mono fun r s1 ⟨c, h1, h2⟩ => ⟨c, h1, ?_⟩ <;> cases c <;> simp_all [wp_retR]
theorem wp_orV : wp (mOrV a b) s Q ↔ wp a s fun r s1 => ∃ c, r.bl? = some c ∧ if c = true then Q (.d (.bl true)) s1 else wp b s1 Q := by
  unfold mOrV
  rw [wp_blk]
  constructor <;> refine fun h => h.mono fun r s1 ⟨c, h1, h2⟩ => ⟨c, h1, ?_⟩ <;> cases c <;> simp_all [wp_retR]
theorem wp_notV : wp (mNotV a) s Q ↔ wp a s fun r s1 => ∃ c, r.bl? = some c ∧ Q (.d (.bl (!c))) s1 := by
  unfold mNotV
  rw [wp_blk]
  constructor <;> refine fun h => h.mono fun r s1 ⟨c, h1, h2⟩ => ⟨c, h1, ?_⟩ <;> simp_all [wp_retR]
variable {ms : List (M R)} {Ql : List R → S → Prop}
theorem wp_args_nil : wp (mArgs []) s Ql ↔ Ql [] s := ⟨fun ⟨_, _, e, q⟩ => by cases e; exact q, fun q => ⟨_, _, rfl, q⟩⟩
theorem wp_args_cons : wp (mArgs (m :: ms)) s Ql ↔ wp m s fun r s1 => wp (mArgs ms) s1 fun rs s2 => Ql (r :: rs) s2 := by
  have h : wp (mArgs (m :: ms)) s Ql ↔ ∃ r s', ((m s).bind fun p => (mArgs ms p.2).bind fun q => some (p.1 :: q.1, q.2)) = some (r, s') ∧ Ql r s' := Iff.rfl
  rw [h, wp_bind]
  simp only [wp_bind]
  constructor <;> (rintro ⟨ra, s1, e1, rb, s2, e2, hh⟩; refine ⟨ra, s1, e1, rb, s2, e2, ?_⟩)
  · obtain ⟨r, s', e, q⟩ := hh; cases e; exact q
  · exact ⟨_, _, rfl, hh⟩
theorem wp_prim {f : List D → Option R} {as : M (List R)} : wp (mPrim f as) s Q ↔ wp as s fun rs s1 => ∃ xs, peeks s1.env rs = some xs ∧ ∃ r, f xs = some r ∧ Q r s1 := by
  have h : wp (mPrim f as) s Q ↔ ∃ r s', ((as s).bind fun p => match peeks p.2.env p.1 with
    | some xs => (f xs).map fun r => (r, p.2)
    | none => none) = some (r, s') ∧ Q r s' := Iff.rfl
  rw [h, wp_bind]
  constructor <;> (rintro ⟨ra, s1, e1, hh⟩; refine ⟨ra, s1, e1, ?_⟩)
  · obtain ⟨r, s', e, q⟩ := hh
    try simp only at e
    split at e
    · rename_i x h1
      obtain ⟨r', h3, h4⟩ := Option.map_eq_some_iff.mp e
      cases h4
      exact ⟨x, h1, _, h3, q⟩
    · cases e
  · obtain ⟨x, h1, r, h3, q⟩ := hh
    exact ⟨r, s1, by simp [h1, h3], q⟩
theorem wp_call {f : Fn} {as : M (List R)} : wp (mCall f as) s Q ↔ wp as s fun rs s1 => ∃ xs, peeks s1.env rs = some xs ∧ wf f xs s1.ds fun r ds' => ∃ r' s', callR s1.env rs (r, ds') = some (r', s') ∧ Q r' s' := by
  have h : wp (mCall f as) s Q ↔ ∃ r s', ((as s).bind fun p => (peeks p.2.env p.1).bind fun xs => (f xs p.2.ds).bind fun q => callR p.2.env p.1 q) = some (r, s') ∧ Q r s' := Iff.rfl
  rw [h, wp_bind]
  constructor <;> (rintro ⟨ra, s1, e1, hh⟩; refine ⟨ra, s1, e1, ?_⟩)
  · obtain ⟨r, s', e, q⟩ := hh
    obtain ⟨xs, h1, e⟩ := Option.bind_eq_some_iff.mp e
    obtain ⟨⟨r1, ds1⟩, h2, e⟩ := Option.bind_eq_some_iff.mp e
    exact ⟨xs, h1, r1, ds1, h2, r, s', e, q⟩
  · obtain ⟨xs, h1, r1, ds1, h2, r, s', e, q⟩ := hh
    exact ⟨r, s', by simp [h1, h2, e], q⟩
variable {Qd : List D → S → Prop}
theorem wp_shs_nil : wp (mShs []) s Qd ↔ Qd [] s := ⟨fun ⟨_, _, e, q⟩ => by cases e; exact q, fun q => ⟨_, _, rfl, q⟩⟩
theorem wp_shs_cons : wp (mShs (m :: ms)) s Qd ↔ wp m s fun r s1 => wp (mShare r) s1 fun d s2 => wp (mShs ms) s2 fun ds s3 => Qd (d :: ds) s3 := by
  have h : wp (mShs (m :: ms)) s Qd ↔ ∃ r s', ((m s).bind fun p => (mShare p.1 p.2).bind fun q => (mShs ms q.2).bind fun t => some (q.1 :: t.1, t.2)) = some (r, s') ∧ Qd r s' := Iff.rfl
  rw [h, wp_bind]
  simp only [wp_bind]
  constructor <;> (rintro ⟨ra, s1, e1, rb, s2, e2, rc, s3, e3, hh⟩; refine ⟨ra, s1, e1, rb, s2, e2, rc, s3, e3, ?_⟩)
  · obtain ⟨r, s', e, q⟩ := hh; cases e; exact q
  · exact ⟨_, _, rfl, hh⟩
variable {Q1 : D → S → Prop}
theorem wp_share_d {d : D} : wp (mShare (.d d)) s Q1 ↔ Q1 d s := ⟨fun ⟨_, _, e, q⟩ => by cases e; exact q, fun q => ⟨_, _, rfl, q⟩⟩
theorem wp_share_t {o : Own} : wp (mShare (.t o)) s Q1 ↔ Q1 o.toD s := ⟨fun ⟨_, _, e, q⟩ => by cases e; exact q, fun q => ⟨_, _, rfl, q⟩⟩
theorem wp_share_b : wp (mShare (.b i)) s Q1 ↔ match s.env[i]? with
    | some (.d x) => Q1 x s
    | some (.o o) => Q1 o.toD { s with env := s.env.set i (.d o.toD) }
    | _ => False := by
  unfold wp mShare
  simp only
  cases s.env[i]? with
  | none => exact ⟨fun ⟨_, _, e, _⟩ => (by cases e), fun q => q.elim⟩
  | some sl => cases sl <;> first | exact ⟨fun ⟨_, _, e, q⟩ => (by cases e; exact q), fun q => ⟨_, _, rfl, q⟩⟩ | exact ⟨fun ⟨_, _, e, _⟩ => (by cases e), fun q => q.elim⟩
theorem wp_tup : wp (mTup ms) s Q ↔ wp (mShs ms) s fun ds s1 => ds.length ≤ sizeLine ∧ Q (.d (.tup ds)) s1 := by
  have h : wp (mTup ms) s Q ↔ ∃ r s', ((mShs ms s).bind fun p => if p.1.length ≤ sizeLine then some (R.d (.tup p.1), p.2) else none) = some (r, s') ∧ Q r s' := Iff.rfl
  rw [h, wp_bind]
  constructor <;> (rintro ⟨ra, s1, e1, hh⟩; refine ⟨ra, s1, e1, ?_⟩)
  · obtain ⟨r, s', e, q⟩ := hh
    try simp only at e
    split at e
    · rename_i hl; cases e; exact ⟨hl, q⟩
    · cases e
  · exact ⟨_, _, if_pos hh.1, hh.2⟩
theorem wp_lst : wp (mLst ms) s Q ↔ wp (mShs ms) s fun ds s1 => ds.length ≤ sizeLine ∧ Q (.t (.l ds)) s1 := by
  have h : wp (mLst ms) s Q ↔ ∃ r s', ((mShs ms s).bind fun p => if p.1.length ≤ sizeLine then some (R.t (.l p.1), p.2) else none) = some (r, s') ∧ Q r s' := Iff.rfl
  rw [h, wp_bind]
  constructor <;> (rintro ⟨ra, s1, e1, hh⟩; refine ⟨ra, s1, e1, ?_⟩)
  · obtain ⟨r, s', e, q⟩ := hh
    try simp only at e
    split at e
    · rename_i hl; cases e; exact ⟨hl, q⟩
    · cases e
  · exact ⟨_, _, if_pos hh.1, hh.2⟩
theorem wp_dnew : wp mDNew s Q ↔ Q (.t (.k [])) s := ⟨fun ⟨_, _, e, q⟩ => by cases e; exact q, fun q => ⟨_, _, rfl, q⟩⟩
theorem wp_meth {T : String} {f : D → List D → Option R} : wp (mMethT T f o ms) s Q ↔ wp o s fun r s1 => ∃ d0, r.peek s1.env = some d0 ∧ tyD T d0 = true ∧ wp (mShs ms) s1 fun ds s2 => ∃ d, r.peek s2.env = some d ∧ ∃ r', f d ds = some r' ∧ Q r' s2 := by
  have h : wp (mMethT T f o ms) s Q ↔ ∃ r s', ((o s).bind fun p => (p.1.peek p.2.env).bind fun d0 => if tyD T d0 = true then (mShs ms p.2).bind fun q => (p.1.peek q.2.env).bind fun d => (f d q.1).map fun r => (r, q.2) else none) = some (r, s') ∧ Q r s' := Iff.rfl
  rw [h, wp_bind]
  constructor <;> (rintro ⟨ra, s1, e1, hh⟩; refine ⟨ra, s1, e1, ?_⟩)
  · obtain ⟨r, s', e, q⟩ := hh
    obtain ⟨d0, h1, e⟩ := Option.bind_eq_some_iff.mp e
    split at e
    · rename_i hT
      obtain ⟨⟨ds, s2⟩, h2, e⟩ := Option.bind_eq_some_iff.mp e
      obtain ⟨d, h3, e⟩ := Option.bind_eq_some_iff.mp e
      obtain ⟨r', h4, h5⟩ := Option.map_eq_some_iff.mp e
      cases h5
      exact ⟨d0, h1, hT, ds, s2, h2, d, h3, _, h4, q⟩
    · cases e
  · obtain ⟨d0, h1, hT, ds, s2, h2, d, h3, r', h4, q⟩ := hh
    exact ⟨r', s2, by simp [h1, hT, h2, h3, h4], q⟩
theorem wp_mut {T : String} {f : Own → List D → Option (D × Own)} : wp (mMut T f m ms) s Q ↔ wp m s fun r s1 => ∃ i o0, r = .b i ∧ s1.env[i]? = some (.o o0) ∧ tyO T o0 = true ∧ wp (mShs ms) s1 fun ds s2 => ∃ o, s2.env[i]? = some (.o o) ∧ ∃ z, f o ds = some z ∧ Q (.d z.1) { s2 with env := s2.env.set i (.o z.2) } := by
  constructor
  · rintro ⟨r, s', e, q⟩
    unfold mMut at e
    obtain ⟨⟨ra, s1⟩, e1, e⟩ := Option.bind_eq_some_iff.mp e
    split at e
    · rename_i i hi
      simp only at hi
      subst hi
      split at e
      · rename_i o0 h0
        split at e
        · rename_i hT
          obtain ⟨⟨ds, s2⟩, h2, e⟩ := Option.bind_eq_some_iff.mp e
          try simp only at e
          split at e
          · rename_i o h3
            obtain ⟨z, h4, h5⟩ := Option.map_eq_some_iff.mp e
            cases h5
            exact ⟨_, s1, e1, i, o0, rfl, h0, hT, ds, s2, h2, o, h3, z, h4, q⟩
          · cases e
        · cases e
      · cases e
    · cases e
  · rintro ⟨ra, s1, e1, i, o0, rfl, h0, hT, ds, s2, h2, o, h3, z, h4, q⟩
    refine ⟨_, _, ?_, q⟩
    unfold mMut
    rw [e1, Option.bind_some]
    simp only
    rw [h0]
    simp only
    rw [if_pos hT, h2, Option.bind_some]
    simp only
    rw [h3]
    simp only
    rw [h4]; rfl
variable {lo hi : M (Option Int)} {Qo : Option Int → S → Prop}
theorem wp_nopart : wp mNoPart s Qo ↔ Qo none s := ⟨fun ⟨_, _, e, q⟩ => by cases e; exact q, fun q => ⟨_, _, rfl, q⟩⟩
theorem wp_part : wp (mPart m) s Qo ↔ wp m s fun r s1 => ∃ i : Int, r = .d (.int i) ∧ Qo (some i) s1 := by
  constructor
  · rintro ⟨r, s', e, q⟩
    unfold mPart at e
    obtain ⟨⟨ra, s1⟩, e1, e⟩ := Option.bind_eq_some_iff.mp e
    split at e
    · rename_i i hi
      simp only at hi
      subst hi
      cases e; exact ⟨_, s1, e1, _, rfl, q⟩
    · cases e
  · rintro ⟨ra, s1, e1, i, rfl, q⟩
    exact ⟨_, _, by unfold mPart; rw [e1]; rfl, q⟩
theorem wp_sl : wp (mSl m lo hi) s Q ↔ wp m s fun r s1 => wp lo s1 fun l s2 => wp hi s2 fun h s3 => ∃ x, r.peek s3.env = some x ∧ ∃ r', fSl x l h = some r' ∧ Q r' s3 := by
  have h : wp (mSl m lo hi) s Q ↔ ∃ r s', ((m s).bind fun p => (lo p.2).bind fun l => (hi l.2).bind fun h => (p.1.peek h.2.env).bind fun x => (fSl x l.1 h.1).map fun r => (r, h.2)) = some (r, s') ∧ Q r s' := Iff.rfl
  rw [h, wp_bind]
  simp only [wp_bind]
  constructor <;> (rintro ⟨ra, s1, e1, l, s2, e2, u, s3, e3, hh⟩; refine ⟨ra, s1, e1, l, s2, e2, u, s3, e3, ?_⟩)
  · obtain ⟨r, s', e, q⟩ := hh
    obtain ⟨x, h1, e⟩ := Option.bind_eq_some_iff.mp e
    obtain ⟨r', h4, h5⟩ := Option.map_eq_some_iff.mp e
    cases h5
    exact ⟨x, h1, _, h4, q⟩
  · obtain ⟨x, h1, r', h2, q⟩ := hh
    exact ⟨r', s3, by simp [h1, h2], q⟩
/-! statements -/
variable {Qs : Fl → S → Prop} {x y : MS} {t : M Bool}
theorem wp_skip : wp mSkip s Qs ↔ Qs .nx s := ⟨fun ⟨_, _, e, q⟩ => by cases e; exact q, fun q => ⟨_, _, rfl, q⟩⟩
theorem wp_break : wp mBreak s Qs ↔ Qs .bk s := ⟨fun ⟨_, _, e, q⟩ => by cases e; exact q, fun q => ⟨_, _, rfl, q⟩⟩
theorem wp_cont : wp mCont s Qs ↔ Qs .ct s := ⟨fun ⟨_, _, e, q⟩ => by cases e; exact q, fun q => ⟨_, _, rfl, q⟩⟩
theorem wp_contF {fl : Fl} : (∃ a s', contF y fl s = some (a, s') ∧ Qs a s') ↔ match fl with
    | .nx => wp y s Qs
    | fl => Qs fl s := by
  cases fl <;> first | exact Iff.rfl | exact ⟨fun ⟨_, _, e, q⟩ => (by cases e; exact q), fun q => ⟨_, _, rfl, q⟩⟩
theorem wp_then : wp (mThen x y) s Qs ↔ wp x s fun fl s1 => match fl with
    | .nx => wp y s1 Qs
    | fl => Qs fl s1 := by
  have h : wp (mThen x y) s Qs ↔ ∃ r s', ((x s).bind fun p => contF y p.1 p.2) = some (r, s') ∧ Qs r s' := Iff.rfl
  rw [h, wp_bind]
  simp only [wp_contF]
theorem wp_ifS : wp (mIfS t x y) s Qs ↔ wp t s fun k s1 => if k = true then wp x s1 Qs else wp y s1 Qs := by
  have h : wp (mIfS t x y) s Qs ↔ ∃ r s', ((t s).bind fun p => if p.1 = true then x p.2 else y p.2) = some (r, s') ∧ Qs r s' := Iff.rfl
  rw [h, wp_bind]
  constructor <;> (rintro ⟨k, s1, e1, hh⟩; refine ⟨k, s1, e1, ?_⟩; cases k <;> exact hh)
theorem wp_drop : wp (mDrop m) s Qs ↔ wp m s fun _ s1 => Qs .nx s1 := by
  have h : wp (mDrop m) s Qs ↔ ∃ r s', ((m s).bind fun p => some (Fl.nx, p.2)) = some (r, s') ∧ Qs r s' := Iff.rfl
  rw [h, wp_bind]
  constructor <;> (rintro ⟨k, s1, e1, hh⟩; refine ⟨k, s1, e1, ?_⟩)
  · obtain ⟨r, s', e, q⟩ := hh; cases e; exact q
  · exact ⟨_, _, rfl, hh⟩
theorem wp_ret : wp (mRetS m) s Qs ↔ wp m s fun r s1 => ∃ r', retR s1.env r = some r' ∧ Qs (.rt r') s1 := by
  have h : wp (mRetS m) s Qs ↔ ∃ r s', ((m s).bind fun p => (retR p.2.env p.1).bind fun r => some (Fl.rt r, p.2)) = some (r, s') ∧ Qs r s' := Iff.rfl
  rw [h, wp_bind]
  constructor <;> (rintro ⟨k, s1, e1, hh⟩; refine ⟨k, s1, e1, ?_⟩)
  · obtain ⟨r, s', e, q⟩ := hh
    obtain ⟨r', h1, h2⟩ := Option.bind_eq_some_iff.mp e
    cases h2; exact ⟨_, h1, q⟩
  · obtain ⟨r', h1, q⟩ := hh
    exact ⟨_, _, by simp [h1], q⟩
theorem wp_retN : wp mRetN s Qs ↔ Qs (.rt (.d .non)) s := ⟨fun ⟨_, _, e, q⟩ => by cases e; exact q, fun q => ⟨_, _, rfl, q⟩⟩
theorem wp_set : wp (mSet i m) s Qs ↔ wp m s fun r s1 => ∃ s', setR i r s1 = some s' ∧ Qs .nx s' := by
  have h : wp (mSet i m) s Qs ↔ ∃ r s', ((m s).bind fun p => (setR i p.1 p.2).bind fun s' => some (Fl.nx, s')) = some (r, s') ∧ Qs r s' := Iff.rfl
  rw [h, wp_bind]
  constructor <;> (rintro ⟨k, s1, e1, hh⟩; refine ⟨k, s1, e1, ?_⟩)
  · obtain ⟨r, s', e, q⟩ := hh
    obtain ⟨r', h1, h2⟩ := Option.bind_eq_some_iff.mp e
    cases h2; exact ⟨_, h1, q⟩
  · obtain ⟨r', h1, q⟩ := hh
    exact ⟨_, _, by simp [h1], q⟩
theorem wp_asg {t : D → S → Option S} : wp (mAsg t m) s Qs ↔ wp m s fun r s1 => wp (mShare r) s1 fun d s2 => ∃ s', t d s2 = some s' ∧ Qs .nx s' := by
  have h : wp (mAsg t m) s Qs ↔ ∃ r s', ((m s).bind fun p => (mShare p.1 p.2).bind fun q => (t q.1 q.2).bind fun s' => some (Fl.nx, s')) = some (r, s') ∧ Qs r s' := Iff.rfl
  rw [h, wp_bind]
  simp only [wp_bind]
  constructor <;> (rintro ⟨k, s1, e1, d, s2, e2, hh⟩; refine ⟨k, s1, e1, d, s2, e2, ?_⟩)
  · obtain ⟨r, s', e, q⟩ := hh
    obtain ⟨r', h1, h2⟩ := Option.bind_eq_some_iff.mp e
    cases h2; exact ⟨_, h1, q⟩
  · obtain ⟨r', h1, q⟩ := hh
    exact ⟨_, _, by simp [h1], q⟩
variable {Qn : R → S → Prop}
theorem wp_norm_d {d : D} : wp (normR (.d d)) s Qn ↔ Qn (.d d) s := ⟨fun ⟨_, _, e, q⟩ => by cases e; exact q, fun q => ⟨_, _, rfl, q⟩⟩
theorem wp_norm_t {d : Own} : wp (normR (.t d)) s Qn ↔ Qn (.t d) s := ⟨fun ⟨_, _, e, q⟩ => by cases e; exact q, fun q => ⟨_, _, rfl, q⟩⟩
theorem wp_norm_b : wp (normR (.b i)) s Qn ↔ wp (mShare (.b i)) s fun d s1 => Qn (.d d) s1 := by
  constructor
  · rintro ⟨r, s', e, q⟩
    obtain ⟨⟨d, s1⟩, h1, h2⟩ := Option.map_eq_some_iff.mp e
    cases h2
    exact ⟨d, s1, h1, q⟩
  · rintro ⟨d, s1, h1, q⟩
    exact ⟨_, _, by unfold normR; simp only; rw [h1]; rfl, q⟩
theorem wp_par {j : Nat} : wp (mPar i j a b) s Qs ↔ wp a s fun ra s1 => wp b s1 fun rb s2 => wp (normR ra) s2 fun p1 s3 => wp (normR rb) s3 fun q1 s4 => ∃ s5, setR i p1 s4 = some s5 ∧ ∃ s6, setR j q1 s5 = some s6 ∧ Qs .nx s6 := by
  have h : wp (mPar i j a b) s Qs ↔ ∃ r s', ((a s).bind fun p => (b p.2).bind fun q => (normR p.1 q.2).bind fun p1 => (normR q.1 p1.2).bind fun q1 => (setR i p1.1 q1.2).bind fun s1 => (setR j q1.1 s1).bind fun s2 => some (Fl.nx, s2)) = some (r, s') ∧ Qs r s' := Iff.rfl
  rw [h, wp_bind]
  simp only [wp_bind]
  constructor <;> (rintro ⟨k, s1, e1, d, s2, e2, p1, s3, e3, q1, s4, e4, hh⟩; refine ⟨k, s1, e1, d, s2, e2, p1, s3, e3, q1, s4, e4, ?_⟩)
  · obtain ⟨r, s', e, q⟩ := hh
    obtain ⟨s5, h3, e⟩ := Option.bind_eq_some_iff.mp e
    obtain ⟨s6, h4, e⟩ := Option.bind_eq_some_iff.mp e
    cases e
    exact ⟨s5, h3, _, h4, q⟩
  · obtain ⟨s5, h3, s6, h4, q⟩ := hh
    exact ⟨_, _, by simp [h3, h4], q⟩
theorem wp_aug {f : D → D → Option D} : wp (mAug i f m) s Qs ↔ ∃ x, s.env[i]? = some (.d x) ∧ wp m s fun r s1 => ∃ y, r.peek s1.env = some y ∧ ∃ z, f x y = some z ∧ Qs .nx { s1 with env := s1.env.set i (.d z) } := by
  constructor
  · rintro ⟨r, s', e, q⟩
    unfold mAug at e
    obtain ⟨sl, h1, e⟩ := Option.bind_eq_some_iff.mp e
    split at e
    · obtain ⟨⟨ra, s1⟩, h2, e⟩ := Option.bind_eq_some_iff.mp e
      obtain ⟨y, h3, e⟩ := Option.bind_eq_some_iff.mp e
      obtain ⟨z, h4, e⟩ := Option.bind_eq_some_iff.mp e
      cases e
      exact ⟨_, h1, ra, s1, h2, y, h3, z, h4, q⟩
    · cases e
  · rintro ⟨x, h1, ra, s1, h2, y, h3, z, h4, q⟩
    refine ⟨_, _, ?_, q⟩
    unfold mAug
    rw [h1, Option.bind_some]
    simp only
    rw [h2, Option.bind_some, h3, Option.bind_some, h4]; rfl
/-! defs -/
theorem wf_run {n l : Nat} {body : MS} {args : List D} {ds : Option DS} {Qf : R → Option DS → Prop} : wf (runFn n l body) args ds Qf ↔ args.length = n ∧ wp body ⟨args.map .d ++ List.replicate l .no, ds⟩ fun fl s' => match fl with
    | .nx => Qf (.d .non) s'.ds
    | .rt r => Qf r s'.ds
    | _ => False := by
  constructor
  · rintro ⟨r, ds', e, q⟩
    unfold runFn at e
    split at e
    · rename_i hl
      obtain ⟨⟨fl, s'⟩, h1, e⟩ := Option.bind_eq_some_iff.mp e
      refine ⟨hl, fl, s', h1, ?_⟩
      cases fl <;> first | (cases e; exact q) | cases e
    · cases e
  · rintro ⟨hl, fl, s', h1, q⟩
    cases fl with
    | nx => exact ⟨_, _, by unfold runFn; rw [if_pos hl, h1]; rfl, q⟩
    | rt r => exact ⟨_, _, by unfold runFn; rw [if_pos hl, h1]; rfl, q⟩
    | bk => exact q.elim
    | ct => exact q.elim
end
end PD
/-! PD: what a term of data does: the primitives, the loops. -/
namespace PD
open PySem PySem.Spec PyProof.Rows L2

section
variable {env : List Sl} {x y z : D} {o : Own} {i j : Nat} {s : S} {r : R} {rs : List R}
@[simp] theorem peek_d : R.peek env (.d x) = some x := rfl
@[simp] theorem peek_t : R.peek env (.t o) = some o.toD := rfl
@[simp] theorem peek_b : R.peek env (.b i) = (env[i]?).bind Sl.peek := rfl
@[simp] theorem slpeek_d : Sl.peek (.d x) = some x := rfl
@[simp] theorem slpeek_o : Sl.peek (.o o) = some o.toD := rfl
@[simp] theorem toD_l {xs : List D} : Own.toD (.l xs) = .lst xs := rfl
@[simp] theorem toD_k {xs : List (D × D)} : Own.toD (.k xs) = .dct xs := rfl
theorem peeks_nil {P : List D → Prop} : (∃ xs, peeks env [] = some xs ∧ P xs) ↔ P [] := ⟨fun ⟨_, e, q⟩ => by cases e; exact q, fun q => ⟨_, rfl, q⟩⟩
theorem peeks_cons {P : List D → Prop} : (∃ xs, peeks env (r :: rs) = some xs ∧ P xs) ↔ ∃ x, r.peek env = some x ∧ ∃ xs, peeks env rs = some xs ∧ P (x :: xs) := by
  constructor
  · rintro ⟨xs, e, q⟩
    unfold peeks at e
    split at e
    · rename_i a as h1 h2; cases e; exact ⟨a, h1, as, h2, q⟩
    · cases e
  · rintro ⟨a, h1, as, h2, q⟩
    exact ⟨_, by unfold peeks; rw [h1, h2], q⟩
@[simp] theorem bl_bl {k : Bool} : R.bl? (.d (.bl k)) = some k := rfl
@[simp] theorem setR_d : setR i (.d x) s = some { s with env := s.env.set i (.d x) } := rfl
@[simp] theorem setR_t : setR i (.t o) s = some { s with env := s.env.set i (.o o) } := rfl
theorem setR_b {P : S → Prop} : (∃ s', setR i (.b j) s = some s' ∧ P s') ↔ wp (mShare (.b j)) s fun d s1 => P { s1 with env := s1.env.set i (.d d) } := by
  constructor
  · rintro ⟨s', e, q⟩
    unfold setR at e
    simp only at e
    obtain ⟨⟨d, s1⟩, h1, h2⟩ := Option.bind_eq_some_iff.mp e
    cases h2
    exact ⟨d, s1, h1, q⟩
  · rintro ⟨d, s1, h1, q⟩
    exact ⟨_, by unfold setR; simp only; rw [h1]; rfl, q⟩
@[simp] theorem retR_d : retR env (.d x) = some (.d x) := rfl
@[simp] theorem retR_t : retR env (.t o) = some (.t o) := rfl
theorem retR_b {P : R → Prop} : (∃ r', retR env (.b i) = some r' ∧ P r') ↔ match env[i]? with
    | some (.d x) => P (.d x)
    | some (.o o) => P (.t o)
    | _ => False := by
  unfold retR
  simp only
  cases env[i]? with
  | none => exact ⟨fun ⟨_, e, _⟩ => (by cases e), fun q => q.elim⟩
  | some sl => cases sl <;> first | exact ⟨fun ⟨_, e, q⟩ => (by cases e; exact q), fun q => ⟨_, rfl, q⟩⟩ | exact ⟨fun ⟨_, e, _⟩ => (by cases e), fun q => q.elim⟩
@[simp] theorem tgN_s : tgN i x s = some { s with env := s.env.set i (.d x) } := rfl
theorem tgNil_s {P : S → Prop} {ds : List D} : (∃ s', tgNil ds s = some s' ∧ P s') ↔ ds = [] ∧ P s := by
  cases ds with
  | nil => exact ⟨fun ⟨_, e, q⟩ => (by cases e; exact ⟨rfl, q⟩), fun q => ⟨_, rfl, q.2⟩⟩
  | cons _ _ => exact ⟨fun ⟨_, e, q⟩ => (by cases e), fun q => (by cases q.1)⟩
theorem tgCons_s {P : S → Prop} {ds : List D} {t : D → S → Option S} {u : List D → S → Option S} : (∃ s', tgCons t u ds s = some s' ∧ P s') ↔ ∃ d r, ds = d :: r ∧ ∃ s1, t d s = some s1 ∧ ∃ s', u r s1 = some s' ∧ P s' := by
  cases ds with
  | nil => exact ⟨fun ⟨_, e, q⟩ => (by cases e), fun ⟨_, _, e, _⟩ => (by cases e)⟩
  | cons d r =>
    constructor
    · rintro ⟨s', e, q⟩
      obtain ⟨s1, h1, h2⟩ := Option.bind_eq_some_iff.mp e
      exact ⟨d, r, rfl, s1, h1, s', h2, q⟩
    · rintro ⟨_, _, e, s1, h1, s', h2, q⟩
      cases e
      exact ⟨s', by show ((t d s).bind fun s1 => u r s1) = _; rw [h1]; exact h2, q⟩
theorem tgT_s {P : S → Prop} {d : D} {u : List D → S → Option S} : (∃ s', tgT u d s = some s' ∧ P s') ↔ ∃ ds, d = .tup ds ∧ ∃ s', u ds s = some s' ∧ P s' := by
  constructor
  · rintro ⟨s', e, q⟩
    cases d <;> first | exact ⟨_, rfl, s', e, q⟩ | cases e
  · rintro ⟨ds, rfl, s', e, q⟩
    exact ⟨s', e, q⟩
theorem tgSub_s {P : S → Prop} {mo mi : M R} : (∃ s', tgSub mo mi x s = some s' ∧ P s') ↔ wp mo s fun r s1 => ∃ i, r = .b i ∧ wp mi s1 fun q s2 => wp (mShare q) s2 fun d s3 => ∃ o, s3.env[i]? = some (.o o) ∧ ∃ z, fSetI o [d, x] = some z ∧ P { s3 with env := s3.env.set i (.o z.2) } := by
  constructor
  · rintro ⟨s', e, q⟩
    unfold tgSub at e
    obtain ⟨⟨r, s1⟩, h1, e⟩ := Option.bind_eq_some_iff.mp e
    split at e
    · rename_i i hi
      simp only at hi
      subst hi
      obtain ⟨⟨q1, s2⟩, h2, e⟩ := Option.bind_eq_some_iff.mp e
      obtain ⟨⟨d, s3⟩, h3, e⟩ := Option.bind_eq_some_iff.mp e
      simp only at e
      split at e
      · rename_i o h4
        obtain ⟨z, h5, h6⟩ := Option.map_eq_some_iff.mp e
        cases h6
        exact ⟨_, s1, h1, i, rfl, q1, s2, h2, d, s3, h3, o, h4, z, h5, q⟩
      · cases e
    · cases e
  · rintro ⟨r, s1, h1, i, rfl, q1, s2, h2, d, s3, h3, o, h4, z, h5, q⟩
    exact ⟨_, by simp [tgSub, h1, h2, h3, h4, h5], q⟩
@[simp] theorem callR_d {ds : Option DS} : callR env rs (.d x, ds) = if scalD x = true then some (.d x, ⟨env, ds⟩) else some (.d x, ⟨frzAll env rs, ds⟩) := rfl
@[simp] theorem callR_t {ds : Option DS} : callR env rs (.t o, ds) = some (.t o, ⟨frzAll env rs, ds⟩) := rfl
@[simp] theorem scal_int {k : Int} : scalD (.int k) = true := rfl
@[simp] theorem scal_bl {k : Bool} : scalD (.bl k) = true := rfl
@[simp] theorem scal_str {k : List Nat} : scalD (.str k) = true := rfl
@[simp] theorem scal_non : scalD .non = true := rfl
@[simp] theorem scal_tup {k : List D} : scalD (.tup k) = false := rfl
@[simp] theorem scal_lst {k : List D} : scalD (.lst k) = false := rfl
@[simp] theorem scal_st : scalD .st = false := rfl
@[simp] theorem frz_nil : frzAll env [] = env := rfl
@[simp] theorem frz_d : frzAll env (.d x :: rs) = frzAll env rs := rfl
@[simp] theorem frz_t : frzAll env (.t o :: rs) = frzAll env rs := rfl
@[simp] theorem frz_b : frzAll env (.b i :: rs) = frzAll (env.set i (frzSl (env.getD i .no))) rs := rfl
@[simp] theorem frzSl_o : frzSl (.o o) = .d o.toD := rfl
@[simp] theorem frzSl_d : frzSl (.d x) = .d x := rfl
/-! primitives -/
variable {a b c : Int} {l l' : List Nat} {xs ys : List D}
@[simp] theorem fAdd_i : fAdd (.int a) (.int b) = some (.d (.int (a + b))) := rfl
@[simp] theorem fAdd_s : fAdd (.str l) (.str l') = if l.length + l'.length ≤ sizeLine then some (.d (.str (l ++ l'))) else none := rfl
@[simp] theorem fAdd_l : fAdd (.lst xs) (.lst ys) = if xs.length + ys.length ≤ sizeLine then some (.t (.l (xs ++ ys))) else none := rfl
@[simp] theorem fAdd_t : fAdd (.tup xs) (.tup ys) = if xs.length + ys.length ≤ sizeLine then some (.d (.tup (xs ++ ys))) else none := rfl
@[simp] theorem fSub_i : fSub (.int a) (.int b) = some (.d (.int (a - b))) := rfl
@[simp] theorem fMul_i : fMul (.int a) (.int b) = if CMul a b then some (.d (.int (a * b))) else none := rfl
@[simp] theorem fDiv_i : fDiv (.int a) (.int b) = if b ≠ 0 ∧ b.natAbs < 1073741824 then some (.d (.int (a.fdiv b))) else none := rfl
@[simp] theorem fMod_i : fMod (.int a) (.int b) = if b ≠ 0 then some (.d (.int (a.fmod b))) else none := rfl
@[simp] theorem fNeg_i : fNeg (.int a) = some (.d (.int (-a))) := rfl
@[simp] theorem fShl_i : fShl (.int a) (.int b) = if 0 ≤ b ∧ b ≤ 1000000 ∧ a.natAbs < 2 ^ 64 then some (.d (.int (a * 2 ^ b.toNat))) else none := rfl
@[simp] theorem fLt_i : fLt (.int a) (.int b) = some (.d (.bl (decide (a < b)))) := rfl
@[simp] theorem fLe_i : fLe (.int a) (.int b) = some (.d (.bl (decide (a ≤ b)))) := rfl
@[simp] theorem fGt_i : fGt (.int a) (.int b) = some (.d (.bl (decide (b < a)))) := rfl
@[simp] theorem fGe_i : fGe (.int a) (.int b) = some (.d (.bl (decide (b ≤ a)))) := rfl
@[simp] theorem pl_int {n : Nat} : pl n (.int a) = true := by cases n <;> rfl
@[simp] theorem pl_bl {n : Nat} {k : Bool} : pl n (.bl k) = true := by cases n <;> rfl
@[simp] theorem pl_str {n : Nat} : pl n (.str l) = true := by cases n <;> rfl
@[simp] theorem pl_non {n : Nat} : pl n .non = true := by cases n <;> rfl
@[simp] theorem pl_tup {n : Nat} : pl (n + 1) (.tup xs) = plAll n xs := rfl
@[simp] theorem pl_lst {n : Nat} : pl (n + 1) (.lst xs) = plAll n xs := rfl
@[simp] theorem plAll_nil {n : Nat} : plAll n [] = true := rfl
@[simp] theorem plAll_cons {n : Nat} : plAll n (x :: xs) = (pl n x && plAll n xs) := rfl
@[simp] theorem fEq_x : fEq x y = if pl 60 x = true ∧ pl 60 y = true then some (.d (.bl (eqD x y))) else none := rfl
@[simp] theorem fNe_x : fNe x y = if pl 60 x = true ∧ pl 60 y = true then some (.d (.bl (!eqD x y))) else none := rfl
@[simp] theorem eqD_i : eqD (.int a) (.int b) = (a == b) := eqD_int a b
@[simp] theorem eqD_b {k k' : Bool} : eqD (.bl k) (.bl k') = (k == k') := eqD_bl k k'
@[simp] theorem eqD_s : eqD (.str l) (.str l') = (l == l') := eqD_str l l'
@[simp] theorem eqD_t : eqD (.tup xs) (.tup ys) = eqDs xs ys := eqD_tup xs ys
@[simp] theorem eqD_l : eqD (.lst xs) (.lst ys) = eqDs xs ys := eqD_lst xs ys
@[simp] theorem eqDs_n : eqDs [] [] = true := eqDs_nil
@[simp] theorem eqDs_c : eqDs (x :: xs) (y :: ys) = (eqD x y && eqDs xs ys) := eqDs_cons x y xs ys
@[simp] theorem eqDs_1 : eqDs [] (y :: ys) = false := eqDs_nc y ys
@[simp] theorem eqDs_2 : eqDs (y :: ys) [] = false := eqDs_cn y ys
@[simp] theorem tru_i : truD (.int a) = some (a != 0) := rfl
@[simp] theorem tru_b {k : Bool} : truD (.bl k) = some k := rfl
@[simp] theorem tru_s : truD (.str l) = some (!l.isEmpty) := rfl
@[simp] theorem tru_t : truD (.tup xs) = some (!xs.isEmpty) := rfl
@[simp] theorem tru_l : truD (.lst xs) = some (!xs.isEmpty) := rfl
@[simp] theorem tru_n : truD .non = some false := rfl
@[simp] theorem fIsN_n : fIsN x .non = (isNon x).map fun k => .d (.bl k) := rfl
@[simp] theorem fNotN_n : fNotN x .non = (isNon x).map fun k => .d (.bl (!k)) := rfl
@[simp] theorem isNon_n : isNon .non = some true := rfl
@[simp] theorem isNon_i : isNon (.int a) = some false := rfl
@[simp] theorem isNon_b {k : Bool} : isNon (.bl k) = some false := rfl
@[simp] theorem isNon_s : isNon (.str l) = some false := rfl
@[simp] theorem isNon_t : isNon (.tup xs) = some false := rfl
@[simp] theorem isNon_l : isNon (.lst xs) = some false := rfl
@[simp] theorem fIx_t : fIx (.tup xs) (.int a) = (atI xs a).map .d := rfl
@[simp] theorem fIx_l : fIx (.lst xs) (.int a) = (atI xs a).map .d := rfl
@[simp] theorem fIx_s : fIx (.str l) (.int a) = (atI l a).map fun c => .d (.str [c]) := rfl
@[simp] theorem fIx_d {kvs : List (D × D)} : fIx (.dct kvs) x = (keyOk kvs x).bind fun nk => (getK kvs nk).map .d := rfl
@[simp] theorem fIn_x : fIn x y = (fInB x y).map fun k => .d (.bl k) := rfl
@[simp] theorem fNotIn_x : fNotIn x y = (fInB x y).map fun k => .d (.bl (!k)) := rfl
@[simp] theorem fInB_s : fInB (.str [i]) (.str l) = some (decide (i ∈ l)) := rfl
@[simp] theorem fInB_t : fInB (.int a) (.tup xs) = if pl 60 (.int a) = true ∧ pl 60 (.tup xs) = true then some (xs.any fun z => eqD z (.int a)) else none := rfl
@[simp] theorem fInB_l : fInB (.int a) (.lst xs) = if pl 60 (.int a) = true ∧ pl 60 (.lst xs) = true then some (xs.any fun z => eqD z (.int a)) else none := rfl
@[simp] theorem fLen_s : fLen [.str l] = some (.d (.int l.length)) := rfl
@[simp] theorem fLen_t : fLen [.tup xs] = some (.d (.int xs.length)) := rfl
@[simp] theorem fLen_l : fLen [.lst xs] = some (.d (.int xs.length)) := rfl
@[simp] theorem fAbs_i : fAbs [.int a] = some (.d (.int (if a < 0 then -a else a))) := rfl
@[simp] theorem fInt_i : fInt [.int a] = some (.d (.int a)) := rfl
@[simp] theorem fSum_l : fSum [.lst xs] = (intsD xs).map fun ns => .d (.int ns.sum) := rfl
@[simp] theorem fAll_l : fAll [.lst xs] = (blsD xs).map fun bs => .d (.bl (bs.all id)) := rfl
@[simp] theorem fAny_l : fAny [.lst xs] = (blsD xs).map fun bs => .d (.bl (bs.any id)) := rfl
@[simp] theorem fList_l : fList [.lst xs] = some (.t (.l xs)) := rfl
@[simp] theorem fList_t : fList [.tup xs] = some (.t (.l xs)) := rfl
@[simp] theorem fList_s : fList [.str l] = some (.t (.l (l.map fun c => .str [c]))) := rfl
@[simp] theorem fTuple_l : fTuple [.lst xs] = some (.d (.tup xs)) := rfl
@[simp] theorem fTuple_t : fTuple [.tup xs] = some (.d (.tup xs)) := rfl
@[simp] theorem fSl_l {lo hi : Option Int} : fSl (.lst xs) lo hi = some (.t (.l (cutL xs lo hi))) := rfl
@[simp] theorem fSl_t {lo hi : Option Int} : fSl (.tup xs) lo hi = some (.d (.tup (cutL xs lo hi))) := rfl
@[simp] theorem fSl_s {lo hi : Option Int} : fSl (.str l) lo hi = some (.d (.str (cutL l lo hi))) := rfl
@[simp] theorem fAppend_l : fAppend (.l xs) [x] = if xs.length < sizeLine then some (.non, .l (xs ++ [x])) else none := rfl
@[simp] theorem fSetI_l : fSetI (.l xs) [.int a, x] = (ixN xs.length a).map fun j => (.non, .l (xs.set j x)) := rfl
@[simp] theorem fSetI_k {kvs : List (D × D)} : fSetI (.k kvs) [y, x] = if kvs.length < sizeLine then (keyOk kvs y).map fun nk => (.non, .k (putK kvs nk y x)) else none := rfl
@[simp] theorem tyO_l : tyO "list" (.l xs) = true := rfl
@[simp] theorem tyD_s : tyD "str" (.str l) = true := rfl
@[simp] theorem tyD_d {kvs : List (D × D)} : tyD "dict" (.dct kvs) = true := rfl
@[simp] theorem fJoin_l : fJoin (.str l) [.lst xs] = (strsD xs).bind fun ls => if (ls.map (·.length)).sum + ls.length * l.length ≤ 16777216 then some (.d (.str (joinL l ls))) else none := rfl
@[simp] theorem fCount_s : fCount (.str l) [.str l'] = some (.d (.int (Txt.count (sOf l) (sOf l')))) := rfl
@[simp] theorem fDGet_d {kvs : List (D × D)} : fDGet (.dct kvs) [x, y] = (keyOk kvs x).map fun nk => .d ((getK kvs nk).getD y) := rfl
@[simp] theorem fSumV_d {kvs : List (D × D)} : fSumV (.dct kvs) = (intsD (kvs.map (·.2))).map fun ns => .d (.int ns.sum) := rfl
@[simp] theorem fIsi_x {T : String} : fIsi [x, .cv (.ty T)] = (kindD x).bind fun t => (kitB t T).map fun b => .d (.bl b) := by cases x <;> rfl
theorem atI_ok {α : Type} {l : List α} {k : Int} (h0 : 0 ≤ k) (h : k < l.length) : atI l k = some (l[k.toNat]'(by omega)) := by
  unfold atI ixN
  rw [if_pos h0, if_pos h, Option.bind_some, List.getElem?_eq_getElem]
theorem atI_get? {α : Type} {l : List α} {k : Nat} : atI l (k : Int) = l[k]? := by
  unfold atI ixN
  rw [if_pos (by omega)]
  by_cases h : k < l.length
  · rw [if_pos (by omega)]; simp
  · rw [if_neg (by omega), List.getElem?_eq_none (by omega)]; rfl
theorem atI_neg1 {α : Type} {l : List α} {x : α} : atI (l ++ [x]) (-1) = some x := by
  unfold atI ixN
  rw [if_neg (by decide), if_pos (by simp; omega), Option.bind_some, show (-1 + ((l ++ [x]).length : Int)).toNat = l.length by rw [List.length_append, List.length_singleton]; omega]
  simp
theorem cmul {a b : Int} (h : b.natAbs < 2 ^ 63) : CMul a b := .inr ⟨by omega, by omega⟩
theorem cmul' {a b : Int} (h : a.natAbs < 2 ^ 63) : CMul a b := .inl ⟨by omega, by omega⟩
end
theorem ex_ite {α : Type} {p : Prop} {a : α} {Q : α → Prop} : (∃ r, (p ∧ a = r) ∧ Q r) ↔ p ∧ Q a := ⟨fun ⟨_, ⟨h, e⟩, q⟩ => ⟨h, e ▸ q⟩, fun ⟨h, q⟩ => ⟨_, ⟨h, rfl⟩, q⟩⟩
/-! ### loops -/
section
variable {s : S} {t : D → S → Option S} {body : MS} {items : List D} {Q : Fl → S → Prop}
theorem wp_for {mi : M (List D)} : wp (mFor mi t body) s Q ↔ wp mi s fun items s1 => wp (mLoop t body items) s1 Q := by
  have h : wp (mFor mi t body) s Q ↔ ∃ r s', ((mi s).bind fun p => mLoop t body p.1 p.2) = some (r, s') ∧ Q r s' := Iff.rfl
  rw [h, wp_bind]
  exact Iff.rfl
theorem loop_nil : wp (mLoop t body []) s Q ↔ Q .nx s := wp_skip
theorem loop_cons {d : D} {ds : List D} : wp (mLoop t body (d :: ds)) s Q ↔ ∃ s1, t d s = some s1 ∧ wp body s1 fun fl s2 => match fl with
    | .nx => wp (mLoop t body ds) s2 Q
    | .ct => wp (mLoop t body ds) s2 Q
    | .bk => Q .nx s2
    | .rt r => Q (.rt r) s2 := by
  have bf : ∀ fl s2, (∃ a s', bodyF (mLoop t body ds) fl s2 = some (a, s') ∧ Q a s') ↔ match fl with
    | .nx => wp (mLoop t body ds) s2 Q
    | .ct => wp (mLoop t body ds) s2 Q
    | .bk => Q .nx s2
    | .rt r => Q (.rt r) s2 := fun fl s2 => by
    cases fl <;> first | exact Iff.rfl | exact ⟨fun ⟨_, _, e, q⟩ => (by cases e; exact q), fun q => ⟨_, _, rfl, q⟩⟩
  constructor
  · rintro ⟨a, s', e, q⟩
    have e : ((t d s).bind fun s1 => (body s1).bind fun p => bodyF (mLoop t body ds) p.1 p.2) = some (a, s') := e
    obtain ⟨s1, h1, e⟩ := Option.bind_eq_some_iff.mp e
    obtain ⟨⟨fl, s2⟩, h2, e⟩ := Option.bind_eq_some_iff.mp e
    exact ⟨s1, h1, fl, s2, h2, (bf fl s2).mp ⟨a, s', e, q⟩⟩
  · rintro ⟨s1, h1, fl, s2, h2, q⟩
    obtain ⟨a, s', e, q⟩ := (bf fl s2).mpr q
    exact ⟨a, s', by show ((t d s).bind fun s1 => (body s1).bind fun p => bodyF (mLoop t body ds) p.1 p.2) = _; rw [h1, Option.bind_some, h2]; exact e, q⟩
/-- a loop by an invariant; a break or a return ends it -/
theorem loop_inv (I : Nat → S → Prop) (h0 : I 0 s) (hs : ∀ (i : Nat) (d : D) (s : S), items[i]? = some d → I i s → ∃ s1, t d s = some s1 ∧ wp body s1 fun fl s2 => match fl with
    | .nx => I (i + 1) s2
    | .ct => I (i + 1) s2
    | .bk => Q .nx s2
    | .rt r => Q (.rt r) s2) (hd : ∀ s, I items.length s → Q .nx s) : wp (mLoop t body items) s Q := by
  induction items generalizing I s with
  | nil => exact loop_nil.mpr (hd s h0)
  | cons d ds ih =>
    obtain ⟨s1, h1, h2⟩ := hs 0 d s rfl h0
    refine loop_cons.mpr ⟨s1, h1, h2.mono fun fl s2 q => ?_⟩
    have recu : I 1 s2 → wp (mLoop t body ds) s2 Q := fun h => ih (fun i => I (i + 1)) h (fun i d' s' e hi => hs (i + 1) d' s' (by simpa using e) hi) fun s' h' => hd s' h'
    cases fl with
    | nx => exact recu q
    | ct => exact recu q
    | bk => exact q
    | rt r => exact q
variable {tt : M Bool} {te : M R} {vs : List Nat} {Ql : List D → S → Prop} {Qr : R → S → Prop}
theorem wp_lc {mi : M (List D)} : wp (mLc mi t tt te vs) s Qr ↔ wp mi s fun items s1 => wp (lcLoop t tt te vs items) (wipeS vs s1) fun ds s2 => ds.length ≤ sizeLine ∧ Qr (.t (.l ds)) ⟨restE s1.env vs s2.env, s2.ds⟩ := by
  have h : wp (mLc mi t tt te vs) s Qr ↔ ∃ r s', ((mi s).bind fun p => (lcLoop t tt te vs p.1 (wipeS vs p.2)).bind fun q => if q.1.length ≤ sizeLine then some (R.t (.l q.1), ⟨restE p.2.env vs q.2.env, q.2.ds⟩) else none) = some (r, s') ∧ Qr r s' := Iff.rfl
  rw [h, wp_bind]
  simp only [wp_bind]
  constructor <;> (rintro ⟨k, s1, e1, d, s2, e2, hh⟩; refine ⟨k, s1, e1, d, s2, e2, ?_⟩)
  · obtain ⟨r, s', e, q⟩ := hh
    split at e
    · rename_i hl; cases e; exact ⟨hl, q⟩
    · cases e
  · exact ⟨_, _, if_pos hh.1, hh.2⟩
theorem lc_nil : wp (lcLoop t tt te vs []) s Ql ↔ Ql [] s := ⟨fun ⟨_, _, e, q⟩ => by cases e; exact q, fun q => ⟨_, _, rfl, q⟩⟩
theorem lc_cons {d : D} {ds : List D} : wp (lcLoop t tt te vs (d :: ds)) s Ql ↔ ∃ s1, t d s = some s1 ∧ wp tt s1 fun k s2 => if k = true then wp te s2 fun r s3 => wp (mShare r) s3 fun x s4 => wp (lcLoop t tt te vs ds) (wipeS vs s4) fun xs s5 => Ql (x :: xs) s5 else wp (lcLoop t tt te vs ds) (wipeS vs s2) Ql := by
  constructor
  · rintro ⟨a, s', e, q⟩
    unfold lcLoop at e
    obtain ⟨s1, h1, e⟩ := Option.bind_eq_some_iff.mp e
    obtain ⟨⟨k, s2⟩, h2, e⟩ := Option.bind_eq_some_iff.mp e
    refine ⟨s1, h1, k, s2, h2, ?_⟩
    cases k with
    | false => exact ⟨a, s', e, q⟩
    | true =>
      obtain ⟨⟨r, s3⟩, h3, e⟩ := Option.bind_eq_some_iff.mp e
      obtain ⟨⟨x, s4⟩, h4, e⟩ := Option.bind_eq_some_iff.mp e
      obtain ⟨⟨xs, s5⟩, h5, e⟩ := Option.bind_eq_some_iff.mp e
      cases e
      exact ⟨r, s3, h3, x, s4, h4, xs, s5, h5, q⟩
  · rintro ⟨s1, h1, k, s2, h2, q⟩
    cases k with
    | false =>
      obtain ⟨a, s', e, q⟩ := q
      exact ⟨a, s', by unfold lcLoop; rw [h1, Option.bind_some, h2]; exact e, q⟩
    | true =>
      obtain ⟨r, s3, h3, x, s4, h4, xs, s5, h5, q⟩ := q
      exact ⟨_, _, by unfold lcLoop; simp [h1, h2, h3, h4, h5], q⟩
/-- a comprehension that only reads: what is kept, what is told -/
theorem lc_pure (p : D → Bool) (f : D → D) (hs : ∀ d ∈ items, ∃ s1, t d s = some s1 ∧ wp tt s1 fun k s2 => k = p d ∧ if k = true then wp te s2 fun r s3 => wp (mShare r) s3 fun x s4 => x = f d ∧ wipeS vs s4 = s else wipeS vs s2 = s) (q : Ql ((items.filter p).map f) s) : wp (lcLoop t tt te vs items) s Ql := by
  induction items generalizing Ql with
  | nil => exact lc_nil.mpr q
  | cons d ds ih =>
    obtain ⟨s1, h1, h2⟩ := hs d List.mem_cons_self
    refine lc_cons.mpr ⟨s1, h1, h2.mono fun k s2 ⟨hk, hh⟩ => ?_⟩
    cases k with
    | false =>
      have hh : wipeS vs s2 = s := hh
      rw [if_neg Bool.false_ne_true, hh]
      exact ih (fun d' hd' => hs d' (List.mem_cons_of_mem _ hd')) (by rw [List.filter_cons_of_neg (by rw [← hk]; exact Bool.false_ne_true)] at q; exact q)
    | true =>
      rw [if_pos rfl] at hh ⊢
      refine hh.mono fun r s3 h3 => h3.mono fun x s4 ⟨hx, hw⟩ => ?_
      rw [hw]
      refine ih (fun d' hd' => hs d' (List.mem_cons_of_mem _ hd')) ?_
      rw [List.filter_cons_of_pos hk.symm, List.map_cons] at q
      rw [hx]; exact q
/-- a comprehension by an invariant -/
theorem lc_inv (I : Nat → List D → S → Prop) (h0 : I 0 [] s) (hs : ∀ (i : Nat) (d : D) (acc : List D) (s : S), items[i]? = some d → I i acc s → ∃ s1, t d s = some s1 ∧ wp tt s1 fun k s2 => if k = true then wp te s2 fun r s3 => wp (mShare r) s3 fun x s4 => I (i + 1) (acc ++ [x]) (wipeS vs s4) else I (i + 1) acc (wipeS vs s2))
    (hd : ∀ acc s, I items.length acc s → Ql acc s) : wp (lcLoop t tt te vs items) s Ql := by
  have gen : ∀ (items : List D) (I : Nat → List D → S → Prop) (acc : List D) (s : S) (Ql : List D → S → Prop), I 0 acc s → (∀ (i : Nat) (d : D) (acc : List D) (s : S), items[i]? = some d → I i acc s → ∃ s1, t d s = some s1 ∧ wp tt s1 fun k s2 => if k = true then wp te s2 fun r s3 => wp (mShare r) s3 fun x s4 => I (i + 1) (acc ++ [x]) (wipeS vs s4) else I (i + 1) acc (wipeS vs s2)) →
      (∀ acc s, I items.length acc s → Ql acc s) → wp (lcLoop t tt te vs items) s fun xs s' => Ql (acc ++ xs) s' := by
    intro items
    induction items with
    | nil => intro I acc s Ql h0 _ hd; exact lc_nil.mpr (by rw [List.append_nil]; exact hd acc s h0)
    | cons d ds ih =>
      intro I acc s Ql h0 hs hd
      obtain ⟨s1, h1, h2⟩ := hs 0 d acc s rfl h0
      refine lc_cons.mpr ⟨s1, h1, h2.mono fun k s2 hh => ?_⟩
      cases k with
      | false => exact ih (fun i => I (i + 1)) acc _ Ql hh (fun i d' a' s' e hi => hs (i + 1) d' a' s' (by simpa using e) hi) hd
      | true =>
        rw [if_pos rfl] at hh ⊢
        refine hh.mono fun r s3 h3 => h3.mono fun x s4 h4 => ?_
        refine (ih (fun i => I (i + 1)) (acc ++ [x]) _ Ql h4 (fun i d' a' s' e hi => hs (i + 1) d' a' s' (by simpa using e) hi) hd).mono fun xs s5 q => ?_
        rw [List.append_assoc] at q; exact q
  have := gen items I [] s Ql h0 hs hd
  simpa using this
/-! iterables -/
theorem wp_it {m : M R} : wp (mIt m) s Ql ↔ wp m s fun r s1 => wp (mShare r) s1 fun d s2 => ∃ xs, itemsD d = some xs ∧ Ql xs s2 := by
  have h : wp (mIt m) s Ql ↔ ∃ r s', ((m s).bind fun p => (mShare p.1 p.2).bind fun q => (itemsD q.1).map fun is => (is, q.2)) = some (r, s') ∧ Ql r s' := Iff.rfl
  rw [h, wp_bind]
  simp only [wp_bind]
  constructor <;> (rintro ⟨k, s1, e1, d, s2, e2, hh⟩; refine ⟨k, s1, e1, d, s2, e2, ?_⟩)
  · obtain ⟨r, s', e, q⟩ := hh
    obtain ⟨xs, h1, h2⟩ := Option.map_eq_some_iff.mp e
    cases h2; exact ⟨_, h1, q⟩
  · obtain ⟨xs, h1, q⟩ := hh
    exact ⟨_, _, by simp [h1], q⟩
theorem wp_itV {m : M R} : wp (mItV m) s Ql ↔ wp m s fun r s1 => wp (mShare r) s1 fun d s2 => ∃ xs, valsD d = some xs ∧ Ql xs s2 := by
  have h : wp (mItV m) s Ql ↔ ∃ r s', ((m s).bind fun p => (mShare p.1 p.2).bind fun q => (valsD q.1).map fun is => (is, q.2)) = some (r, s') ∧ Ql r s' := Iff.rfl
  rw [h, wp_bind]
  simp only [wp_bind]
  constructor <;> (rintro ⟨k, s1, e1, d, s2, e2, hh⟩; refine ⟨k, s1, e1, d, s2, e2, ?_⟩)
  · obtain ⟨r, s', e, q⟩ := hh
    obtain ⟨xs, h1, h2⟩ := Option.map_eq_some_iff.mp e
    cases h2; exact ⟨_, h1, q⟩
  · obtain ⟨xs, h1, q⟩ := hh
    exact ⟨_, _, by simp [h1], q⟩
theorem wp_itI {m : M R} : wp (mItI m) s Ql ↔ wp m s fun r s1 => wp (mShare r) s1 fun d s2 => ∃ xs, itmsD d = some xs ∧ Ql xs s2 := by
  have h : wp (mItI m) s Ql ↔ ∃ r s', ((m s).bind fun p => (mShare p.1 p.2).bind fun q => (itmsD q.1).map fun is => (is, q.2)) = some (r, s') ∧ Ql r s' := Iff.rfl
  rw [h, wp_bind]
  simp only [wp_bind]
  constructor <;> (rintro ⟨k, s1, e1, d, s2, e2, hh⟩; refine ⟨k, s1, e1, d, s2, e2, ?_⟩)
  · obtain ⟨r, s', e, q⟩ := hh
    obtain ⟨xs, h1, h2⟩ := Option.map_eq_some_iff.mp e
    cases h2; exact ⟨_, h1, q⟩
  · obtain ⟨xs, h1, q⟩ := hh
    exact ⟨_, _, by simp [h1], q⟩
theorem wp_itA {f : List D → Option (List D)} {ms : List (M R)} : wp (mItA f ms) s Ql ↔ wp (mShs ms) s fun ds s1 => ∃ xs, f ds = some xs ∧ Ql xs s1 := by
  have h : wp (mItA f ms) s Ql ↔ ∃ r s', ((mShs ms s).bind fun p => (f p.1).map fun is => (is, p.2)) = some (r, s') ∧ Ql r s' := Iff.rfl
  rw [h, wp_bind]
  constructor <;> (rintro ⟨k, s1, e1, hh⟩; refine ⟨k, s1, e1, ?_⟩)
  · obtain ⟨r, s', e, q⟩ := hh
    obtain ⟨xs, h1, h2⟩ := Option.map_eq_some_iff.mp e
    cases h2; exact ⟨_, h1, q⟩
  · obtain ⟨xs, h1, q⟩ := hh
    exact ⟨_, _, by simp [h1], q⟩
/-- 0, 1, .. -/
def rgD (n : Int) : List D := (List.range n.toNat).map fun i => .int (i : Nat)
@[simp] theorem fRng1_i {n : Int} : fRng1 [.int n] = if rgB n = true then some (rgD n) else none := by
  show (if rgB n = true then some ((List.range n.toNat).map fun i => D.int (0 + (i : Nat))) else none) = _
  simp only [Int.zero_add]; rfl
@[simp] theorem itemsD_t {xs : List D} : itemsD (.tup xs) = some xs := rfl
@[simp] theorem itemsD_l {xs : List D} : itemsD (.lst xs) = some xs := rfl
@[simp] theorem itemsD_s {l : List Nat} : itemsD (.str l) = some (l.map fun c => .str [c]) := rfl
@[simp] theorem itemsD_d {kvs : List (D × D)} : itemsD (.dct kvs) = some (kvs.map (·.1)) := rfl
@[simp] theorem itmsD_d {kvs : List (D × D)} : itmsD (.dct kvs) = some (kvs.map fun p => .tup [p.1, p.2]) := rfl
@[simp] theorem rgD_len {n : Int} : (rgD n).length = n.toNat := by simp [rgD]
theorem rgD_at {n : Int} {i : Nat} {d : D} (h : (rgD n)[i]? = some d) : d = .int (i : Nat) ∧ (i : Int) < n := by
  have hi : i < n.toNat := by have := (List.getElem?_eq_some_iff.mp h).1; simpa using this
  unfold rgD at h
  simp [hi] at h
  exact ⟨h.symm, by omega⟩
@[simp] theorem wipeS_mk {env : List Sl} {ds : Option DS} : wipeS vs ⟨env, ds⟩ = ⟨wipeE vs env, ds⟩ := rfl
@[simp] theorem wipeE_nil {env : List Sl} : wipeE [] env = env := rfl
@[simp] theorem wipeE_cons {v : Nat} {env : List Sl} : wipeE (v :: vs) env = (wipeE vs env).set v .no := rfl
@[simp] theorem restE_nil {a b : List Sl} : restE a [] b = b := rfl
@[simp] theorem restE_cons {v : Nat} {a b : List Sl} : restE a (v :: vs) b = (restE a vs b).set v (a.getD v .no) := rfl
end
end PD
/-! PD: the same, head first (for simp): the continuations are marked, so that they are not looked into. -/
namespace PD
open PySem PySem.Spec PyProof.Rows L2

def Mk {α : Sort _} (_ : α) : Type := Unit
def mk {α : Sort _} {x : α} : Mk x := ()
def bq {α : Type} (o : Option α) (k : α → Prop) (_ : Mk k) : Prop := ∃ x, o = some x ∧ k x
def wq {α : Type} (m : M α) (s : S) (Q : α → S → Prop) (_ : Mk Q) : Prop := wp m s Q
def fq (f : Fn) (args : List D) (ds : Option DS) (Q : R → Option DS → Prop) (_ : Mk Q) : Prop := wf f args ds Q
theorem wf_of {f : Fn} {args : List D} {ds : Option DS} {Q : R → Option DS → Prop} (h : fq f args ds Q mk) : wf f args ds Q := h
theorem fq_mono {f : Fn} {args : List D} {ds : Option DS} {Q Q' : R → Option DS → Prop} (h : fq f args ds Q mk) (i : ∀ a s', Q a s' → Q' a s') : fq f args ds Q' mk := wf.mono h i
theorem wq_mono {α : Type} {m : M α} {s : S} {Q Q' : α → S → Prop} (h : wq m s Q mk) (i : ∀ a s', Q a s' → Q' a s') : wq m s Q' mk := wp.mono h i
section
variable {α β : Type}
@[simp ↓] theorem bO_some {x : α} {k : α → Prop} {h : Mk k} : bq (some x) k h ↔ k x := ⟨fun ⟨_, e, q⟩ => by cases e; exact q, fun q => ⟨_, rfl, q⟩⟩
@[simp] theorem bO_some' {x : α} {k : α → Prop} {h : Mk k} : bq (some x) k h ↔ k x := bO_some
@[simp] theorem bO_none {k : α → Prop} {h : Mk k} : bq none k h ↔ False := ⟨fun ⟨_, e, _⟩ => (by cases e), fun (q : False) => q.elim⟩
@[simp] theorem bO_ite {c : Prop} [Decidable c] {o o' : Option α} {k : α → Prop} {h : Mk k} : bq (if c then o else o') k h ↔ if c then bq o k h else bq o' k h := by split <;> exact Iff.rfl
@[simp ↓] theorem bO_itn {c : Prop} [Decidable c] {x : α} {k : α → Prop} {h : Mk k} : bq (if c then some x else none) k h ↔ c ∧ k x := by
  by_cases h : c
  · rw [if_pos h]; exact ⟨fun ⟨_, e, q⟩ => (by cases e; exact ⟨h, q⟩), fun q => ⟨_, rfl, q.2⟩⟩
  · rw [if_neg h]; exact ⟨fun ⟨_, e, q⟩ => (by cases e), fun q => absurd q.1 h⟩
@[simp] theorem bO_itn' {c : Prop} [Decidable c] {x : α} {k : α → Prop} {h : Mk k} : bq (if c then some x else none) k h ↔ c ∧ k x := bO_itn
@[simp ↓] theorem bO_map {o : Option α} {f : α → β} {k : β → Prop} {h : Mk k} : bq (o.map f) k h ↔ bq o (fun x => k (f x)) mk := by
  cases o with
  | none => exact ⟨fun ⟨_, e, _⟩ => (by cases e), fun ⟨_, e, _⟩ => (by cases e)⟩
  | some x => exact ⟨fun ⟨_, e, q⟩ => (by cases e; exact ⟨x, rfl, q⟩), fun ⟨_, e, q⟩ => (by cases e; exact ⟨_, rfl, q⟩)⟩
@[simp] theorem bO_map' {o : Option α} {f : α → β} {k : β → Prop} {h : Mk k} : bq (o.map f) k h ↔ bq o (fun x => k (f x)) mk := bO_map
@[simp ↓] theorem bO_bind {o : Option α} {f : α → Option β} {k : β → Prop} {h : Mk k} : bq (o.bind f) k h ↔ bq o (fun x => bq (f x) k mk) mk := by
  cases o with
  | none => exact ⟨fun ⟨_, e, _⟩ => (by cases e), fun ⟨_, e, _⟩ => (by cases e)⟩
  | some x => exact ⟨fun q => ⟨x, rfl, q⟩, fun ⟨_, e, q⟩ => (by cases e; exact q)⟩
@[simp] theorem bO_bind' {o : Option α} {f : α → Option β} {k : β → Prop} {h : Mk k} : bq (o.bind f) k h ↔ bq o (fun x => bq (f x) k mk) mk := bO_bind
theorem bO_mk {o : Option α} {x : α} {k : α → Prop} {m : Mk k} (h : o = some x) (q : k x) : bq o k m := ⟨x, h, q⟩
end
def Sl.own? : Sl → Option Own
  | .o x => some x
  | _ => none
def Sl.dat? : Sl → Option D
  | .d x => some x
  | _ => none
def R.slot? : R → Option Nat
  | .b i => some i
  | _ => none
def R.int? : R → Option Int
  | .d (.int i) => some i
  | _ => none
def slK (i : Nat) (Q : R → S → Prop) (s : S) (_ : Mk Q) : Sl → Prop
  | .d x => Q (.d x) s
  | .o _ => Q (.b i) s
  | .no => False
def shK (i : Nat) (Q : D → S → Prop) (s : S) (_ : Mk Q) : Sl → Prop
  | .d x => Q x s
  | .o o => Q o.toD { s with env := s.env.set i (.d o.toD) }
  | .no => False
def thK (y : MS) (Q : Fl → S → Prop) (_ : Mk Q) : Fl → S → Prop
  | .nx, s => wp y s Q
  | fl, s => Q fl s
def rnK (Q : R → Option DS → Prop) (_ : Mk Q) : Fl → Option DS → Prop
  | .nx, d => Q (.d .non) d
  | .rt r, d => Q r d
  | _, _ => False
def rtK (k : R → Prop) (_ : Mk k) : Sl → Prop
  | .d x => k (.d x)
  | .o o => k (.t o)
  | .no => False
section
variable {s : S} {i j : Nat} {x y : D} {o : Own} {env : List Sl} {r : R} {rs : List R} {d' : Option DS}
@[simp] theorem own?_o : Sl.own? (.o o) = some o := rfl
@[simp] theorem dat?_d : Sl.dat? (.d x) = some x := rfl
@[simp] theorem slot?_b : R.slot? (.b i) = some i := rfl
@[simp] theorem int?_i {k : Int} : R.int? (.d (.int k)) = some k := rfl
variable {Q : R → S → Prop} {Q1 : D → S → Prop} {Qs : Fl → S → Prop} {Qf : R → Option DS → Prop}
@[simp ↓] theorem slK_d {h : Mk Q} : slK i Q s h (.d x) ↔ Q (.d x) s := Iff.rfl
@[simp ↓] theorem slK_o {h : Mk Q} : slK i Q s h (.o o) ↔ Q (.b i) s := Iff.rfl
@[simp ↓] theorem shK_d {h : Mk Q1} : shK i Q1 s h (.d x) ↔ Q1 x s := Iff.rfl
@[simp ↓] theorem shK_o {h : Mk Q1} : shK i Q1 s h (.o o) ↔ Q1 o.toD { s with env := s.env.set i (.d o.toD) } := Iff.rfl
@[simp ↓] theorem thK_n {y : MS} {h : Mk Qs} : thK y Qs h .nx s ↔ wq y s Qs mk := Iff.rfl
@[simp ↓] theorem thK_b {y : MS} {h : Mk Qs} : thK y Qs h .bk s ↔ Qs .bk s := Iff.rfl
@[simp ↓] theorem thK_c {y : MS} {h : Mk Qs} : thK y Qs h .ct s ↔ Qs .ct s := Iff.rfl
@[simp ↓] theorem thK_r {y : MS} {h : Mk Qs} : thK y Qs h (.rt r) s ↔ Qs (.rt r) s := Iff.rfl
@[simp ↓] theorem rnK_n {h : Mk Qf} : rnK Qf h .nx d' ↔ Qf (.d .non) d' := Iff.rfl
@[simp ↓] theorem rnK_r {h : Mk Qf} : rnK Qf h (.rt r) d' ↔ Qf r d' := Iff.rfl
@[simp ↓] theorem rnK_b {h : Mk Qf} : rnK Qf h .bk d' ↔ False := Iff.rfl
@[simp ↓] theorem rnK_c {h : Mk Qf} : rnK Qf h .ct d' ↔ False := Iff.rfl
@[simp ↓] theorem rtK_d {k : R → Prop} {h : Mk k} : rtK k h (.d x) ↔ k (.d x) := Iff.rfl
@[simp ↓] theorem rtK_o {k : R → Prop} {h : Mk k} : rtK k h (.o o) ↔ k (.t o) := Iff.rfl
@[simp ↓] theorem q_var {h : Mk Q} : wq (mVar i) s Q h ↔ bq (s.env[i]?) (slK i Q s mk) mk := by
  show wp (mVar i) s Q ↔ _
  rw [wp_var]
  cases s.env[i]? with
  | none => exact bO_none.symm
  | some sl => rw [bO_some]; cases sl <;> exact Iff.rfl
@[simp ↓] theorem q_share_b {h : Mk Q1} : wq (mShare (.b i)) s Q1 h ↔ bq (s.env[i]?) (shK i Q1 s mk) mk := by
  show wp (mShare (.b i)) s Q1 ↔ _
  rw [wp_share_b]
  cases s.env[i]? with
  | none => exact bO_none.symm
  | some sl => rw [bO_some]; cases sl <;> exact Iff.rfl
@[simp ↓] theorem q_then {x y : MS} {h : Mk Qs} : wq (mThen x y) s Qs h ↔ wq x s (thK y Qs mk) mk := by
  show wp (mThen x y) s Qs ↔ _
  rw [wp_then]
  constructor <;> refine fun h => wp.mono h fun fl s1 h => ?_ <;> cases fl <;> exact h
@[simp ↓] theorem q_run {n l : Nat} {body : MS} {args : List D} {ds : Option DS} {h : Mk Qf} : fq (runFn n l body) args ds Qf h ↔ args.length = n ∧ wq body ⟨args.map .d ++ List.replicate l .no, ds⟩ (fun fl s' => rnK Qf mk fl s'.ds) mk := by
  show wf (runFn n l body) args ds Qf ↔ _
  rw [wf_run]
  refine and_congr Iff.rfl ?_
  constructor <;> refine fun h => wp.mono h fun fl s1 h => ?_ <;> cases fl <;> exact h
variable {m mi : M R} {ms : List (M R)}
@[simp ↓] theorem q_mut {T : String} {f : Own → List D → Option (D × Own)} {h : Mk Q} : wq (mMut T f m ms) s Q h ↔ wq m s (fun r s1 => bq r.slot? (fun i => bq ((s1.env[i]?).bind Sl.own?) (fun o0 => tyO T o0 = true ∧ wq (mShs ms) s1 (fun ds s2 => bq ((s2.env[i]?).bind Sl.own?) (fun o => bq (f o ds) (fun z => Q (.d z.1) ⟨s2.env.set i (.o z.2), s2.ds⟩) mk) mk) mk) mk) mk) mk := by
  show wp (mMut T f m ms) s Q ↔ _
  rw [wp_mut]
  have ow : ∀ {e : List Sl} {i : Nat} {o : Own}, (e[i]?).bind Sl.own? = some o → e[i]? = some (.o o) := fun {e i o} h => by
    obtain ⟨sl, h1, h2⟩ := Option.bind_eq_some_iff.mp h
    cases sl <;> cases h2
    exact h1
  constructor
  · refine fun h => wp.mono h fun r s1 ⟨i, o0, e1, h0, hT, h⟩ => ?_
    subst e1
    refine ⟨i, rfl, o0, by rw [h0]; rfl, hT, wp.mono h fun ds s2 ⟨o, h2, z, h3, q⟩ => ?_⟩
    exact ⟨o, by rw [h2]; rfl, z, h3, q⟩
  · refine fun h => wp.mono h fun r s1 ⟨i, e1, o0, h0, hT, h⟩ => ?_
    cases r <;> cases e1
    refine ⟨i, o0, rfl, ow h0, hT, wp.mono h fun ds s2 ⟨o, h2, z, h3, q⟩ => ?_⟩
    exact ⟨o, ow h2, z, h3, q⟩
@[simp ↓] theorem q_part {Qo : Option Int → S → Prop} {h : Mk Qo} : wq (mPart m) s Qo h ↔ wq m s (fun r s1 => bq r.int? (fun i => Qo (some i) s1) mk) mk := by
  show wp (mPart m) s Qo ↔ _
  rw [wp_part]
  constructor
  · exact fun h => wp.mono h fun r s1 ⟨i, e, q⟩ => ⟨i, by rw [e]; rfl, q⟩
  · refine fun h => wp.mono h fun r s1 ⟨i, e, q⟩ => ⟨i, ?_, q⟩
    cases r with
    | d x => cases x <;> cases e; rfl
    | t o => cases e
    | b i => cases e
@[simp ↓] theorem q_aug {f : D → D → Option D} {h : Mk Qs} : wq (mAug i f m) s Qs h ↔ bq ((s.env[i]?).bind Sl.dat?) (fun x => wq m s (fun r s1 => bq (r.peek s1.env) (fun y => bq (f x y) (fun z => Qs .nx ⟨s1.env.set i (.d z), s1.ds⟩) mk) mk) mk) mk := by
  show wp (mAug i f m) s Qs ↔ _
  rw [wp_aug]
  constructor
  · rintro ⟨x, e, h⟩
    exact ⟨x, by rw [e]; rfl, h⟩
  · rintro ⟨x, e, h⟩
    obtain ⟨sl, h1, h2⟩ := Option.bind_eq_some_iff.mp e
    cases sl <;> cases h2
    exact ⟨x, h1, h⟩
@[simp ↓] theorem q_call {f : Fn} {as : M (List R)} {h : Mk Q} : wq (mCall f as) s Q h ↔ wq as s (fun rs s1 => bq (peeks s1.env rs) (fun xs => fq f xs s1.ds (fun r ds' => bq (callR s1.env rs (r, ds')) (fun p => Q p.1 p.2) mk) mk) mk) mk := by
  show wp (mCall f as) s Q ↔ _
  rw [wp_call]
  constructor
  · exact fun h => wp.mono h fun rs s1 ⟨xs, h1, h2⟩ => ⟨xs, h1, wf.mono h2 fun r ds' ⟨r', s', e, q⟩ => ⟨(r', s'), e, q⟩⟩
  · exact fun h => wp.mono h fun rs s1 ⟨xs, h1, h2⟩ => ⟨xs, h1, wf.mono h2 fun r ds' ⟨p, e, q⟩ => ⟨p.1, p.2, e, q⟩⟩
@[simp ↓] theorem q_peeks_nil {k : List D → Prop} {h : Mk k} : bq (peeks env []) k h ↔ k [] := peeks_nil
@[simp ↓] theorem q_peeks_cons {k : List D → Prop} {h : Mk k} : bq (peeks env (r :: rs)) k h ↔ bq (r.peek env) (fun x => bq (peeks env rs) (fun xs => k (x :: xs)) mk) mk := peeks_cons
@[simp ↓] theorem q_setR_b {k : S → Prop} {h : Mk k} : bq (setR i (.b j) s) k h ↔ wq (mShare (.b j)) s (fun d s1 => k ⟨s1.env.set i (.d d), s1.ds⟩) mk := setR_b
@[simp ↓] theorem q_retR_b {k : R → Prop} {h : Mk k} : bq (retR env (.b i)) k h ↔ bq (env[i]?) (rtK k mk) mk := by
  refine Iff.trans retR_b ?_
  cases env[i]? with
  | none => exact bO_none.symm
  | some sl => rw [bO_some]; cases sl <;> exact Iff.rfl
@[simp ↓] theorem q_tgN {k : S → Prop} {h : Mk k} : bq (tgN i x s) k h ↔ k ⟨s.env.set i (.d x), s.ds⟩ := bO_some
@[simp ↓] theorem q_tgNil {k : S → Prop} {h : Mk k} : bq (tgNil [] s) k h ↔ k s := bO_some
@[simp ↓] theorem q_tgCons {k : S → Prop} {h : Mk k} {ds : List D} {t : D → S → Option S} {u : List D → S → Option S} : bq (tgCons t u (x :: ds) s) k h ↔ bq (t x s) (fun s1 => bq (u ds s1) k mk) mk := bO_bind
@[simp ↓] theorem q_tgT {k : S → Prop} {h : Mk k} {ds : List D} {u : List D → S → Option S} : bq (tgT u (.tup ds) s) k h ↔ bq (u ds s) k mk := Iff.rfl
@[simp ↓] theorem q_tgSub {k : S → Prop} {h : Mk k} {mo : M R} : bq (tgSub mo mi x s) k h ↔ wq mo s (fun r s1 => bq r.slot? (fun i => wq mi s1 (fun q s2 => wq (mShare q) s2 (fun d s3 => bq ((s3.env[i]?).bind Sl.own?) (fun o => bq (fSetI o [d, x]) (fun z => k ⟨s3.env.set i (.o z.2), s3.ds⟩) mk) mk) mk) mk) mk) mk := by
  refine Iff.trans tgSub_s ?_
  have ow : ∀ {e : List Sl} {i : Nat} {o : Own}, (e[i]?).bind Sl.own? = some o → e[i]? = some (.o o) := fun {e i o} h => by
    obtain ⟨sl, h1, h2⟩ := Option.bind_eq_some_iff.mp h
    cases sl <;> cases h2
    exact h1
  constructor
  · refine fun h => wp.mono h fun r s1 ⟨i, e1, h⟩ => ?_
    subst e1
    exact ⟨i, rfl, wp.mono h fun q s2 h => wp.mono h fun d s3 ⟨o, h2, z, h3, q⟩ => ⟨o, by rw [h2]; rfl, z, h3, q⟩⟩
  · refine fun h => wp.mono h fun r s1 ⟨i, e1, h⟩ => ?_
    cases r <;> cases e1
    exact ⟨i, rfl, wp.mono h fun q s2 h => wp.mono h fun d s3 ⟨o, h2, z, h3, q⟩ => ⟨o, ow h2, z, h3, q⟩⟩
end
section
variable {s : S} {Q : R → S → Prop} {a b m o : M R} {i : Nat} {ta tb : M Bool} {Qb : Bool → S → Prop} {ms : List (M R)} {Ql : List R → S → Prop} {Qd : List D → S → Prop} {Q1 : D → S → Prop} {lo hi : M (Option Int)} {Qo : Option Int → S → Prop} {Qs : Fl → S → Prop} {x y : MS} {t : M Bool} {Qn : R → S → Prop}
@[simp ↓] theorem q_c {d : D} {hm : Mk Q} : wq (mC d) s Q hm ↔ Q (.d d) s := wp_c
@[simp ↓] theorem q_bin {f : D → D → Option R} {hm : Mk Q} : wq (mBin f a b) s Q hm ↔ wq a s (fun ra s1 => wq b s1 (fun rb s2 => bq (ra.peek s2.env) (fun x => bq (rb.peek s2.env) (fun y => bq (f x y) (fun r => Q r s2) mk) mk) mk) mk) mk := wp_bin
@[simp ↓] theorem q_un {f : D → Option R} {hm : Mk Q} : wq (mUn f a) s Q hm ↔ wq a s (fun ra s1 => bq (ra.peek s1.env) (fun x => bq (f x) (fun r => Q r s1) mk) mk) mk := wp_un
@[simp ↓] theorem q_if {t : M Bool} {hm : Mk Q} : wq (mIf t a b) s Q hm ↔ wq t s (fun k s1 => if k = true then wq a s1 Q mk else wq b s1 Q mk) mk := wp_if
@[simp ↓] theorem q_test {Q : Bool → S → Prop} {hm : Mk Q} : wq (mTest m) s Q hm ↔ wq m s (fun r s1 => bq (r.bl?) (fun k => Q k s1) mk) mk := wp_test
@[simp ↓] theorem q_tru {Q : Bool → S → Prop} {hm : Mk Q} : wq (mTru m) s Q hm ↔ wq m s (fun r s1 => bq (r.peek s1.env) (fun d => bq (truD d) (fun k => Q k s1) mk) mk) mk := wp_tru
@[simp ↓] theorem q_and {hm : Mk Qb} : wq (mAnd ta tb) s Qb hm ↔ wq ta s (fun k s1 => if k = true then wq tb s1 Qb mk else Qb false s1) mk := wp_and
@[simp ↓] theorem q_or {hm : Mk Qb} : wq (mOr ta tb) s Qb hm ↔ wq ta s (fun k s1 => if k = true then Qb true s1 else wq tb s1 Qb mk) mk := wp_or
@[simp ↓] theorem q_not {hm : Mk Qb} : wq (mNot ta) s Qb hm ↔ wq ta s (fun k s1 => Qb (!k) s1) mk := wp_not
@[simp ↓] theorem q_yes {hm : Mk Qb} : wq mYes s Qb hm ↔ Qb true s := wp_yes
@[simp ↓] theorem q_blk {k : Bool → M R} {hm : Mk Q} : wq (mBlK k a) s Q hm ↔ wq a s (fun r s1 => bq (r.bl?) (fun c => wq (k c) s1 Q mk) mk) mk := wp_blk
@[simp ↓] theorem q_retR {r : R} {hm : Mk Q} : wq (mRetR r) s Q hm ↔ Q r s := wp_retR
@[simp ↓] theorem q_andV {hm : Mk Q} : wq (mAndV a b) s Q hm ↔ wq a s (fun r s1 => bq (r.bl?) (fun c => if c = true then wq b s1 Q mk else Q (.d (.bl false)) s1) mk) mk := wp_andV
@[simp ↓] theorem q_orV {hm : Mk Q} : wq (mOrV a b) s Q hm ↔ wq a s (fun r s1 => bq (r.bl?) (fun c => if c = true then Q (.d (.bl true)) s1 else wq b s1 Q mk) mk) mk := wp_orV
@[simp ↓] theorem q_notV {hm : Mk Q} : wq (mNotV a) s Q hm ↔ wq a s (fun r s1 => bq (r.bl?) (fun c => Q (.d (.bl (!c))) s1) mk) mk := wp_notV
@[simp ↓] theorem q_args_nil {hm : Mk Ql} : wq (mArgs []) s Ql hm ↔ Ql [] s := wp_args_nil
@[simp ↓] theorem q_args_cons {hm : Mk Ql} : wq (mArgs (m :: ms)) s Ql hm ↔ wq m s (fun r s1 => wq (mArgs ms) s1 (fun rs s2 => Ql (r :: rs) s2) mk) mk := wp_args_cons
@[simp ↓] theorem q_prim {f : List D → Option R} {as : M (List R)} {hm : Mk Q} : wq (mPrim f as) s Q hm ↔ wq as s (fun rs s1 => bq (peeks s1.env rs) (fun xs => bq (f xs) (fun r => Q r s1) mk) mk) mk := wp_prim
@[simp ↓] theorem q_shs_nil {hm : Mk Qd} : wq (mShs []) s Qd hm ↔ Qd [] s := wp_shs_nil
@[simp ↓] theorem q_shs_cons {hm : Mk Qd} : wq (mShs (m :: ms)) s Qd hm ↔ wq m s (fun r s1 => wq (mShare r) s1 (fun d s2 => wq (mShs ms) s2 (fun ds s3 => Qd (d :: ds) s3) mk) mk) mk := wp_shs_cons
@[simp ↓] theorem q_share_d {d : D} {hm : Mk Q1} : wq (mShare (.d d)) s Q1 hm ↔ Q1 d s := wp_share_d
@[simp ↓] theorem q_share_t {o : Own} {hm : Mk Q1} : wq (mShare (.t o)) s Q1 hm ↔ Q1 o.toD s := wp_share_t
@[simp ↓] theorem q_tup {hm : Mk Q} : wq (mTup ms) s Q hm ↔ wq (mShs ms) s (fun ds s1 => ds.length ≤ sizeLine ∧ Q (.d (.tup ds)) s1) mk := wp_tup
@[simp ↓] theorem q_lst {hm : Mk Q} : wq (mLst ms) s Q hm ↔ wq (mShs ms) s (fun ds s1 => ds.length ≤ sizeLine ∧ Q (.t (.l ds)) s1) mk := wp_lst
@[simp ↓] theorem q_dnew {hm : Mk Q} : wq mDNew s Q hm ↔ Q (.t (.k [])) s := wp_dnew
@[simp ↓] theorem q_meth {T : String} {f : D → List D → Option R} {hm : Mk Q} : wq (mMethT T f o ms) s Q hm ↔ wq o s (fun r s1 => bq (r.peek s1.env) (fun d0 => tyD T d0 = true ∧ wq (mShs ms) s1 (fun ds s2 => bq (r.peek s2.env) (fun d => bq (f d ds) (fun r' => Q r' s2) mk) mk) mk) mk) mk := wp_meth
@[simp ↓] theorem q_nopart {hm : Mk Qo} : wq mNoPart s Qo hm ↔ Qo none s := wp_nopart
@[simp ↓] theorem q_sl {hm : Mk Q} : wq (mSl m lo hi) s Q hm ↔ wq m s (fun r s1 => wq lo s1 (fun l s2 => wq hi s2 (fun h s3 => bq (r.peek s3.env) (fun x => bq (fSl x l h) (fun r' => Q r' s3) mk) mk) mk) mk) mk := wp_sl
@[simp ↓] theorem q_skip {hm : Mk Qs} : wq mSkip s Qs hm ↔ Qs .nx s := wp_skip
@[simp ↓] theorem q_break {hm : Mk Qs} : wq mBreak s Qs hm ↔ Qs .bk s := wp_break
@[simp ↓] theorem q_cont {hm : Mk Qs} : wq mCont s Qs hm ↔ Qs .ct s := wp_cont
@[simp ↓] theorem q_ifS {hm : Mk Qs} : wq (mIfS t x y) s Qs hm ↔ wq t s (fun k s1 => if k = true then wq x s1 Qs mk else wq y s1 Qs mk) mk := wp_ifS
@[simp ↓] theorem q_drop {hm : Mk Qs} : wq (mDrop m) s Qs hm ↔ wq m s (fun _ s1 => Qs .nx s1) mk := wp_drop
@[simp ↓] theorem q_ret {hm : Mk Qs} : wq (mRetS m) s Qs hm ↔ wq m s (fun r s1 => bq (retR s1.env r) (fun r' => Qs (.rt r') s1) mk) mk := wp_ret
@[simp ↓] theorem q_retN {hm : Mk Qs} : wq mRetN s Qs hm ↔ Qs (.rt (.d .non)) s := wp_retN
@[simp ↓] theorem q_set {hm : Mk Qs} : wq (mSet i m) s Qs hm ↔ wq m s (fun r s1 => bq (setR i r s1) (fun s' => Qs .nx s') mk) mk := wp_set
@[simp ↓] theorem q_asg {t : D → S → Option S} {hm : Mk Qs} : wq (mAsg t m) s Qs hm ↔ wq m s (fun r s1 => wq (mShare r) s1 (fun d s2 => bq (t d s2) (fun s' => Qs .nx s') mk) mk) mk := wp_asg
@[simp ↓] theorem q_norm_d {d : D} {hm : Mk Qn} : wq (normR (.d d)) s Qn hm ↔ Qn (.d d) s := wp_norm_d
@[simp ↓] theorem q_norm_t {d : Own} {hm : Mk Qn} : wq (normR (.t d)) s Qn hm ↔ Qn (.t d) s := wp_norm_t
@[simp ↓] theorem q_norm_b {hm : Mk Qn} : wq (normR (.b i)) s Qn hm ↔ wq (mShare (.b i)) s (fun d s1 => Qn (.d d) s1) mk := wp_norm_b
@[simp ↓] theorem q_par {j : Nat} {hm : Mk Qs} : wq (mPar i j a b) s Qs hm ↔ wq a s (fun ra s1 => wq b s1 (fun rb s2 => wq (normR ra) s2 (fun p1 s3 => wq (normR rb) s3 (fun q1 s4 => bq (setR i p1 s4) (fun s5 => bq (setR j q1 s5) (fun s6 => Qs .nx s6) mk) mk) mk) mk) mk) mk := wp_par
end
section
variable {s : S} {t : D → S → Option S} {body : MS} {items : List D} {Q : Fl → S → Prop} {tt : M Bool} {te : M R} {vs : List Nat} {Ql : List D → S → Prop} {Qr : R → S → Prop}
@[simp ↓] theorem q_for {mi : M (List D)} {hm : Mk Q} : wq (mFor mi t body) s Q hm ↔ wq mi s (fun items s1 => wq (mLoop t body items) s1 Q mk) mk := wp_for
@[simp ↓] theorem q_lc {mi : M (List D)} {hm : Mk Qr} : wq (mLc mi t tt te vs) s Qr hm ↔ wq mi s (fun items s1 => wq (lcLoop t tt te vs items) (wipeS vs s1) (fun ds s2 => ds.length ≤ sizeLine ∧ Qr (.t (.l ds)) ⟨restE s1.env vs s2.env, s2.ds⟩) mk) mk := wp_lc
@[simp ↓] theorem q_it {m : M R} {hm : Mk Ql} : wq (mIt m) s Ql hm ↔ wq m s (fun r s1 => wq (mShare r) s1 (fun d s2 => bq (itemsD d) (fun xs => Ql xs s2) mk) mk) mk := wp_it
@[simp ↓] theorem q_itV {m : M R} {hm : Mk Ql} : wq (mItV m) s Ql hm ↔ wq m s (fun r s1 => wq (mShare r) s1 (fun d s2 => bq (valsD d) (fun xs => Ql xs s2) mk) mk) mk := wp_itV
@[simp ↓] theorem q_itI {m : M R} {hm : Mk Ql} : wq (mItI m) s Ql hm ↔ wq m s (fun r s1 => wq (mShare r) s1 (fun d s2 => bq (itmsD d) (fun xs => Ql xs s2) mk) mk) mk := wp_itI
@[simp ↓] theorem q_itA {f : List D → Option (List D)} {ms : List (M R)} {hm : Mk Ql} : wq (mItA f ms) s Ql hm ↔ wq (mShs ms) s (fun ds s1 => bq (f ds) (fun xs => Ql xs s1) mk) mk := wp_itA
theorem q_loop (I : Nat → S → Prop) {h : Mk Q} (h0 : I 0 s) (hs : ∀ (i : Nat) (d : D) (s : S), items[i]? = some d → I i s → bq (t d s) (fun s1 => wq body s1 (fun fl s2 => match fl with
    | .nx => I (i + 1) s2
    | .ct => I (i + 1) s2
    | .bk => Q .nx s2
    | .rt r => Q (.rt r) s2) mk) mk) (hd : ∀ s, I items.length s → Q .nx s) : wq (mLoop t body items) s Q h := loop_inv I h0 hs hd
theorem q_lc_pure {h : Mk Ql} (p : D → Bool) (f : D → D) (hs : ∀ d ∈ items, bq (t d s) (fun s1 => wq tt s1 (fun k s2 => k = p d ∧ if k = true then wq te s2 (fun r s3 => wq (mShare r) s3 (fun x s4 => x = f d ∧ wipeS vs s4 = s) mk) mk else wipeS vs s2 = s) mk) mk) (q : Ql ((items.filter p).map f) s) : wq (lcLoop t tt te vs items) s Ql h := lc_pure p f hs q
theorem q_lc_inv {h : Mk Ql} (I : Nat → List D → S → Prop) (h0 : I 0 [] s) (hs : ∀ (i : Nat) (d : D) (acc : List D) (s : S), items[i]? = some d → I i acc s → bq (t d s) (fun s1 => wq tt s1 (fun k s2 => if k = true then wq te s2 (fun r s3 => wq (mShare r) s3 (fun x s4 => I (i + 1) (acc ++ [x]) (wipeS vs s4)) mk) mk else I (i + 1) acc (wipeS vs s2)) mk) mk)
    (hd : ∀ acc s, I items.length acc s → Ql acc s) : wq (lcLoop t tt te vs items) s Ql h := lc_inv I h0 hs hd
end
end PD
namespace K36
open PySem PySem.Spec PyProof.Rows L2 PD
def topS (i : Nat) : Stmt := PySem.Challenge.pw_foldedflat_k36_whole_right_nets_by_colou.main.body.getD i (.Pass ⟨0, 0, 0, 0⟩)
abbrev s_count_creases : Stmt := topS 1
abbrev s_rung : Stmt := topS 2
abbrev s_rail : Stmt := topS 3
abbrev s_corner_bends : Stmt := topS 4
abbrev s_is_right_corner : Stmt := topS 5
abbrev s_wrong_corners : Stmt := topS 6
abbrev s_is_right_net : Stmt := topS 7
abbrev s_colour_rows : Stmt := topS 8
abbrev s_count_nets : Stmt := topS 9
abbrev s_step_of : Stmt := topS 10
abbrev s_colours_of : Stmt := topS 11
abbrev s_bends_by_colours : Stmt := topS 12
abbrev s__law_state : Stmt := topS 14
abbrev s__law_draw : Stmt := topS 15
abbrev s__law_pick : Stmt := topS 16
abbrev s__law_eq : Stmt := topS 17
abbrev s__law_at : Stmt := topS 18
abbrev s__law_wrong : Stmt := topS 19
abbrev s__law_colouring : Stmt := topS 20
abbrev s__law_by : Stmt := topS 21
abbrev s__law_count : Stmt := topS 22
abbrev s_law : Stmt := topS 23
theorem sc_count_creases : FnScope ["rows", "columns"] ["rows", "columns"] (defScope s_count_creases) := ⟨rfl, rfl, rfl, by decide +kernel, rfl, by decide +kernel, by decide +kernel⟩
theorem sc_rung : FnScope ["columns", "i", "j"] ["columns", "i", "j"] (defScope s_rung) := ⟨rfl, rfl, rfl, by decide +kernel, rfl, by decide +kernel, by decide +kernel⟩
theorem sc_rail : FnScope ["rows", "columns", "i", "j"] ["rows", "columns", "i", "j"] (defScope s_rail) := ⟨rfl, rfl, rfl, by decide +kernel, rfl, by decide +kernel, by decide +kernel⟩
theorem sc_corner_bends : FnScope ["rows", "columns", "bends", "i", "j", "left", "right"] ["rows", "columns", "bends", "i", "j"] (defScope s_corner_bends) := ⟨rfl, rfl, rfl, by decide +kernel, rfl, by decide +kernel, by decide +kernel⟩
theorem sc_is_right_corner : FnScope ["kind", "i", "four", "sharp"] ["kind", "i", "four"] (defScope s_is_right_corner) := ⟨rfl, rfl, rfl, by decide +kernel, rfl, by decide +kernel, by decide +kernel⟩
theorem sc_wrong_corners : FnScope ["kind", "rows", "columns", "bends", "told", "i", "j"] ["kind", "rows", "columns", "bends"] (defScope s_wrong_corners) := ⟨rfl, rfl, rfl, by decide +kernel, rfl, by decide +kernel, by decide +kernel⟩
theorem sc_is_right_net : FnScope ["kind", "rows", "columns", "bends", "bend"] ["kind", "rows", "columns", "bends"] (defScope s_is_right_net) := ⟨rfl, rfl, rfl, by decide +kernel, rfl, by decide +kernel, by decide +kernel⟩
theorem sc_colour_rows : FnScope ["columns", "found", "_", "row", "c"] ["columns"] (defScope s_colour_rows) := ⟨rfl, rfl, rfl, by decide +kernel, rfl, by decide +kernel, by decide +kernel⟩
theorem sc_count_nets : FnScope ["kind", "rows", "columns", "every", "below", "here", "_", "after", "row", "count", "other", "a", "b"] ["kind", "rows", "columns"] (defScope s_count_nets) := ⟨rfl, rfl, rfl, by decide +kernel, rfl, by decide +kernel, by decide +kernel⟩
theorem sc_step_of : FnScope ["bend"] ["bend"] (defScope s_step_of) := ⟨rfl, rfl, rfl, by decide +kernel, rfl, by decide +kernel, by decide +kernel⟩
theorem sc_colours_of : FnScope ["rows", "columns", "bends", "told", "i", "j", "colour", "step"] ["rows", "columns", "bends"] (defScope s_colours_of) := ⟨rfl, rfl, rfl, by decide +kernel, rfl, by decide +kernel, by decide +kernel⟩
theorem sc_bends_by_colours : FnScope ["rows", "columns", "colours", "told", "i", "j", "gap"] ["rows", "columns", "colours"] (defScope s_bends_by_colours) := ⟨rfl, rfl, rfl, by decide +kernel, rfl, by decide +kernel, by decide +kernel⟩
theorem sc__law_state : FnScope ["script", "seed", "cell"] ["script"] (defScope s__law_state) := ⟨rfl, rfl, rfl, by decide +kernel, rfl, by decide +kernel, by decide +kernel⟩
theorem sc__law_draw : FnScope ["state", "many", "cells", "mixed", "value"] ["state", "many"] (defScope s__law_draw) := ⟨rfl, rfl, rfl, by decide +kernel, rfl, by decide +kernel, by decide +kernel⟩
theorem sc__law_pick : FnScope ["state", "row"] ["state", "row"] (defScope s__law_pick) := ⟨rfl, rfl, rfl, by decide +kernel, rfl, by decide +kernel, by decide +kernel⟩
theorem sc__law_eq : FnScope ["told", "due", "k"] ["told", "due"] (defScope s__law_eq) := ⟨rfl, rfl, rfl, by decide +kernel, rfl, by decide +kernel, by decide +kernel⟩
theorem sc__law_at : FnScope ["r", "c", "bends", "i", "j", "rungs", "rails", "k"] ["r", "c", "bends", "i", "j"] (defScope s__law_at) := ⟨rfl, rfl, rfl, by decide +kernel, rfl, by decide +kernel, by decide +kernel⟩
theorem sc__law_wrong : FnScope ["kind", "r", "c", "bends", "told", "i", "j", "four", "sharp"] ["kind", "r", "c", "bends"] (defScope s__law_wrong) := ⟨rfl, rfl, rfl, by decide +kernel, rfl, by decide +kernel, by decide +kernel⟩
theorem sc__law_colouring : FnScope ["state", "r", "c", "told", "k", "shut", "one"] ["state", "r", "c"] (defScope s__law_colouring) := ⟨rfl, rfl, rfl, by decide +kernel, rfl, by decide +kernel, by decide +kernel⟩
theorem sc__law_by : FnScope ["r", "c", "colours", "told", "k", "i", "j", "step"] ["r", "c", "colours"] (defScope s__law_by) := ⟨rfl, rfl, rfl, by decide +kernel, rfl, by decide +kernel, by decide +kernel⟩
theorem sc__law_count : FnScope ["r", "c", "rows", "k", "fits", "told", "step", "more", "row", "fit", "one", "a", "b"] ["r", "c"] (defScope s__law_count) := ⟨rfl, rfl, rfl, by decide +kernel, rfl, by decide +kernel, by decide +kernel⟩
theorem sc_law : FnScope ["script", "state", "turn", "many", "colours", "bends", "step", "power", "k", "r", "c", "text", "kind", "at", "wrong", "i", "j", "one"] ["script"] (defScope s_law) := ⟨rfl, rfl, rfl, by decide +kernel, rfl, by decide +kernel, by decide +kernel⟩
noncomputable def m_count_creases : MS := (mRetS (mBin fAdd (mBin fMul (mBin fSub (mVar 0) (mC (.int 1))) (mVar 1)) (mBin fMul (mVar 0) (mBin fSub (mVar 1) (mC (.int 1))))))
noncomputable def f_count_creases : Fn := runFn 2 0 m_count_creases
noncomputable def m_rung : MS := (mRetS (mBin fAdd (mBin fMul (mVar 1) (mVar 0)) (mVar 2)))
noncomputable def f_rung : Fn := runFn 3 0 m_rung
noncomputable def m_rail : MS := (mRetS (mBin fAdd (mBin fAdd (mBin fMul (mBin fSub (mVar 0) (mC (.int 1))) (mVar 1)) (mBin fMul (mVar 2) (mBin fSub (mVar 1) (mC (.int 1))))) (mVar 3)))
noncomputable def f_rail : Fn := runFn 4 0 m_rail
noncomputable def m_corner_bends : MS := (mThen (mPar 5 6 (mBin fIx (mVar 2) (mCall f_rung (mArgs [(mVar 1), (mVar 3), (mVar 4)]))) (mBin fIx (mVar 2) (mCall f_rung (mArgs [(mVar 1), (mVar 3), (mBin fAdd (mVar 4) (mC (.int 1)))]))))
    (mRetS (mBin fAdd (mBin fAdd (mBin fAdd (mVar 5) (mBin fIx (mVar 2) (mCall f_rail (mArgs [(mVar 0), (mVar 1), (mVar 3), (mVar 4)])))) (mVar 6)) (mBin fIx (mVar 2) (mCall f_rail (mArgs [(mVar 0), (mVar 1), (mBin fAdd (mVar 3) (mC (.int 1))), (mVar 4)]))))))
noncomputable def f_corner_bends : Fn := runFn 5 2 m_corner_bends
noncomputable def m_is_right_corner : MS := (mThen (mIfS (mTest (mBin fNotIn (mMethT "str" fCount (mVar 2) [(mC (.str [117]))]) (mTup [(mC (.int 1)), (mC (.int 3))]))) (mRetS (mC (.bl false))) mSkip)
    (mThen (mSet 3 (mIf (mTest (mBin fEq (mBin fMod (mVar 1) (mC (.int 2))) (mC (.int 0)))) (mBin fIx (mVar 2) (mC (.int 0))) (mBin fIx (mVar 2) (mC (.int 2)))))
    (mRetS (mOrV (mBin fEq (mVar 0) (mC (.str [115, 113, 117, 97, 114, 101, 115]))) (mNotV (mChain fEq fEq (mVar 3) (mBin fIx (mVar 2) (mC (.int 1))) (mBin fIx (mVar 2) (mC (.int 3)))))))))
noncomputable def f_is_right_corner : Fn := runFn 3 1 m_is_right_corner
noncomputable def m_wrong_corners : MS := (mThen (mSet 4 (mLst []))
    (mThen (mFor (mItA fRng1 [(mBin fSub (mVar 1) (mC (.int 1)))]) (tgN 5) (mFor (mItA fRng1 [(mBin fSub (mVar 2) (mC (.int 1)))]) (tgN 6) (mIfS (mNot (mTru (mCall f_is_right_corner (mArgs [(mVar 0), (mVar 5), (mCall f_corner_bends (mArgs [(mVar 1), (mVar 2), (mVar 3), (mVar 5), (mVar 6)]))])))) (mDrop (mMut "list" fAppend (mVar 4) [(mTup [(mVar 5), (mVar 6)])])) mSkip)))
    (mRetS (mVar 4))))
noncomputable def f_wrong_corners : Fn := runFn 4 3 m_wrong_corners
noncomputable def m_is_right_net : MS := (mThen (mIfS (mOr (mTest (mBin fNe (mPrim fLen (mArgs [(mVar 3)])) (mCall f_count_creases (mArgs [(mVar 1), (mVar 2)])))) (mNot (mTru (mPrim fAll (mArgs [(mLc (mIt (mVar 3)) (tgN 4) mYes (mBin fIn (mVar 4) (mC (.str [117, 100]))) [4])]))))) (mRetS (mC (.bl false))) mSkip)
    (mRetS (mBin fEq (mPrim fLen (mArgs [(mCall f_wrong_corners (mArgs [(mVar 0), (mVar 1), (mVar 2), (mVar 3)]))])) (mC (.int 0)))))
noncomputable def f_is_right_net : Fn := runFn 4 1 m_is_right_net
noncomputable def m_colour_rows : MS := (mThen (mSet 1 (mLst [(mTup [])]))
    (mThen (mFor (mItA fRng1 [(mVar 0)]) (tgN 2) (mSet 1 (mLc2 (mIt (mVar 1)) (tgN 3) mYes (mItA fRng1 [(mC (.int 3))]) (tgN 4) (mOr (mTest (mBin fEq (mPrim fLen (mArgs [(mVar 3)])) (mC (.int 0)))) (mTest (mBin fNe (mBin fIx (mVar 3) (mUn fNeg (mC (.int 1)))) (mVar 4)))) (mBin fAdd (mVar 3) (mTup [(mVar 4)])) [3, 4] [4])))
    (mRetS (mVar 1))))
noncomputable def f_colour_rows : Fn := runFn 1 4 m_colour_rows
noncomputable def m_count_nets : MS := (mThen (mIfS (mTest (mBin fEq (mVar 0) (mC (.str [115, 113, 117, 97, 114, 101, 115])))) (mRetS (mBin fShl (mC (.int 1)) (mBin fSub (mCall f_count_creases (mArgs [(mVar 1), (mVar 2)])) (mBin fMul (mBin fSub (mVar 1) (mC (.int 1))) (mBin fSub (mVar 2) (mC (.int 1))))))) mSkip)
    (mThen (mSet 3 (mCall f_colour_rows (mArgs [(mVar 2)])))
    (mThen (mSet 4 (mDc (mIt (mVar 3)) (tgN 8) mYes (mVar 8) (mLc (mIt (mVar 3)) (tgN 10) (mTru (mPrim fAll (mArgs [(mLc (mItA fZ2 [(mVar 8), (mVar 10)]) (tgT (tgCons (tgN 11) (tgCons (tgN 12) tgNil))) mYes (mBin fNe (mVar 11) (mVar 12)) [11, 12])]))) (mVar 10) [10]) [8]))
    (mThen (mSet 5 (mDc (mIt (mVar 3)) (tgN 8) mYes (mVar 8) (mC (.int 1)) [8]))
    (mThen (mFor (mItA fRng1 [(mBin fSub (mVar 1) (mC (.int 1)))]) (tgN 6) (mThen (mSet 7 mDNew)
    (mThen (mFor (mItI (mVar 5)) (tgT (tgCons (tgN 8) (tgCons (tgN 9) tgNil))) (mFor (mIt (mBin fIx (mVar 4) (mVar 8))) (tgN 10) (mAsg (tgSub (mVar 7) (mVar 10)) (mBin fAdd (mMethT "dict" fDGet (mVar 7) [(mVar 10), (mC (.int 0))]) (mVar 9)))))
    (mSet 5 (mVar 7)))))
    (mRetS (mBin fDiv (mUn fSumV (mVar 5)) (mC (.int 3)))))))))
noncomputable def f_count_nets : Fn := runFn 3 10 m_count_nets
noncomputable def m_step_of : MS := (mRetS (mIf (mTest (mBin fEq (mVar 0) (mC (.str [117])))) (mC (.int 1)) (mUn fNeg (mC (.int 1)))))
noncomputable def f_step_of : Fn := runFn 1 0 m_step_of
noncomputable def m_colours_of : MS := (mThen (mSet 3 (mLst []))
    (mThen (mFor (mItA fRng1 [(mVar 0)]) (tgN 4) (mFor (mItA fRng1 [(mVar 1)]) (tgN 5) (mThen (mIfS (mAnd (mTest (mBin fEq (mVar 4) (mC (.int 0)))) (mTest (mBin fEq (mVar 5) (mC (.int 0))))) (mSet 6 (mC (.int 0))) (mIfS (mTest (mBin fEq (mVar 5) (mC (.int 0)))) (mSet 6 (mBin fAdd (mBin fIx (mVar 3) (mBin fMul (mBin fSub (mVar 4) (mC (.int 1))) (mVar 1))) (mCall f_step_of (mArgs [(mBin fIx (mVar 2) (mCall f_rung (mArgs [(mVar 1), (mBin fSub (mVar 4) (mC (.int 1))), (mC (.int 0))])))])))) (mThen (mSet 7 (mCall f_step_of (mArgs [(mBin fIx (mVar 2) (mCall f_rail (mArgs [(mVar 0), (mVar 1), (mVar 4), (mBin fSub (mVar 5) (mC (.int 1)))])))])))
    (mSet 6 (mBin fAdd (mBin fIx (mVar 3) (mUn fNeg (mC (.int 1)))) (mIf (mTest (mBin fEq (mBin fMod (mVar 4) (mC (.int 2))) (mC (.int 1)))) (mVar 7) (mUn fNeg (mVar 7))))))))
    (mDrop (mMut "list" fAppend (mVar 3) [(mBin fMod (mVar 6) (mC (.int 3)))])))))
    (mRetS (mPrim fTuple (mArgs [(mVar 3)])))))
noncomputable def f_colours_of : Fn := runFn 3 5 m_colours_of
noncomputable def m_bends_by_colours : MS := (mThen (mSet 3 (mC (.str [])))
    (mThen (mFor (mItA fRng1 [(mBin fSub (mVar 0) (mC (.int 1)))]) (tgN 4) (mFor (mItA fRng1 [(mVar 1)]) (tgN 5) (mThen (mSet 6 (mBin fSub (mBin fIx (mVar 2) (mBin fAdd (mBin fMul (mBin fAdd (mVar 4) (mC (.int 1))) (mVar 1)) (mVar 5))) (mBin fIx (mVar 2) (mBin fAdd (mBin fMul (mVar 4) (mVar 1)) (mVar 5)))))
    (mSet 3 (mBin fAdd (mVar 3) (mIf (mTest (mBin fEq (mBin fMod (mVar 6) (mC (.int 3))) (mC (.int 1)))) (mC (.str [117])) (mC (.str [100]))))))))
    (mThen (mFor (mItA fRng1 [(mVar 0)]) (tgN 4) (mFor (mItA fRng1 [(mBin fSub (mVar 1) (mC (.int 1)))]) (tgN 5) (mThen (mSet 6 (mBin fSub (mBin fIx (mVar 2) (mBin fAdd (mBin fAdd (mBin fMul (mVar 4) (mVar 1)) (mVar 5)) (mC (.int 1)))) (mBin fIx (mVar 2) (mBin fAdd (mBin fMul (mVar 4) (mVar 1)) (mVar 5)))))
    (mSet 3 (mBin fAdd (mVar 3) (mIf (mTest (mBin fEq (mBin fMod (mVar 6) (mC (.int 3))) (mIf (mTest (mBin fEq (mBin fMod (mVar 4) (mC (.int 2))) (mC (.int 1)))) (mC (.int 1)) (mC (.int 2))))) (mC (.str [117])) (mC (.str [100]))))))))
    (mRetS (mVar 3)))))
noncomputable def f_bends_by_colours : Fn := runFn 3 4 m_bends_by_colours
noncomputable def m__law_pick : MS := (mRetS (mBin fIx (mVar 1) (mCall f__law_draw (mArgs [(mVar 0), (mPrim fLen (mArgs [(mVar 1)]))]))))
noncomputable def f__law_pick : Fn := runFn 2 0 m__law_pick
noncomputable def M__law_eq (Fself : Fn) : MS := (mThen (mIfS (mOr (mTru (mPrim fIsi (mArgs [(mVar 1), (mC (.cv (.ty "list")))]))) (mTru (mPrim fIsi (mArgs [(mVar 1), (mC (.cv (.ty "tuple")))])))) (mThen (mIfS (mOr (mTest (mBin fNe (mPrim fIsi (mArgs [(mVar 0), (mC (.cv (.ty "list")))])) (mPrim fIsi (mArgs [(mVar 1), (mC (.cv (.ty "list")))])))) (mTest (mBin fNe (mPrim fIsi (mArgs [(mVar 0), (mC (.cv (.ty "tuple")))])) (mPrim fIsi (mArgs [(mVar 1), (mC (.cv (.ty "tuple")))]))))) (mRetS (mC (.bl false))) mSkip)
    (mThen (mIfS (mTest (mBin fNe (mPrim fLen (mArgs [(mVar 0)])) (mPrim fLen (mArgs [(mVar 1)])))) (mRetS (mC (.bl false))) mSkip)
    (mRetS (mBin fEq (mLc (mItA fRng1 [(mPrim fLen (mArgs [(mVar 1)]))]) (tgN 2) (mNot (mTru (mCall Fself (mArgs [(mBin fIx (mVar 0) (mVar 2)), (mBin fIx (mVar 1) (mVar 2))])))) (mVar 2) [2]) (mLst []))))) mSkip)
    (mThen (mIfS (mTest (mBin fIsN (mVar 1) (mC .non))) (mRetS (mBin fIsN (mVar 0) (mC .non))) mSkip)
    (mThen (mIfS (mTru (mPrim fIsi (mArgs [(mVar 1), (mC (.cv (.ty "str")))]))) (mRetS (mAndV (mPrim fIsi (mArgs [(mVar 0), (mC (.cv (.ty "str")))])) (mBin fEq (mVar 0) (mVar 1)))) mSkip)
    (mThen (mIfS (mTru (mPrim fIsi (mArgs [(mVar 1), (mC (.cv (.ty "bool")))]))) (mRetS (mAndV (mPrim fIsi (mArgs [(mVar 0), (mC (.cv (.ty "bool")))])) (mBin fEq (mVar 0) (mVar 1)))) mSkip)
    (mRetS (mAndV (mPrim fIsi (mArgs [(mVar 0), (mC (.cv (.ty "int")))])) (mAndV (mNotV (mPrim fIsi (mArgs [(mVar 0), (mC (.cv (.ty "bool")))]))) (mBin fEq (mVar 0) (mVar 1)))))))))
noncomputable def F__law_eq : Nat → Fn
  | 0 => fun _ _ => none
  | n + 1 => runFn 2 1 (M__law_eq (F__law_eq n))
noncomputable abbrev f__law_eq : Fn := F__law_eq 20
noncomputable def m__law_at : MS := (mThen (mSet 5 (mBin fMul (mBin fSub (mVar 0) (mC (.int 1))) (mVar 1)))
    (mThen (mSet 6 (mLc (mIt (mTup [(mVar 3), (mBin fAdd (mVar 3) (mC (.int 1)))])) (tgN 7) mYes (mBin fIx (mVar 2) (mBin fAdd (mBin fAdd (mVar 5) (mBin fMul (mVar 7) (mBin fSub (mVar 1) (mC (.int 1))))) (mVar 4))) [7]))
    (mRetS (mBin fAdd (mBin fAdd (mBin fAdd (mBin fIx (mVar 2) (mBin fAdd (mBin fMul (mVar 3) (mVar 1)) (mVar 4))) (mBin fIx (mVar 6) (mC (.int 0)))) (mBin fIx (mVar 2) (mBin fAdd (mBin fAdd (mBin fMul (mVar 3) (mVar 1)) (mVar 4)) (mC (.int 1))))) (mBin fIx (mVar 6) (mC (.int 1)))))))
noncomputable def f__law_at : Fn := runFn 5 3 m__law_at
noncomputable def m__law_wrong : MS := (mThen (mSet 4 (mLst []))
    (mThen (mFor (mItA fRng1 [(mBin fSub (mVar 1) (mC (.int 1)))]) (tgN 5) (mFor (mItA fRng1 [(mBin fSub (mVar 2) (mC (.int 1)))]) (tgN 6) (mThen (mSet 7 (mCall f__law_at (mArgs [(mVar 1), (mVar 2), (mVar 3), (mVar 5), (mVar 6)])))
    (mThen (mSet 8 (mIf (mTest (mBin fEq (mBin fMod (mVar 5) (mC (.int 2))) (mC (.int 0)))) (mBin fIx (mVar 7) (mC (.int 0))) (mBin fIx (mVar 7) (mC (.int 2)))))
    (mIfS (mOr (mTest (mBin fNotIn (mMethT "str" fCount (mVar 7) [(mC (.str [117]))]) (mTup [(mC (.int 1)), (mC (.int 3))]))) (mAnd (mTest (mBin fEq (mVar 0) (mC (.str [109, 105, 117, 114, 97])))) (mTest (mChain fEq fEq (mBin fIx (mVar 7) (mC (.int 1))) (mBin fIx (mVar 7) (mC (.int 3))) (mVar 8))))) (mDrop (mMut "list" fAppend (mVar 4) [(mTup [(mVar 5), (mVar 6)])])) mSkip)))))
    (mRetS (mVar 4))))
noncomputable def f__law_wrong : Fn := runFn 4 5 m__law_wrong
noncomputable def m__law_colouring : MS := (mThen (mSet 3 (mLst []))
    (mThen (mFor (mItA fRng1 [(mBin fMul (mVar 1) (mVar 2))]) (tgN 4) (mThen (mSet 5 (mBin fAdd (mIf (mTest (mBin fGt (mBin fMod (mVar 4) (mVar 2)) (mC (.int 0)))) (mLst [(mBin fIx (mVar 3) (mBin fSub (mVar 4) (mC (.int 1))))]) (mLst [])) (mIf (mTest (mBin fGe (mVar 4) (mVar 2))) (mLst [(mBin fIx (mVar 3) (mBin fSub (mVar 4) (mVar 2)))]) (mLst []))))
    (mDrop (mMut "list" fAppend (mVar 3) [(mCall f__law_pick (mArgs [(mVar 0), (mLc (mItA fRng1 [(mC (.int 3))]) (tgN 6) (mTest (mBin fNotIn (mVar 6) (mVar 5))) (mVar 6) [6])]))]))))
    (mRetS (mPrim fTuple (mArgs [(mVar 3)])))))
noncomputable def f__law_colouring : Fn := runFn 3 4 m__law_colouring
noncomputable def m__law_by : MS := (mThen (mSet 3 (mC (.str [])))
    (mThen (mFor (mItA fRng1 [(mBin fMul (mBin fSub (mVar 0) (mC (.int 1))) (mVar 1))]) (tgN 4) (mSet 3 (mBin fAdd (mVar 3) (mIf (mTest (mBin fEq (mBin fMod (mBin fSub (mBin fIx (mVar 2) (mBin fAdd (mVar 4) (mVar 1))) (mBin fIx (mVar 2) (mVar 4))) (mC (.int 3))) (mC (.int 1)))) (mC (.str [117])) (mC (.str [100]))))))
    (mThen (mFor (mItA fRng1 [(mVar 0)]) (tgN 5) (mFor (mItA fRng1 [(mBin fSub (mVar 1) (mC (.int 1)))]) (tgN 6) (mThen (mSet 7 (mBin fMod (mBin fSub (mBin fIx (mVar 2) (mBin fAdd (mBin fAdd (mBin fMul (mVar 5) (mVar 1)) (mVar 6)) (mC (.int 1)))) (mBin fIx (mVar 2) (mBin fAdd (mBin fMul (mVar 5) (mVar 1)) (mVar 6)))) (mC (.int 3))))
    (mSet 3 (mBin fAdd (mVar 3) (mIf (mTest (mBin fEq (mVar 7) (mIf (mTest (mBin fEq (mBin fMod (mVar 5) (mC (.int 2))) (mC (.int 1)))) (mC (.int 1)) (mC (.int 2))))) (mC (.str [117])) (mC (.str [100]))))))))
    (mRetS (mVar 3)))))
noncomputable def f__law_by : Fn := runFn 3 5 m__law_by
noncomputable def m__law_count : MS := (mThen (mSet 2 (mLst [(mTup [])]))
    (mThen (mFor (mItA fRng1 [(mVar 1)]) (tgN 3) (mThen (mSet 7 (mLst []))
    (mThen (mFor (mIt (mVar 2)) (tgN 8) (mSet 7 (mBin fAdd (mVar 7) (mLc (mItA fRng1 [(mC (.int 3))]) (tgN 10) (mOr (mTest (mBin fEq (mVar 8) (mTup []))) (mTest (mBin fNe (mBin fIx (mVar 8) (mUn fNeg (mC (.int 1)))) (mVar 10)))) (mBin fAdd (mVar 8) (mTup [(mVar 10)])) [10]))))
    (mSet 2 (mVar 7)))))
    (mThen (mSet 4 (mLc (mIt (mVar 2)) (tgN 8) mYes (mLc (mItA fRng1 [(mPrim fLen (mArgs [(mVar 2)]))]) (tgN 3) (mTest (mBin fEq (mLc (mItA fZ2 [(mBin fIx (mVar 2) (mVar 3)), (mVar 8)]) (tgT (tgCons (tgN 11) (tgCons (tgN 12) tgNil))) (mTest (mBin fEq (mVar 11) (mVar 12))) (mC (.int 1)) [11, 12]) (mLst []))) (mVar 3) [3]) [8]))
    (mThen (mSet 5 (mBin fMul (mLst [(mC (.int 1))]) (mPrim fLen (mArgs [(mVar 2)]))))
    (mThen (mFor (mItA fRng1 [(mBin fSub (mVar 0) (mC (.int 1)))]) (tgN 6) (mSet 5 (mLc (mIt (mVar 4)) (tgN 9) mYes (mPrim fSum (mArgs [(mLc (mIt (mVar 9)) (tgN 3) mYes (mBin fIx (mVar 5) (mVar 3)) [3])])) [9])))
    (mRetS (mPrim fInt (mArgs [(mBin fDiv (mPrim fSum (mArgs [(mVar 5)])) (mC (.int 3)))]))))))))
noncomputable def f__law_count : Fn := runFn 2 11 m__law_count
noncomputable def m_law : MS := (mThen (mSet 1 (mCall f__law_state (mArgs [(mVar 0)])))
    (mThen (mFor (mItA fRng1 [(mC (.int 5))]) (tgN 2) (mThen (mAsg (tgT (tgCons (tgN 9) (tgCons (tgN 10) tgNil))) (mTup [(mBin fAdd (mC (.int 1)) (mCall f__law_draw (mArgs [(mVar 1), (mC (.int 6))]))), (mBin fAdd (mC (.int 1)) (mCall f__law_draw (mArgs [(mVar 1), (mC (.int 6))])))]))
    (mThen (mSet 3 (mBin fAdd (mBin fMul (mBin fSub (mVar 9) (mC (.int 1))) (mVar 10)) (mBin fMul (mVar 9) (mBin fSub (mVar 10) (mC (.int 1))))))
    (mThen (mSet 4 (mCall f__law_colouring (mArgs [(mVar 1), (mVar 9), (mVar 10)])))
    (mThen (mSet 5 (mCall f__law_by (mArgs [(mVar 9), (mVar 10), (mVar 4)])))
    (mThen (mIfS (mNot (mTru (mCall f__law_eq (mArgs [(mLst [(mCall f_count_creases (mArgs [(mVar 9), (mVar 10)])), (mCall f_bends_by_colours (mArgs [(mVar 9), (mVar 10), (mVar 4)])), (mPrim fTuple (mArgs [(mCall f_colours_of (mArgs [(mVar 9), (mVar 10), (mVar 5)]))]))]), (mLst [(mVar 3), (mVar 5), (mPrim fTuple (mArgs [(mLc (mIt (mVar 4)) (tgN 17) mYes (mBin fMod (mBin fSub (mVar 17) (mBin fIx (mVar 4) (mC (.int 0)))) (mC (.int 3))) [17])]))])])))) (mRetS (mC (.bl false))) mSkip)
    (mThen (mIfS (mTest (mBin fNe (mCall f__law_wrong (mArgs [(mC (.str [109, 105, 117, 114, 97])), (mVar 9), (mVar 10), (mVar 5)])) (mLst []))) (mRetS (mC (.bl false))) mSkip)
    (mThen (mFor (mItA fRng1 [(mC (.int 5))]) (tgN 6) (mThen (mSet 11 (mIf (mTest (mBin fGt (mVar 6) (mC (.int 0)))) (mPrim fList (mArgs [(mVar 5)])) (mLc (mItA fRng1 [(mVar 3)]) (tgN 8) mYes (mCall f__law_pick (mArgs [(mVar 1), (mLst [(mC (.str [117])), (mC (.str [100]))])])) [8])))
    (mThen (mFor (mItA fRng1 [(mIf (mTest (mBin fNe (mVar 11) (mLst []))) (mCall f__law_draw (mArgs [(mVar 1), (mC (.int 3))])) (mC (.int 0)))]) (tgN 8) (mThen (mSet 13 (mCall f__law_draw (mArgs [(mVar 1), (mVar 3)])))
    (mAsg (tgSub (mVar 11) (mVar 13)) (mIf (mTest (mBin fEq (mBin fIx (mVar 11) (mVar 13)) (mC (.str [100])))) (mC (.str [117])) (mC (.str [100]))))))
    (mThen (mSet 11 (mMethT "str" fJoin (mC (.str [])) [(mVar 11)]))
    (mThen (mFor (mIt (mTup [(mC (.str [115, 113, 117, 97, 114, 101, 115])), (mC (.str [109, 105, 117, 114, 97]))])) (tgN 12) (mThen (mSet 14 (mCall f__law_wrong (mArgs [(mVar 12), (mVar 9), (mVar 10), (mVar 11)])))
    (mIfS (mNot (mTru (mCall f__law_eq (mArgs [(mLst [(mCall f_is_right_net (mArgs [(mVar 12), (mVar 9), (mVar 10), (mVar 11)])), (mLc (mIt (mCall f_wrong_corners (mArgs [(mVar 12), (mVar 9), (mVar 10), (mVar 11)]))) (tgN 17) mYes (mPrim fTuple (mArgs [(mVar 17)])) [17])]), (mLst [(mBin fEq (mVar 14) (mLst [])), (mVar 14)])])))) (mRetS (mC (.bl false))) mSkip)))
    (mThen (mIfS (mAnd (mTest (mBin fGt (mVar 9) (mC (.int 1)))) (mTest (mBin fGt (mVar 10) (mC (.int 1))))) (mThen (mPar 15 16 (mCall f__law_draw (mArgs [(mVar 1), (mBin fSub (mVar 9) (mC (.int 1)))])) (mCall f__law_draw (mArgs [(mVar 1), (mBin fSub (mVar 10) (mC (.int 1)))])))
    (mIfS (mNot (mTru (mCall f__law_eq (mArgs [(mCall f_corner_bends (mArgs [(mVar 9), (mVar 10), (mVar 11), (mVar 15), (mVar 16)])), (mCall f__law_at (mArgs [(mVar 9), (mVar 10), (mVar 11), (mVar 15), (mVar 16)]))])))) (mRetS (mC (.bl false))) mSkip)) mSkip)
    (mIfS (mAnd (mTest (mBin fGt (mVar 3) (mC (.int 0)))) (mTest (mBin fNe (mLc (mIt (mTup [(mSl (mVar 11) (mPart (mC (.int 1))) mNoPart), (mBin fAdd (mVar 11) (mC (.str [117]))), (mBin fAdd (mC (.str [120])) (mSl (mVar 11) (mPart (mC (.int 1))) mNoPart))])) (tgN 17) mYes (mCall f_is_right_net (mArgs [(mC (.str [109, 105, 117, 114, 97])), (mVar 9), (mVar 10), (mVar 17)])) [17]) (mBin fMul (mLst [(mC (.bl false))]) (mC (.int 3)))))) (mRetS (mC (.bl false))) mSkip)))))))
    (mThen (mAsg (tgT (tgCons (tgN 9) (tgCons (tgN 10) tgNil))) (mTup [(mBin fAdd (mC (.int 1)) (mCall f__law_draw (mArgs [(mVar 1), (mC (.int 60))]))), (mBin fAdd (mC (.int 1)) (mCall f__law_draw (mArgs [(mVar 1), (mC (.int 5))])))]))
    (mThen (mSet 7 (mC (.int 1)))
    (mThen (mFor (mItA fRng1 [(mBin fSub (mBin fAdd (mBin fMul (mBin fSub (mVar 9) (mC (.int 1))) (mVar 10)) (mBin fMul (mVar 9) (mBin fSub (mVar 10) (mC (.int 1))))) (mBin fMul (mBin fSub (mVar 9) (mC (.int 1))) (mBin fSub (mVar 10) (mC (.int 1)))))]) (tgN 8) (mSet 7 (mBin fMul (mC (.int 2)) (mVar 7))))
    (mIfS (mNot (mTru (mCall f__law_eq (mArgs [(mLst [(mCall f_count_nets (mArgs [(mC (.str [109, 105, 117, 114, 97])), (mVar 9), (mVar 10)])), (mCall f_count_nets (mArgs [(mC (.str [115, 113, 117, 97, 114, 101, 115])), (mVar 9), (mVar 10)]))]), (mLst [(mCall f__law_count (mArgs [(mVar 9), (mVar 10)])), (mVar 7)])])))) (mRetS (mC (.bl false))) mSkip))))))))))))
    (mRetS (mCall f__law_eq (mArgs [(mLst [(mCall f_count_nets (mArgs [(mC (.str [109, 105, 117, 114, 97])), (mC (.int 1)), (mC (.int 1))])), (mCall f_count_nets (mArgs [(mC (.str [109, 105, 117, 114, 97])), (mC (.int 2)), (mC (.int 2))])), (mCall f_count_nets (mArgs [(mC (.str [115, 113, 117, 97, 114, 101, 115])), (mC (.int 2)), (mC (.int 2))])), (mCall f_is_right_net (mArgs [(mC (.str [115, 113, 117, 97, 114, 101, 115])), (mC (.int 1)), (mC (.int 1)), (mC (.str []))]))]), (mLst [(mC (.int 1)), (mC (.int 6)), (mC (.int 8)), (mC (.bl true))])])))))
noncomputable def f_law : Fn := runFn 1 17 m_law
section
variable {P : Program} {w : World} {K : PySem.W.Frag} {mg : Str → Option Value} {base : Heap}
abbrev bodySeed : MS := mSet 1 (mBin fMod (mPrim fInt (mArgs [mBin fAdd (mBin fMul (mVar 1) (mC (.int 31))) (mVar 2)])) (mC (.int 1000003)))
theorem seed_step (sd n : Int) (x : D) : bodySeed ⟨[.d x, .d (.int sd), .d (.int n)], none⟩ = some (.nx, ⟨[.d x, .d (.int ((sd * 31 + n).fmod 1000003)), .d (.int n)], none⟩) := by
  have hm : CMul sd 31 := .inr ⟨by decide, by decide⟩
  simp [bodySeed, mSet, mBin, mPrim, mArgs, mVar, mC, peeks, R.peek, Sl.peek, fMul, fAdd, fInt, fMod, hm, setR]
theorem seed_loop : ∀ (ns : List Int) (sd : Int) (x : D) (o : Sl), ∃ o', mLoop (tgN 2) bodySeed (ns.map .int) ⟨[.d x, .d (.int sd), o], none⟩ = some (.nx, ⟨[.d x, .d (.int (ns.foldl (fun s c => (s * 31 + c).fmod 1000003) sd)), o'], none⟩)
  | [], sd, x, o => ⟨o, rfl⟩
  | n :: ns, sd, x, o => by
    obtain ⟨o', e⟩ := seed_loop ns ((sd * 31 + n).fmod 1000003) x (.d (.int n))
    refine ⟨o', ?_⟩
    rw [List.map_cons, List.foldl_cons, ← e]
    show ((tgN 2 (.int n) ⟨[.d x, .d (.int sd), o], none⟩).bind fun s1 => (bodySeed s1).bind fun p => bodyF (mLoop (tgN 2) bodySeed (ns.map .int)) p.1 p.2) = _
    have e1 : tgN 2 (.int n) ⟨[.d x, .d (.int sd), o], none⟩ = some ⟨[.d x, .d (.int sd), .d (.int n)], none⟩ := rfl
    rw [e1, Option.bind_some, seed_step]; rfl
abbrev eltAbs : M R := mPrim fAbs (mArgs [mVar 2])
theorem abs_loop : ∀ (ns : List Int) (x y : D), lcLoop (tgN 2) mYes eltAbs [2] (ns.map .int) ⟨[.d x, .d y, .no], none⟩ = some (ns.map fun n => .int (absI n), ⟨[.d x, .d y, .no], none⟩)
  | [], x, y => rfl
  | n :: ns, x, y => by
    have ih := abs_loop ns x y
    have e1 : eltAbs ⟨[.d x, .d y, .d (.int n)], none⟩ = some (.d (.int (absI n)), ⟨[.d x, .d y, .d (.int n)], none⟩) := rfl
    show ((tgN 2 (.int n) ⟨[.d x, .d y, .no], none⟩).bind fun s1 => (mYes s1).bind fun p => if p.1 = true then (eltAbs p.2).bind fun r => (mShare r.1 r.2).bind fun q => (lcLoop (tgN 2) mYes eltAbs [2] (ns.map .int) (wipeS [2] q.2)).bind fun z => some (q.1 :: z.1, z.2) else lcLoop (tgN 2) mYes eltAbs [2] (ns.map .int) (wipeS [2] p.2)) = _
    have e0 : tgN 2 (.int n) ⟨[.d x, .d y, .no], none⟩ = some ⟨[.d x, .d y, .d (.int n)], none⟩ := rfl
    rw [e0, Option.bind_some]
    show ((eltAbs ⟨[.d x, .d y, .d (.int n)], none⟩).bind fun r => (mShare r.1 r.2).bind fun q => (lcLoop (tgN 2) mYes eltAbs [2] (ns.map .int) (wipeS [2] q.2)).bind fun z => some (q.1 :: z.1, z.2)) = _
    rw [e1, Option.bind_some]
    have e2 : mShare (.d (.int (absI n))) ⟨[.d x, .d y, .d (.int n)], none⟩ = some (.int (absI n), ⟨[.d x, .d y, .d (.int n)], none⟩) := rfl
    show ((mShare (.d (.int (absI n))) ⟨[.d x, .d y, .d (.int n)], none⟩).bind fun q => _) = _
    rw [e2, Option.bind_some]
    have e3 : wipeS [2] ⟨[.d x, .d y, .d (.int n)], none⟩ = ⟨[.d x, .d y, .no], none⟩ := rfl
    show ((lcLoop (tgN 2) mYes eltAbs [2] (ns.map .int) (wipeS [2] ⟨[.d x, .d y, .d (.int n)], none⟩)).bind fun z => _) = _
    rw [e3, ih]; rfl
abbrev pre1 : MS := mSet 1 (mC (.int 7))
abbrev pre2 : MS := mFor (mIt (mVar 0)) (tgN 2) bodySeed
theorem pre_run (ns : List Int) : ∃ o', mThen pre1 pre2 ⟨[.d (.scr ns), .no, .no], none⟩ = some (.nx, ⟨[.d (.scr ns), .d (.int (seedOf ns)), o'], none⟩) := by
  obtain ⟨o', e⟩ := seed_loop ns 7 (.scr ns) .no
  exact ⟨o', e⟩
abbrev mCells : M R := mLc (mIt (mVar 0)) (tgN 2) mYes eltAbs [2]
theorem cells_run (ns : List Int) (y : D) (o : Sl) (h : ns.length ≤ sizeLine) : mCells ⟨[.d (.scr ns), .d y, o], none⟩ = some (.t (.l (ns.map fun n => .int (absI n))), ⟨[.d (.scr ns), .d y, o], none⟩) := by
  show ((lcLoop (tgN 2) mYes eltAbs [2] (ns.map .int) (wipeS [2] ⟨[.d (.scr ns), .d y, o], none⟩)).bind fun q => _) = _
  have e3 : wipeS [2] ⟨[.d (.scr ns), .d y, o], none⟩ = ⟨[.d (.scr ns), .d y, .no], none⟩ := rfl
  rw [e3, abs_loop, Option.bind_some, if_pos (by simpa using h)]
  rfl
theorem intsD_map : ∀ ns : List Int, intsD (ns.map .int) = some ns
  | [] => rfl
  | n :: ns => by rw [List.map_cons]; unfold intsD; rw [intsD_map ns]; rfl
theorem ok_law_stateS {f : Addr} {fd : FuncData} {k : Nat} (F : Fun K "_law_state" "_law_state" s__law_state f fd) (za : mg "abs" = none) (zi : mg "int" = none) : FnOk P w K mg base CX0 (k + 1) f fd ["script"] (spF w K f__law_state 1) := by
  refine F.ok sc__law_state (fun vs H Q E ⟨g, ds, xs, _, _, hl, _⟩ => hl) (fun cdv A outer s H vs Q E hr h => ?_)
  refine ⟨_, pss_cons (s_set (i := 1) (me := mC (.int 7)) sc__law_state.nd e_int)
    (pss_cons (s_for (ts := [2]) PassesOwn.never rfl (i_val (e_v 0)) (g_n 2 sc__law_state.nd) (ss_one (s_set (i := 1) sc__law_state.nd (e_mod (e_ct call_int1 o_int (by rfl) zi rfl (a_cons (e_add (e_mul (e_v 1) e_int) (e_v 2)) a_nil)) e_int))))
    (pss_one (ps_ret (pe_lst (pa_cons (e_lc (ts := [2]) rfl sc__law_state.nd (blkOk_by (own := [("cell", 2)]) (by kernel_rfl)) (i_val (e_v 0)) (fun _ _ _ _ _ => g_n 2 sc__law_state.nd) (fun _ _ _ _ _ => ts_nil) (fun _ _ _ _ _ => e_cb call_abs o_abs (by rfl) za rfl (a_cons (e_v 2) a_nil))) (pa_cons (e_add (e_v 1) e_int) pa_nil)))))), ?_⟩
  obtain ⟨g, ds, xs, GH, RL, hl, r, ds', e, q⟩ := h
  obtain ⟨G, own⟩ := fn_start (N := ["script", "seed", "cell"]) GH RL hl (by decide)
  unfold f__law_state at e
  split at e
  · rename_i ns
    split at e
    · rename_i hz
      cases e
      obtain ⟨o', e1⟩ := pre_run ns
      unfold mThen at e1
      obtain ⟨⟨fl, s1⟩, e2, e3⟩ := Option.bind_eq_some_iff.mp e1
      cases e2
      refine ⟨g, _, G, .nx, _, rfl, fun σ1 g1 H1 G1 E1 => ?_⟩
      refine ⟨g1, _, G1, .nx, _, e3, fun σ2 g2 H2 G2 E2 => ?_⟩
      refine LE.use G2 (cells_run ns _ o' hz) fun v3 g3 H3 G3 E3 R3 => ?_
      cases R3 with
      | t h0 ho hn =>
        rename_i A0
        have e4 : mBin fAdd (mVar 1) (mC (.int 1)) ⟨[.d (.scr ns), .d (.int (seedOf ns)), o'], none⟩ = some (.d (.int (seedOf ns + 1)), ⟨[.d (.scr ns), .d (.int (seedOf ns)), o'], none⟩) := rfl
        refine LE.use G3 e4 fun v4 g4 H4 G4 E4 R4 => ?_
        have R3' := (RR.t h0 ho hn).step E4
        cases R4 with
        | d h4 =>
          cases h4
          refine ⟨by show 2 ≤ sizeLine; decide, fun p hp => ?_⟩
          cases R3' with
          | t _ ho4 hn4 =>
            obtain ⟨vs5, hA, ra⟩ := ho4.at_
            have hne : p ≠ A0 := fun z => by rw [z, hA] at hp; cases hp
            have E24 := ((E1.trans E2).trans E3).trans E4
            have hst : g4.st = none := G4.ds
            have hcells : vs5 = (ns.map absI).map V.int := intsD_rep (by have := intsD_map (ns.map absI); rw [List.map_map] at this; exact this) ra
            have hnone : H A0 = none := E1.dom _ (E2.dom _ h0)
            have hpn : H p = none := E24.dom p hp
            have hFp : g4.F p = none := G4.fr.none hp
            have ext : Ext (StA g) g H (StA ⟨g4.F, some (p, A0)⟩) ⟨g4.F, some (p, A0)⟩ (upd H4 p (.lst [.ref A0, .int (seedOf ns + 1)])) := by
              refine ⟨fun b o hb n => ?_, fun b hb => ?_, E24.mono, fun b o h1 h2 => ?_, fun b hb => ?_, fun z hz => ?_⟩
              · rw [upd_ne (show b ≠ p from fun z => by rw [z, hpn] at hb; cases hb)]
                exact E24.pr b o hb fun z => n (own b z)
              · by_cases z : b = p
                · rw [z]; exact hpn
                · rw [upd_ne z] at hb; exact E24.dom b hb
              · exact (E24.newF b o h1 h2).elim .inl fun z => z.elim (fun y => .inr (.inl (own b y))) fun y => .inr (.inr y)
              · obtain ⟨sa, ca, e9, hh⟩ := hb
                cases e9
                exact hh.elim (fun z => .inr (by rw [z]; exact hpn)) fun z => .inr (by rw [z]; exact hnone)
              · have : g.st = none := GH.ds
                rw [this] at hz; cases hz
            have gh : GoodH ⟨g4.F, some (p, A0)⟩ (some ⟨ns.map absI, seedOf ns + 1⟩) (upd H4 p (.lst [.ref A0, .int (seedOf ns + 1)])) := by
              refine ⟨fun b o hb => ?_, p, A0, rfl, hne, upd_same, ?_, hFp, ho4.nf⟩
              · rw [upd_ne (show b ≠ p from fun z => by rw [z] at hb; rw [show g4.F p = some o from hb] at hFp; cases hFp)]
                exact G4.fr b o hb
              · rw [upd_ne hne.symm, hA, hcells]
            exact q (.ref p) _ _ ext gh (.d (.st rfl))
    · cases e
  · cases e

theorem iteP {c : Prop} [Decidable c] {a b : Prop} (h : c) (x : a) : if c then a else b := by rw [if_pos h]; exact x
theorem len_pos {α : Type} (c : α) (l : List α) : decide ((0 : Int) < ((c :: l).length : Nat)) = true := decide_eq_true (by rw [List.length_cons]; omega)
theorem ixN_0 (c : Int) (l : List Int) : ixN ((c :: l).map V.int).length 0 = some 0 := by
  unfold ixN
  rw [if_pos (by decide), if_pos (by rw [List.length_map, List.length_cons]; omega)]; rfl
theorem draw_fin {g : Gh} {d d' : DS} {H H' : Hp} {sa ca : Addr} (GH : GoodH g (some d) H) (hst : g.st = some (sa, ca)) (h1 : H' sa = some (.lst [.ref ca, .int d'.seed])) (h2 : H' ca = some (.lst (d'.cells.map V.int))) (h3 : ∀ b, b ≠ sa → b ≠ ca → H' b = H b) :
    Ext (StA g) g H (StA g) g H' ∧ GoodH g (some d') H' := by
  obtain ⟨sa', ca', e1, ne, q1, q2, f1, f2⟩ := GH.ds
  rw [hst] at e1
  cases e1
  refine ⟨⟨fun b o hb n => ?_, fun b hb => ?_, Sub.refl _, fun b o z z' => (by rw [z] at z'; cases z'), fun b hb => .inl hb, StLe.refl _⟩, fun b o hb => ?_, sa, ca, hst, ne, h1, h2, f1, f2⟩
  · rw [h3 b (fun z => n ⟨sa, ca, hst, .inl z⟩) (fun z => n ⟨sa, ca, hst, .inr z⟩)]; exact hb
  · by_cases z : b = sa
    · rw [z, h1] at hb; cases hb
    · by_cases z2 : b = ca
      · rw [z2, h2] at hb; cases hb
      · rw [← h3 b z z2]; exact hb
  · have z : b ≠ sa := fun z => by rw [z, f1] at hb; cases hb
    have z2 : b ≠ ca := fun z => by rw [z, f2] at hb; cases hb
    rw [h3 b z z2]; exact GH.fr b o hb
theorem ok_law_drawS {f : Addr} {fd : FuncData} {k : Nat} (F : Fun K "_law_draw" "_law_draw" s__law_draw f fd) (zl : mg "len" = none) (zi : mg "int" = none) : FnOk P w K mg base CX0 (k + 1) f fd ["state", "many"] (spF w K f__law_draw 2) := by
  have nd := sc__law_draw.nd
  refine F.ok sc__law_draw (fun vs H Q E ⟨g, ds, xs, _, _, hl, _⟩ => hl) (fun cdv A outer s H vs Q E hr h => ?_)
  refine ⟨_, pss_cons (ps_set (i := 2) nd rfl (.inl rfl) (pe_ix ix_list (pv 0) pe_int (fun _ _ => rfl)))
    (pss_cons (ps_while PassesOwn.never (pw_and (pt_cmpR op_gt (pe_callB call_len (by rfl) zl PySem.boot_len (pa_cons (pv 2) pa_nil)) pe_int (nomark _)) (pw_and1 (pt_cmpR op_eq (pe_ix ix_list (pv 2) pe_int (fun _ _ => rfl)) pe_int (nomark _)))).pt
      (pss_one (ps_expr (pe_bm PySem.F.plainAttrs_list PySem.F.slot_list_pop PySem.F.type_list_pop mt_popAt (pv 2) (pa_cons pe_int pa_nil)))))
    (pss_cons (ps_if (pt_cmpR op_gt (pe_callB call_len (by rfl) zl PySem.boot_len (pa_cons (pv 2) pa_nil)) pe_int (nomark _))
      (pss_cons (ps_set (i := 4) nd rfl (.inl rfl) (pe_ix ix_list (pv 2) pe_int (fun _ _ => rfl)))
        (pss_cons (ps_asg (pe_op op_fdivN (pv 4) (pv 1)) (pg_sub (pv 2) pe_int set_list))
          (pss_one (ps_ret (pe_op op_modN (pe_callTy call_int1 (by rfl) zi rfl (pa_cons (pv 4) pa_nil)) (pv 1)))))) pss_nil)
    (pss_cons (ps_set (i := 3) nd rfl (.inl rfl) (pe_op op_modN (pe_callTy call_int1 (by rfl) zi rfl (pa_cons (pe_op op_add (pe_op op_mul (pe_ix ix_list (pv 0) pe_int (fun _ _ => rfl)) pe_int) pe_int) pa_nil)) pe_int))
    (pss_cons (ps_asg (pv 3) (pg_sub (pv 0) pe_int set_list))
    (pss_one (ps_ret (pe_op op_modN (pe_callTy call_int1 (by rfl) zi rfl (pa_cons (pe_op op_fdivN (pv 3) pe_int) pa_nil)) (pv 1)))))))), ?_⟩
  obtain ⟨g, ds, xs, GH, RL, hl, r, ds', e, q⟩ := h
  unfold f__law_draw at e
  split at e
  · rename_i many d
    split at e
    · rename_i hm
      cases e
      obtain ⟨sa, ca, hst, ne, h1, h2, f1, f2⟩ := GH.ds
      have ev : vs = [.ref sa, .int many] := by
        cases RL with
        | cons a b =>
          cases b with
          | cons b c =>
            cases c
            cases b
            cases a with
            | st e => rw [hst] at e; cases e; rfl
      subst ev
      -- cells = state[0]
      refine ⟨.ref sa, rfl, sa, [.ref ca, .int d.seed], 0, .ref ca, rfl, rfl, SqL.of h1, rfl, ?_⟩
      -- while
      refine ⟨fun m σ H1 => ∃ l : List Int, σ = [some (.ref sa), some (.int many), some (.ref ca), none, none] ∧ m = l.length ∧ H1 sa = some (.lst [.ref ca, .int d.seed]) ∧ H1 ca = some (.lst (l.map V.int)) ∧ (∀ b, b ≠ sa → b ≠ ca → H1 b = H b) ∧ dropZ l = dropZ d.cells,
        ⟨_, d.cells, rfl, rfl, h1, h2, fun _ _ _ => rfl, rfl⟩, ?_⟩
      rintro m σ H1 ⟨l, rfl, rfl, q1, q2, q3, q4⟩
      refine ⟨.ref ca, rfl, .ref ca, (l.map V.int).length, rfl, .inl ⟨_, SqL.of q2, rfl⟩, ?_⟩
      refine ⟨_, 0, rfl, rfl, _, rfl, ?_⟩
      cases l with
      | nil =>
        refine iteF (iteF ?_)
        -- the cells are used up
        refine ⟨.ref ca, rfl, .ref ca, 0, rfl, .inl ⟨_, SqL.of q2, rfl⟩, ?_⟩
        refine ⟨_, 0, rfl, rfl, _, rfl, iteF ?_⟩
        refine ⟨.ref sa, rfl, sa, _, 1, .int d.seed, rfl, rfl, SqL.of q1, rfl, ?_⟩
        refine ⟨d.seed, 48271, rfl, rfl, .inr ⟨by decide, by decide⟩, ?_⟩
        refine ⟨_, _, rfl, rfl, .inl ⟨_, rfl, ?_⟩⟩
        refine ⟨_, _, rfl, rfl, show (2147483647 : Int) ≠ 0 by decide, ?_⟩
        refine ⟨_, rfl, .ref sa, rfl, sa, _, _, 1, rfl, rfl, q1, rfl, ?_⟩
        have e0 : drawR d.cells d.seed many = ((((d.seed * 48271 + 12345).fmod 2147483647).fdiv 64).fmod many, ⟨[], (d.seed * 48271 + 12345).fmod 2147483647⟩) := by
          unfold drawR; rw [← q4]; rfl
        refine ⟨_, rfl, _, _, rfl, rfl, ⟨by decide, by decide⟩, ?_⟩
        refine .inl ⟨_, rfl, .int many, rfl, _, _, rfl, rfl, by omega, ?_⟩
        rw [e0] at q
        have := draw_fin (d' := ⟨[], (d.seed * 48271 + 12345).fmod 2147483647⟩) (H' := upd H1 sa (.lst [.ref ca, .int ((d.seed * 48271 + 12345).fmod 2147483647)])) GH hst upd_same (by rw [upd_ne ne.symm]; exact q2) (fun b n1 n2 => by rw [upd_ne n1]; exact q3 b n1 n2)
        exact q _ g _ this.1 this.2 (.d (.int _))
      | cons c l =>
        refine iteP (by rw [List.length_map]; exact len_pos c l) ?_
        refine ⟨.ref ca, rfl, ca, _, 0, .int c, rfl, rfl, SqL.of q2, atI_nat (j := 0) rfl, ?_⟩
        refine ⟨rfl, _, rfl, ?_⟩
        by_cases hc : c = 0
        · subst hc
          refine iteT ⟨fun σ' H' => ∃ m', m' < (0 :: l).length ∧ ∃ l' : List Int, σ' = [some (.ref sa), some (.int many), some (.ref ca), none, none] ∧ m' = l'.length ∧ H' sa = some (.lst [.ref ca, .int d.seed]) ∧ H' ca = some (.lst (l'.map V.int)) ∧ (∀ b, b ≠ sa → b ≠ ca → H' b = H b) ∧ dropZ l' = dropZ d.cells, fun σ' H' h => h, ?_⟩
          refine ⟨.ref ca, rfl, .inl ⟨rfl, _, SqL.of q2⟩, ca, _, 0, 0, _, rfl, rfl, q2, by decide, by decide, by rw [List.length_map]; exact seqIndex_of (k := 0) (by decide) (by rw [List.length_cons]; omega), rfl, ?_⟩
          refine ⟨l.length, Nat.lt_succ_self _, l, rfl, rfl, by rw [upd_ne ne]; exact q1, upd_same, fun b n1 n2 => by rw [upd_ne n2]; exact q3 b n1 n2, q4⟩
        · have e1 : decide (V.int c = V.int 0) = false := decide_eq_false fun z => hc (V.int.inj z)
          rw [e1]
          refine iteF ?_
          refine ⟨.ref ca, rfl, .ref ca, _, rfl, .inl ⟨_, SqL.of q2, rfl⟩, ?_⟩
          refine ⟨_, 0, rfl, rfl, _, rfl, iteP (by rw [List.length_map]; exact len_pos c l) ?_⟩
          refine ⟨.ref ca, rfl, ca, _, 0, .int c, rfl, rfl, SqL.of q2, atI_nat (j := 0) rfl, ?_⟩
          have hd : drawR d.cells d.seed many = (c.fmod many, ⟨c.fdiv many :: l, d.seed⟩) := by
            have ez : dropZ (c :: l) = c :: l := by
              unfold dropZ
              split
              · rename_i e9; cases e9; exact absurd rfl hc
              · rfl
            unfold drawR; rw [← q4, ez]
          rw [hd] at q
          refine ⟨_, rfl, .int many, rfl, _, _, rfl, rfl, ⟨by omega, by omega⟩, ?_⟩
          refine ⟨.ref ca, rfl, ca, _, 0, 0, rfl, rfl, q2, ixN_0 _ _, ?_⟩
          refine ⟨_, rfl, .inl ⟨_, rfl, .int many, rfl, _, _, rfl, rfl, by omega, ?_⟩⟩
          have := draw_fin (d' := ⟨c.fdiv many :: l, d.seed⟩) (H' := upd H1 ca (.lst (((c :: l).map V.int).set 0 (.int (c.fdiv many))))) GH hst (by rw [upd_ne ne]; exact q1) upd_same (fun b n1 n2 => by rw [upd_ne n2]; exact q3 b n1 n2)
          exact q _ g _ this.1 this.2 (.d (.int _))
    · cases e
  · cases e
end

structure Txt (K : PySem.W.Frag) (mg : Str → Option Value) where
  f_count_creases : Addr
  d_count_creases : FuncData
  f_rung : Addr
  d_rung : FuncData
  f_rail : Addr
  d_rail : FuncData
  f_corner_bends : Addr
  d_corner_bends : FuncData
  f_is_right_corner : Addr
  d_is_right_corner : FuncData
  f_wrong_corners : Addr
  d_wrong_corners : FuncData
  f_is_right_net : Addr
  d_is_right_net : FuncData
  f_colour_rows : Addr
  d_colour_rows : FuncData
  f_count_nets : Addr
  d_count_nets : FuncData
  f_step_of : Addr
  d_step_of : FuncData
  f_colours_of : Addr
  d_colours_of : FuncData
  f_bends_by_colours : Addr
  d_bends_by_colours : FuncData
  f__law_state : Addr
  d__law_state : FuncData
  f__law_draw : Addr
  d__law_draw : FuncData
  f__law_pick : Addr
  d__law_pick : FuncData
  f__law_eq : Addr
  d__law_eq : FuncData
  f__law_at : Addr
  d__law_at : FuncData
  f__law_wrong : Addr
  d__law_wrong : FuncData
  f__law_colouring : Addr
  d__law_colouring : FuncData
  f__law_by : Addr
  d__law_by : FuncData
  f__law_count : Addr
  d__law_count : FuncData
  f_law : Addr
  d_law : FuncData
  h_count_creases : Has K mg "count_creases" s_count_creases ["rows", "columns"] f_count_creases d_count_creases
  h_rung : Has K mg "rung" s_rung ["columns", "i", "j"] f_rung d_rung
  h_rail : Has K mg "rail" s_rail ["rows", "columns", "i", "j"] f_rail d_rail
  h_corner_bends : Has K mg "corner_bends" s_corner_bends ["rows", "columns", "bends", "i", "j"] f_corner_bends d_corner_bends
  h_is_right_corner : Has K mg "is_right_corner" s_is_right_corner ["kind", "i", "four"] f_is_right_corner d_is_right_corner
  h_wrong_corners : Has K mg "wrong_corners" s_wrong_corners ["kind", "rows", "columns", "bends"] f_wrong_corners d_wrong_corners
  h_is_right_net : Has K mg "is_right_net" s_is_right_net ["kind", "rows", "columns", "bends"] f_is_right_net d_is_right_net
  h_colour_rows : Has K mg "colour_rows" s_colour_rows ["columns"] f_colour_rows d_colour_rows
  h_count_nets : Has K mg "count_nets" s_count_nets ["kind", "rows", "columns"] f_count_nets d_count_nets
  h_step_of : Has K mg "step_of" s_step_of ["bend"] f_step_of d_step_of
  h_colours_of : Has K mg "colours_of" s_colours_of ["rows", "columns", "bends"] f_colours_of d_colours_of
  h_bends_by_colours : Has K mg "bends_by_colours" s_bends_by_colours ["rows", "columns", "colours"] f_bends_by_colours d_bends_by_colours
  h__law_state : Has K mg "_law_state" s__law_state ["script"] f__law_state d__law_state
  h__law_draw : Has K mg "_law_draw" s__law_draw ["state", "many"] f__law_draw d__law_draw
  h__law_pick : Has K mg "_law_pick" s__law_pick ["state", "row"] f__law_pick d__law_pick
  h__law_eq : Has K mg "_law_eq" s__law_eq ["told", "due"] f__law_eq d__law_eq
  h__law_at : Has K mg "_law_at" s__law_at ["r", "c", "bends", "i", "j"] f__law_at d__law_at
  h__law_wrong : Has K mg "_law_wrong" s__law_wrong ["kind", "r", "c", "bends"] f__law_wrong d__law_wrong
  h__law_colouring : Has K mg "_law_colouring" s__law_colouring ["state", "r", "c"] f__law_colouring d__law_colouring
  h__law_by : Has K mg "_law_by" s__law_by ["r", "c", "colours"] f__law_by d__law_by
  h__law_count : Has K mg "_law_count" s__law_count ["r", "c"] f__law_count d__law_count
  h_law : Has K mg "law" s_law ["script"] f_law d_law
  z_abs : mg "abs" = none
  z_all : mg "all" = none
  z_bool : mg "bool" = none
  z_int : mg "int" = none
  z_isinstance : mg "isinstance" = none
  z_len : mg "len" = none
  z_list : mg "list" = none
  z_range : mg "range" = none
  z_str : mg "str" = none
  z_sum : mg "sum" = none
  z_tuple : mg "tuple" = none
  z_zip : mg "zip" = none
section
variable {P : Program} {w : World} {K : PySem.W.Frag} {mg : Str → Option Value} {base : Heap} (T : Txt K mg)
include T
theorem ok_count_creases : FnOk P w K mg base CX0 1 T.f_count_creases T.d_count_creases ["rows", "columns"] (spF w K f_count_creases 2) :=
  fn_ok (N := ["rows", "columns"]) (k := 0) T.h_count_creases.fn sc_count_creases (by decide) (fun cdv A outer s H E hr =>
    (ss_one (s_ret (e_add (e_mul (e_sub (e_v 0) e_int) (e_v 1)) (e_mul (e_v 0) (e_sub (e_v 1) e_int))))))
theorem ok_rung : FnOk P w K mg base CX0 1 T.f_rung T.d_rung ["columns", "i", "j"] (spF w K f_rung 3) :=
  fn_ok (N := ["columns", "i", "j"]) (k := 0) T.h_rung.fn sc_rung (by decide) (fun cdv A outer s H E hr =>
    (ss_one (s_ret (e_add (e_mul (e_v 1) (e_v 0)) (e_v 2)))))
theorem ok_rail : FnOk P w K mg base CX0 1 T.f_rail T.d_rail ["rows", "columns", "i", "j"] (spF w K f_rail 4) :=
  fn_ok (N := ["rows", "columns", "i", "j"]) (k := 0) T.h_rail.fn sc_rail (by decide) (fun cdv A outer s H E hr =>
    (ss_one (s_ret (e_add (e_add (e_mul (e_sub (e_v 0) e_int) (e_v 1)) (e_mul (e_v 2) (e_sub (e_v 1) e_int))) (e_v 3)))))
theorem ok_corner_bends : FnOk P w K mg base CX0 2 T.f_corner_bends T.d_corner_bends ["rows", "columns", "bends", "i", "j"] (spF w K f_corner_bends 5) :=
  fn_ok (N := ["rows", "columns", "bends", "i", "j", "left", "right"]) (k := 1) T.h_corner_bends.fn sc_corner_bends (by decide) (fun cdv A outer s H E hr =>
    (ss_cons (s_par (i := 5) (j := 6) rfl sc_corner_bends.nd (e_ix hr.units (e_v 2) (e_call ((ok_rung T).mono (by decide)) hr (by rfl) T.h_rung.mg T.h_rung.fn.kp T.h_rung.bd (a_cons (e_v 1) (a_cons (e_v 3) (a_cons (e_v 4) a_nil))))) (e_ix hr.units (e_v 2) (e_call ((ok_rung T).mono (by decide)) hr (by rfl) T.h_rung.mg T.h_rung.fn.kp T.h_rung.bd (a_cons (e_v 1) (a_cons (e_v 3) (a_cons (e_add (e_v 4) e_int) a_nil))))))
    (ss_one (s_ret (e_add (e_add (e_add (e_v 5) (e_ix hr.units (e_v 2) (e_call ((ok_rail T).mono (by decide)) hr (by rfl) T.h_rail.mg T.h_rail.fn.kp T.h_rail.bd (a_cons (e_v 0) (a_cons (e_v 1) (a_cons (e_v 3) (a_cons (e_v 4) a_nil))))))) (e_v 6)) (e_ix hr.units (e_v 2) (e_call ((ok_rail T).mono (by decide)) hr (by rfl) T.h_rail.mg T.h_rail.fn.kp T.h_rail.bd (a_cons (e_v 0) (a_cons (e_v 1) (a_cons (e_add (e_v 3) e_int) (a_cons (e_v 4) a_nil)))))))))))
theorem ok_is_right_corner : FnOk P w K mg base CX0 1 T.f_is_right_corner T.d_is_right_corner ["kind", "i", "four"] (spF w K f_is_right_corner 3) :=
  fn_ok (N := ["kind", "i", "four", "sharp"]) (k := 0) T.h_is_right_corner.fn sc_is_right_corner (by decide) (fun cdv A outer s H E hr =>
    (ss_cons (s_if (t_cmp (c_notin (room65 hr)) (e_mr PySem.F.plainAttrs_str PySem.F.slot_str_count PySem.F.type_str_count mt_count o_count (e_v 2) (d_cons (e_str [117]) d_nil)) (e_tup (d_cons e_int (d_cons e_int d_nil)))) (ss_one (s_ret e_bl)) ss_nil)
    (ss_cons (s_set (i := 3) sc_is_right_corner.nd (e_if (t_cmp (c_eq hr.units) (e_mod (e_v 1) e_int) e_int) (e_ix hr.units (e_v 2) e_int) (e_ix hr.units (e_v 2) e_int)))
    (ss_one (s_ret (e_or (e_cmp (c_eq hr.units) (e_v 0) (e_str [115, 113, 117, 97, 114, 101, 115])) (e_one (e_not (e_chain (c_eq hr.units) (c_eq hr.units) (e_v 3) (e_ix hr.units (e_v 2) e_int) (e_ix hr.units (e_v 2) e_int))))))))))
theorem ok_wrong_corners : FnOk P w K mg base CX0 3 T.f_wrong_corners T.d_wrong_corners ["kind", "rows", "columns", "bends"] (spF w K f_wrong_corners 4) :=
  fn_ok (N := ["kind", "rows", "columns", "bends", "told", "i", "j"]) (k := 2) T.h_wrong_corners.fn sc_wrong_corners (by decide) (fun cdv A outer s H E hr =>
    (ss_cons (s_set (i := 4) sc_wrong_corners.nd (e_lst d_nil))
    (ss_cons (s_for (ts := [5]) PassesOwn.never rfl (i_rng1 (by rfl) T.z_range (d_cons (e_sub (e_v 1) e_int) d_nil)) (g_n 5 sc_wrong_corners.nd) (ss_one (s_for (ts := [6]) PassesOwn.never rfl (i_rng1 (by rfl) T.z_range (d_cons (e_sub (e_v 2) e_int) d_nil)) (g_n 6 sc_wrong_corners.nd) (ss_one (s_if (t_not (t_tru (e_call ((ok_is_right_corner T).mono (by decide)) hr (by rfl) T.h_is_right_corner.mg T.h_is_right_corner.fn.kp T.h_is_right_corner.bd (a_cons (e_v 0) (a_cons (e_v 5) (a_cons (e_call ((ok_corner_bends T).mono (by decide)) hr (by rfl) T.h_corner_bends.mg T.h_corner_bends.fn.kp T.h_corner_bends.bd (a_cons (e_v 1) (a_cons (e_v 2) (a_cons (e_v 3) (a_cons (e_v 5) (a_cons (e_v 6) a_nil)))))) a_nil)))))) (ss_one (s_expr (e_mm PySem.F.plainAttrs_list PySem.F.slot_list_append PySem.F.type_list_append mt_append o_append (e_v 4) (d_cons (e_tup (d_cons (e_v 5) (d_cons (e_v 6) d_nil))) d_nil)))) ss_nil)))))
    (ss_one (s_ret (e_v 4))))))
theorem ok_is_right_net : FnOk P w K mg base CX0 4 T.f_is_right_net T.d_is_right_net ["kind", "rows", "columns", "bends"] (spF w K f_is_right_net 4) :=
  fn_ok (N := ["kind", "rows", "columns", "bends", "bend"]) (k := 3) T.h_is_right_net.fn sc_is_right_net (by decide) (fun cdv A outer s H E hr =>
    (ss_cons (s_if (t_w (t_or (t_cmp (c_ne hr.units) (e_cb call_len o_len (by rfl) T.z_len rfl (a_cons (e_v 3) a_nil)) (e_call ((ok_count_creases T).mono (by decide)) hr (by rfl) T.h_count_creases.mg T.h_count_creases.fn.kp T.h_count_creases.bd (a_cons (e_v 1) (a_cons (e_v 2) a_nil)))) (t_or1 (t_not (t_tru (e_cb (cr_all rfl) o_all (by rfl) T.z_all rfl (a_cons (e_lc (ts := [4]) rfl sc_is_right_net.nd (blkOk_by (own := [("bend", 4)]) (by kernel_rfl)) (i_val (e_v 3)) (fun _ _ _ _ _ => (g_n 4 sc_is_right_net.nd)) (fun _ _ _ _ _ => ts_nil) (fun _ _ _ _ _ => (e_cmp (c_in (room65 hr)) (e_v 4) (e_str [117, 100])))) a_nil))))))) (ss_one (s_ret e_bl)) ss_nil)
    (ss_one (s_ret (e_cmp (c_eq hr.units) (e_cb call_len o_len (by rfl) T.z_len rfl (a_cons (e_call ((ok_wrong_corners T).mono (by decide)) hr (by rfl) T.h_wrong_corners.mg T.h_wrong_corners.fn.kp T.h_wrong_corners.bd (a_cons (e_v 0) (a_cons (e_v 1) (a_cons (e_v 2) (a_cons (e_v 3) a_nil))))) a_nil)) e_int)))))
theorem ok_colour_rows : FnOk P w K mg base CX0 1 T.f_colour_rows T.d_colour_rows ["columns"] (spF w K f_colour_rows 1) :=
  fn_ok (N := ["columns", "found", "_", "row", "c"]) (k := 0) T.h_colour_rows.fn sc_colour_rows (by decide) (fun cdv A outer s H E hr =>
    (ss_cons (s_set (i := 1) sc_colour_rows.nd (e_lst (d_cons (e_tup d_nil) d_nil)))
    (ss_cons (s_for (ts := [2]) PassesOwn.never rfl (i_rng1 (by rfl) T.z_range (d_cons (e_v 0) d_nil)) (g_n 2 sc_colour_rows.nd) (ss_one (s_lc2 (i := 1) (ts := [3]) (ts1 := [4]) (vs1 := [4]) rfl sc_colour_rows.nd (blkOk_by (own := [("row", 3), ("c", 4)]) (by kernel_rfl)) (i_val (e_v 1)) (fun _ _ _ _ _ => (g_n 3 sc_colour_rows.nd)) (fun _ _ _ _ _ => ts_nil) (fun _ _ _ _ _ => (i_rng1 (by rfl) T.z_range (d_cons e_int d_nil))) (fun _ _ _ _ _ => (g_n 4 sc_colour_rows.nd)) (fun _ _ _ _ _ => (ts_one (t_w (t_or (t_cmp (c_eq hr.units) (e_cb call_len o_len (by rfl) T.z_len rfl (a_cons (e_v 3) a_nil)) e_int) (t_or1 (t_cmp (c_ne hr.units) (e_ix hr.units (e_v 3) (e_neg e_int)) (e_v 4))))))) (fun _ _ _ _ _ => (e_add (e_v 3) (e_tup (d_cons (e_v 4) d_nil)))))))
    (ss_one (s_ret (e_v 1))))))
theorem ok_count_nets : FnOk P w K mg base CX0 2 T.f_count_nets T.d_count_nets ["kind", "rows", "columns"] (spF w K f_count_nets 3) :=
  fn_ok (N := ["kind", "rows", "columns", "every", "below", "here", "_", "after", "row", "count", "other", "a", "b"]) (k := 1) T.h_count_nets.fn sc_count_nets (by decide) (fun cdv A outer s H E hr =>
    (ss_cons (s_if (t_cmp (c_eq hr.units) (e_v 0) (e_str [115, 113, 117, 97, 114, 101, 115])) (ss_one (s_ret (e_shl e_int (e_sub (e_call ((ok_count_creases T).mono (by decide)) hr (by rfl) T.h_count_creases.mg T.h_count_creases.fn.kp T.h_count_creases.bd (a_cons (e_v 1) (a_cons (e_v 2) a_nil))) (e_mul (e_sub (e_v 1) e_int) (e_sub (e_v 2) e_int)))))) ss_nil)
    (ss_cons (s_set (i := 3) sc_count_nets.nd (e_call ((ok_colour_rows T).mono (by decide)) hr (by rfl) T.h_colour_rows.mg T.h_colour_rows.fn.kp T.h_colour_rows.bd (a_cons (e_v 2) a_nil)))
    (ss_cons (s_dc (i := 4) (ts := [8]) hr.units rfl sc_count_nets.nd (blkOk_by (own := [("row", 8)]) (by kernel_rfl)) (i_val (e_v 3)) (fun _ _ _ _ _ => (g_n 8 sc_count_nets.nd)) (fun _ _ _ _ _ => ts_nil) (fun _ _ _ _ _ => (e_v 8)) (fun _ _ _ _ _ => (e_lc (ts := [10]) rfl sc_count_nets.nd (blkOk_by (own := [("other", 10)]) (by kernel_rfl)) (i_val (e_v 3)) (fun _ _ _ _ _ => (g_n 10 sc_count_nets.nd)) (fun _ _ _ _ _ => (ts_one (t_tru (e_cb (cr_all rfl) o_all (by rfl) T.z_all rfl (a_cons (e_lc (ts := [11, 12]) rfl sc_count_nets.nd (blkOk_by (own := [("a", 11), ("b", 12)]) (by kernel_rfl)) (i_z2 (by rfl) T.z_zip (d_cons (e_v 8) (d_cons (e_v 10) d_nil))) (fun _ _ _ _ _ => (g_t rfl (gs_cons (g_n 11 sc_count_nets.nd) (gs_cons (g_n 12 sc_count_nets.nd) gs_nil)) (tgCons_len (tgCons_len (fun _ _ _ h => tgNil_len h))))) (fun _ _ _ _ _ => ts_nil) (fun _ _ _ _ _ => (e_cmp (c_ne hr.units) (e_v 11) (e_v 12)))) a_nil))))) (fun _ _ _ _ _ => (e_v 10)))))
    (ss_cons (s_dc (i := 5) (ts := [8]) hr.units rfl sc_count_nets.nd (blkOk_by (own := [("row", 8)]) (by kernel_rfl)) (i_val (e_v 3)) (fun _ _ _ _ _ => (g_n 8 sc_count_nets.nd)) (fun _ _ _ _ _ => ts_nil) (fun _ _ _ _ _ => (e_v 8)) (fun _ _ _ _ _ => e_int))
    (ss_cons (s_for (ts := [6]) PassesOwn.never rfl (i_rng1 (by rfl) T.z_range (d_cons (e_sub (e_v 1) e_int) d_nil)) (g_n 6 sc_count_nets.nd) (ss_cons (s_set (i := 7) sc_count_nets.nd e_dnew)
    (ss_cons (s_for (ts := [8, 9]) PassesOwn.never rfl (i_itm (e_v 5)) (g_t rfl (gs_cons (g_n 8 sc_count_nets.nd) (gs_cons (g_n 9 sc_count_nets.nd) gs_nil)) (tgCons_len (tgCons_len (fun _ _ _ h => tgNil_len h)))) (ss_one (s_for (ts := [10]) PassesOwn.never rfl (i_val (e_ix hr.units (e_v 4) (e_v 8))) (g_n 10 sc_count_nets.nd) (ss_one (s_asg (ts := []) (e_add (e_mr PySem.F.plainAttrs_dict PySem.F.slot_dict_get PySem.F.type_dict_get (mt_dget hr.units) o_dget (e_v 7) (d_cons (e_v 10) (d_cons e_int d_nil))) (e_v 9)) (g_sub hr.units (e_v 7) (e_v 10)))))))
    (ss_one (s_set (i := 5) sc_count_nets.nd (e_v 7))))))
    (ss_one (s_ret (e_div (e_sumV rfl (by rfl) T.z_sum rfl (e_v 5)) e_int)))))))))
theorem ok_step_of : FnOk P w K mg base CX0 1 T.f_step_of T.d_step_of ["bend"] (spF w K f_step_of 1) :=
  fn_ok (N := ["bend"]) (k := 0) T.h_step_of.fn sc_step_of (by decide) (fun cdv A outer s H E hr =>
    (ss_one (s_ret (e_if (t_cmp (c_eq hr.units) (e_v 0) (e_str [117])) e_int (e_neg e_int)))))
theorem ok_colours_of : FnOk P w K mg base CX0 2 T.f_colours_of T.d_colours_of ["rows", "columns", "bends"] (spF w K f_colours_of 3) :=
  fn_ok (N := ["rows", "columns", "bends", "told", "i", "j", "colour", "step"]) (k := 1) T.h_colours_of.fn sc_colours_of (by decide) (fun cdv A outer s H E hr =>
    (ss_cons (s_set (i := 3) sc_colours_of.nd (e_lst d_nil))
    (ss_cons (s_for (ts := [4]) PassesOwn.never rfl (i_rng1 (by rfl) T.z_range (d_cons (e_v 0) d_nil)) (g_n 4 sc_colours_of.nd) (ss_one (s_for (ts := [5]) PassesOwn.never rfl (i_rng1 (by rfl) T.z_range (d_cons (e_v 1) d_nil)) (g_n 5 sc_colours_of.nd) (ss_cons (s_if (t_w (t_and (t_cmp (c_eq hr.units) (e_v 4) e_int) (t_and1 (t_cmp (c_eq hr.units) (e_v 5) e_int)))) (ss_one (s_set (i := 6) sc_colours_of.nd e_int)) (ss_one (s_if (t_cmp (c_eq hr.units) (e_v 5) e_int) (ss_one (s_set (i := 6) sc_colours_of.nd (e_add (e_ix hr.units (e_v 3) (e_mul (e_sub (e_v 4) e_int) (e_v 1))) (e_call ((ok_step_of T).mono (by decide)) hr (by rfl) T.h_step_of.mg T.h_step_of.fn.kp T.h_step_of.bd (a_cons (e_ix hr.units (e_v 2) (e_call ((ok_rung T).mono (by decide)) hr (by rfl) T.h_rung.mg T.h_rung.fn.kp T.h_rung.bd (a_cons (e_v 1) (a_cons (e_sub (e_v 4) e_int) (a_cons e_int a_nil))))) a_nil))))) (ss_cons (s_set (i := 7) sc_colours_of.nd (e_call ((ok_step_of T).mono (by decide)) hr (by rfl) T.h_step_of.mg T.h_step_of.fn.kp T.h_step_of.bd (a_cons (e_ix hr.units (e_v 2) (e_call ((ok_rail T).mono (by decide)) hr (by rfl) T.h_rail.mg T.h_rail.fn.kp T.h_rail.bd (a_cons (e_v 0) (a_cons (e_v 1) (a_cons (e_v 4) (a_cons (e_sub (e_v 5) e_int) a_nil)))))) a_nil)))
    (ss_one (s_set (i := 6) sc_colours_of.nd (e_add (e_ix hr.units (e_v 3) (e_neg e_int)) (e_if (t_cmp (c_eq hr.units) (e_mod (e_v 4) e_int) e_int) (e_v 7) (e_neg (e_v 7))))))))))
    (ss_one (s_expr (e_mm PySem.F.plainAttrs_list PySem.F.slot_list_append PySem.F.type_list_append mt_append o_append (e_v 3) (d_cons (e_mod (e_v 6) e_int) d_nil))))))))
    (ss_one (s_ret (e_ct call_tuple_of o_tuple (by rfl) T.z_tuple rfl (a_cons (e_v 3) a_nil)))))))
theorem ok_bends_by_colours : FnOk P w K mg base CX0 1 T.f_bends_by_colours T.d_bends_by_colours ["rows", "columns", "colours"] (spF w K f_bends_by_colours 3) :=
  fn_ok (N := ["rows", "columns", "colours", "told", "i", "j", "gap"]) (k := 0) T.h_bends_by_colours.fn sc_bends_by_colours (by decide) (fun cdv A outer s H E hr =>
    (ss_cons (s_set (i := 3) sc_bends_by_colours.nd (e_str []))
    (ss_cons (s_for (ts := [4]) PassesOwn.never rfl (i_rng1 (by rfl) T.z_range (d_cons (e_sub (e_v 0) e_int) d_nil)) (g_n 4 sc_bends_by_colours.nd) (ss_one (s_for (ts := [5]) PassesOwn.never rfl (i_rng1 (by rfl) T.z_range (d_cons (e_v 1) d_nil)) (g_n 5 sc_bends_by_colours.nd) (ss_cons (s_set (i := 6) sc_bends_by_colours.nd (e_sub (e_ix hr.units (e_v 2) (e_add (e_mul (e_add (e_v 4) e_int) (e_v 1)) (e_v 5))) (e_ix hr.units (e_v 2) (e_add (e_mul (e_v 4) (e_v 1)) (e_v 5)))))
    (ss_one (s_set (i := 3) sc_bends_by_colours.nd (e_add (e_v 3) (e_if (t_cmp (c_eq hr.units) (e_mod (e_v 6) e_int) e_int) (e_str [117]) (e_str [100])))))))))
    (ss_cons (s_for (ts := [4]) PassesOwn.never rfl (i_rng1 (by rfl) T.z_range (d_cons (e_v 0) d_nil)) (g_n 4 sc_bends_by_colours.nd) (ss_one (s_for (ts := [5]) PassesOwn.never rfl (i_rng1 (by rfl) T.z_range (d_cons (e_sub (e_v 1) e_int) d_nil)) (g_n 5 sc_bends_by_colours.nd) (ss_cons (s_set (i := 6) sc_bends_by_colours.nd (e_sub (e_ix hr.units (e_v 2) (e_add (e_add (e_mul (e_v 4) (e_v 1)) (e_v 5)) e_int)) (e_ix hr.units (e_v 2) (e_add (e_mul (e_v 4) (e_v 1)) (e_v 5)))))
    (ss_one (s_set (i := 3) sc_bends_by_colours.nd (e_add (e_v 3) (e_if (t_cmp (c_eq hr.units) (e_mod (e_v 6) e_int) (e_if (t_cmp (c_eq hr.units) (e_mod (e_v 4) e_int) e_int) e_int e_int)) (e_str [117]) (e_str [100])))))))))
    (ss_one (s_ret (e_v 3)))))))
theorem ok__law_state : FnOk P w K mg base CX0 1 T.f__law_state T.d__law_state ["script"] (spF w K f__law_state 1) := ok_law_stateS (k := 0) T.h__law_state.fn T.z_abs T.z_int
theorem ok__law_draw : FnOk P w K mg base CX0 1 T.f__law_draw T.d__law_draw ["state", "many"] (spF w K f__law_draw 2) := ok_law_drawS (k := 0) T.h__law_draw.fn T.z_len T.z_int
theorem ok__law_pick : FnOk P w K mg base CX0 2 T.f__law_pick T.d__law_pick ["state", "row"] (spF w K f__law_pick 2) :=
  fn_ok (N := ["state", "row"]) (k := 1) T.h__law_pick.fn sc__law_pick (by decide) (fun cdv A outer s H E hr =>
    (ss_one (s_ret (e_ix hr.units (e_v 1) (e_call ((ok__law_draw T).mono (by decide)) hr (by rfl) T.h__law_draw.mg T.h__law_draw.fn.kp T.h__law_draw.bd (a_cons (e_v 0) (a_cons (e_cb call_len o_len (by rfl) T.z_len rfl (a_cons (e_v 1) a_nil)) a_nil)))))))
theorem k__law_eq : ∀ n, FnOk P w K mg base CX0 (0 + n) T.f__law_eq T.d__law_eq ["told", "due"] (spF w K (F__law_eq n) 2)
  | 0 => fn_none
  | n + 1 => by
    have ih := k__law_eq n
    show FnOk P w K mg base CX0 _ _ _ _ (spF w K (runFn 2 1 (M__law_eq (F__law_eq n))) 2)
    exact fn_ok (N := ["told", "due", "k"]) (k := 0 + n) T.h__law_eq.fn sc__law_eq (by decide) (fun cdv A outer s H E hr =>
    (ss_cons (s_if (t_w (t_or (t_tru (e_cb call_isi o_isi (by rfl) T.z_isinstance rfl (a_cons (e_v 1) (a_cons (e_ty (by rfl) T.z_list rfl) a_nil)))) (t_or1 (t_tru (e_cb call_isi o_isi (by rfl) T.z_isinstance rfl (a_cons (e_v 1) (a_cons (e_ty (by rfl) T.z_tuple rfl) a_nil))))))) (ss_cons (s_if (t_w (t_or (t_cmp (c_ne hr.units) (e_cb call_isi o_isi (by rfl) T.z_isinstance rfl (a_cons (e_v 0) (a_cons (e_ty (by rfl) T.z_list rfl) a_nil))) (e_cb call_isi o_isi (by rfl) T.z_isinstance rfl (a_cons (e_v 1) (a_cons (e_ty (by rfl) T.z_list rfl) a_nil)))) (t_or1 (t_cmp (c_ne hr.units) (e_cb call_isi o_isi (by rfl) T.z_isinstance rfl (a_cons (e_v 0) (a_cons (e_ty (by rfl) T.z_tuple rfl) a_nil))) (e_cb call_isi o_isi (by rfl) T.z_isinstance rfl (a_cons (e_v 1) (a_cons (e_ty (by rfl) T.z_tuple rfl) a_nil))))))) (ss_one (s_ret e_bl)) ss_nil)
    (ss_cons (s_if (t_cmp (c_ne hr.units) (e_cb call_len o_len (by rfl) T.z_len rfl (a_cons (e_v 0) a_nil)) (e_cb call_len o_len (by rfl) T.z_len rfl (a_cons (e_v 1) a_nil))) (ss_one (s_ret e_bl)) ss_nil)
    (ss_one (s_ret (e_cmp (c_eq hr.units) (e_lc (ts := [2]) rfl sc__law_eq.nd (blkOk_by (own := [("k", 2)]) (by kernel_rfl)) (i_rng1 (by rfl) T.z_range (d_cons (e_cb call_len o_len (by rfl) T.z_len rfl (a_cons (e_v 1) a_nil)) d_nil)) (fun _ _ _ _ _ => (g_n 2 sc__law_eq.nd)) (fun _ _ _ _ _ => (ts_one (t_not (t_tru (e_call (ih) hr (by rfl) T.h__law_eq.mg T.h__law_eq.fn.kp T.h__law_eq.bd (a_cons (e_ix hr.units (e_v 0) (e_v 2)) (a_cons (e_ix hr.units (e_v 1) (e_v 2)) a_nil))))))) (fun _ _ _ _ _ => (e_v 2))) (e_lst d_nil)))))) ss_nil)
    (ss_cons (s_if (t_cmp c_is (e_v 1) e_non) (ss_one (s_ret (e_cmp c_is (e_v 0) e_non))) ss_nil)
    (ss_cons (s_if (t_tru (e_cb call_isi o_isi (by rfl) T.z_isinstance rfl (a_cons (e_v 1) (a_cons (e_ty (by rfl) T.z_str rfl) a_nil)))) (ss_one (s_ret (e_and (e_cb call_isi o_isi (by rfl) T.z_isinstance rfl (a_cons (e_v 0) (a_cons (e_ty (by rfl) T.z_str rfl) a_nil))) (e_one (e_cmp (c_eq hr.units) (e_v 0) (e_v 1)))))) ss_nil)
    (ss_cons (s_if (t_tru (e_cb call_isi o_isi (by rfl) T.z_isinstance rfl (a_cons (e_v 1) (a_cons (e_ty (by rfl) T.z_bool rfl) a_nil)))) (ss_one (s_ret (e_and (e_cb call_isi o_isi (by rfl) T.z_isinstance rfl (a_cons (e_v 0) (a_cons (e_ty (by rfl) T.z_bool rfl) a_nil))) (e_one (e_cmp (c_eq hr.units) (e_v 0) (e_v 1)))))) ss_nil)
    (ss_one (s_ret (e_and (e_cb call_isi o_isi (by rfl) T.z_isinstance rfl (a_cons (e_v 0) (a_cons (e_ty (by rfl) T.z_int rfl) a_nil))) (e_and (e_not (e_cb call_isi o_isi (by rfl) T.z_isinstance rfl (a_cons (e_v 0) (a_cons (e_ty (by rfl) T.z_bool rfl) a_nil)))) (e_one (e_cmp (c_eq hr.units) (e_v 0) (e_v 1))))))))))))
theorem ok__law_eq : FnOk P w K mg base CX0 20 T.f__law_eq T.d__law_eq ["told", "due"] (spF w K f__law_eq 2) := k__law_eq T 20
theorem ok__law_at : FnOk P w K mg base CX0 1 T.f__law_at T.d__law_at ["r", "c", "bends", "i", "j"] (spF w K f__law_at 5) :=
  fn_ok (N := ["r", "c", "bends", "i", "j", "rungs", "rails", "k"]) (k := 0) T.h__law_at.fn sc__law_at (by decide) (fun cdv A outer s H E hr =>
    (ss_cons (s_set (i := 5) sc__law_at.nd (e_mul (e_sub (e_v 0) e_int) (e_v 1)))
    (ss_cons (s_lc (i := 6) (ts := [7]) rfl sc__law_at.nd (blkOk_by (own := [("k", 7)]) (by kernel_rfl)) (i_val (e_tup (d_cons (e_v 3) (d_cons (e_add (e_v 3) e_int) d_nil)))) (fun _ _ _ _ _ => (g_n 7 sc__law_at.nd)) (fun _ _ _ _ _ => ts_nil) (fun _ _ _ _ _ => (e_ix hr.units (e_v 2) (e_add (e_add (e_v 5) (e_mul (e_v 7) (e_sub (e_v 1) e_int))) (e_v 4)))))
    (ss_one (s_ret (e_add (e_add (e_add (e_ix hr.units (e_v 2) (e_add (e_mul (e_v 3) (e_v 1)) (e_v 4))) (e_ix hr.units (e_v 6) e_int)) (e_ix hr.units (e_v 2) (e_add (e_add (e_mul (e_v 3) (e_v 1)) (e_v 4)) e_int))) (e_ix hr.units (e_v 6) e_int)))))))
theorem ok__law_wrong : FnOk P w K mg base CX0 2 T.f__law_wrong T.d__law_wrong ["kind", "r", "c", "bends"] (spF w K f__law_wrong 4) :=
  fn_ok (N := ["kind", "r", "c", "bends", "told", "i", "j", "four", "sharp"]) (k := 1) T.h__law_wrong.fn sc__law_wrong (by decide) (fun cdv A outer s H E hr =>
    (ss_cons (s_set (i := 4) sc__law_wrong.nd (e_lst d_nil))
    (ss_cons (s_for (ts := [5]) PassesOwn.never rfl (i_rng1 (by rfl) T.z_range (d_cons (e_sub (e_v 1) e_int) d_nil)) (g_n 5 sc__law_wrong.nd) (ss_one (s_for (ts := [6]) PassesOwn.never rfl (i_rng1 (by rfl) T.z_range (d_cons (e_sub (e_v 2) e_int) d_nil)) (g_n 6 sc__law_wrong.nd) (ss_cons (s_set (i := 7) sc__law_wrong.nd (e_call ((ok__law_at T).mono (by decide)) hr (by rfl) T.h__law_at.mg T.h__law_at.fn.kp T.h__law_at.bd (a_cons (e_v 1) (a_cons (e_v 2) (a_cons (e_v 3) (a_cons (e_v 5) (a_cons (e_v 6) a_nil)))))))
    (ss_cons (s_set (i := 8) sc__law_wrong.nd (e_if (t_cmp (c_eq hr.units) (e_mod (e_v 5) e_int) e_int) (e_ix hr.units (e_v 7) e_int) (e_ix hr.units (e_v 7) e_int)))
    (ss_one (s_if (t_w (t_or (t_cmp (c_notin (room65 hr)) (e_mr PySem.F.plainAttrs_str PySem.F.slot_str_count PySem.F.type_str_count mt_count o_count (e_v 7) (d_cons (e_str [117]) d_nil)) (e_tup (d_cons e_int (d_cons e_int d_nil)))) (t_or1 (t_w (t_and (t_cmp (c_eq hr.units) (e_v 0) (e_str [109, 105, 117, 114, 97])) (t_and1 (t_chain (c_eq hr.units) (c_eq hr.units) (e_ix hr.units (e_v 7) e_int) (e_ix hr.units (e_v 7) e_int) (e_v 8)))))))) (ss_one (s_expr (e_mm PySem.F.plainAttrs_list PySem.F.slot_list_append PySem.F.type_list_append mt_append o_append (e_v 4) (d_cons (e_tup (d_cons (e_v 5) (d_cons (e_v 6) d_nil))) d_nil)))) ss_nil)))))))
    (ss_one (s_ret (e_v 4))))))
theorem ok__law_colouring : FnOk P w K mg base CX0 3 T.f__law_colouring T.d__law_colouring ["state", "r", "c"] (spF w K f__law_colouring 3) :=
  fn_ok (N := ["state", "r", "c", "told", "k", "shut", "one"]) (k := 2) T.h__law_colouring.fn sc__law_colouring (by decide) (fun cdv A outer s H E hr =>
    (ss_cons (s_set (i := 3) sc__law_colouring.nd (e_lst d_nil))
    (ss_cons (s_for (ts := [4]) PassesOwn.never rfl (i_rng1 (by rfl) T.z_range (d_cons (e_mul (e_v 1) (e_v 2)) d_nil)) (g_n 4 sc__law_colouring.nd) (ss_cons (s_set (i := 5) sc__law_colouring.nd (e_add (e_if (t_cmp c_gt (e_mod (e_v 4) (e_v 2)) e_int) (e_lst (d_cons (e_ix hr.units (e_v 3) (e_sub (e_v 4) e_int)) d_nil)) (e_lst d_nil)) (e_if (t_cmp c_ge (e_v 4) (e_v 2)) (e_lst (d_cons (e_ix hr.units (e_v 3) (e_sub (e_v 4) (e_v 2))) d_nil)) (e_lst d_nil))))
    (ss_one (s_expr (e_mm PySem.F.plainAttrs_list PySem.F.slot_list_append PySem.F.type_list_append mt_append o_append (e_v 3) (d_cons (e_call ((ok__law_pick T).mono (by decide)) hr (by rfl) T.h__law_pick.mg T.h__law_pick.fn.kp T.h__law_pick.bd (a_cons (e_v 0) (a_cons (e_lc (ts := [6]) rfl sc__law_colouring.nd (blkOk_by (own := [("one", 6)]) (by kernel_rfl)) (i_rng1 (by rfl) T.z_range (d_cons e_int d_nil)) (fun _ _ _ _ _ => (g_n 6 sc__law_colouring.nd)) (fun _ _ _ _ _ => (ts_one (t_cmp (c_notin (room65 hr)) (e_v 6) (e_v 5)))) (fun _ _ _ _ _ => (e_v 6))) a_nil))) d_nil))))))
    (ss_one (s_ret (e_ct call_tuple_of o_tuple (by rfl) T.z_tuple rfl (a_cons (e_v 3) a_nil)))))))
theorem ok__law_by : FnOk P w K mg base CX0 1 T.f__law_by T.d__law_by ["r", "c", "colours"] (spF w K f__law_by 3) :=
  fn_ok (N := ["r", "c", "colours", "told", "k", "i", "j", "step"]) (k := 0) T.h__law_by.fn sc__law_by (by decide) (fun cdv A outer s H E hr =>
    (ss_cons (s_set (i := 3) sc__law_by.nd (e_str []))
    (ss_cons (s_for (ts := [4]) PassesOwn.never rfl (i_rng1 (by rfl) T.z_range (d_cons (e_mul (e_sub (e_v 0) e_int) (e_v 1)) d_nil)) (g_n 4 sc__law_by.nd) (ss_one (s_set (i := 3) sc__law_by.nd (e_add (e_v 3) (e_if (t_cmp (c_eq hr.units) (e_mod (e_sub (e_ix hr.units (e_v 2) (e_add (e_v 4) (e_v 1))) (e_ix hr.units (e_v 2) (e_v 4))) e_int) e_int) (e_str [117]) (e_str [100]))))))
    (ss_cons (s_for (ts := [5]) PassesOwn.never rfl (i_rng1 (by rfl) T.z_range (d_cons (e_v 0) d_nil)) (g_n 5 sc__law_by.nd) (ss_one (s_for (ts := [6]) PassesOwn.never rfl (i_rng1 (by rfl) T.z_range (d_cons (e_sub (e_v 1) e_int) d_nil)) (g_n 6 sc__law_by.nd) (ss_cons (s_set (i := 7) sc__law_by.nd (e_mod (e_sub (e_ix hr.units (e_v 2) (e_add (e_add (e_mul (e_v 5) (e_v 1)) (e_v 6)) e_int)) (e_ix hr.units (e_v 2) (e_add (e_mul (e_v 5) (e_v 1)) (e_v 6)))) e_int))
    (ss_one (s_set (i := 3) sc__law_by.nd (e_add (e_v 3) (e_if (t_cmp (c_eq hr.units) (e_v 7) (e_if (t_cmp (c_eq hr.units) (e_mod (e_v 5) e_int) e_int) e_int e_int)) (e_str [117]) (e_str [100])))))))))
    (ss_one (s_ret (e_v 3)))))))
theorem ok__law_count : FnOk P w K mg base CX0 1 T.f__law_count T.d__law_count ["r", "c"] (spF w K f__law_count 2) :=
  fn_ok (N := ["r", "c", "rows", "k", "fits", "told", "step", "more", "row", "fit", "one", "a", "b"]) (k := 0) T.h__law_count.fn sc__law_count (by decide) (fun cdv A outer s H E hr =>
    (ss_cons (s_set (i := 2) sc__law_count.nd (e_lst (d_cons (e_tup d_nil) d_nil)))
    (ss_cons (s_for (ts := [3]) PassesOwn.never rfl (i_rng1 (by rfl) T.z_range (d_cons (e_v 1) d_nil)) (g_n 3 sc__law_count.nd) (ss_cons (s_set (i := 7) sc__law_count.nd (e_lst d_nil))
    (ss_cons (s_for (ts := [8]) PassesOwn.never rfl (i_val (e_v 2)) (g_n 8 sc__law_count.nd) (ss_one (s_set (i := 7) sc__law_count.nd (e_add (e_v 7) (e_lc (ts := [10]) rfl sc__law_count.nd (blkOk_by (own := [("one", 10)]) (by kernel_rfl)) (i_rng1 (by rfl) T.z_range (d_cons e_int d_nil)) (fun _ _ _ _ _ => (g_n 10 sc__law_count.nd)) (fun _ _ _ _ _ => (ts_one (t_w (t_or (t_cmp (c_eq hr.units) (e_v 8) (e_tup d_nil)) (t_or1 (t_cmp (c_ne hr.units) (e_ix hr.units (e_v 8) (e_neg e_int)) (e_v 10))))))) (fun _ _ _ _ _ => (e_add (e_v 8) (e_tup (d_cons (e_v 10) d_nil)))))))))
    (ss_one (s_set (i := 2) sc__law_count.nd (e_v 7))))))
    (ss_cons (s_lc (i := 4) (ts := [8]) rfl sc__law_count.nd (blkOk_by (own := [("row", 8)]) (by kernel_rfl)) (i_val (e_v 2)) (fun _ _ _ _ _ => (g_n 8 sc__law_count.nd)) (fun _ _ _ _ _ => ts_nil) (fun _ _ _ _ _ => (e_lc (ts := [3]) rfl sc__law_count.nd (blkOk_by (own := [("k", 3)]) (by kernel_rfl)) (i_rng1 (by rfl) T.z_range (d_cons (e_cb call_len o_len (by rfl) T.z_len rfl (a_cons (e_v 2) a_nil)) d_nil)) (fun _ _ _ _ _ => (g_n 3 sc__law_count.nd)) (fun _ _ _ _ _ => (ts_one (t_cmp (c_eq hr.units) (e_lc (ts := [11, 12]) rfl sc__law_count.nd (blkOk_by (own := [("a", 11), ("b", 12)]) (by kernel_rfl)) (i_z2 (by rfl) T.z_zip (d_cons (e_ix hr.units (e_v 2) (e_v 3)) (d_cons (e_v 8) d_nil))) (fun _ _ _ _ _ => (g_t rfl (gs_cons (g_n 11 sc__law_count.nd) (gs_cons (g_n 12 sc__law_count.nd) gs_nil)) (tgCons_len (tgCons_len (fun _ _ _ h => tgNil_len h))))) (fun _ _ _ _ _ => (ts_one (t_cmp (c_eq hr.units) (e_v 11) (e_v 12)))) (fun _ _ _ _ _ => e_int)) (e_lst d_nil)))) (fun _ _ _ _ _ => (e_v 3)))))
    (ss_cons (s_set (i := 5) sc__law_count.nd (e_mul (e_lst (d_cons e_int d_nil)) (e_cb call_len o_len (by rfl) T.z_len rfl (a_cons (e_v 2) a_nil))))
    (ss_cons (s_for (ts := [6]) PassesOwn.never rfl (i_rng1 (by rfl) T.z_range (d_cons (e_sub (e_v 0) e_int) d_nil)) (g_n 6 sc__law_count.nd) (ss_one (s_set (i := 5) sc__law_count.nd (e_lc (ts := [9]) rfl sc__law_count.nd (blkOk_by (own := [("fit", 9)]) (by kernel_rfl)) (i_val (e_v 4)) (fun _ _ _ _ _ => (g_n 9 sc__law_count.nd)) (fun _ _ _ _ _ => ts_nil) (fun _ _ _ _ _ => (e_cb (cr_sum rfl) o_sum (by rfl) T.z_sum rfl (a_cons (e_lc (ts := [3]) rfl sc__law_count.nd (blkOk_by (own := [("k", 3)]) (by kernel_rfl)) (i_val (e_v 9)) (fun _ _ _ _ _ => (g_n 3 sc__law_count.nd)) (fun _ _ _ _ _ => ts_nil) (fun _ _ _ _ _ => (e_ix hr.units (e_v 5) (e_v 3)))) a_nil)))))))
    (ss_one (s_ret (e_ct call_int1 o_int (by rfl) T.z_int rfl (a_cons (e_div (e_cb (cr_sum rfl) o_sum (by rfl) T.z_sum rfl (a_cons (e_v 5) a_nil)) e_int) a_nil))))))))))
theorem ok_law : FnOk P w K mg base CX0 21 T.f_law T.d_law ["script"] (spF w K f_law 1) :=
  fn_ok (N := ["script", "state", "turn", "many", "colours", "bends", "step", "power", "k", "r", "c", "text", "kind", "at", "wrong", "i", "j", "one"]) (k := 20) T.h_law.fn sc_law (by decide) (fun cdv A outer s H E hr =>
    (ss_cons (s_set (i := 1) sc_law.nd (e_call ((ok__law_state T).mono (by decide)) hr (by rfl) T.h__law_state.mg T.h__law_state.fn.kp T.h__law_state.bd (a_cons (e_v 0) a_nil)))
    (ss_cons (s_for (ts := [2]) PassesOwn.never rfl (i_rng1 (by rfl) T.z_range (d_cons e_int d_nil)) (g_n 2 sc_law.nd) (ss_cons (s_asg (ts := [9, 10]) (e_tup (d_cons (e_add e_int (e_call ((ok__law_draw T).mono (by decide)) hr (by rfl) T.h__law_draw.mg T.h__law_draw.fn.kp T.h__law_draw.bd (a_cons (e_v 1) (a_cons e_int a_nil)))) (d_cons (e_add e_int (e_call ((ok__law_draw T).mono (by decide)) hr (by rfl) T.h__law_draw.mg T.h__law_draw.fn.kp T.h__law_draw.bd (a_cons (e_v 1) (a_cons e_int a_nil)))) d_nil))) (g_t rfl (gs_cons (g_n 9 sc_law.nd) (gs_cons (g_n 10 sc_law.nd) gs_nil)) (tgCons_len (tgCons_len (fun _ _ _ h => tgNil_len h)))))
    (ss_cons (s_set (i := 3) sc_law.nd (e_add (e_mul (e_sub (e_v 9) e_int) (e_v 10)) (e_mul (e_v 9) (e_sub (e_v 10) e_int))))
    (ss_cons (s_set (i := 4) sc_law.nd (e_call ((ok__law_colouring T).mono (by decide)) hr (by rfl) T.h__law_colouring.mg T.h__law_colouring.fn.kp T.h__law_colouring.bd (a_cons (e_v 1) (a_cons (e_v 9) (a_cons (e_v 10) a_nil)))))
    (ss_cons (s_set (i := 5) sc_law.nd (e_call ((ok__law_by T).mono (by decide)) hr (by rfl) T.h__law_by.mg T.h__law_by.fn.kp T.h__law_by.bd (a_cons (e_v 9) (a_cons (e_v 10) (a_cons (e_v 4) a_nil)))))
    (ss_cons (s_if (t_not (t_tru (e_call ((ok__law_eq T).mono (by decide)) hr (by rfl) T.h__law_eq.mg T.h__law_eq.fn.kp T.h__law_eq.bd (a_cons (e_lst (d_cons (e_call ((ok_count_creases T).mono (by decide)) hr (by rfl) T.h_count_creases.mg T.h_count_creases.fn.kp T.h_count_creases.bd (a_cons (e_v 9) (a_cons (e_v 10) a_nil))) (d_cons (e_call ((ok_bends_by_colours T).mono (by decide)) hr (by rfl) T.h_bends_by_colours.mg T.h_bends_by_colours.fn.kp T.h_bends_by_colours.bd (a_cons (e_v 9) (a_cons (e_v 10) (a_cons (e_v 4) a_nil)))) (d_cons (e_ct call_tuple_of o_tuple (by rfl) T.z_tuple rfl (a_cons (e_call ((ok_colours_of T).mono (by decide)) hr (by rfl) T.h_colours_of.mg T.h_colours_of.fn.kp T.h_colours_of.bd (a_cons (e_v 9) (a_cons (e_v 10) (a_cons (e_v 5) a_nil)))) a_nil)) d_nil)))) (a_cons (e_lst (d_cons (e_v 3) (d_cons (e_v 5) (d_cons (e_ct call_tuple_of o_tuple (by rfl) T.z_tuple rfl (a_cons (e_lc (ts := [17]) rfl sc_law.nd (blkOk_by (own := [("one", 17)]) (by kernel_rfl)) (i_val (e_v 4)) (fun _ _ _ _ _ => (g_n 17 sc_law.nd)) (fun _ _ _ _ _ => ts_nil) (fun _ _ _ _ _ => (e_mod (e_sub (e_v 17) (e_ix hr.units (e_v 4) e_int)) e_int))) a_nil)) d_nil)))) a_nil))))) (ss_one (s_ret e_bl)) ss_nil)
    (ss_cons (s_if (t_cmp (c_ne hr.units) (e_call ((ok__law_wrong T).mono (by decide)) hr (by rfl) T.h__law_wrong.mg T.h__law_wrong.fn.kp T.h__law_wrong.bd (a_cons (e_str [109, 105, 117, 114, 97]) (a_cons (e_v 9) (a_cons (e_v 10) (a_cons (e_v 5) a_nil))))) (e_lst d_nil)) (ss_one (s_ret e_bl)) ss_nil)
    (ss_cons (s_for (ts := [6]) PassesOwn.never rfl (i_rng1 (by rfl) T.z_range (d_cons e_int d_nil)) (g_n 6 sc_law.nd) (ss_cons (s_set (i := 11) sc_law.nd (e_if (t_cmp c_gt (e_v 6) e_int) (e_ct (call_listX rfl) o_list (by rfl) T.z_list rfl (a_cons (e_v 5) a_nil)) (e_lc (ts := [8]) rfl sc_law.nd (blkOk_by (own := [("k", 8)]) (by kernel_rfl)) (i_rng1 (by rfl) T.z_range (d_cons (e_v 3) d_nil)) (fun _ _ _ _ _ => (g_n 8 sc_law.nd)) (fun _ _ _ _ _ => ts_nil) (fun _ _ _ _ _ => (e_call ((ok__law_pick T).mono (by decide)) hr (by rfl) T.h__law_pick.mg T.h__law_pick.fn.kp T.h__law_pick.bd (a_cons (e_v 1) (a_cons (e_lst (d_cons (e_str [117]) (d_cons (e_str [100]) d_nil))) a_nil)))))))
    (ss_cons (s_for (ts := [8]) PassesOwn.never rfl (i_rng1 (by rfl) T.z_range (d_cons (e_if (t_cmp (c_ne hr.units) (e_v 11) (e_lst d_nil)) (e_call ((ok__law_draw T).mono (by decide)) hr (by rfl) T.h__law_draw.mg T.h__law_draw.fn.kp T.h__law_draw.bd (a_cons (e_v 1) (a_cons e_int a_nil))) e_int) d_nil)) (g_n 8 sc_law.nd) (ss_cons (s_set (i := 13) sc_law.nd (e_call ((ok__law_draw T).mono (by decide)) hr (by rfl) T.h__law_draw.mg T.h__law_draw.fn.kp T.h__law_draw.bd (a_cons (e_v 1) (a_cons (e_v 3) a_nil))))
    (ss_one (s_asg (ts := []) (e_if (t_cmp (c_eq hr.units) (e_ix hr.units (e_v 11) (e_v 13)) (e_str [100])) (e_str [117]) (e_str [100])) (g_sub hr.units (e_v 11) (e_v 13))))))
    (ss_cons (s_set (i := 11) sc_law.nd (e_mr PySem.F.plainAttrs_str PySem.F.slot_str_join PySem.F.type_str_join mt_join o_join (e_str []) (d_cons (e_v 11) d_nil)))
    (ss_cons (s_for (ts := [12]) PassesOwn.never rfl (i_val (e_tup (d_cons (e_str [115, 113, 117, 97, 114, 101, 115]) (d_cons (e_str [109, 105, 117, 114, 97]) d_nil)))) (g_n 12 sc_law.nd) (ss_cons (s_set (i := 14) sc_law.nd (e_call ((ok__law_wrong T).mono (by decide)) hr (by rfl) T.h__law_wrong.mg T.h__law_wrong.fn.kp T.h__law_wrong.bd (a_cons (e_v 12) (a_cons (e_v 9) (a_cons (e_v 10) (a_cons (e_v 11) a_nil))))))
    (ss_one (s_if (t_not (t_tru (e_call ((ok__law_eq T).mono (by decide)) hr (by rfl) T.h__law_eq.mg T.h__law_eq.fn.kp T.h__law_eq.bd (a_cons (e_lst (d_cons (e_call ((ok_is_right_net T).mono (by decide)) hr (by rfl) T.h_is_right_net.mg T.h_is_right_net.fn.kp T.h_is_right_net.bd (a_cons (e_v 12) (a_cons (e_v 9) (a_cons (e_v 10) (a_cons (e_v 11) a_nil))))) (d_cons (e_lc (ts := [17]) rfl sc_law.nd (blkOk_by (own := [("one", 17)]) (by kernel_rfl)) (i_val (e_call ((ok_wrong_corners T).mono (by decide)) hr (by rfl) T.h_wrong_corners.mg T.h_wrong_corners.fn.kp T.h_wrong_corners.bd (a_cons (e_v 12) (a_cons (e_v 9) (a_cons (e_v 10) (a_cons (e_v 11) a_nil)))))) (fun _ _ _ _ _ => (g_n 17 sc_law.nd)) (fun _ _ _ _ _ => ts_nil) (fun _ _ _ _ _ => (e_ct call_tuple_of o_tuple (by rfl) T.z_tuple rfl (a_cons (e_v 17) a_nil)))) d_nil))) (a_cons (e_lst (d_cons (e_cmp (c_eq hr.units) (e_v 14) (e_lst d_nil)) (d_cons (e_v 14) d_nil))) a_nil))))) (ss_one (s_ret e_bl)) ss_nil))))
    (ss_cons (s_if (t_w (t_and (t_cmp c_gt (e_v 9) e_int) (t_and1 (t_cmp c_gt (e_v 10) e_int)))) (ss_cons (s_par (i := 15) (j := 16) rfl sc_law.nd (e_call ((ok__law_draw T).mono (by decide)) hr (by rfl) T.h__law_draw.mg T.h__law_draw.fn.kp T.h__law_draw.bd (a_cons (e_v 1) (a_cons (e_sub (e_v 9) e_int) a_nil))) (e_call ((ok__law_draw T).mono (by decide)) hr (by rfl) T.h__law_draw.mg T.h__law_draw.fn.kp T.h__law_draw.bd (a_cons (e_v 1) (a_cons (e_sub (e_v 10) e_int) a_nil))))
    (ss_one (s_if (t_not (t_tru (e_call ((ok__law_eq T).mono (by decide)) hr (by rfl) T.h__law_eq.mg T.h__law_eq.fn.kp T.h__law_eq.bd (a_cons (e_call ((ok_corner_bends T).mono (by decide)) hr (by rfl) T.h_corner_bends.mg T.h_corner_bends.fn.kp T.h_corner_bends.bd (a_cons (e_v 9) (a_cons (e_v 10) (a_cons (e_v 11) (a_cons (e_v 15) (a_cons (e_v 16) a_nil)))))) (a_cons (e_call ((ok__law_at T).mono (by decide)) hr (by rfl) T.h__law_at.mg T.h__law_at.fn.kp T.h__law_at.bd (a_cons (e_v 9) (a_cons (e_v 10) (a_cons (e_v 11) (a_cons (e_v 15) (a_cons (e_v 16) a_nil)))))) a_nil))))) (ss_one (s_ret e_bl)) ss_nil))) ss_nil)
    (ss_one (s_if (t_w (t_and (t_cmp c_gt (e_v 3) e_int) (t_and1 (t_cmp (c_ne hr.units) (e_lc (ts := [17]) rfl sc_law.nd (blkOk_by (own := [("one", 17)]) (by kernel_rfl)) (i_val (e_tup (d_cons (e_sl (e_v 11) (o_some e_int) o_none) (d_cons (e_add (e_v 11) (e_str [117])) (d_cons (e_add (e_str [120]) (e_sl (e_v 11) (o_some e_int) o_none)) d_nil))))) (fun _ _ _ _ _ => (g_n 17 sc_law.nd)) (fun _ _ _ _ _ => ts_nil) (fun _ _ _ _ _ => (e_call ((ok_is_right_net T).mono (by decide)) hr (by rfl) T.h_is_right_net.mg T.h_is_right_net.fn.kp T.h_is_right_net.bd (a_cons (e_str [109, 105, 117, 114, 97]) (a_cons (e_v 9) (a_cons (e_v 10) (a_cons (e_v 17) a_nil))))))) (e_mul (e_lst (d_cons e_bl d_nil)) e_int))))) (ss_one (s_ret e_bl)) ss_nil))))))))
    (ss_cons (s_asg (ts := [9, 10]) (e_tup (d_cons (e_add e_int (e_call ((ok__law_draw T).mono (by decide)) hr (by rfl) T.h__law_draw.mg T.h__law_draw.fn.kp T.h__law_draw.bd (a_cons (e_v 1) (a_cons e_int a_nil)))) (d_cons (e_add e_int (e_call ((ok__law_draw T).mono (by decide)) hr (by rfl) T.h__law_draw.mg T.h__law_draw.fn.kp T.h__law_draw.bd (a_cons (e_v 1) (a_cons e_int a_nil)))) d_nil))) (g_t rfl (gs_cons (g_n 9 sc_law.nd) (gs_cons (g_n 10 sc_law.nd) gs_nil)) (tgCons_len (tgCons_len (fun _ _ _ h => tgNil_len h)))))
    (ss_cons (s_set (i := 7) sc_law.nd e_int)
    (ss_cons (s_for (ts := [8]) PassesOwn.never rfl (i_rng1 (by rfl) T.z_range (d_cons (e_sub (e_add (e_mul (e_sub (e_v 9) e_int) (e_v 10)) (e_mul (e_v 9) (e_sub (e_v 10) e_int))) (e_mul (e_sub (e_v 9) e_int) (e_sub (e_v 10) e_int))) d_nil)) (g_n 8 sc_law.nd) (ss_one (s_set (i := 7) sc_law.nd (e_mul e_int (e_v 7)))))
    (ss_one (s_if (t_not (t_tru (e_call ((ok__law_eq T).mono (by decide)) hr (by rfl) T.h__law_eq.mg T.h__law_eq.fn.kp T.h__law_eq.bd (a_cons (e_lst (d_cons (e_call ((ok_count_nets T).mono (by decide)) hr (by rfl) T.h_count_nets.mg T.h_count_nets.fn.kp T.h_count_nets.bd (a_cons (e_str [109, 105, 117, 114, 97]) (a_cons (e_v 9) (a_cons (e_v 10) a_nil)))) (d_cons (e_call ((ok_count_nets T).mono (by decide)) hr (by rfl) T.h_count_nets.mg T.h_count_nets.fn.kp T.h_count_nets.bd (a_cons (e_str [115, 113, 117, 97, 114, 101, 115]) (a_cons (e_v 9) (a_cons (e_v 10) a_nil)))) d_nil))) (a_cons (e_lst (d_cons (e_call ((ok__law_count T).mono (by decide)) hr (by rfl) T.h__law_count.mg T.h__law_count.fn.kp T.h__law_count.bd (a_cons (e_v 9) (a_cons (e_v 10) a_nil))) (d_cons (e_v 7) d_nil))) a_nil))))) (ss_one (s_ret e_bl)) ss_nil)))))))))))))
    (ss_one (s_ret (e_call ((ok__law_eq T).mono (by decide)) hr (by rfl) T.h__law_eq.mg T.h__law_eq.fn.kp T.h__law_eq.bd (a_cons (e_lst (d_cons (e_call ((ok_count_nets T).mono (by decide)) hr (by rfl) T.h_count_nets.mg T.h_count_nets.fn.kp T.h_count_nets.bd (a_cons (e_str [109, 105, 117, 114, 97]) (a_cons e_int (a_cons e_int a_nil)))) (d_cons (e_call ((ok_count_nets T).mono (by decide)) hr (by rfl) T.h_count_nets.mg T.h_count_nets.fn.kp T.h_count_nets.bd (a_cons (e_str [109, 105, 117, 114, 97]) (a_cons e_int (a_cons e_int a_nil)))) (d_cons (e_call ((ok_count_nets T).mono (by decide)) hr (by rfl) T.h_count_nets.mg T.h_count_nets.fn.kp T.h_count_nets.bd (a_cons (e_str [115, 113, 117, 97, 114, 101, 115]) (a_cons e_int (a_cons e_int a_nil)))) (d_cons (e_call ((ok_is_right_net T).mono (by decide)) hr (by rfl) T.h_is_right_net.mg T.h_is_right_net.fn.kp T.h_is_right_net.bd (a_cons (e_str [115, 113, 117, 97, 114, 101, 115]) (a_cons e_int (a_cons e_int (a_cons (e_str []) a_nil))))) d_nil))))) (a_cons (e_lst (d_cons e_int (d_cons e_int (d_cons e_int (d_cons e_bl d_nil))))) a_nil))))))))
end
theorem all_F {P : Program} {w : World} {K : PySem.W.Frag} {h : Heap} {mg : Str → Option Value} {fa : Addr} (X : K.In h) (G : h.Ns mainGlobals mg) (hfa : mg "law" = some (.ref fa))
    {f0 f1 f2 f3 f4 f5 f6 f7 f8 f9 f10 f11 f12 f13 f14 f15 f16 f17 f18 f19 f20 f21 : Addr} {od0 an0 od1 an1 od2 an2 od3 an3 od4 an4 od5 an5 od6 an6 od7 an7 od8 an8 od9 an9 od10 an10 od11 an11 od12 an12 od13 an13 od14 an14 od15 an15 od16 an16 od17 an17 od18 an18 od19 an19 od20 an20 od21 an21 : Option Addr} {sl0 sl1 sl2 sl3 sl4 sl5 sl6 sl7 sl8 sl9 sl10 sl11 sl12 sl13 sl14 sl15 sl16 sl17 sl18 sl19 sl20 sl21 : Array (Option Value)} {oc0 kV0 dc0 pm0 cd0 ct0 oc1 kV1 dc1 pm1 cd1 ct1 oc2 kV2 dc2 pm2 cd2 ct2 oc3 kV3 dc3 pm3 cd3 ct3 oc4 kV4 dc4 pm4 cd4 ct4 oc5 kV5 dc5 pm5 cd5 ct5 oc6 kV6 dc6 pm6 cd6 ct6 oc7 kV7 dc7 pm7 cd7 ct7 oc8 kV8 dc8 pm8 cd8 ct8 oc9 kV9 dc9 pm9 cd9 ct9 oc10 kV10 dc10 pm10 cd10 ct10 oc11 kV11 dc11 pm11 cd11 ct11 oc12 kV12 dc12 pm12 cd12 ct12 oc13 kV13 dc13 pm13 cd13 ct13 oc14 kV14 dc14 pm14 cd14 ct14 oc15 kV15 dc15 pm15 cd15 ct15 oc16 kV16 dc16 pm16 cd16 ct16 oc17 kV17 dc17 pm17 cd17 ct17 oc18 kV18 dc18 pm18 cd18 ct18 oc19 kV19 dc19 pm19 cd19 ct19 oc20 kV20 dc20 pm20 cd20 ct20 oc21 kV21 dc21 pm21 cd21 ct21 : Value}
    (a0 : PySem.W.nsIn K mainGlobals "count_creases" = some (some (.ref f0))) (l0 : K.lookup f0 = some ⟨oc0, od0, .func (PySem.W.fnOf "count_creases" "count_creases" (defArgs s_count_creases) (defBody s_count_creases) (defScope s_count_creases) .none kV0 dc0 pm0 an0 cd0 ct0), sl0⟩) (c0 : PySem.W.codeIn K cd0 "count_creases" = true) (k0 : PySem.W.keepIn K (.ref f0) = true)
    (a1 : PySem.W.nsIn K mainGlobals "rung" = some (some (.ref f1))) (l1 : K.lookup f1 = some ⟨oc1, od1, .func (PySem.W.fnOf "rung" "rung" (defArgs s_rung) (defBody s_rung) (defScope s_rung) .none kV1 dc1 pm1 an1 cd1 ct1), sl1⟩) (c1 : PySem.W.codeIn K cd1 "rung" = true) (k1 : PySem.W.keepIn K (.ref f1) = true)
    (a2 : PySem.W.nsIn K mainGlobals "rail" = some (some (.ref f2))) (l2 : K.lookup f2 = some ⟨oc2, od2, .func (PySem.W.fnOf "rail" "rail" (defArgs s_rail) (defBody s_rail) (defScope s_rail) .none kV2 dc2 pm2 an2 cd2 ct2), sl2⟩) (c2 : PySem.W.codeIn K cd2 "rail" = true) (k2 : PySem.W.keepIn K (.ref f2) = true)
    (a3 : PySem.W.nsIn K mainGlobals "corner_bends" = some (some (.ref f3))) (l3 : K.lookup f3 = some ⟨oc3, od3, .func (PySem.W.fnOf "corner_bends" "corner_bends" (defArgs s_corner_bends) (defBody s_corner_bends) (defScope s_corner_bends) .none kV3 dc3 pm3 an3 cd3 ct3), sl3⟩) (c3 : PySem.W.codeIn K cd3 "corner_bends" = true) (k3 : PySem.W.keepIn K (.ref f3) = true)
    (a4 : PySem.W.nsIn K mainGlobals "is_right_corner" = some (some (.ref f4))) (l4 : K.lookup f4 = some ⟨oc4, od4, .func (PySem.W.fnOf "is_right_corner" "is_right_corner" (defArgs s_is_right_corner) (defBody s_is_right_corner) (defScope s_is_right_corner) .none kV4 dc4 pm4 an4 cd4 ct4), sl4⟩) (c4 : PySem.W.codeIn K cd4 "is_right_corner" = true) (k4 : PySem.W.keepIn K (.ref f4) = true)
    (a5 : PySem.W.nsIn K mainGlobals "wrong_corners" = some (some (.ref f5))) (l5 : K.lookup f5 = some ⟨oc5, od5, .func (PySem.W.fnOf "wrong_corners" "wrong_corners" (defArgs s_wrong_corners) (defBody s_wrong_corners) (defScope s_wrong_corners) .none kV5 dc5 pm5 an5 cd5 ct5), sl5⟩) (c5 : PySem.W.codeIn K cd5 "wrong_corners" = true) (k5 : PySem.W.keepIn K (.ref f5) = true)
    (a6 : PySem.W.nsIn K mainGlobals "is_right_net" = some (some (.ref f6))) (l6 : K.lookup f6 = some ⟨oc6, od6, .func (PySem.W.fnOf "is_right_net" "is_right_net" (defArgs s_is_right_net) (defBody s_is_right_net) (defScope s_is_right_net) .none kV6 dc6 pm6 an6 cd6 ct6), sl6⟩) (c6 : PySem.W.codeIn K cd6 "is_right_net" = true) (k6 : PySem.W.keepIn K (.ref f6) = true)
    (a7 : PySem.W.nsIn K mainGlobals "colour_rows" = some (some (.ref f7))) (l7 : K.lookup f7 = some ⟨oc7, od7, .func (PySem.W.fnOf "colour_rows" "colour_rows" (defArgs s_colour_rows) (defBody s_colour_rows) (defScope s_colour_rows) .none kV7 dc7 pm7 an7 cd7 ct7), sl7⟩) (c7 : PySem.W.codeIn K cd7 "colour_rows" = true) (k7 : PySem.W.keepIn K (.ref f7) = true)
    (a8 : PySem.W.nsIn K mainGlobals "count_nets" = some (some (.ref f8))) (l8 : K.lookup f8 = some ⟨oc8, od8, .func (PySem.W.fnOf "count_nets" "count_nets" (defArgs s_count_nets) (defBody s_count_nets) (defScope s_count_nets) .none kV8 dc8 pm8 an8 cd8 ct8), sl8⟩) (c8 : PySem.W.codeIn K cd8 "count_nets" = true) (k8 : PySem.W.keepIn K (.ref f8) = true)
    (a9 : PySem.W.nsIn K mainGlobals "step_of" = some (some (.ref f9))) (l9 : K.lookup f9 = some ⟨oc9, od9, .func (PySem.W.fnOf "step_of" "step_of" (defArgs s_step_of) (defBody s_step_of) (defScope s_step_of) .none kV9 dc9 pm9 an9 cd9 ct9), sl9⟩) (c9 : PySem.W.codeIn K cd9 "step_of" = true) (k9 : PySem.W.keepIn K (.ref f9) = true)
    (a10 : PySem.W.nsIn K mainGlobals "colours_of" = some (some (.ref f10))) (l10 : K.lookup f10 = some ⟨oc10, od10, .func (PySem.W.fnOf "colours_of" "colours_of" (defArgs s_colours_of) (defBody s_colours_of) (defScope s_colours_of) .none kV10 dc10 pm10 an10 cd10 ct10), sl10⟩) (c10 : PySem.W.codeIn K cd10 "colours_of" = true) (k10 : PySem.W.keepIn K (.ref f10) = true)
    (a11 : PySem.W.nsIn K mainGlobals "bends_by_colours" = some (some (.ref f11))) (l11 : K.lookup f11 = some ⟨oc11, od11, .func (PySem.W.fnOf "bends_by_colours" "bends_by_colours" (defArgs s_bends_by_colours) (defBody s_bends_by_colours) (defScope s_bends_by_colours) .none kV11 dc11 pm11 an11 cd11 ct11), sl11⟩) (c11 : PySem.W.codeIn K cd11 "bends_by_colours" = true) (k11 : PySem.W.keepIn K (.ref f11) = true)
    (a12 : PySem.W.nsIn K mainGlobals "_law_state" = some (some (.ref f12))) (l12 : K.lookup f12 = some ⟨oc12, od12, .func (PySem.W.fnOf "_law_state" "_law_state" (defArgs s__law_state) (defBody s__law_state) (defScope s__law_state) .none kV12 dc12 pm12 an12 cd12 ct12), sl12⟩) (c12 : PySem.W.codeIn K cd12 "_law_state" = true) (k12 : PySem.W.keepIn K (.ref f12) = true)
    (a13 : PySem.W.nsIn K mainGlobals "_law_draw" = some (some (.ref f13))) (l13 : K.lookup f13 = some ⟨oc13, od13, .func (PySem.W.fnOf "_law_draw" "_law_draw" (defArgs s__law_draw) (defBody s__law_draw) (defScope s__law_draw) .none kV13 dc13 pm13 an13 cd13 ct13), sl13⟩) (c13 : PySem.W.codeIn K cd13 "_law_draw" = true) (k13 : PySem.W.keepIn K (.ref f13) = true)
    (a14 : PySem.W.nsIn K mainGlobals "_law_pick" = some (some (.ref f14))) (l14 : K.lookup f14 = some ⟨oc14, od14, .func (PySem.W.fnOf "_law_pick" "_law_pick" (defArgs s__law_pick) (defBody s__law_pick) (defScope s__law_pick) .none kV14 dc14 pm14 an14 cd14 ct14), sl14⟩) (c14 : PySem.W.codeIn K cd14 "_law_pick" = true) (k14 : PySem.W.keepIn K (.ref f14) = true)
    (a15 : PySem.W.nsIn K mainGlobals "_law_eq" = some (some (.ref f15))) (l15 : K.lookup f15 = some ⟨oc15, od15, .func (PySem.W.fnOf "_law_eq" "_law_eq" (defArgs s__law_eq) (defBody s__law_eq) (defScope s__law_eq) .none kV15 dc15 pm15 an15 cd15 ct15), sl15⟩) (c15 : PySem.W.codeIn K cd15 "_law_eq" = true) (k15 : PySem.W.keepIn K (.ref f15) = true)
    (a16 : PySem.W.nsIn K mainGlobals "_law_at" = some (some (.ref f16))) (l16 : K.lookup f16 = some ⟨oc16, od16, .func (PySem.W.fnOf "_law_at" "_law_at" (defArgs s__law_at) (defBody s__law_at) (defScope s__law_at) .none kV16 dc16 pm16 an16 cd16 ct16), sl16⟩) (c16 : PySem.W.codeIn K cd16 "_law_at" = true) (k16 : PySem.W.keepIn K (.ref f16) = true)
    (a17 : PySem.W.nsIn K mainGlobals "_law_wrong" = some (some (.ref f17))) (l17 : K.lookup f17 = some ⟨oc17, od17, .func (PySem.W.fnOf "_law_wrong" "_law_wrong" (defArgs s__law_wrong) (defBody s__law_wrong) (defScope s__law_wrong) .none kV17 dc17 pm17 an17 cd17 ct17), sl17⟩) (c17 : PySem.W.codeIn K cd17 "_law_wrong" = true) (k17 : PySem.W.keepIn K (.ref f17) = true)
    (a18 : PySem.W.nsIn K mainGlobals "_law_colouring" = some (some (.ref f18))) (l18 : K.lookup f18 = some ⟨oc18, od18, .func (PySem.W.fnOf "_law_colouring" "_law_colouring" (defArgs s__law_colouring) (defBody s__law_colouring) (defScope s__law_colouring) .none kV18 dc18 pm18 an18 cd18 ct18), sl18⟩) (c18 : PySem.W.codeIn K cd18 "_law_colouring" = true) (k18 : PySem.W.keepIn K (.ref f18) = true)
    (a19 : PySem.W.nsIn K mainGlobals "_law_by" = some (some (.ref f19))) (l19 : K.lookup f19 = some ⟨oc19, od19, .func (PySem.W.fnOf "_law_by" "_law_by" (defArgs s__law_by) (defBody s__law_by) (defScope s__law_by) .none kV19 dc19 pm19 an19 cd19 ct19), sl19⟩) (c19 : PySem.W.codeIn K cd19 "_law_by" = true) (k19 : PySem.W.keepIn K (.ref f19) = true)
    (a20 : PySem.W.nsIn K mainGlobals "_law_count" = some (some (.ref f20))) (l20 : K.lookup f20 = some ⟨oc20, od20, .func (PySem.W.fnOf "_law_count" "_law_count" (defArgs s__law_count) (defBody s__law_count) (defScope s__law_count) .none kV20 dc20 pm20 an20 cd20 ct20), sl20⟩) (c20 : PySem.W.codeIn K cd20 "_law_count" = true) (k20 : PySem.W.keepIn K (.ref f20) = true)
    (a21 : PySem.W.nsIn K mainGlobals "law" = some (some (.ref f21))) (l21 : K.lookup f21 = some ⟨oc21, od21, .func (PySem.W.fnOf "law" "law" (defArgs s_law) (defBody s_law) (defScope s_law) .none kV21 dc21 pm21 an21 cd21 ct21), sl21⟩) (c21 : PySem.W.codeIn K cd21 "law" = true) (k21 : PySem.W.keepIn K (.ref f21) = true)
    (z0 : PySem.W.nsIn K mainGlobals "abs" = some none)
    (z1 : PySem.W.nsIn K mainGlobals "all" = some none)
    (z2 : PySem.W.nsIn K mainGlobals "bool" = some none)
    (z3 : PySem.W.nsIn K mainGlobals "int" = some none)
    (z4 : PySem.W.nsIn K mainGlobals "isinstance" = some none)
    (z5 : PySem.W.nsIn K mainGlobals "len" = some none)
    (z6 : PySem.W.nsIn K mainGlobals "list" = some none)
    (z7 : PySem.W.nsIn K mainGlobals "range" = some none)
    (z8 : PySem.W.nsIn K mainGlobals "str" = some none)
    (z9 : PySem.W.nsIn K mainGlobals "sum" = some none)
    (z10 : PySem.W.nsIn K mainGlobals "tuple" = some none)
    (z11 : PySem.W.nsIn K mainGlobals "zip" = some none)
    : ∃ fd : FuncData, (∀ (s : Shared) (v : Value), BindsTo s fd ⟨[v], []⟩ [("script", v)]) ∧ ∀ base : Heap, K.In base → base.Ns mainGlobals mg → FnOk P w K mg base CX0 21 fa fd ["script"] (spF w K f_law 1) := by
  have e := hfa.symm.trans (PySem.W.mg_of X G a21)
  cases e
  let T : Txt K mg := {
    f_count_creases := _, d_count_creases := _, f_rung := _, d_rung := _, f_rail := _, d_rail := _, f_corner_bends := _, d_corner_bends := _, f_is_right_corner := _, d_is_right_corner := _, f_wrong_corners := _, d_wrong_corners := _, f_is_right_net := _, d_is_right_net := _, f_colour_rows := _, d_colour_rows := _, f_count_nets := _, d_count_nets := _, f_step_of := _, d_step_of := _, f_colours_of := _, d_colours_of := _, f_bends_by_colours := _, d_bends_by_colours := _, f__law_state := _, d__law_state := _, f__law_draw := _, d__law_draw := _, f__law_pick := _, d__law_pick := _, f__law_eq := _, d__law_eq := _, f__law_at := _, d__law_at := _, f__law_wrong := _, d__law_wrong := _, f__law_colouring := _, d__law_colouring := _, f__law_by := _, d__law_by := _, f__law_count := _, d__law_count := _, f_law := _, d_law := _,
    h_count_creases := has_mk (st := s_count_creases) l0 c0 k0 (PySem.W.mg_of X G a0) (fun _ _ _ _ _ _ us hl => match us, hl with | [_, _], _ => rfl),
    h_rung := has_mk (st := s_rung) l1 c1 k1 (PySem.W.mg_of X G a1) (fun _ _ _ _ _ _ us hl => match us, hl with | [_, _, _], _ => rfl),
    h_rail := has_mk (st := s_rail) l2 c2 k2 (PySem.W.mg_of X G a2) (fun _ _ _ _ _ _ us hl => match us, hl with | [_, _, _, _], _ => rfl),
    h_corner_bends := has_mk (st := s_corner_bends) l3 c3 k3 (PySem.W.mg_of X G a3) (fun _ _ _ _ _ _ us hl => match us, hl with | [_, _, _, _, _], _ => rfl),
    h_is_right_corner := has_mk (st := s_is_right_corner) l4 c4 k4 (PySem.W.mg_of X G a4) (fun _ _ _ _ _ _ us hl => match us, hl with | [_, _, _], _ => rfl),
    h_wrong_corners := has_mk (st := s_wrong_corners) l5 c5 k5 (PySem.W.mg_of X G a5) (fun _ _ _ _ _ _ us hl => match us, hl with | [_, _, _, _], _ => rfl),
    h_is_right_net := has_mk (st := s_is_right_net) l6 c6 k6 (PySem.W.mg_of X G a6) (fun _ _ _ _ _ _ us hl => match us, hl with | [_, _, _, _], _ => rfl),
    h_colour_rows := has_mk (st := s_colour_rows) l7 c7 k7 (PySem.W.mg_of X G a7) (fun _ _ _ _ _ _ us hl => match us, hl with | [_], _ => rfl),
    h_count_nets := has_mk (st := s_count_nets) l8 c8 k8 (PySem.W.mg_of X G a8) (fun _ _ _ _ _ _ us hl => match us, hl with | [_, _, _], _ => rfl),
    h_step_of := has_mk (st := s_step_of) l9 c9 k9 (PySem.W.mg_of X G a9) (fun _ _ _ _ _ _ us hl => match us, hl with | [_], _ => rfl),
    h_colours_of := has_mk (st := s_colours_of) l10 c10 k10 (PySem.W.mg_of X G a10) (fun _ _ _ _ _ _ us hl => match us, hl with | [_, _, _], _ => rfl),
    h_bends_by_colours := has_mk (st := s_bends_by_colours) l11 c11 k11 (PySem.W.mg_of X G a11) (fun _ _ _ _ _ _ us hl => match us, hl with | [_, _, _], _ => rfl),
    h__law_state := has_mk (st := s__law_state) l12 c12 k12 (PySem.W.mg_of X G a12) (fun _ _ _ _ _ _ us hl => match us, hl with | [_], _ => rfl),
    h__law_draw := has_mk (st := s__law_draw) l13 c13 k13 (PySem.W.mg_of X G a13) (fun _ _ _ _ _ _ us hl => match us, hl with | [_, _], _ => rfl),
    h__law_pick := has_mk (st := s__law_pick) l14 c14 k14 (PySem.W.mg_of X G a14) (fun _ _ _ _ _ _ us hl => match us, hl with | [_, _], _ => rfl),
    h__law_eq := has_mk (st := s__law_eq) l15 c15 k15 (PySem.W.mg_of X G a15) (fun _ _ _ _ _ _ us hl => match us, hl with | [_, _], _ => rfl),
    h__law_at := has_mk (st := s__law_at) l16 c16 k16 (PySem.W.mg_of X G a16) (fun _ _ _ _ _ _ us hl => match us, hl with | [_, _, _, _, _], _ => rfl),
    h__law_wrong := has_mk (st := s__law_wrong) l17 c17 k17 (PySem.W.mg_of X G a17) (fun _ _ _ _ _ _ us hl => match us, hl with | [_, _, _, _], _ => rfl),
    h__law_colouring := has_mk (st := s__law_colouring) l18 c18 k18 (PySem.W.mg_of X G a18) (fun _ _ _ _ _ _ us hl => match us, hl with | [_, _, _], _ => rfl),
    h__law_by := has_mk (st := s__law_by) l19 c19 k19 (PySem.W.mg_of X G a19) (fun _ _ _ _ _ _ us hl => match us, hl with | [_, _, _], _ => rfl),
    h__law_count := has_mk (st := s__law_count) l20 c20 k20 (PySem.W.mg_of X G a20) (fun _ _ _ _ _ _ us hl => match us, hl with | [_, _], _ => rfl),
    h_law := has_mk (st := s_law) l21 c21 k21 (PySem.W.mg_of X G a21) (fun _ _ _ _ _ _ us hl => match us, hl with | [_], _ => rfl),
    z_abs := PySem.W.mg_none_of X G z0, z_all := PySem.W.mg_none_of X G z1, z_bool := PySem.W.mg_none_of X G z2, z_int := PySem.W.mg_none_of X G z3, z_isinstance := PySem.W.mg_none_of X G z4, z_len := PySem.W.mg_none_of X G z5, z_list := PySem.W.mg_none_of X G z6, z_range := PySem.W.mg_none_of X G z7, z_str := PySem.W.mg_none_of X G z8, z_sum := PySem.W.mg_none_of X G z9, z_tuple := PySem.W.mg_none_of X G z10, z_zip := PySem.W.mg_none_of X G z11 }
  exact ⟨T.d_law, fun s v => .of_eq rfl, fun base _ _ => ok_law T⟩
end K36
namespace K36
open PySem PySem.Spec PyProof.Rows L2 PD
section
variable {ds : Option DS} {Q : PD.R → Option DS → Prop} {a b c i j : Int}
theorem sz {n : Nat} (h : n ≤ 16777216) : n ≤ sizeLine := h
@[simp ↓] theorem w_cc {h : Mk Q} : fq f_count_creases [.int a, .int b] ds Q h ↔ CMul (a - 1) b ∧ CMul a (b - 1) ∧ Q (.d (.int ((a - 1) * b + a * (b - 1)))) ds := by
  unfold f_count_creases m_count_creases; simp
@[simp ↓] theorem w_rung {h : Mk Q} : fq f_rung [.int c, .int i, .int j] ds Q h ↔ CMul i c ∧ Q (.d (.int (i * c + j))) ds := by
  unfold f_rung m_rung; simp
@[simp ↓] theorem w_rail {h : Mk Q} : fq f_rail [.int a, .int c, .int i, .int j] ds Q h ↔ CMul (a - 1) c ∧ CMul i (c - 1) ∧ Q (.d (.int ((a - 1) * c + i * (c - 1) + j))) ds := by
  unfold f_rail m_rail; simp
theorem w_cb {l : List Nat} {x0 x1 x2 x3 : Nat} (h0 : atI l (i * c + j) = some x0) (h1 : atI l ((a - 1) * c + i * (c - 1) + j) = some x1) (h2 : atI l (i * c + (j + 1)) = some x2) (h3 : atI l ((a - 1) * c + (i + 1) * (c - 1) + j) = some x3)
    (m0 : CMul i c) (m1 : CMul (a - 1) c) (m2 : CMul i (c - 1)) (m3 : CMul (i + 1) (c - 1)) (q : Q (.d (.str [x0, x1, x2, x3])) ds) : fq f_corner_bends [.int a, .int c, .str l, .int i, .int j] ds Q mk := by
  unfold f_corner_bends m_corner_bends
  simp [h0, h1, h2, h3, m0, m1, m2, m3, q, sz]
end
end K36
namespace K36
open PySem PySem.Spec PyProof.Rows L2 PD
def byA (cs : List Int) (c k : Nat) : Nat := if (cs[k + c]?.getD 0 - cs[k]?.getD 0).fmod 3 = 1 then 117 else 100
def byB (cs : List Int) (c i j : Nat) : Nat := if (cs[i * c + j + 1]?.getD 0 - cs[i * c + j]?.getD 0).fmod 3 = (if i % 2 = 1 then 1 else 2) then 117 else 100
def byS1 (r c : Nat) (cs : List Int) : List Nat := (List.range ((r - 1) * c)).map (byA cs c)
def byS2 (r c : Nat) (cs : List Int) : List Nat := (List.range r).flatMap fun i => (List.range (c - 1)).map (byB cs c i)
def byS (r c : Nat) (cs : List Int) : List Nat := byS1 r c cs ++ byS2 r c cs
theorem at_cs {cs : List Int} {k : Nat} (h : k < cs.length) : atI (cs.map D.int) (k : Int) = some (.int (cs[k]?.getD 0)) := by
  rw [atI_get?]; simp [h]
theorem at_cs' {cs : List Int} {z : Int} {k : Nat} (hz : z = k) (h : k < cs.length) : atI (cs.map D.int) z = some (.int (cs[k]?.getD 0)) := by rw [hz]; exact at_cs h
theorem rg_ok {z : Int} (h : z.natAbs ≤ 1000000) : rgB z = true := by
  unfold rgB
  rw [Bool.and_eq_true, decide_eq_true_eq, decide_eq_true_eq]
  omega
theorem flat_len (n m : Nat) (f : Nat → Nat → Nat) : ((List.range n).flatMap fun i => (List.range m).map (f i)).length = n * m := by
  induction n with
  | zero => simp
  | succ n ih => rw [List.range_succ, List.flatMap_append, List.length_append, ih]; simp [Nat.add_mul]
theorem map_take_succ {f : Nat → Nat} (i : Nat) : (List.range (i + 1)).map f = (List.range i).map f ++ [f i] := by rw [List.range_succ, List.map_append]; rfl
theorem flat_succ {f : Nat → List Nat} (i : Nat) : (List.range (i + 1)).flatMap f = (List.range i).flatMap f ++ f i := by rw [List.range_succ, List.flatMap_append]; simp
@[simp] theorem sum_const (i k : Nat) : ((List.range i).map fun _ => k).sum = i * k := by
  induction i with
  | zero => simp
  | succ i ih => rw [List.range_succ, List.map_append, List.sum_append, ih, Nat.succ_mul]; simp
@[simp] theorem byS1_len (r c : Nat) (cs : List Int) : (byS1 r c cs).length = (r - 1) * c := by simp [byS1]
section
variable {ds : Option DS} {Q : PD.R → Option DS → Prop} {r c : Nat} {cs : List Int}
theorem mulb {a b n m : Nat} (h : a ≤ n) (h2 : b ≤ m) : a * b ≤ n * m := Nat.mul_le_mul h h2
theorem mod2 (i : Nat) : ((i : Int).fmod 2 = 1) ↔ i % 2 = 1 := by
  rw [Int.fmod_eq_emod_of_nonneg _ (by decide)]
  omega
theorem w_law_by (hr : 1 ≤ r) (hr' : r ≤ 60) (hc : 1 ≤ c) (hc' : c ≤ 60) (hl : cs.length = r * c) (q : Q (.d (.str (byS r c cs))) ds) : fq f__law_by [.int r, .int c, .tup (cs.map .int)] ds Q mk := by
  unfold f__law_by m__law_by
  have b1 : r * c ≤ 3600 := mulb hr' hc'
  have e1 : ((r : Int) - 1) * c = (((r - 1) * c : Nat) : Int) := by rw [Int.natCast_mul]; congr 1; omega
  have hm : (r - 1) * c + c = r * c := by rw [← Nat.succ_mul]; congr 1; omega
  simp [cmul' (show ((r : Int) - 1).natAbs < 2 ^ 63 by omega)]
  have e2 : (((r : Int) - 1) * c).toNat = (r - 1) * c := by rw [e1]; rfl
  refine ⟨rg_ok (by rw [e1]; omega), ?_⟩
  refine q_loop (fun i s => ∃ x y z w, s = ⟨[.d (.int r), .d (.int c), .d (.tup (cs.map .int)), .d (.str ((List.range i).map (byA cs c))), x, y, z, w], ds⟩) ⟨_, _, _, _, rfl⟩ ?_ ?_
  · rintro i d s hi ⟨x, y, z, w, rfl⟩
    obtain ⟨rfl, hi2⟩ := rgD_at hi
    have hi3 : i < (r - 1) * c := by omega
    have a1 := at_cs' (cs := cs) (z := (i : Int) + c) (k := i + c) (by simp) (by omega)
    have a2 := at_cs (cs := cs) (k := i) (by omega)
    simp [a1, a2]
    have hz : i + 1 ≤ sizeLine := sz (by omega)
    rw [map_take_succ, byA]
    split <;> exact ⟨hz, rfl⟩
  · rintro s ⟨x, y, z, w, rfl⟩
    rw [rgD_len, e2]
    simp
    refine ⟨rg_ok (by omega), ?_⟩
    refine q_loop (fun i s => ∃ x y z w, s = ⟨[.d (.int r), .d (.int c), .d (.tup (cs.map .int)), .d (.str (byS1 r c cs ++ (List.range i).flatMap fun i => (List.range (c - 1)).map (byB cs c i))), x, y, z, w], ds⟩) ⟨_, _, _, _, by simp [byS1]; exact ⟨rfl, rfl, rfl, rfl⟩⟩ ?_ ?_
    · rintro i d s hi ⟨x, y, z, w, rfl⟩
      obtain ⟨rfl, hi2⟩ := rgD_at hi
      have hir : i < r := by omega
      simp
      refine ⟨rg_ok (by omega), ?_⟩
      refine q_loop (fun j s => ∃ x z w, s = ⟨[.d (.int r), .d (.int c), .d (.tup (cs.map .int)), .d (.str (byS1 r c cs ++ ((List.range i).flatMap fun i => (List.range (c - 1)).map (byB cs c i)) ++ (List.range j).map (byB cs c i))), x, .d (.int i), z, w], ds⟩) ⟨_, _, _, by simp; exact ⟨rfl, rfl, rfl⟩⟩ ?_ ?_
      · rintro j d s hj ⟨x, z, w, rfl⟩
        obtain ⟨rfl, hj2⟩ := rgD_at hj
        have hjc : j + 1 < c := by omega
        have hk : i * c + j + 1 < cs.length := by
          rw [hl]
          calc i * c + j + 1 < i * c + c := by omega
            _ = (i + 1) * c := by rw [Nat.succ_mul]
            _ ≤ r * c := Nat.mul_le_mul_right c hir
        have a1 := at_cs' (cs := cs) (z := (i : Int) * c + j + 1) (k := i * c + j + 1) (by simp) hk
        have a2 := at_cs' (cs := cs) (z := (i : Int) * c + j) (k := i * c + j) (by simp) (by omega)
        simp [a1, a2, cmul' (show ((i : Int)).natAbs < 2 ^ 63 by omega)]
        have hb : i * (c - 1) ≤ 3600 := mulb (n := 60) (m := 60) (by omega) (by omega)
        have hz : (r - 1) * c + (i * (c - 1) + j) + 1 ≤ sizeLine := sz (by omega)
        rw [map_take_succ, byB]
        simp only [mod2 i]
        split <;> split <;> exact ⟨hz, rfl⟩
      · rintro s ⟨x, z, w, rfl⟩
        have e3 : ((c : Int) - 1).toNat = c - 1 := by omega
        rw [rgD_len, e3]
        refine ⟨x, .d (.int i), z, w, ?_⟩
        rw [flat_succ, List.append_assoc]
    · rintro s ⟨x, y, z, w, rfl⟩
      rw [rgD_len]
      simpa [byS, byS2] using q
/-- the program's own text of the bends -/
theorem flat_mul (n m : Nat) (f : Nat → Nat) : ((List.range n).flatMap fun i => (List.range m).map fun j => f (i * m + j)) = (List.range (n * m)).map f := by
  induction n with
  | zero => simp
  | succ n ih =>
    rw [flat_succ, ih, Nat.succ_mul, List.range_add, List.map_append, List.map_map]
    rfl
theorem w_bends (hr : 1 ≤ r) (hr' : r ≤ 60) (hc : 1 ≤ c) (hc' : c ≤ 60) (hl : cs.length = r * c) (q : Q (.d (.str (byS r c cs))) ds) : fq f_bends_by_colours [.int r, .int c, .tup (cs.map .int)] ds Q mk := by
  unfold f_bends_by_colours m_bends_by_colours
  have b1 : r * c ≤ 3600 := mulb hr' hc'
  have hm : (r - 1) * c + c = r * c := by rw [← Nat.succ_mul]; congr 1; omega
  simp
  refine ⟨rg_ok (by omega), ?_⟩
  have e0 : ((r : Int) - 1).toNat = r - 1 := by omega
  refine q_loop (fun i s => ∃ x y z, s = ⟨[.d (.int r), .d (.int c), .d (.tup (cs.map .int)), .d (.str ((List.range i).flatMap fun i => (List.range c).map fun j => byA cs c (i * c + j))), x, y, z], ds⟩) ⟨_, _, _, by simp; exact ⟨rfl, rfl, rfl⟩⟩ ?_ ?_
  · rintro i d s hi ⟨x, y, z, rfl⟩
    obtain ⟨rfl, hi2⟩ := rgD_at hi
    have hir : i + 1 < r := by omega
    simp
    refine ⟨rg_ok (by omega), ?_⟩
    refine q_loop (fun j s => ∃ x z, s = ⟨[.d (.int r), .d (.int c), .d (.tup (cs.map .int)), .d (.str (((List.range i).flatMap fun i => (List.range c).map fun j => byA cs c (i * c + j)) ++ (List.range j).map fun j => byA cs c (i * c + j))), .d (.int i), x, z], ds⟩) ⟨_, _, by simp; exact ⟨rfl, rfl⟩⟩ ?_ ?_
    · rintro j d s hj ⟨x, z, rfl⟩
      obtain ⟨rfl, hj2⟩ := rgD_at hj
      have hk : i * c + j + c < cs.length := by
        rw [hl]
        calc i * c + j + c < (i + 1) * c + c := by rw [Nat.succ_mul]; omega
          _ = (i + 2) * c := by rw [Nat.succ_mul (i + 1)]
          _ ≤ r * c := Nat.mul_le_mul_right c hir
      have a1 := at_cs' (cs := cs) (z := ((i : Int) + 1) * c + j) (k := i * c + j + c) (by simp; rw [Int.add_mul]; omega) hk
      have a2 := at_cs' (cs := cs) (z := (i : Int) * c + j) (k := i * c + j) (by simp) (by omega)
      simp [a1, a2, cmul' (show ((i : Int)).natAbs < 2 ^ 63 by omega), cmul' (show ((i : Int) + 1).natAbs < 2 ^ 63 by omega)]
      have hb : i * c ≤ 3600 := mulb (n := 60) (m := 60) (by omega) (by omega)
      have hz : i * c + j + 1 ≤ sizeLine := sz (by omega)
      rw [map_take_succ, byA]
      split <;> exact ⟨hz, rfl⟩
    · rintro s ⟨x, z, rfl⟩
      rw [rgD_len, show ((c : Nat) : Int).toNat = c from rfl]
      refine ⟨.d (.int i), x, z, ?_⟩
      rw [flat_succ]
  · rintro s ⟨x, y, z, rfl⟩
    rw [rgD_len, e0]
    simp
    refine ⟨rg_ok (by omega), ?_⟩
    rw [flat_mul]
    refine q_loop (fun i s => ∃ x y z, s = ⟨[.d (.int r), .d (.int c), .d (.tup (cs.map .int)), .d (.str (byS1 r c cs ++ (List.range i).flatMap fun i => (List.range (c - 1)).map (byB cs c i))), x, y, z], ds⟩) ⟨_, _, _, by simp [byS1]; exact ⟨rfl, rfl, rfl⟩⟩ ?_ ?_
    · rintro i d s hi ⟨x, y, z, rfl⟩
      obtain ⟨rfl, hi2⟩ := rgD_at hi
      have hir : i < r := by omega
      simp
      refine ⟨rg_ok (by omega), ?_⟩
      refine q_loop (fun j s => ∃ x z, s = ⟨[.d (.int r), .d (.int c), .d (.tup (cs.map .int)), .d (.str (byS1 r c cs ++ ((List.range i).flatMap fun i => (List.range (c - 1)).map (byB cs c i)) ++ (List.range j).map (byB cs c i))), .d (.int i), x, z], ds⟩) ⟨_, _, by simp; exact ⟨rfl, rfl⟩⟩ ?_ ?_
      · rintro j d s hj ⟨x, z, rfl⟩
        obtain ⟨rfl, hj2⟩ := rgD_at hj
        have hjc : j + 1 < c := by omega
        have hk : i * c + j + 1 < cs.length := by
          rw [hl]
          calc i * c + j + 1 < i * c + c := by omega
            _ = (i + 1) * c := by rw [Nat.succ_mul]
            _ ≤ r * c := Nat.mul_le_mul_right c hir
        have a1 := at_cs' (cs := cs) (z := (i : Int) * c + j + 1) (k := i * c + j + 1) (by simp) hk
        have a2 := at_cs' (cs := cs) (z := (i : Int) * c + j) (k := i * c + j) (by simp) (by omega)
        simp [a1, a2, cmul' (show ((i : Int)).natAbs < 2 ^ 63 by omega)]
        have hb : i * (c - 1) ≤ 3600 := mulb (n := 60) (m := 60) (by omega) (by omega)
        have hz : (r - 1) * c + (i * (c - 1) + j) + 1 ≤ sizeLine := sz (by omega)
        rw [map_take_succ, byB]
        simp only [mod2 i]
        split <;> split <;> exact ⟨hz, rfl⟩
      · rintro s ⟨x, z, rfl⟩
        have e3 : ((c : Int) - 1).toNat = c - 1 := by omega
        rw [rgD_len, e3]
        refine ⟨.d (.int i), x, z, ?_⟩
        rw [flat_succ, List.append_assoc]
    · rintro s ⟨x, y, z, rfl⟩
      rw [rgD_len]
      simpa [byS, byS2] using q
end
end K36
namespace K36
open PySem PySem.Spec PyProof.Rows L2 PD
structure Proper (r c : Nat) (cs : List Int) : Prop where
  len : cs.length = r * c
  val : ∀ (k : Nat) (x : Int), cs[k]? = some x → 0 ≤ x ∧ x < 3
  left : ∀ k : Nat, k < cs.length → 0 < k % c → cs[k]?.getD 0 ≠ cs[k - 1]?.getD 0
  up : ∀ k : Nat, k < cs.length → c ≤ k → cs[k]?.getD 0 ≠ cs[k - c]?.getD 0
def nrm (cs : List Int) (k : Nat) : Int := (cs[k]?.getD 0 - cs[0]?.getD 0).fmod 3
theorem flat_get {n m i j : Nat} (f : Nat → Nat → Nat) (hi : i < n) (hj : j < m) : ((List.range n).flatMap fun i => (List.range m).map (f i))[i * m + j]? = some (f i j) := by
  induction n with
  | zero => omega
  | succ n ih =>
    rw [flat_succ]
    by_cases h : i < n
    · rw [List.getElem?_append_left]
      · exact ih h
      · rw [flat_len]
        calc i * m + j < i * m + m := by omega
          _ = (i + 1) * m := by rw [Nat.succ_mul]
          _ ≤ n * m := Nat.mul_le_mul_right m h
    · have : i = n := by omega
      subst this
      rw [List.getElem?_append_right (by rw [flat_len]; omega), flat_len, Nat.add_sub_cancel_left]
      simp [hj]
theorem byS_1 {r c k : Nat} {cs : List Int} (h : k < (r - 1) * c) : (byS r c cs)[k]? = some (byA cs c k) := by
  unfold byS
  rw [List.getElem?_append_left (by rw [byS1_len]; exact h)]
  simp [byS1, h]
theorem byS_2 {r c i j : Nat} {cs : List Int} (hi : i < r) (hj : j < c - 1) : (byS r c cs)[(r - 1) * c + (i * (c - 1) + j)]? = some (byB cs c i j) := by
  unfold byS
  rw [List.getElem?_append_right (by rw [byS1_len]; omega), byS1_len, Nat.add_sub_cancel_left]
  exact flat_get _ hi hj
theorem byS_len {r c : Nat} {cs : List Int} : (byS r c cs).length = (r - 1) * c + r * (c - 1) := by
  unfold byS byS2
  rw [List.length_append, byS1_len, flat_len]
theorem Proper.at {r c : Nat} {cs : List Int} (h : Proper r c cs) {k : Nat} (hk : k < cs.length) : 0 ≤ cs[k]?.getD 0 ∧ cs[k]?.getD 0 < 3 := by
  have e : cs[k]? = some cs[k] := List.getElem?_eq_getElem hk
  rw [e]
  exact h.val k _ e
theorem fm3 (x : Int) : x.fmod 3 = x % 3 := Int.fmod_eq_emod_of_nonneg _ (by decide)
section
variable {ds : Option DS} {Q : PD.R → Option DS → Prop} {r c : Nat} {cs : List Int}
@[simp ↓] theorem w_step {x : Nat} {h : Mk Q} : fq f_step_of [.str [x]] ds Q h ↔ Q (.d (.int (if x = 117 then 1 else -1))) ds := by
  unfold f_step_of m_step_of
  simp
  split <;> simp_all
theorem told_at {f : Nat → Int} {n k : Nat} (h : k < n) : atI ((List.range n).map fun t => D.int (f t)) (k : Int) = some (.int (f k)) := by
  rw [atI_get?]; simp [h]
theorem told_last {f : Nat → Int} {n : Nat} : atI ((List.range (n + 1)).map fun t => D.int (f t)) (-1) = some (.int (f n)) := by
  rw [List.range_succ, List.map_append]; exact atI_neg1
theorem mapD_succ {f : Nat → Int} (i : Nat) : ((List.range i).map fun t => D.int (f t)) ++ [.int (f i)] = (List.range (i + 1)).map fun t => D.int (f t) := by rw [List.range_succ, List.map_append]; rfl
theorem mapD_succ' {f : Nat → Int} {x : Int} (i : Nat) : ((((List.range i).map fun t => D.int (f t)) ++ [.int x]) = (List.range (i + 1)).map fun t => D.int (f t)) ↔ x = f i := by
  rw [List.range_succ, List.map_append, List.append_cancel_left_eq]
  simp
theorem w_colours (hr : 1 ≤ r) (hr' : r ≤ 6) (hc : 1 ≤ c) (hc' : c ≤ 6) (P : Proper r c cs) (q : Q (.d (.tup ((List.range (r * c)).map fun t => D.int (nrm cs t)))) ds) : fq f_colours_of [.int r, .int c, .str (byS r c cs)] ds Q mk := by
  unfold f_colours_of m_colours_of
  have b1 : r * c ≤ 36 := mulb hr' hc'
  simp
  refine ⟨rg_ok (by omega), ?_⟩
  refine q_loop (fun i s => ∃ x y z w, s = ⟨[.d (.int r), .d (.int c), .d (.str (byS r c cs)), .o (.l ((List.range (i * c)).map fun t => D.int (nrm cs t))), x, y, z, w], ds⟩) ⟨_, _, _, _, by simp; exact ⟨rfl, rfl, rfl, rfl⟩⟩ ?_ ?_
  · rintro i d s hi ⟨x, y, z, w, rfl⟩
    obtain ⟨rfl, hi2⟩ := rgD_at hi
    have hir : i < r := by omega
    simp
    refine ⟨rg_ok (by omega), ?_⟩
    refine q_loop (fun j s => ∃ x z w, s = ⟨[.d (.int r), .d (.int c), .d (.str (byS r c cs)), .o (.l ((List.range (i * c + j)).map fun t => D.int (nrm cs t))), .d (.int i), x, z, w], ds⟩) ⟨_, _, _, by simp; exact ⟨rfl, rfl, rfl⟩⟩ ?_ ?_
    · rintro j d s hj ⟨x, z, w, rfl⟩
      obtain ⟨rfl, hj2⟩ := rgD_at hj
      have hjc : j < c := by omega
      have hk : i * c + j < cs.length := by
        rw [P.len]
        calc i * c + j < i * c + c := by omega
          _ = (i + 1) * c := by rw [Nat.succ_mul]
          _ ≤ r * c := Nat.mul_le_mul_right c hir
      have hz : i * c + j + 1 ≤ sizeLine := sz (by rw [P.len] at hk; omega)
      have mr : CMul ((r : Int) - 1) c := cmul' (by omega)
      have mi : CMul (i : Int) ((c : Int) - 1) := cmul' (by omega)
      have mi1 : CMul ((i : Int) - 1) c := cmul' (by omega)
      by_cases hj0 : j = 0
      · subst hj0
        by_cases hi0 : i = 0
        · subst hi0
          simp [nrm]
          exact sz (by omega)
        · obtain ⟨i', rfl⟩ : ∃ i', i = i' + 1 := ⟨i - 1, by omega⟩
          have hk' : i' * c + c < cs.length := by have := hk; rw [Nat.succ_mul] at this; omega
          have a1 : atI ((List.range ((i' + 1) * c)).map fun t => D.int (nrm cs t)) (((i' : Int)) * c) = some (.int (nrm cs (i' * c))) := by
            have := told_at (f := nrm cs) (n := (i' + 1) * c) (k := i' * c) (by rw [Nat.succ_mul]; omega)
            simpa using this
          have a2 : atI (byS r c cs) ((i' : Int) * c) = some (byA cs c (i' * c)) := by
            have := atI_get? (l := byS r c cs) (k := i' * c)
            rw [byS_1 (by calc i' * c < i' * c + c := by omega
                             _ = (i' + 1) * c := by rw [Nat.succ_mul]
                             _ ≤ (r - 1) * c := Nat.mul_le_mul_right c (by omega))] at this
            simpa using this
          have e9 : ((i' : Int) + 1 - 1) = i' := by omega
          simp [a1, a2, e9, mr, cmul' (show ((i' : Int)).natAbs < 2 ^ 63 by omega), show ((i' : Int) + 1 ≠ 0) by omega]
          refine ⟨by have := hz; simp at this; omega, ?_⟩
          have h1 := P.at (k := i' * c) (by omega)
          have h2 := P.at (k := i' * c + c) hk'
          have h3 := P.at (k := 0) (by omega)
          have h4 := P.up (i' * c + c) hk' (by omega)
          rw [Nat.add_sub_cancel] at h4
          rw [List.range_succ, List.map_append, List.map_singleton, Nat.succ_mul]
          congr 3
          unfold nrm byA
          simp only [fm3]
          split <;> omega
      · obtain ⟨j', rfl⟩ : ∃ j', j = j' + 1 := ⟨j - 1, by omega⟩
        have b2 : (r - 1) * c ≤ 36 := mulb (n := 6) (m := 6) (by omega) hc'
        have e1 : ((r : Int) - 1) * c = (((r - 1) * c : Nat) : Int) := by rw [Int.natCast_mul]; congr 1; omega
        have e2 : (i : Int) * ((c : Int) - 1) = ((i * (c - 1) : Nat) : Int) := by rw [Int.natCast_mul]; congr 1; omega
        have a2 : atI (byS r c cs) (((r : Int) - 1) * c + (i : Int) * ((c : Int) - 1) + (j' : Int)) = some (byB cs c i j') := by
          have := atI_get? (l := byS r c cs) (k := (r - 1) * c + (i * (c - 1) + j'))
          rw [byS_2 hir (by omega)] at this
          rw [e1, e2, ← this]; congr 1; omega
        have a1 : atI ((List.range (i * c + (j' + 1))).map fun t => D.int (nrm cs t)) (-1) = some (.int (nrm cs (i * c + j'))) := told_last
        have e9 : ((j' : Int) + 1 - 1) = j' := by omega
        have mi' : CMul (i : Int) ((c : Int) - 1) := cmul' (by omega)
        simp [a1, a2, e9, mr, mi', show ((j' : Int) + 1 ≠ 0) by omega]
        have hk0 : (i * c + (j' + 1)) % c = j' + 1 := by rw [Nat.add_comm, Nat.add_mul_mod_self_right, Nat.mod_eq_of_lt hjc]
        have h1 := P.at (k := i * c + j') (by omega)
        have h2 := P.at (k := i * c + j' + 1) (by omega)
        have h3 := P.at (k := 0) (by omega)
        have h4 := P.left (i * c + (j' + 1)) hk (by omega)
        rw [show i * c + (j' + 1) - 1 = i * c + j' from rfl] at h4
        rw [show i * c + (j' + 1) = i * c + j' + 1 from rfl] at h4
        simp only [show i * c + (j' + 1 + 1) = i * c + (j' + 1) + 1 from rfl, mapD_succ', mod2]
        rw [show i * c + (j' + 1) = i * c + j' + 1 from rfl] at hz ⊢
        unfold nrm byB
        simp only [fm3]
        by_cases par : i % 2 = 1
        · simp only [par, if_true]
          refine ⟨by omega, ?_⟩
          split <;> simp <;> omega
        · simp only [par, if_false]
          refine ⟨by omega, ?_⟩
          split <;> simp <;> omega
    · rintro s ⟨x, z, w, rfl⟩
      rw [rgD_len, show ((c : Nat) : Int).toNat = c from rfl]
      exact ⟨.d (.int i), x, z, w, by rw [Nat.succ_mul]⟩
  · rintro s ⟨x, y, z, w, rfl⟩
    rw [rgD_len, show ((r : Nat) : Int).toNat = r from rfl]
    simpa using q
end
end K36
namespace K36
open PySem PySem.Spec PyProof.Rows L2 PD
structure PP (c : Nat) (cs : List Int) : Prop where
  val : ∀ (k : Nat) (x : Int), cs[k]? = some x → 0 ≤ x ∧ x < 3
  left : ∀ k : Nat, k < cs.length → 0 < k % c → cs[k]?.getD 0 ≠ cs[k - 1]?.getD 0
  up : ∀ k : Nat, k < cs.length → c ≤ k → cs[k]?.getD 0 ≠ cs[k - c]?.getD 0
theorem PP.nil {c : Nat} : PP c [] := ⟨fun k x h => (by simp at h), fun k h => (by simp at h), fun k h => (by simp at h)⟩
theorem gd_lt {cs : List Int} {x : Int} {k : Nat} (h : k < cs.length) : (cs ++ [x])[k]?.getD 0 = cs[k]?.getD 0 := by rw [List.getElem?_append_left h]
theorem gd_eq {cs : List Int} {x : Int} : (cs ++ [x])[cs.length]?.getD 0 = x := by simp
theorem PP.snoc {c : Nat} {cs : List Int} {x : Int} (p : PP c cs) (hc : 1 ≤ c) (hx : 0 ≤ x ∧ x < 3) (hl : 0 < cs.length % c → x ≠ cs[cs.length - 1]?.getD 0) (hu : c ≤ cs.length → x ≠ cs[cs.length - c]?.getD 0) : PP c (cs ++ [x]) := by
  refine ⟨fun k y h => ?_, fun k h h0 => ?_, fun k h h0 => ?_⟩
  · by_cases hk : k < cs.length
    · rw [List.getElem?_append_left hk] at h; exact p.val k y h
    · rw [List.getElem?_append_right (by omega)] at h
      have := (List.getElem?_eq_some_iff.mp h).1
      simp at this
      have e : k - cs.length = 0 := by omega
      rw [e] at h; simp at h; omega
  · rw [List.length_append, List.length_singleton] at h
    have k1 : 0 < k := by rcases Nat.eq_zero_or_pos k with e | e; (· subst e; simp at h0); exact e
    by_cases hk : k < cs.length
    · rw [gd_lt hk, gd_lt (by omega)]; exact p.left k hk h0
    · obtain rfl : k = cs.length := by omega
      rw [gd_eq, gd_lt (by omega)]; exact hl h0
  · rw [List.length_append, List.length_singleton] at h
    by_cases hk : k < cs.length
    · rw [gd_lt hk, gd_lt (by omega)]; exact p.up k hk h0
    · obtain rfl : k = cs.length := by omega
      rw [gd_eq, gd_lt (by omega)]; exact hu h0
section
variable {d : DS} {ds : Option DS} {Q : PD.R → Option DS → Prop} {r c : Nat} {cs : List Int}
theorem w_draw {many : Nat} (h0 : 0 < many) (h1 : many < 1073741824) (q : ∀ v : Nat, v < many → ∀ d', Q (.d (.int v)) (some d')) : fq f__law_draw [.st, .int many] (some d) Q mk := by
  have e : f__law_draw [.st, .int many] (some d) = some (.d (.int (drawR d.cells d.seed many).1), some (drawR d.cells d.seed many).2) := by
    show (if 0 < (many : Int) ∧ (many : Int) < 1073741824 then _ else none) = _
    rw [if_pos ⟨by omega, by omega⟩]
  have hb : 0 ≤ (drawR d.cells d.seed many).1 ∧ (drawR d.cells d.seed many).1 < many := by
    unfold drawR
    split <;> exact ⟨Int.fmod_nonneg_of_pos _ (by omega), Int.fmod_lt_of_pos _ (by omega)⟩
  obtain ⟨v, hv⟩ := Int.eq_ofNat_of_zero_le hb.1
  refine ⟨_, _, e, ?_⟩
  rw [hv] at hb ⊢
  exact q v (by omega) _
theorem w_pick {xs : List D} (h0 : 0 < xs.length) (h1 : xs.length < 1073741824) (q : ∀ x ∈ xs, ∀ d', Q (.d x) (some d')) : fq f__law_pick [.st, .lst xs] (some d) Q mk := by
  unfold f__law_pick m__law_pick
  simp
  refine w_draw h0 h1 fun v hv d' => ?_
  simp [atI_get?, hv]
  exact q _ (List.getElem_mem hv) d'
noncomputable def colAdd : MS := (mDrop (mMut "list" fAppend (mVar 3) [(mCall f__law_pick (mArgs [(mVar 0), (mLc (mItA fRng1 [(mC (.int 3))]) (tgN 6) (mTest (mBin fNotIn (mVar 6) (mVar 5))) (mVar 6) [6])]))]))
theorem col_eq : m__law_colouring = (mThen (mSet 3 (mLst []))
    (mThen (mFor (mItA fRng1 [(mBin fMul (mVar 1) (mVar 2))]) (tgN 4) (mThen (mSet 5 (mBin fAdd (mIf (mTest (mBin fGt (mBin fMod (mVar 4) (mVar 2)) (mC (.int 0)))) (mLst [(mBin fIx (mVar 3) (mBin fSub (mVar 4) (mC (.int 1))))]) (mLst [])) (mIf (mTest (mBin fGe (mVar 4) (mVar 2))) (mLst [(mBin fIx (mVar 3) (mBin fSub (mVar 4) (mVar 2)))]) (mLst []))))
    colAdd))
    (mRetS (mPrim fTuple (mArgs [(mVar 3)]))))) := rfl
theorem pla {l : List Int} {n : Nat} : plAll n (l.map D.int) = true := by
  induction l with
  | nil => rfl
  | cons a l ih => rw [List.map_cons, plAll_cons, ih, pl_int]; rfl
theorem rg3 : rgD 3 = [.int 0, .int 1, .int 2] := rfl
theorem any_int {l : List Int} {x : Int} : ((l.map D.int).any fun z => eqD z (.int x)) = decide (x ∈ l) := by
  induction l with
  | nil => rfl
  | cons a l ih => rw [List.map_cons, List.any_cons, ih, eqD_i]; simp [Bool.beq_eq_decide_eq, eq_comm]
def prob (sh : List Int) : D → Bool
  | .int x => decide (x ∉ sh)
  | _ => false
theorem w_add {x1 x2 x4 z : Sl} {sh : List Int} {Q : Fl → S → Prop} (hl : cs.length < 5000) (hne : ∃ v : Int, (v = 0 ∨ v = 1 ∨ v = 2) ∧ v ∉ sh) (q : ∀ v : Int, 0 ≤ v ∧ v < 3 → v ∉ sh → ∀ d' y z, Q .nx ⟨[.d .st, x1, x2, .o (.l ((cs ++ [v]).map .int)), x4, y, z], some d'⟩) : wq colAdd ⟨[.d .st, x1, x2, .o (.l (cs.map .int)), x4, .o (.l (sh.map .int)), z], some d⟩ Q mk := by
  unfold colAdd
  simp
  refine ⟨by decide, ?_⟩
  rw [rg3]
  refine q_lc_pure (prob sh) id ?_ ?_
  · intro dd hd
    have : ∃ x : Int, dd = .int x := by simp at hd; rcases hd with rfl | rfl | rfl <;> exact ⟨_, rfl⟩
    obtain ⟨x, rfl⟩ := this
    simp [pla, any_int, prob]
    by_cases hx : x ∈ sh
    · simp [hx]
    · simp [hx]
      intro y hy e; exact hx (e ▸ hy)
  · have hm : ∀ y ∈ ((([.int 0, .int 1, .int 2] : List D).filter (prob sh)).map id), ∃ v : Int, y = .int v ∧ (0 ≤ v ∧ v < 3) ∧ v ∉ sh := by
      intro y hy
      simp at hy
      rcases hy with ⟨rfl | rfl | rfl, h⟩ <;> exact ⟨_, rfl, by decide, of_decide_eq_true h⟩
    have h0 : 0 < ((([.int 0, .int 1, .int 2] : List D).filter (prob sh)).map id).length := by
      obtain ⟨v, hv, hn⟩ := hne
      have : D.int v ∈ ((([.int 0, .int 1, .int 2] : List D).filter (prob sh)).map id) := by
        rw [List.map_id, List.mem_filter]
        exact ⟨by rcases hv with rfl | rfl | rfl <;> simp, decide_eq_true hn⟩
      exact List.length_pos_of_mem this
    have h9 : ((([.int 0, .int 1, .int 2] : List D).filter (prob sh)).map id).length ≤ 3 := by
      rw [List.length_map]; exact List.length_filter_le _ _
    generalize ((([.int 0, .int 1, .int 2] : List D).filter (prob sh)).map id) = xs at hm h0 h9
    simp
    refine ⟨sz (by omega), ?_⟩
    refine w_pick h0 (by omega) fun y hy d' => ?_
    obtain ⟨v, rfl, hv, hn⟩ := hm y hy
    simp
    refine ⟨sz (by omega), ?_⟩
    have := q v hv hn d'
    simpa using this _ _
theorem w_colouring (hr : 1 ≤ r) (hr' : r ≤ 60) (hc : 1 ≤ c) (hc' : c ≤ 60) (q : ∀ cs, Proper r c cs → ∀ d', Q (.d (.tup (cs.map .int))) (some d')) : fq f__law_colouring [.st, .int r, .int c] (some d) Q mk := by
  unfold f__law_colouring
  rw [col_eq]
  have b1 : r * c ≤ 3600 := mulb hr' hc'
  simp [cmul' (show ((r : Int)).natAbs < 2 ^ 63 by omega)]
  have e1 : (r : Int) * c = ((r * c : Nat) : Int) := by rw [Int.natCast_mul]
  refine ⟨rg_ok (by rw [e1]; omega), ?_⟩
  refine q_loop (fun i s => ∃ cs x y z d', cs.length = i ∧ PP c cs ∧ s = ⟨[.d .st, .d (.int r), .d (.int c), .o (.l (cs.map .int)), x, y, z], some d'⟩) ⟨[], _, _, _, d, rfl, .nil, rfl⟩ ?_ ?_
  · rintro i d1 s hi ⟨cs, x, y, z, d', rfl, P, rfl⟩
    obtain ⟨rfl, hi2⟩ := rgD_at hi
    have hb : cs.length < r * c := by rw [e1] at hi2; omega
    have fm : 0 < ((cs.length : Nat) : Int).fmod (c : Int) ↔ 0 < cs.length % c := by
      rw [Int.fmod_eq_emod_of_nonneg _ (by omega), ← Int.natCast_emod]; omega
    have fin : ∀ sh : List Int, sh.length ≤ 2 → (0 < cs.length % c → cs[cs.length - 1]?.getD 0 ∈ sh) → (c ≤ cs.length → cs[cs.length - c]?.getD 0 ∈ sh) → ∀ z : Sl, ∃ v : Int, (v = 0 ∨ v = 1 ∨ v = 2) ∧ v ∉ sh := by
      intro sh h _ _ _
      match sh, h with
      | [], _ => exact ⟨0, by decide, by simp⟩
      | [a], _ => by_cases a = 0; (· exact ⟨1, by decide, by simp; omega⟩); exact ⟨0, by decide, by simp; omega⟩
      | [a, b], _ =>
        by_cases h0 : a = 0 ∨ b = 0
        · by_cases h1 : a = 1 ∨ b = 1
          · exact ⟨2, by decide, by simp; omega⟩
          · exact ⟨1, by decide, by simp; omega⟩
        · exact ⟨0, by decide, by simp; omega⟩
    have run : ∀ sh : List Int, sh.length ≤ 2 → (0 < cs.length % c → cs[cs.length - 1]?.getD 0 ∈ sh) → (c ≤ cs.length → cs[cs.length - c]?.getD 0 ∈ sh) → ∀ v : Int, 0 ≤ v ∧ v < 3 → v ∉ sh → PP c (cs ++ [v]) := by
      intro sh _ h1 h2 v hv hn
      exact P.snoc hc hv (fun h e => hn (e ▸ h1 h)) (fun h e => hn (e ▸ h2 h))
    have a1 : 0 < cs.length % c → atI (cs.map D.int) ((cs.length : Int) - 1) = some (.int (cs[cs.length - 1]?.getD 0)) := by
      intro h
      have : 0 < cs.length := by rcases Nat.eq_zero_or_pos cs.length with e | e; (· rw [e] at h; simp at h); exact e
      exact at_cs' (by omega) (by omega)
    have a2 : c ≤ cs.length → atI (cs.map D.int) ((cs.length : Int) - c) = some (.int (cs[cs.length - c]?.getD 0)) := by
      intro h
      exact at_cs' (by omega) (by omega)
    by_cases hL : 0 < cs.length % c <;> by_cases hU : c ≤ cs.length
    · simp [fm, hL, hU, a1 hL, a2 hU, show c ≠ 0 by omega, sz]
      refine w_add (sh := [_, _]) (by omega) (fin _ (by simp) (by simp) (by simp) x) fun v hv hn d' y z => ⟨_, _, _, _, _, by simp, run _ (by simp) (by simp) (by simp) v hv hn, rfl⟩
    · simp [fm, hL, hU, a1 hL, show c ≠ 0 by omega, sz]
      refine w_add (sh := [_]) (by omega) (fin _ (by simp) (by simp) (by intro h; omega) x) fun v hv hn d' y z => ⟨_, _, _, _, _, by simp, run _ (by simp) (by simp) (by intro h; omega) v hv hn, rfl⟩
    · simp [fm, hL, hU, a2 hU, show c ≠ 0 by omega, sz]
      refine w_add (sh := [_]) (by omega) (fin _ (by simp) (by intro h; omega) (by simp) x) fun v hv hn d' y z => ⟨_, _, _, _, _, by simp, run _ (by simp) (by intro h; omega) (by simp) v hv hn, rfl⟩
    · simp [fm, hL, hU, show c ≠ 0 by omega, sz]
      refine w_add (sh := []) (by omega) (fin _ (by simp) (by intro h; omega) (by intro h; omega) x) fun v hv hn d' y z => ⟨_, _, _, _, _, by simp, run _ (by simp) (by intro h; omega) (by intro h; omega) v hv hn, rfl⟩
  · rintro s ⟨cs, x, y, z, d', hl, P, rfl⟩
    rw [rgD_len, e1] at hl
    simp
    exact q cs ⟨hl.trans rfl, P.val, P.left, P.up⟩ d'
end
end K36
namespace PD
open PySem PySem.Spec PyProof.Rows L2
section
variable {f f' : D → D → Option R} {a b c : M R} {s : S} {Q : R → S → Prop}
@[simp ↓] theorem q_chain {h : Mk Q} : wq (mChain f f' a b c) s Q h ↔ wq a s (fun ra s1 => wq b s1 (fun rb s2 => bq (ra.peek s2.env) (fun x => bq (rb.peek s2.env) (fun y => bq (f x y) (fun z => bq z.bl? (fun k => if k = true then wq c s2 (fun rc s3 => bq (rb.peek s3.env) (fun y2 => bq (rc.peek s3.env) (fun w => bq (f' y2 w) (fun r => Q r s3) mk) mk) mk) mk else Q (.d (.bl false)) s2) mk) mk) mk) mk) mk) mk := by
  constructor
  · rintro ⟨r, s', e, q⟩
    unfold mChain at e
    obtain ⟨⟨ra, s1⟩, e1, e⟩ := Option.bind_eq_some_iff.mp e
    obtain ⟨⟨rb, s2⟩, e2, e⟩ := Option.bind_eq_some_iff.mp e
    obtain ⟨x, e3, e⟩ := Option.bind_eq_some_iff.mp e
    obtain ⟨y, e4, e⟩ := Option.bind_eq_some_iff.mp e
    obtain ⟨z, e5, e⟩ := Option.bind_eq_some_iff.mp e
    obtain ⟨k, e6, e⟩ := Option.bind_eq_some_iff.mp e
    refine ⟨ra, s1, e1, rb, s2, e2, x, e3, y, e4, z, e5, k, e6, ?_⟩
    simp only
    split at e
    · rename_i hk
      rw [if_pos hk]
      obtain ⟨⟨rc, s3⟩, e7, e⟩ := Option.bind_eq_some_iff.mp e
      obtain ⟨y2, e8, e⟩ := Option.bind_eq_some_iff.mp e
      obtain ⟨w, e9, e⟩ := Option.bind_eq_some_iff.mp e
      obtain ⟨r', h3, h4⟩ := Option.map_eq_some_iff.mp e
      cases h4
      exact ⟨rc, s3, e7, y2, e8, w, e9, _, h3, q⟩
    · rename_i hk
      rw [if_neg hk]
      cases e
      exact q
  · rintro ⟨ra, s1, e1, rb, s2, e2, x, e3, y, e4, z, e5, k, e6, q⟩
    split at q
    · rename_i hk
      obtain ⟨rc, s3, e7, y2, e8, w, e9, r', h3, q⟩ := q
      exact ⟨r', s3, by simp only [mChain, e1, e2, e3, e4, e5, e6, hk, if_true, e7, e8, e9, h3, Option.bind_some, Option.map_some], q⟩
    · rename_i hk
      exact ⟨.d (.bl false), s2, by simp only [mChain, e1, e2, e3, e4, e5, e6, hk, if_false, Option.bind_some]; rfl, q⟩
end
end PD
namespace K36
open PySem PySem.Spec PyProof.Rows L2 PD
def cnt1 (x : Nat) : Nat := if x = 117 then 1 else 0
def badB (mi : Bool) (i x0 x1 x2 x3 : Nat) : Bool :=
  !(decide (cnt1 x0 + cnt1 x1 + cnt1 x2 + cnt1 x3 = 1) || decide (cnt1 x0 + cnt1 x1 + cnt1 x2 + cnt1 x3 = 3)) || (mi && (decide (x1 = x3) && decide (x3 = if i % 2 = 0 then x0 else x2)))
def kN (mi : Bool) : List Nat := if mi then [109, 105, 117, 114, 97] else [115, 113, 117, 97, 114, 101, 115]
def UD (l : List Nat) : Prop := ∀ x ∈ l, x = 117 ∨ x = 100
def at0 (l : List Nat) (k : Nat) : Nat := l[k]?.getD 0
def badC (mi : Bool) (r c : Nat) (l : List Nat) (i j : Nat) : Bool := badB mi i (at0 l (i * c + j)) (at0 l ((r - 1) * c + (i * (c - 1) + j))) (at0 l (i * c + (j + 1))) (at0 l ((r - 1) * c + ((i + 1) * (c - 1) + j)))
def prD (i : Nat) (j : Nat) : D := .tup [.int i, .int j]
def wrR (mi : Bool) (r c : Nat) (l : List Nat) (i n : Nat) : List D := ((List.range n).filter fun j => badC mi r c l i j).map (prD i)
def wrL (mi : Bool) (r c : Nat) (l : List Nat) (n : Nat) : List D := (List.range n).flatMap fun i => wrR mi r c l i (c - 1)
theorem wrR_succ {mi : Bool} {r c : Nat} {l : List Nat} {i n : Nat} : wrR mi r c l i (n + 1) = wrR mi r c l i n ++ (if badC mi r c l i n then [prD i n] else []) := by
  unfold wrR
  rw [List.range_succ, List.filter_append, List.map_append]
  congr 1
  cases h : badC mi r c l i n <;> simp [h]
theorem wrL_succ {mi : Bool} {r c : Nat} {l : List Nat} {n : Nat} : wrL mi r c l (n + 1) = wrL mi r c l n ++ wrR mi r c l n (c - 1) := by
  unfold wrL
  rw [List.range_succ, List.flatMap_append]; simp
theorem wrR_len {mi : Bool} {r c : Nat} {l : List Nat} {i n : Nat} : (wrR mi r c l i n).length ≤ n := by
  induction n with
  | zero => simp [wrR]
  | succ n ih => rw [wrR_succ, List.length_append]; split <;> simp <;> omega
theorem wrL_len {mi : Bool} {r c : Nat} {l : List Nat} {n : Nat} : (wrL mi r c l n).length ≤ n * (c - 1) := by
  induction n with
  | zero => simp [wrL]
  | succ n ih => rw [wrL_succ, List.length_append, Nat.succ_mul]; have := wrR_len (mi := mi) (r := r) (c := c) (l := l) (i := n) (n := c - 1); omega
theorem UD.at {l : List Nat} (h : UD l) {k : Nat} (hk : k < l.length) : at0 l k = 117 ∨ at0 l k = 100 := by
  unfold at0
  rw [List.getElem?_eq_getElem hk]
  exact h _ (List.getElem_mem hk)
theorem at_ok {l : List Nat} {k : Nat} {z : Int} (hz : z = k) (hk : k < l.length) : atI l z = some (at0 l k) := by
  rw [hz, atI_get?]; unfold at0; rw [List.getElem?_eq_getElem hk]; rfl
theorem cnt_ok {x0 x1 x2 x3 : Nat} (h0 : x0 = 117 ∨ x0 = 100) (h1 : x1 = 117 ∨ x1 = 100) (h2 : x2 = 117 ∨ x2 = 100) (h3 : x3 = 117 ∨ x3 = 100) : (Txt.count (sOf [x0, x1, x2, x3]) (sOf [117])) = cnt1 x0 + cnt1 x1 + cnt1 x2 + cnt1 x3 := by
  rcases h0 with rfl | rfl <;> rcases h1 with rfl | rfl <;> rcases h2 with rfl | rfl <;> rcases h3 with rfl | rfl <;> decide +kernel
theorem mod2' (i : Nat) : ((i : Int).fmod 2 = 0) ↔ i % 2 = 0 := by
  rw [Int.fmod_eq_emod_of_nonneg _ (by decide)]
  omega
section
variable {d : DS} {ds : Option DS} {Q : PD.R → Option DS → Prop} {r c : Nat} {l : List Nat} {mi : Bool}
theorem w_irc {i x0 x1 x2 x3 : Nat} (h0 : x0 = 117 ∨ x0 = 100) (h1 : x1 = 117 ∨ x1 = 100) (h2 : x2 = 117 ∨ x2 = 100) (h3 : x3 = 117 ∨ x3 = 100) (q : Q (.d (.bl (!badB mi i x0 x1 x2 x3))) ds) : fq f_is_right_corner [.str (kN mi), .int i, .str [x0, x1, x2, x3]] ds Q mk := by
  unfold f_is_right_corner m_is_right_corner
  have a0 : atI [x0, x1, x2, x3] 0 = some x0 := rfl
  have a1 : atI [x0, x1, x2, x3] 1 = some x1 := rfl
  have a2 : atI [x0, x1, x2, x3] 2 = some x2 := rfl
  have a3 : atI [x0, x1, x2, x3] 3 = some x3 := rfl
  have hk : ∀ n : Nat, (n = 1 ∨ n = 3 ∨ (n ≠ 1 ∧ n ≠ 3)) := by intro n; omega
  rcases h0 with rfl | rfl <;> rcases h1 with rfl | rfl <;> rcases h2 with rfl | rfl <;> rcases h3 with rfl | rfl <;> cases mi <;> by_cases par : i % 2 = 0 <;> simp [cnt_ok, cnt1, kN, badB, mod2', par] at q ⊢ <;> simp [*, sz, show (2 : Nat) ≤ sizeLine from by decide, show ∀ a b c d : Nat, atI [a, b, c, d] 0 = some a from fun _ _ _ _ => rfl, show ∀ a b c d : Nat, atI [a, b, c, d] 1 = some b from fun _ _ _ _ => rfl, show ∀ a b c d : Nat, atI [a, b, c, d] 2 = some c from fun _ _ _ _ => rfl, show ∀ a b c d : Nat, atI [a, b, c, d] 3 = some d from fun _ _ _ _ => rfl]
end
end K36
namespace K36
open PySem PySem.Spec PyProof.Rows L2 PD
theorem idxA {r c i j : Nat} (hi : i + 1 < r) (hj : j < c) : i * c + j < (r - 1) * c := by
  calc i * c + j < i * c + c := by omega
    _ = (i + 1) * c := by rw [Nat.succ_mul]
    _ ≤ (r - 1) * c := Nat.mul_le_mul_right c (by omega)
theorem idxB {r c k j : Nat} (hi : k < r) (hj : j < c - 1) : k * (c - 1) + j < r * (c - 1) := by
  calc k * (c - 1) + j < k * (c - 1) + (c - 1) := by omega
    _ = (k + 1) * (c - 1) := by rw [Nat.succ_mul]
    _ ≤ r * (c - 1) := Nat.mul_le_mul_right (c - 1) (by omega)
theorem c1 {r c : Nat} (h : 1 ≤ r) : ((r : Int) - 1) * c = (((r - 1) * c : Nat) : Int) := by rw [Int.natCast_mul]; congr 1; omega
theorem c2 {i c : Nat} (h : 1 ≤ c) : (i : Int) * ((c : Int) - 1) = ((i * (c - 1) : Nat) : Int) := by rw [Int.natCast_mul]; congr 1; omega
theorem c3 {i c : Nat} : (i : Int) * (c : Int) = ((i * c : Nat) : Int) := by rw [Int.natCast_mul]
def fourL (r c : Nat) (l : List Nat) (i j : Nat) : List Nat := [at0 l (i * c + j), at0 l ((r - 1) * c + (i * (c - 1) + j)), at0 l (i * c + (j + 1)), at0 l ((r - 1) * c + ((i + 1) * (c - 1) + j))]
section
variable {d : DS} {ds : Option DS} {Q : PD.R → Option DS → Prop} {r c i j : Nat} {l : List Nat} {mi : Bool}
theorem w_cb' (hr : r ≤ 60) (hc : c ≤ 60) (hl : l.length = (r - 1) * c + r * (c - 1)) (hi : i + 1 < r) (hj : j + 1 < c) (q : Q (.d (.str (fourL r c l i j))) ds) : fq f_corner_bends [.int r, .int c, .str l, .int i, .int j] ds Q mk := by
  have b0 := idxA (c := c) hi (show j < c by omega)
  have b1 := idxB (r := r) (c := c) (k := i) (j := j) (by omega) (by omega)
  have b2 := idxA (c := c) hi (show j + 1 < c by omega)
  have b3 := idxB (r := r) (c := c) (k := i + 1) (j := j) (by omega) (by omega)
  refine w_cb (x0 := at0 l (i * c + j)) (x1 := at0 l ((r - 1) * c + (i * (c - 1) + j))) (x2 := at0 l (i * c + (j + 1))) (x3 := at0 l ((r - 1) * c + ((i + 1) * (c - 1) + j))) (at_ok ?_ ?_) (at_ok ?_ ?_) (at_ok ?_ ?_) (at_ok ?_ ?_) (cmul' ?_) (cmul' ?_) (cmul' ?_) (cmul' ?_) q
  · rw [c3]; omega
  · omega
  · rw [c1 (by omega), c2 (by omega)]; omega
  · omega
  · rw [c3]; omega
  · omega
  · rw [c1 (by omega), show (i : Int) + 1 = ((i + 1 : Nat) : Int) by omega, c2 (by omega)]; omega
  · omega
  all_goals omega
theorem w_at (hr : r ≤ 60) (hc : c ≤ 60) (hl : l.length = (r - 1) * c + r * (c - 1)) (hi : i + 1 < r) (hj : j + 1 < c) (q : Q (.d (.str (fourL r c l i j))) ds) : fq f__law_at [.int r, .int c, .str l, .int i, .int j] ds Q mk := by
  have b0 := idxA (c := c) hi (show j < c by omega)
  have b1 := idxB (r := r) (c := c) (k := i) (j := j) (by omega) (by omega)
  have b2 := idxA (c := c) hi (show j + 1 < c by omega)
  have b3 := idxB (r := r) (c := c) (k := i + 1) (j := j) (by omega) (by omega)
  have a0 : atI l ((i : Int) * c + j) = some (at0 l (i * c + j)) := at_ok (by rw [c3]; omega) (by omega)
  have a2 : atI l ((i : Int) * c + j + 1) = some (at0 l (i * c + (j + 1))) := at_ok (by rw [c3]; omega) (by omega)
  have a1 : atI l (((r : Int) - 1) * c + i * (c - 1) + j) = some (at0 l ((r - 1) * c + (i * (c - 1) + j))) := at_ok (by rw [c1 (by omega), c2 (by omega)]; omega) (by omega)
  have a3 : atI l (((r : Int) - 1) * c + (i + 1) * (c - 1) + j) = some (at0 l ((r - 1) * c + ((i + 1) * (c - 1) + j))) := at_ok (by rw [c1 (by omega), show (i : Int) + 1 = ((i + 1 : Nat) : Int) by omega, c2 (by omega)]; omega) (by omega)
  unfold f__law_at m__law_at
  simp [cmul' (show ((r : Int) - 1).natAbs < 2 ^ 63 by omega), cmul' (show ((i : Int)).natAbs < 2 ^ 63 by omega)]
  refine ⟨by decide, ?_⟩
  refine q_lc_pure (fun _ => true) (fun d => match d with | .int k => if k = i then .str [at0 l ((r - 1) * c + (i * (c - 1) + j))] else .str [at0 l ((r - 1) * c + ((i + 1) * (c - 1) + j))] | _ => .non) ?_ ?_
  · intro dd hd
    simp at hd
    rcases hd with rfl | rfl
    · simp [cmul' (show ((i : Int)).natAbs < 2 ^ 63 by omega), a1]
    · simp [cmul' (show ((i : Int) + 1).natAbs < 2 ^ 63 by omega), a3]
      try omega
  · simp [a0, a2, show ∀ a b : D, atI [a, b] 0 = some a from fun _ _ => rfl, show ∀ a b : D, atI [a, b] 1 = some b from fun _ _ => rfl, cmul' (show ((i : Int)).natAbs < 2 ^ 63 by omega), sz, show (i : Int) + 1 ≠ i by omega]
    exact q
end
end K36
namespace K36
open PySem PySem.Spec PyProof.Rows L2 PD
section
variable {d : DS} {ds : Option DS} {Q : PD.R → Option DS → Prop} {r c i j : Nat} {l : List Nat} {mi : Bool}
theorem fourUD {r c i j : Nat} {l : List Nat} (hl : l.length = (r - 1) * c + r * (c - 1)) (hi : i + 1 < r) (hj : j + 1 < c) (u : UD l) : (at0 l (i * c + j) = 117 ∨ at0 l (i * c + j) = 100) ∧ (at0 l ((r - 1) * c + (i * (c - 1) + j)) = 117 ∨ at0 l ((r - 1) * c + (i * (c - 1) + j)) = 100) ∧ (at0 l (i * c + (j + 1)) = 117 ∨ at0 l (i * c + (j + 1)) = 100) ∧ (at0 l ((r - 1) * c + ((i + 1) * (c - 1) + j)) = 117 ∨ at0 l ((r - 1) * c + ((i + 1) * (c - 1) + j)) = 100) := by
  have b0 := idxA (c := c) hi (show j < c by omega)
  have b1 := idxB (r := r) (c := c) (k := i) (j := j) (by omega) (by omega)
  have b2 := idxA (c := c) hi (show j + 1 < c by omega)
  have b3 := idxB (r := r) (c := c) (k := i + 1) (j := j) (by omega) (by omega)
  exact ⟨u.at (by omega), u.at (by omega), u.at (by omega), u.at (by omega)⟩
theorem w_wc (hr1 : 1 ≤ r) (hr : r ≤ 60) (hc1 : 1 ≤ c) (hc : c ≤ 60) (hl : l.length = (r - 1) * c + r * (c - 1)) (u : UD l) (q : Q (.t (.l (wrL mi r c l (r - 1)))) ds) : fq f_wrong_corners [.str (kN mi), .int r, .int c, .str l] ds Q mk := by
  unfold f_wrong_corners m_wrong_corners
  simp
  refine ⟨rg_ok (by omega), ?_⟩
  have e1 : ((r : Int) - 1).toNat = r - 1 := by omega
  have e2 : ((c : Int) - 1).toNat = c - 1 := by omega
  refine q_loop (fun i s => ∃ x y, s = ⟨[.d (.str (kN mi)), .d (.int r), .d (.int c), .d (.str l), .o (.l (wrL mi r c l i)), x, y], ds⟩) ⟨_, _, rfl⟩ ?_ ?_
  · rintro i d s hi ⟨x, y, rfl⟩
    obtain ⟨rfl, hi2⟩ := rgD_at hi
    have hir : i + 1 < r := by omega
    simp
    refine ⟨rg_ok (by omega), ?_⟩
    refine q_loop (fun j s => ∃ y, s = ⟨[.d (.str (kN mi)), .d (.int r), .d (.int c), .d (.str l), .o (.l (wrL mi r c l i ++ wrR mi r c l i j)), .d (.int i), y], ds⟩) ⟨_, by simp [wrR]; rfl⟩ ?_ ?_
    · rintro j d s hj ⟨y, rfl⟩
      obtain ⟨rfl, hj2⟩ := rgD_at hj
      have hjc : j + 1 < c := by omega
      obtain ⟨u0, u1, u2, u3⟩ := fourUD hl hir hjc u
      have hz : (wrL mi r c l i).length + (wrR mi r c l i j).length < sizeLine := by
        have h1 := wrL_len (mi := mi) (r := r) (c := c) (l := l) (n := i)
        have h2 := wrR_len (mi := mi) (r := r) (c := c) (l := l) (i := i) (n := j)
        have h3 : i * (c - 1) ≤ 60 * 60 := mulb (by omega) (by omega)
        exact Nat.lt_of_lt_of_le (m := 10000) (by omega) (by decide)
      simp
      refine w_cb' hr hc hl hir hjc ?_
      simp [fourL]
      refine w_irc u0 u1 u2 u3 ?_
      rw [wrR_succ]
      have eb : badC mi r c l i j = badB mi i (at0 l (i * c + j)) (at0 l ((r - 1) * c + (i * (c - 1) + j))) (at0 l (i * c + (j + 1))) (at0 l ((r - 1) * c + ((i + 1) * (c - 1) + j))) := rfl
      rw [eb]
      cases badB mi i (at0 l (i * c + j)) (at0 l ((r - 1) * c + (i * (c - 1) + j))) (at0 l (i * c + (j + 1))) (at0 l ((r - 1) * c + ((i + 1) * (c - 1) + j))) <;> simp [hz, prD, show (2 : Nat) ≤ sizeLine from by decide]
    · rintro s ⟨y, rfl⟩
      rw [rgD_len, e2]
      exact ⟨_, _, by rw [wrL_succ]⟩
  · rintro s ⟨x, y, rfl⟩
    rw [rgD_len, e1]
    simpa using q
theorem w_lw (hr1 : 1 ≤ r) (hr : r ≤ 60) (hc1 : 1 ≤ c) (hc : c ≤ 60) (hl : l.length = (r - 1) * c + r * (c - 1)) (u : UD l) (q : Q (.t (.l (wrL mi r c l (r - 1)))) ds) : fq f__law_wrong [.str (kN mi), .int r, .int c, .str l] ds Q mk := by
  unfold f__law_wrong m__law_wrong
  simp
  refine ⟨rg_ok (by omega), ?_⟩
  have e1 : ((r : Int) - 1).toNat = r - 1 := by omega
  have e2 : ((c : Int) - 1).toNat = c - 1 := by omega
  refine q_loop (fun i s => ∃ x y z w, s = ⟨[.d (.str (kN mi)), .d (.int r), .d (.int c), .d (.str l), .o (.l (wrL mi r c l i)), x, y, z, w], ds⟩) ⟨_, _, _, _, rfl⟩ ?_ ?_
  · rintro i d s hi ⟨x, y, z, w, rfl⟩
    obtain ⟨rfl, hi2⟩ := rgD_at hi
    have hir : i + 1 < r := by omega
    simp
    refine ⟨rg_ok (by omega), ?_⟩
    refine q_loop (fun j s => ∃ y z w, s = ⟨[.d (.str (kN mi)), .d (.int r), .d (.int c), .d (.str l), .o (.l (wrL mi r c l i ++ wrR mi r c l i j)), .d (.int i), y, z, w], ds⟩) ⟨_, _, _, by simp [wrR]; exact ⟨rfl, rfl, rfl⟩⟩ ?_ ?_
    · rintro j d s hj ⟨y, z, w, rfl⟩
      obtain ⟨rfl, hj2⟩ := rgD_at hj
      have hjc : j + 1 < c := by omega
      obtain ⟨u0, u1, u2, u3⟩ := fourUD hl hir hjc u
      have hz : (wrL mi r c l i).length + (wrR mi r c l i j).length < sizeLine := by
        have h1 := wrL_len (mi := mi) (r := r) (c := c) (l := l) (n := i)
        have h2 := wrR_len (mi := mi) (r := r) (c := c) (l := l) (i := i) (n := j)
        have h3 : i * (c - 1) ≤ 60 * 60 := mulb (by omega) (by omega)
        exact Nat.lt_of_lt_of_le (m := 10000) (by omega) (by decide)
      simp
      refine w_at hr hc hl hir hjc ?_
      rw [wrR_succ]
      have eb : badC mi r c l i j = badB mi i (at0 l (i * c + j)) (at0 l ((r - 1) * c + (i * (c - 1) + j))) (at0 l (i * c + (j + 1))) (at0 l ((r - 1) * c + ((i + 1) * (c - 1) + j))) := rfl
      rw [eb]
      unfold fourL
      generalize at0 l (i * c + j) = x0 at *
      generalize at0 l ((r - 1) * c + (i * (c - 1) + j)) = x1 at *
      generalize at0 l (i * c + (j + 1)) = x2 at *
      generalize at0 l ((r - 1) * c + ((i + 1) * (c - 1) + j)) = x3 at *
      rcases u0 with rfl | rfl <;> rcases u1 with rfl | rfl <;> rcases u2 with rfl | rfl <;> rcases u3 with rfl | rfl <;> cases mi <;> by_cases par : i % 2 = 0 <;> simp [cnt_ok, cnt1, kN, badB, mod2', par, hz, prD, sz, show (2 : Nat) ≤ sizeLine from by decide, show ∀ a b c d : Nat, atI [a, b, c, d] 0 = some a from fun _ _ _ _ => rfl, show ∀ a b c d : Nat, atI [a, b, c, d] 1 = some b from fun _ _ _ _ => rfl, show ∀ a b c d : Nat, atI [a, b, c, d] 2 = some c from fun _ _ _ _ => rfl, show ∀ a b c d : Nat, atI [a, b, c, d] 3 = some d from fun _ _ _ _ => rfl]
    · rintro s ⟨y, z, w, rfl⟩
      rw [rgD_len, e2]
      exact ⟨_, _, _, _, by rw [wrL_succ]⟩
  · rintro s ⟨x, y, z, w, rfl⟩
    rw [rgD_len, e1]
    simpa using q
def inUD : D → D
  | .str [x] => .bl (decide (x ∈ [117, 100]))
  | _ => .non
theorem bls_ud {l : List Nat} : blsD ((l.map fun x => D.str [x]).map inUD) = some (l.map fun x => decide (x ∈ [117, 100])) := by
  induction l with
  | nil => rfl
  | cons a l ih => simp only [List.map_cons, inUD, blsD, ih]; rfl
theorem ud_lc {l : List Nat} {x0 x1 x2 x3 : Sl} {Q : List D → S → Prop} (q : Q ((l.map fun x => D.str [x]).map inUD) ⟨[x0, x1, x2, x3, .no], ds⟩) : wq (lcLoop (tgN 4) mYes (mBin fIn (mVar 4) (mC (D.str [117, 100]))) [4] (l.map fun x => D.str [x])) ⟨[x0, x1, x2, x3, .no], ds⟩ Q mk := by
  refine q_lc_pure (fun _ => true) inUD ?_ ?_
  · intro dd hd
    obtain ⟨x, _, rfl⟩ := List.mem_map.mp hd
    simp [inUD]
  · rw [List.filter_eq_self.mpr (fun _ _ => rfl)]; exact q
theorem w_irn (hr1 : 1 ≤ r) (hr : r ≤ 60) (hc1 : 1 ≤ c) (hc : c ≤ 60) (hl : l.length = (r - 1) * c + r * (c - 1)) (u : UD l) (q : Q (.d (.bl (decide ((wrL mi r c l (r - 1)).length = 0)))) ds) : fq f_is_right_net [.str (kN mi), .int r, .int c, .str l] ds Q mk := by
  unfold f_is_right_net m_is_right_net
  have e0 : ((l.length : Nat) : Int) = ((r : Int) - 1) * c + (r : Int) * ((c : Int) - 1) := by rw [c1 hr1, c2 hc1]; omega
  simp [cmul' (show ((r : Int) - 1).natAbs < 2 ^ 63 by omega), cmul' (show ((r : Int)).natAbs < 2 ^ 63 by omega), e0]
  refine ud_lc ?_
  have eall : (l.map fun x => decide (x ∈ [117, 100])).all id = true := by
    rw [List.all_eq_true]
    intro b hb
    obtain ⟨x, hx, rfl⟩ := List.mem_map.mp hb
    rcases u x hx with rfl | rfl <;> rfl
  have b0 : (r - 1) * c ≤ 60 * 60 := mulb (by omega) (by omega)
  have b1 : r * (c - 1) ≤ 60 * 60 := mulb (by omega) (by omega)
  simp [-List.map_map, bls_ud, -List.all_map, eall, sz (show l.length ≤ 16777216 by omega)]
  have nx : ¬ ∃ a, a ∈ l ∧ ¬a = 117 ∧ ¬a = 100 := by
    rintro ⟨a, h, h1, h2⟩
    rcases u a h with e | e
    · exact h1 e
    · exact h2 e
  rw [if_neg nx]
  refine w_wc hr1 hr hc1 hc hl u ?_
  simp
  have e9 : (((wrL mi r c l (r - 1)).length : Int) == 0) = decide ((wrL mi r c l (r - 1)).length = 0) := by
    by_cases h : (wrL mi r c l (r - 1)).length = 0
    · rw [h]; rfl
    · rw [decide_eq_false h]; exact beq_eq_false_iff_ne.mpr (by omega)
  rw [← e9] at q
  simpa using q
theorem w_irn_len (hr1 : 1 ≤ r) (hr : r ≤ 60) (hc1 : 1 ≤ c) (hc : c ≤ 60) (hl : l.length ≠ (r - 1) * c + r * (c - 1)) (q : Q (.d (.bl false)) ds) : fq f_is_right_net [.str (kN mi), .int r, .int c, .str l] ds Q mk := by
  unfold f_is_right_net m_is_right_net
  have e0 : ((l.length : Nat) : Int) ≠ ((r : Int) - 1) * c + (r : Int) * ((c : Int) - 1) := by rw [c1 hr1, c2 hc1]; omega
  simp [cmul' (show ((r : Int) - 1).natAbs < 2 ^ 63 by omega), cmul' (show ((r : Int)).natAbs < 2 ^ 63 by omega), e0, q]
theorem w_irn_x (hr1 : 1 ≤ r) (hr : r ≤ 60) (hc1 : 1 ≤ c) (hc : c ≤ 60) (hl : (120 :: l).length = (r - 1) * c + r * (c - 1)) (hs : l.length < 100000) (q : Q (.d (.bl false)) ds) : fq f_is_right_net [.str (kN mi), .int r, .int c, .str (120 :: l)] ds Q mk := by
  unfold f_is_right_net m_is_right_net
  have e0 : (((120 :: l).length : Nat) : Int) = ((r : Int) - 1) * c + (r : Int) * ((c : Int) - 1) := by rw [c1 hr1, c2 hc1]; omega
  rw [List.length_cons] at e0
  simp [cmul' (show ((r : Int) - 1).natAbs < 2 ^ 63 by omega), cmul' (show ((r : Int)).natAbs < 2 ^ 63 by omega), e0]
  refine ud_lc (l := 120 :: l) ?_
  have eall : ((120 :: l).map fun x => decide (x ∈ [117, 100])).all id = false := rfl
  simp [-List.map_map, -List.map_cons, bls_ud, -List.all_map, eall, sz (show (120 :: l).length ≤ 16777216 by simp; omega), sz (show l.length + 1 ≤ 16777216 by omega)]
  exact q
end
end K36
namespace K36
open PySem PySem.Spec PyProof.Rows L2 PD
def sA (g : Int) : Nat := if g.fmod 3 = 1 then 117 else 100
def sB (p : Bool) (g : Int) : Nat := if g.fmod 3 = (if p = true then 1 else 2) then 117 else 100
theorem fin_ok : ∀ (p : Bool) (a b e f : Fin 3), a ≠ b → a ≠ e → e ≠ f → b ≠ f → badB true (if p = true then 1 else 0) (sA ((e.val : Int) - a.val)) (sB p ((b.val : Int) - a.val)) (sA ((f.val : Int) - b.val)) (sB (!p) ((f.val : Int) - e.val)) = false := by decide +kernel
theorem badB_mod {mi : Bool} {i x0 x1 x2 x3 : Nat} : badB mi i x0 x1 x2 x3 = badB mi (if decide (i % 2 = 1) = true then 1 else 0) x0 x1 x2 x3 := by
  by_cases h : i % 2 = 1
  · simp [badB, h]
  · have h0 : i % 2 = 0 := by omega
    simp [badB, h0]
theorem three {x : Int} (h : 0 ≤ x ∧ x < 3) : ∃ k : Fin 3, x = (k.val : Int) := ⟨⟨x.toNat, by omega⟩, by simp; omega⟩
theorem by_good {r c i j : Nat} {cs : List Int} (P : Proper r c cs) (hc : 1 ≤ c) (hi : i + 1 < r) (hj : j + 1 < c) : badC true r c (byS r c cs) i j = false := by
  have b0 := idxA (c := c) hi (show j < c by omega)
  have b1 := idxB (r := r) (c := c) (k := i) (j := j) (by omega) (by omega)
  have b2 := idxA (c := c) hi (show j + 1 < c by omega)
  have b3 := idxB (r := r) (c := c) (k := i + 1) (j := j) (by omega) (by omega)
  have hm : (r - 1) * c + c = r * c := by rw [← Nat.succ_mul]; congr 1; omega
  have e1 : (i + 1) * c = i * c + c := by rw [Nat.succ_mul]
  have hl := P.len
  have a0 : at0 (byS r c cs) (i * c + j) = byA cs c (i * c + j) := by unfold at0; rw [byS_1 b0]; rfl
  have a2 : at0 (byS r c cs) (i * c + (j + 1)) = byA cs c (i * c + (j + 1)) := by unfold at0; rw [byS_1 b2]; rfl
  have a1 : at0 (byS r c cs) ((r - 1) * c + (i * (c - 1) + j)) = byB cs c i j := by unfold at0; rw [byS_2 (by omega) (by omega)]; rfl
  have a3 : at0 (byS r c cs) ((r - 1) * c + ((i + 1) * (c - 1) + j)) = byB cs c (i + 1) j := by unfold at0; rw [byS_2 (by omega) (by omega)]; rfl
  unfold badC
  rw [a0, a1, a2, a3, badB_mod]
  unfold byA byB
  rw [e1, show i * c + (j + 1) = i * c + j + 1 from rfl, show i * c + j + 1 + c = i * c + c + j + 1 by omega, show i * c + j + c = i * c + c + j by omega]
  have m1 : (i * c + j + 1) % c = j + 1 := by rw [show i * c + j + 1 = (j + 1) + i * c by omega, Nat.add_mul_mod_self_right, Nat.mod_eq_of_lt hj]
  have m2 : (i * c + c + j + 1) % c = j + 1 := by rw [show i * c + c + j + 1 = (j + 1) + (i + 1) * c by omega, Nat.add_mul_mod_self_right, Nat.mod_eq_of_lt hj]
  have n1 := P.left (i * c + j + 1) (by omega) (by omega)
  have n2 := P.left (i * c + c + j + 1) (by omega) (by omega)
  have n3 := P.up (i * c + c + j) (by omega) (by omega)
  have n4 := P.up (i * c + c + j + 1) (by omega) (by omega)
  rw [Nat.add_sub_cancel] at n1 n2
  rw [show i * c + c + j - c = i * c + j by omega] at n3
  rw [show i * c + c + j + 1 - c = i * c + j + 1 by omega] at n4
  obtain ⟨a, ha⟩ := three (P.at (k := i * c + j) (by omega))
  obtain ⟨b, hb⟩ := three (P.at (k := i * c + j + 1) (by omega))
  obtain ⟨e, he⟩ := three (P.at (k := i * c + c + j) (by omega))
  obtain ⟨f, hf⟩ := three (P.at (k := i * c + c + j + 1) (by omega))
  rw [ha, hb] at n1
  rw [he, hf] at n2
  rw [ha, he] at n3
  rw [hb, hf] at n4
  rw [ha, hb, he, hf]
  have key := fin_ok (decide (i % 2 = 1)) a b e f (fun h => n1 (by rw [h])) (fun h => n3 (by rw [h])) (fun h => n2 (by rw [h])) (fun h => n4 (by rw [h]))
  have p2 : (i + 1) % 2 = 1 ↔ ¬ (i % 2 = 1) := by omega
  unfold sA sB at key
  by_cases par : i % 2 = 1
  · simp only [par, p2, decide_true, if_true, not_true, if_false, Bool.not_true, Bool.false_eq_true] at key ⊢
    exact key
  · simp only [par, p2, decide_false, if_true, not_false_eq_true, if_false, Bool.not_false, Bool.false_eq_true] at key ⊢
    exact key
theorem wrR_nil {r c i n : Nat} {l : List Nat} {mi : Bool} (h : ∀ j, j < n → badC mi r c l i j = false) : wrR mi r c l i n = [] := by
  induction n with
  | zero => rfl
  | succ n ih => rw [wrR_succ, ih fun j hj => h j (by omega), h n (by omega)]; rfl
theorem wrL_nil {r c n : Nat} {l : List Nat} {mi : Bool} (h : ∀ i j, i < n → j < c - 1 → badC mi r c l i j = false) : wrL mi r c l n = [] := by
  induction n with
  | zero => rfl
  | succ n ih => rw [wrL_succ, ih fun i j hi hj => h i j (by omega) hj, wrR_nil fun j hj => h n j (by omega) hj]; rfl
theorem by_right {r c : Nat} {cs : List Int} (P : Proper r c cs) (hc : 1 ≤ c) : wrL true r c (byS r c cs) (r - 1) = [] :=
  wrL_nil fun i j hi hj => by_good P hc (by omega) (by omega)
theorem ite_ud {p : Prop} [Decidable p] : (if p then 117 else 100) = 117 ∨ (if p then 117 else 100) = 100 := by by_cases h : p <;> simp [h]
theorem by_ud {r c : Nat} {cs : List Int} : UD (byS r c cs) := by
  intro x hx
  unfold byS at hx
  rcases List.mem_append.mp hx with h | h
  · obtain ⟨k, _, rfl⟩ := List.mem_map.mp h
    exact ite_ud
  · obtain ⟨i, _, h⟩ := List.mem_flatMap.mp h
    obtain ⟨j, _, rfl⟩ := List.mem_map.mp h
    exact ite_ud
end K36
namespace K36
open PySem PySem.Spec PyProof.Rows L2 PD
@[simp] theorem kb_NoneType_list : kitB "NoneType" "list" = some false := by decide +kernel
@[simp] theorem kb_NoneType_tuple : kitB "NoneType" "tuple" = some false := by decide +kernel
@[simp] theorem kb_NoneType_str : kitB "NoneType" "str" = some false := by decide +kernel
@[simp] theorem kb_NoneType_bool : kitB "NoneType" "bool" = some false := by decide +kernel
@[simp] theorem kb_NoneType_int : kitB "NoneType" "int" = some false := by decide +kernel
@[simp] theorem kb_bool_list : kitB "bool" "list" = some false := by decide +kernel
@[simp] theorem kb_bool_tuple : kitB "bool" "tuple" = some false := by decide +kernel
@[simp] theorem kb_bool_str : kitB "bool" "str" = some false := by decide +kernel
@[simp] theorem kb_bool_bool : kitB "bool" "bool" = some true := by decide +kernel
@[simp] theorem kb_bool_int : kitB "bool" "int" = some true := by decide +kernel
@[simp] theorem kb_int_list : kitB "int" "list" = some false := by decide +kernel
@[simp] theorem kb_int_tuple : kitB "int" "tuple" = some false := by decide +kernel
@[simp] theorem kb_int_str : kitB "int" "str" = some false := by decide +kernel
@[simp] theorem kb_int_bool : kitB "int" "bool" = some false := by decide +kernel
@[simp] theorem kb_int_int : kitB "int" "int" = some true := by decide +kernel
@[simp] theorem kb_str_list : kitB "str" "list" = some false := by decide +kernel
@[simp] theorem kb_str_tuple : kitB "str" "tuple" = some false := by decide +kernel
@[simp] theorem kb_str_str : kitB "str" "str" = some true := by decide +kernel
@[simp] theorem kb_str_bool : kitB "str" "bool" = some false := by decide +kernel
@[simp] theorem kb_str_int : kitB "str" "int" = some false := by decide +kernel
@[simp] theorem kb_tuple_list : kitB "tuple" "list" = some false := by decide +kernel
@[simp] theorem kb_tuple_tuple : kitB "tuple" "tuple" = some true := by decide +kernel
@[simp] theorem kb_tuple_str : kitB "tuple" "str" = some false := by decide +kernel
@[simp] theorem kb_tuple_bool : kitB "tuple" "bool" = some false := by decide +kernel
@[simp] theorem kb_tuple_int : kitB "tuple" "int" = some false := by decide +kernel
@[simp] theorem kb_list_list : kitB "list" "list" = some true := by decide +kernel
@[simp] theorem kb_list_tuple : kitB "list" "tuple" = some false := by decide +kernel
@[simp] theorem kb_list_str : kitB "list" "str" = some false := by decide +kernel
@[simp] theorem kb_list_bool : kitB "list" "bool" = some false := by decide +kernel
@[simp] theorem kb_list_int : kitB "list" "int" = some false := by decide +kernel
def leafD : D → Prop
  | .non => True
  | .bl _ => True
  | .int _ => True
  | .str _ => True
  | _ => False
def okE : Nat → D → Prop
  | 0, d => leafD d
  | n + 1, .tup xs => xs.length ≤ 1000000 ∧ ∀ x ∈ xs, okE n x
  | n + 1, .lst xs => xs.length ≤ 1000000 ∧ ∀ x ∈ xs, okE n x
  | n + 1, d => leafD d
theorem F_succ (n : Nat) : F__law_eq (n + 1) = runFn 2 1 (M__law_eq (F__law_eq n)) := rfl
section
variable {ds : Option DS} {Q : PD.R → Option DS → Prop}
theorem eq_leaf {n : Nat} {x : D} (h : leafD x) (q : Q (.d (.bl true)) ds) : fq (F__law_eq (n + 1)) [x, x] ds Q mk := by
  rw [F_succ]
  unfold M__law_eq
  cases x <;> first | exact h.elim | (simp [kindD]; exact q)
theorem eq_self : ∀ (n : Nat) (x : D), okE n x → ∀ (ds : Option DS) (Q : PD.R → Option DS → Prop), Q (.d (.bl true)) ds → fq (F__law_eq (n + 1)) [x, x] ds Q mk
  | 0, x, h, ds, Q, q => eq_leaf h q
  | n + 1, x, h, ds, Q, q => by
    have hl : leafD x ∨ (∃ xs, x = .tup xs) ∨ (∃ xs, x = .lst xs) := by
      cases x <;> first | exact .inl trivial | exact .inr (.inl ⟨_, rfl⟩) | exact .inr (.inr ⟨_, rfl⟩) | exact h.elim
    rcases hl with hl | ⟨xs, rfl⟩ | ⟨xs, rfl⟩
    · exact eq_leaf hl q
    all_goals
      obtain ⟨h1, h2⟩ := h
      rw [F_succ]
      unfold M__law_eq
      simp [kindD]
      refine ⟨rg_ok (by omega), ?_⟩
      refine q_lc_pure (fun _ => false) id ?_ ?_
      · intro dd hd
        obtain ⟨k, hk⟩ := List.getElem?_of_mem hd
        obtain ⟨rfl, hk2⟩ := rgD_at hk
        have hk3 : k < xs.length := by omega
        have a1 : atI xs (k : Int) = some xs[k] := by rw [atI_get?]; exact List.getElem?_eq_getElem hk3
        simp [a1]
        refine eq_self n _ (h2 _ (List.getElem_mem hk3)) _ _ ?_
        simp
      · rw [show List.filter (fun _ => false) (rgD ((xs.length : Nat) : Int)) = [] from List.filter_eq_nil_iff.mpr (fun _ _ h => by cases h)]
        simp
        exact q
end
end K36
namespace K36
open PySem PySem.Spec PyProof.Rows L2 PD
theorem cc_eq {r c : Nat} (hr : 1 ≤ r) (hc : 1 ≤ c) : ((r : Int) - 1) * c + (r : Int) * ((c : Int) - 1) - ((r : Int) - 1) * ((c : Int) - 1) = ((r * c - 1 : Nat) : Int) := by
  obtain ⟨a, rfl⟩ : ∃ a, r = a + 1 := ⟨r - 1, by omega⟩
  obtain ⟨b, rfl⟩ : ∃ b, c = b + 1 := ⟨c - 1, by omega⟩
  have e : (a + 1) * (b + 1) - 1 = a * b + a + b := by rw [Nat.add_mul, Nat.mul_add]; omega
  rw [e]
  push_cast
  rw [show ((a : Int) + 1 - 1) = a by omega, show ((b : Int) + 1 - 1) = b by omega, Int.mul_add, Int.add_mul]
  omega
section
variable {ds : Option DS} {Q : PD.R → Option DS → Prop} {r c : Nat}
theorem w_sq (hr1 : 1 ≤ r) (hr : r ≤ 60) (hc1 : 1 ≤ c) (hc : c ≤ 60) (q : Q (.d (.int (2 ^ (r * c - 1)))) ds) : fq f_count_nets [.str [115, 113, 117, 97, 114, 101, 115], .int r, .int c] ds Q mk := by
  unfold f_count_nets m_count_nets
  have b1 : r * c ≤ 60 * 60 := mulb hr hc
  simp [cmul' (show ((r : Int) - 1).natAbs < 2 ^ 63 by omega), cmul' (show ((r : Int)).natAbs < 2 ^ 63 by omega), cc_eq hr1 hc1]
  refine ⟨by omega, ?_⟩
  simpa using q
end
/-! ### comprehensions of two fors, pure -/
end K36
namespace PD
open PySem PySem.Spec PyProof.Rows L2
section
variable {t t1 : D → S → Option S} {tt tt1 : M Bool} {te : M R} {vs vs1 : List Nat} {s : S} {Qr : R → S → Prop} {Ql : List D → S → Prop} {mi1 : M (List D)} {items : List D}
theorem wp_lc2 {mi : M (List D)} : wp (mLc2 mi t tt mi1 t1 tt1 te vs vs1) s Qr ↔ wp mi s fun items s1 => wp (lc2Loop t tt mi1 t1 tt1 te vs vs1 items) (wipeS vs s1) fun ds s2 => ds.length ≤ sizeLine ∧ Qr (.t (.l ds)) ⟨restE s1.env vs s2.env, s2.ds⟩ := by
  have h : wp (mLc2 mi t tt mi1 t1 tt1 te vs vs1) s Qr ↔ ∃ r s', ((mi s).bind fun p => (lc2Loop t tt mi1 t1 tt1 te vs vs1 p.1 (wipeS vs p.2)).bind fun q => if q.1.length ≤ sizeLine then some (R.t (.l q.1), ⟨restE p.2.env vs q.2.env, q.2.ds⟩) else none) = some (r, s') ∧ Qr r s' := Iff.rfl
  rw [h, wp_bind]
  simp only [wp_bind]
  constructor <;> (rintro ⟨k, s1, e1, d, s2, e2, hh⟩; refine ⟨k, s1, e1, d, s2, e2, ?_⟩)
  · obtain ⟨r, s', e, q⟩ := hh
    split at e
    · rename_i hl; cases e; exact ⟨hl, q⟩
    · cases e
  · exact ⟨_, _, if_pos hh.1, hh.2⟩
@[simp ↓] theorem q_lc2 {mi : M (List D)} {h : Mk Qr} : wq (mLc2 mi t tt mi1 t1 tt1 te vs vs1) s Qr h ↔ wq mi s (fun items s1 => wq (lc2Loop t tt mi1 t1 tt1 te vs vs1 items) (wipeS vs s1) (fun ds s2 => ds.length ≤ sizeLine ∧ Qr (.t (.l ds)) ⟨restE s1.env vs s2.env, s2.ds⟩) mk) mk := wp_lc2
theorem lc2_pure (g : D → List D) (hs : ∀ d ∈ items, ∃ s1, t d s = some s1 ∧ wp tt s1 fun k s2 => k = true ∧ wp mi1 s2 fun its s3 => wp (lcLoop t1 tt1 te vs1 its) (wipeS vs1 s3) fun xs s4 => xs = g d ∧ wipeS vs s4 = s) (q : Ql (items.flatMap g) s) : wp (lc2Loop t tt mi1 t1 tt1 te vs vs1 items) s Ql := by
  induction items generalizing Ql with
  | nil => exact ⟨_, _, rfl, q⟩
  | cons d ds ih =>
    obtain ⟨s1, h1, k, s2, h2, hk, its, s3, h3, xs, s4, h4, hx, hw⟩ := hs d List.mem_cons_self
    subst hk
    obtain ⟨zs, s5, h5, q5⟩ := ih (Ql := fun zs s5 => zs = ds.flatMap g ∧ s5 = s) (fun d' hd' => hs d' (List.mem_cons_of_mem _ hd')) ⟨rfl, rfl⟩
    refine ⟨g d ++ ds.flatMap g, s, ?_, by rw [List.flatMap_cons] at q; exact q⟩
    show ((t d s).bind fun s1 => (tt s1).bind fun p => if p.1 = true then
      (mi1 p.2).bind fun p1 => (lcLoop t1 tt1 te vs1 p1.1 (wipeS vs1 p1.2)).bind fun q => (lc2Loop t tt mi1 t1 tt1 te vs vs1 ds (wipeS vs q.2)).bind fun z => some (q.1 ++ z.1, z.2)
      else lc2Loop t tt mi1 t1 tt1 te vs vs1 ds (wipeS vs p.2)) = _
    rw [h1, Option.bind_some, h2, Option.bind_some, if_pos rfl]
    show ((mi1 s2).bind _) = _
    rw [h3, Option.bind_some, h4, Option.bind_some]
    show ((lc2Loop t tt mi1 t1 tt1 te vs vs1 ds (wipeS vs s4)).bind _) = _
    rw [hw, h5, Option.bind_some, hx, q5.1, q5.2]
theorem q_lc2_pure {h : Mk Ql} (g : D → List D) (hs : ∀ d ∈ items, bq (t d s) (fun s1 => wq tt s1 (fun k s2 => k = true ∧ wq mi1 s2 (fun its s3 => wq (lcLoop t1 tt1 te vs1 its) (wipeS vs1 s3) (fun xs s4 => xs = g d ∧ wipeS vs s4 = s) mk) mk) mk) mk) (q : Ql (items.flatMap g) s) : wq (lc2Loop t tt mi1 t1 tt1 te vs vs1 items) s Ql h := lc2_pure g hs q
end
end PD
namespace K36
open PySem PySem.Spec PyProof.Rows L2 PD
def okN (row : List Int) (c : Int) : Bool := decide (row = []) || decide (row.getLast? ≠ some c)
def grow (row : List Int) : List (List Int) := (([0, 1, 2] : List Int).filter (okN row)).map fun c => row ++ [c]
def rowsL : Nat → List (List Int)
  | 0 => [[]]
  | n + 1 => (rowsL n).flatMap grow
def tupI (row : List Int) : D := .tup (row.map .int)
def growD : D → List D
  | .tup xs => match intsD xs with
    | some row => (grow row).map tupI
    | none => []
  | _ => []
theorem growD_tup (row : List Int) : growD (tupI row) = (grow row).map tupI := by
  unfold growD tupI
  simp only [intsD_map]
theorem flat_growD (rows : List (List Int)) : (rows.map tupI).flatMap growD = (rows.flatMap grow).map tupI := by
  induction rows with
  | nil => rfl
  | cons a l ih => rw [List.map_cons, List.flatMap_cons, ih, growD_tup, List.flatMap_cons, List.map_append]
theorem rowsL_len : ∀ (n : Nat) (row : List Int), row ∈ rowsL n → row.length = n
  | 0, row, h => by simp [rowsL] at h; subst h; rfl
  | n + 1, row, h => by
    obtain ⟨a, ha, h⟩ := List.mem_flatMap.mp h
    obtain ⟨c, _, rfl⟩ := List.mem_map.mp h
    rw [List.length_append, rowsL_len n a ha]; rfl
theorem grow_len (row : List Int) : (grow row).length ≤ 3 := by
  unfold grow
  rw [List.length_map]
  exact List.length_filter_le _ _
theorem rowsL_count : (rowsL 0).length = 1 ∧ (rowsL 1).length = 3 ∧ (rowsL 2).length = 6 ∧ (rowsL 3).length = 12 ∧ (rowsL 4).length = 24 ∧ (rowsL 5).length = 48 := by decide +kernel
end K36
namespace K36
open PySem PySem.Spec PyProof.Rows L2 PD
section
variable {ds : Option DS} {Q : PD.R → Option DS → Prop} {c : Nat}
theorem w_rows (hc : c ≤ 5) (q : Q (.t (.l ((rowsL c).map tupI))) ds) : fq f_colour_rows [.int c] ds Q mk := by
  unfold f_colour_rows m_colour_rows
  simp
  refine ⟨by decide, rg_ok (by omega), ?_⟩
  refine q_loop (fun i s => ∃ x y z, s = ⟨[.d (.int c), .o (.l ((rowsL i).map tupI)), x, y, z], ds⟩) ⟨_, _, _, rfl⟩ ?_ ?_
  · rintro i d s hi ⟨x, y, z, rfl⟩
    obtain ⟨rfl, hi2⟩ := rgD_at hi
    simp
    refine q_lc2_pure growD ?_ ?_
    · intro dd hd
      obtain ⟨row, hrow, rfl⟩ := List.mem_map.mp hd
      simp
      refine ⟨by decide, ?_⟩
      rw [rg3]
      refine q_lc_pure (fun d => match d with | .int x => okN row x | _ => false) (fun d => match d with | .int x => tupI (row ++ [x]) | _ => .non) ?_ ?_
      · intro dd hd
        have : ∃ x : Int, dd = .int x := by simp at hd; rcases hd with rfl | rfl | rfl <;> exact ⟨_, rfl⟩
        obtain ⟨x, rfl⟩ := this
        have hrl := rowsL_len i row hrow
        have hz : row.length + 1 ≤ sizeLine := sz (by omega)
        rcases List.eq_nil_or_concat row with rfl | ⟨ini, lst, rfl⟩
        · simp [tupI, okN, sz]
        · rw [List.concat_eq_append] at hz ⊢
          have a1 : atI ((ini ++ [lst]).map D.int) (-1) = some (.int lst) := by rw [List.map_append]; exact atI_neg1
          have a0 : ((ini.length : Int) + 1 ≠ 0) := by omega
          simp at a1 hz
          by_cases h : lst = x
          · subst h
            simp [tupI, okN, a1, a0, hz]
          · simp [tupI, okN, a1, a0, hz, h, show 1 ≤ sizeLine from by decide]
      · rw [growD_tup]
        refine ⟨?_, by simp⟩
        unfold grow
        by_cases k0 : okN row 0 = true <;> by_cases k1 : okN row 1 = true <;> by_cases k2 : okN row 2 = true <;> simp [k0, k1, k2]
    · rw [flat_growD]
      have hl : (rowsL (i + 1)).length ≤ 48 := by
        have h5 : i = 0 ∨ i = 1 ∨ i = 2 ∨ i = 3 ∨ i = 4 := by omega
        rcases h5 with rfl | rfl | rfl | rfl | rfl <;> decide +kernel
      simp [rowsL]
      have hl2 : (rowsL (i + 1)).length = (List.map (fun a => (grow a).length) (rowsL i)).sum := by show (List.flatMap grow (rowsL i)).length = _; rw [List.length_flatMap]
      exact sz (by omega)
  · rintro s ⟨x, y, z, rfl⟩
    rw [rgD_len]
    simpa using q
end
end K36
namespace PD
open PySem PySem.Spec PyProof.Rows L2
section
variable {t : D → S → Option S} {tt : M Bool} {tk tv : M R} {vs : List Nat} {s : S} {Qr : R → S → Prop} {Ql : List (D × D) → S → Prop} {items : List D}
theorem wp_dc {mi : M (List D)} : wp (mDc mi t tt tk tv vs) s Qr ↔ wp mi s fun items s1 => wp (dcLoop t tt tk tv vs items []) (wipeS vs s1) fun ds s2 => Qr (.t (.k ds)) ⟨restE s1.env vs s2.env, s2.ds⟩ := by
  have h : wp (mDc mi t tt tk tv vs) s Qr ↔ ∃ r s', ((mi s).bind fun p => (dcLoop t tt tk tv vs p.1 [] (wipeS vs p.2)).bind fun q => some (R.t (.k q.1), ⟨restE p.2.env vs q.2.env, q.2.ds⟩)) = some (r, s') ∧ Qr r s' := Iff.rfl
  rw [h, wp_bind]
  simp only [wp_bind]
  constructor <;> (rintro ⟨k, s1, e1, d, s2, e2, hh⟩; refine ⟨k, s1, e1, d, s2, e2, ?_⟩)
  · obtain ⟨r, s', e, q⟩ := hh
    cases e; exact q
  · exact ⟨_, _, rfl, hh⟩
@[simp ↓] theorem q_dc {mi : M (List D)} {h : Mk Qr} : wq (mDc mi t tt tk tv vs) s Qr h ↔ wq mi s (fun items s1 => wq (dcLoop t tt tk tv vs items []) (wipeS vs s1) (fun ds s2 => Qr (.t (.k ds)) ⟨restE s1.env vs s2.env, s2.ds⟩) mk) mk := wp_dc
theorem dc_pure (f : D → D × D) (hs : ∀ d ∈ items, ∃ s1, t d s = some s1 ∧ wp tt s1 fun k s2 => k = true ∧ wp tk s2 fun r s3 => wp (mShare r) s3 fun x s4 => x = (f d).1 ∧ wp tv s4 fun r' s5 => wp (mShare r') s5 fun y s6 => y = (f d).2 ∧ wipeS vs s6 = s) :
    ∀ (acc : List (D × D)), (∀ (i : Nat) (d : D), items[i]? = some d → (acc ++ (items.take i).map f).length < sizeLine ∧ ∃ nk, keyOk (acc ++ (items.take i).map f) (f d).1 = some nk ∧ getK (acc ++ (items.take i).map f) nk = none) → Ql (acc ++ items.map f) s → wp (dcLoop t tt tk tv vs items acc) s Ql := by
  induction items with
  | nil => intro acc _ q; exact ⟨_, _, rfl, by simpa using q⟩
  | cons d ds ih =>
    intro acc hk q
    obtain ⟨s1, h1, k, s2, h2, hkk, r, s3, h3, x, s4, h4, hx, r', s5, h5, y, s6, h6, hy, hw⟩ := hs d List.mem_cons_self
    subst hkk hx hy
    obtain ⟨hl, nk, e1, e2⟩ := hk 0 d rfl
    simp at hl e1 e2
    have hp : putK acc nk (f d).1 (f d).2 = acc ++ [f d] := by unfold putK; rw [e2]; rfl
    obtain ⟨zs, s7, h7, q7⟩ := ih (fun d' hd' => hs d' (List.mem_cons_of_mem _ hd')) (acc ++ [f d]) (fun i d' hd' => by have := hk (i + 1) d' (by simpa using hd'); simpa using this) (by simpa using q)
    refine ⟨zs, s7, ?_, q7⟩
    show ((t d s).bind fun s1 => (tt s1).bind fun p => if p.1 = true then
      (tk p.2).bind fun rk => (mShare rk.1 rk.2).bind fun k => (tv k.2).bind fun rv => (mShare rv.1 rv.2).bind fun v =>
        if acc.length < sizeLine then (keyOk acc k.1).bind fun nk => dcLoop t tt tk tv vs ds (putK acc nk k.1 v.1) (wipeS vs v.2) else none
      else dcLoop t tt tk tv vs ds acc (wipeS vs p.2)) = _
    simp only [h1, h2, h3, h4, h5, h6, Option.bind_some, if_true, if_pos hl, e1, hp, hw, h7]
end
end PD
namespace PD
open PySem PySem.Spec PyProof.Rows L2
section
variable {t : D → S → Option S} {tt : M Bool} {tk tv : M R} {vs : List Nat} {s : S} {Ql : List (D × D) → S → Prop} {items : List D}
theorem q_dc_pure {h : Mk Ql} (f : D → D × D) (hs : ∀ d ∈ items, bq (t d s) (fun s1 => wq tt s1 (fun k s2 => k = true ∧ wq tk s2 (fun r s3 => wq (mShare r) s3 (fun x s4 => x = (f d).1 ∧ wq tv s4 (fun r' s5 => wq (mShare r') s5 (fun y s6 => y = (f d).2 ∧ wipeS vs s6 = s) mk) mk) mk) mk) mk) mk)
    (hk : ∀ (i : Nat) (d : D), items[i]? = some d → ((items.take i).map f).length < sizeLine ∧ ∃ nk, keyOk ((items.take i).map f) (f d).1 = some nk ∧ getK ((items.take i).map f) nk = none) (q : Ql (items.map f) s) : wq (dcLoop t tt tk tv vs items []) s Ql h :=
  dc_pure f hs [] (by simpa using hk) (by simpa using q)
end
theorem keyOk_of {kvs : List (D × D)} {k : D} {nk : NestedKey} (h : toNK k = some nk) (hf : kfam k ≠ 0) (ha : ∀ p ∈ kvs, kfam p.1 = kfam k) (hd : nk.depth ≤ 8) : keyOk kvs k = some nk := by
  unfold keyOk
  rw [h, Option.bind_some, if_pos]
  simp only [Bool.and_eq_true, bne_iff_ne, ne_eq, List.all_eq_true, beq_iff_eq, decide_eq_true_eq]
  exact ⟨⟨hf, ha⟩, hd⟩
theorem getK_none {kvs : List (D × D)} {nk : NestedKey} (h : ∀ p ∈ kvs, toNK p.1 ≠ some nk) : getK kvs nk = none := by
  unfold getK
  rw [Option.map_eq_none_iff, List.find?_eq_none]
  intro p hp
  simpa using h p hp
theorem getK_cons {kvs : List (D × D)} {k v : D} {nk : NestedKey} : getK ((k, v) :: kvs) nk = if toNK k = some nk then some v else getK kvs nk := by
  unfold getK
  rw [List.find?_cons]
  by_cases h : toNK k = some nk
  · rw [decide_eq_true h, if_pos h]; rfl
  · rw [decide_eq_false h, if_neg h]
/-! keys that are tuples of numbers -/
def nkI (row : List Int) : NestedKey := .tup (row.map .num)
theorem toNKs_ints : ∀ row : List Int, toNKs (row.map D.int) = some (row.map NestedKey.num)
  | [] => by simp [toNKs]
  | x :: row => by
    rw [List.map_cons, List.map_cons, toNKs, toNKs_ints row]
    simp [toNK]
theorem toNK_ints (row : List Int) : toNK (.tup (row.map D.int)) = some (nkI row) := by
  rw [toNK, toNKs_ints]; rfl
theorem depth_ints (row : List Int) : (nkI row).depth ≤ 8 := by
  have : ∀ row : List Int, NestedKey.depthAll (row.map NestedKey.num) = 0 := by
    intro row
    induction row with
    | nil => rfl
    | cons x row ih => rw [List.map_cons, NestedKey.depthAll, ih, NestedKey.depth]; rfl
  unfold nkI
  rw [NestedKey.depth, this]
  decide
theorem nkI_inj {a b : List Int} : nkI a = nkI b ↔ a = b := by
  constructor
  · intro h
    unfold nkI at h
    injection h with h
    exact (List.map_inj_right (fun x y e => by injection e)).mp h
  · intro h; rw [h]
end PD
namespace PD
def onI {α : Type} (z : α) (p : Int → α) : D → α
  | .int k => p k
  | _ => z
@[simp] theorem onI_int {α : Type} {z : α} {p : Int → α} {k : Int} : onI z p (.int k) = p k := rfl
theorem filter_onI {p : Int → Bool} {n : Nat} : (rgD (n : Int)).filter (onI false p) = ((List.range n).filter fun (k : Nat) => p (k : Int)).map fun (k : Nat) => D.int (k : Int) := by
  unfold rgD
  rw [List.filter_map]
  rfl
theorem map_onI {α : Type} {z : α} {p : Int → α} {n : Nat} : (rgD (n : Int)).map (onI z p) = (List.range n).map fun (k : Nat) => p (k : Int) := by
  unfold rgD
  rw [List.map_map]
  rfl
end PD
namespace PD
theorem intsD_mapI : ∀ ns : List Int, intsD (ns.map .int) = some ns
  | [] => rfl
  | n :: ns => by
    show (intsD (ns.map .int)).map _ = _
    rw [intsD_mapI ns]; rfl
def onT {α : Type} (z : α) (p : List Int → α) : D → α
  | .tup xs => ((intsD xs).map p).getD z
  | _ => z
@[simp] theorem onT_tup {α : Type} {z : α} {p : List Int → α} {row : List Int} : onT z p (.tup (row.map D.int)) = p row := by
  unfold onT; simp only [intsD_mapI, Option.map_some, Option.getD_some]
end PD
namespace K36
/-! ### counting by rows, plain -/
abbrev Row := List Int
/-- rows that differ everywhere -/
def fitB (a b : Row) : Bool := (List.zipWith (fun x y => decide (x ≠ y)) a b).all id
theorem fit_comm : ∀ a b : Row, fitB a b = fitB b a
  | [], [] => rfl
  | [], _ :: _ => rfl
  | _ :: _, [] => rfl
  | x :: a, y :: b => by
    have ih := fit_comm a b
    unfold fitB at ih ⊢
    rw [List.zipWith_cons_cons, List.zipWith_cons_cons, List.all_cons, List.all_cons, ih]
    congr 1
    simp [eq_comm]
/-- the sum over the rows that fit -/
def adj (rows : List Row) (f : Row → Int) (row : Row) : Int := ((rows.filter fun o => fitB row o).map f).sum
def pw (rows : List Row) : Nat → Row → Int
  | 0, _ => 1
  | n + 1, row => adj rows (pw rows n) row
def tot (rows : List Row) (f : Row → Int) : Int := (rows.map f).sum
abbrev Tab := List (Row × Int)
def pr (L : Tab) (f : Row → Int) : Int := (L.map fun p => p.2 * f p.1).sum
def look (L : Tab) (row : Row) : Option Int := (L.find? fun p => decide (p.1 = row)).map (·.2)
def lput (L : Tab) (row : Row) (v : Int) : Tab := if (look L row).isSome then L.map (fun p => if p.1 = row then (p.1, v) else p) else L ++ [(row, v)]
def ladd (L : Tab) (row : Row) (x : Int) : Tab := lput L row ((look L row).getD 0 + x)
theorem look_none {L : Tab} {row : Row} : look L row = none ↔ row ∉ L.map (·.1) := by
  unfold look
  rw [Option.map_eq_none_iff, List.find?_eq_none]
  simp only [List.mem_map, not_exists, not_and, decide_eq_true_eq]
theorem map_off {L : Tab} {row : Row} {v : Int} (h : row ∉ L.map (·.1)) : L.map (fun p => if p.1 = row then (p.1, v) else p) = L := by
  induction L with
  | nil => rfl
  | cons p L ih =>
    rw [List.map_cons, List.mem_cons, not_or] at h
    rw [List.map_cons, ih h.2, if_neg (fun e => h.1 e.symm)]
theorem pr_add {L : Tab} {row : Row} {x : Int} {f : Row → Int} (nd : (L.map (·.1)).Nodup) : pr (ladd L row x) f = pr L f + x * f row := by
  unfold ladd lput
  cases hl : look L row with
  | none =>
    simp only [Option.isSome_none, Bool.false_eq_true, if_false, Option.getD_none, Int.zero_add]
    unfold pr
    rw [List.map_append, List.sum_append]
    simp
  | some u =>
    simp only [Option.isSome_some, if_true, Option.getD_some]
    induction L with
    | nil => cases hl
    | cons p L ih =>
      rw [List.map_cons, List.nodup_cons] at nd
      unfold look at hl
      rw [List.find?_cons] at hl
      unfold pr at ih ⊢
      rw [List.map_cons, List.map_cons, List.map_cons, List.sum_cons, List.sum_cons]
      by_cases hp : p.1 = row
      · rw [decide_eq_true hp] at hl
        cases hl
        rw [map_off (by rw [← hp]; exact nd.1), if_pos hp]
        simp only
        rw [hp, Int.add_mul]
        omega
      · rw [decide_eq_false hp] at hl
        rw [if_neg hp, ih nd.2 hl]
        omega
theorem keys_add {L : Tab} {row : Row} {x : Int} : (ladd L row x).map (·.1) = if (look L row).isSome then L.map (·.1) else L.map (·.1) ++ [row] := by
  unfold ladd lput
  split
  · rw [List.map_map]
    congr 1
    funext p
    simp only [Function.comp]
    split <;> rfl
  · simp
theorem keys_nd {L : Tab} {row : Row} {x : Int} (nd : (L.map (·.1)).Nodup) : ((ladd L row x).map (·.1)).Nodup := by
  rw [keys_add]
  cases hl : look L row with
  | none =>
    simp only [Option.isSome_none, Bool.false_eq_true, if_false]
    refine List.nodup_append.mpr ⟨nd, by simp, ?_⟩
    intro a ha b hb e
    rw [List.mem_singleton] at hb
    exact look_none.mp hl (by rw [← hb, ← e]; exact ha)
  | some u => simpa using nd
theorem keys_sub {L : Tab} {row : Row} {x : Int} {rows : List Row} (h : ∀ k ∈ L.map (·.1), k ∈ rows) (hr : row ∈ rows) : ∀ k ∈ (ladd L row x).map (·.1), k ∈ rows := by
  intro k hk
  rw [keys_add] at hk
  split at hk
  · exact h k hk
  · rcases List.mem_append.mp hk with hk | hk
    · exact h k hk
    · rw [List.mem_singleton.mp hk]; exact hr
structure TabOk (rows : List Row) (L : Tab) : Prop where
  nd : (L.map (·.1)).Nodup
  sub : ∀ k ∈ L.map (·.1), k ∈ rows
theorem TabOk.add {rows : List Row} {L : Tab} (h : TabOk rows L) {row : Row} (hr : row ∈ rows) {x : Int} : TabOk rows (ladd L row x) := ⟨keys_nd h.nd, keys_sub h.sub hr⟩
theorem TabOk.len {rows : List Row} {L : Tab} (h : TabOk rows L) : L.length ≤ rows.length := by
  have := List.Nodup.length_le_of_subset h.nd h.sub
  rwa [List.length_map] at this
/-- one row's share -/
def addAll (L : Tab) (os : List Row) (x : Int) : Tab := os.foldl (fun L o => ladd L o x) L
theorem addAll_snoc {L : Tab} {os : List Row} {o : Row} {x : Int} : addAll L (os ++ [o]) x = ladd (addAll L os x) o x := by unfold addAll; rw [List.foldl_append]; rfl
theorem addAll_ok {rows : List Row} {x : Int} : ∀ {os : List Row} {L : Tab}, TabOk rows L → (∀ o ∈ os, o ∈ rows) → TabOk rows (addAll L os x)
  | [], L, h, _ => h
  | o :: os, L, h, ho => addAll_ok (os := os) (L := ladd L o x) (h.add (ho o List.mem_cons_self)) fun o' h' => ho o' (List.mem_cons_of_mem _ h')
theorem addAll_pr {rows : List Row} {x : Int} {f : Row → Int} : ∀ {os : List Row} {L : Tab}, TabOk rows L → (∀ o ∈ os, o ∈ rows) → pr (addAll L os x) f = pr L f + x * (os.map f).sum
  | [], L, h, _ => by unfold addAll; simp
  | o :: os, L, h, ho => by
    have := addAll_pr (x := x) (f := f) (os := os) (L := ladd L o x) (h.add (ho o List.mem_cons_self)) fun o' h' => ho o' (List.mem_cons_of_mem _ h')
    show pr (addAll (ladd L o x) os x) f = _
    rw [this, pr_add h.nd, List.map_cons, List.sum_cons, Int.mul_add]
    omega
def below (rows : List Row) (row : Row) : List Row := rows.filter fun o => fitB row o
def turnT (rows : List Row) (A : Tab) (p : Row × Int) : Tab := addAll A (below rows p.1) p.2
def roundT (rows : List Row) (L : Tab) : Tab := L.foldl (turnT rows) []
theorem below_sub {rows : List Row} {row : Row} : ∀ o ∈ below rows row, o ∈ rows := fun o h => (List.mem_filter.mp h).1
theorem fold_ok {rows : List Row} : ∀ {L A : Tab}, TabOk rows A → TabOk rows (L.foldl (turnT rows) A)
  | [], A, h => h
  | p :: L, A, h => fold_ok (L := L) (addAll_ok h below_sub)
theorem fold_pr {rows : List Row} {f : Row → Int} : ∀ {L A : Tab}, TabOk rows A → pr (L.foldl (turnT rows) A) f = pr A f + pr L (adj rows f)
  | [], A, h => by simp [pr]
  | p :: L, A, h => by
    have := fold_pr (f := f) (L := L) (A := turnT rows A p) (addAll_ok h below_sub)
    rw [List.foldl_cons, this]
    unfold turnT
    rw [addAll_pr h below_sub]
    unfold pr
    rw [List.map_cons, List.sum_cons]
    show _ + p.2 * adj rows f p.1 + _ = _
    omega
theorem nilOk {rows : List Row} : TabOk rows [] := ⟨List.nodup_nil, fun k h => by cases h⟩
def roundsT (rows : List Row) : Nat → Tab
  | 0 => rows.map fun r => (r, 1)
  | n + 1 => roundT rows (roundsT rows n)
theorem rounds_ok {rows : List Row} (nd : rows.Nodup) : ∀ n, TabOk rows (roundsT rows n)
  | 0 => by
    unfold roundsT
    refine ⟨?_, ?_⟩
    · rw [List.map_map]; show (rows.map fun r => r).Nodup; rw [List.map_id']; exact nd
    · intro k hk; rw [List.map_map] at hk; rwa [show (rows.map ((fun p : Row × Int => p.1) ∘ fun r => (r, 1))) = rows from List.map_id' rows] at hk
  | n + 1 => fold_ok nilOk
theorem rounds_pr {rows : List Row} (nd : rows.Nodup) : ∀ n m, pr (roundsT rows n) (pw rows m) = tot rows (pw rows (n + m))
  | 0, m => by
    unfold roundsT pr tot
    rw [List.map_map, Nat.zero_add]
    congr 2
    funext r
    exact Int.one_mul _
  | n + 1, m => by
    show pr ((roundsT rows n).foldl (turnT rows) []) (pw rows m) = _
    rw [fold_pr nilOk]
    have := rounds_pr nd n (m + 1)
    rw [show n + 1 + m = n + (m + 1) by omega, ← this]
    show 0 + _ = _
    rw [Int.zero_add]
    rfl
/-- the values of the last table sum up to as much as the last list -/
theorem rounds_sum {rows : List Row} (nd : rows.Nodup) (n : Nat) : ((roundsT rows n).map (·.2)).sum = tot rows (pw rows n) := by
  refine Eq.trans ?_ (rounds_pr nd n 0)
  unfold pr
  congr 2
  funext p
  exact (Int.mul_one _).symm
end K36
namespace K36
open PySem PySem.Spec PyProof.Rows L2 PD
@[simp] theorem fZ2_tt {xs ys : List D} : fZ2 [.tup xs, .tup ys] = some ((z2D xs ys).map .tup) := rfl
@[simp] theorem fZ2_ll {xs ys : List D} : fZ2 [.lst xs, .lst ys] = some ((z2D xs ys).map .tup) := rfl
@[simp] theorem fMul_l {xs : List D} {j : Int} : fMul (.lst xs) (.int j) = if -(2 ^ 63) ≤ j ∧ j < 2 ^ 63 ∧ xs.length * j.toNat ≤ sizeLine then some (.t (.l (List.replicate j.toNat xs).flatten)) else none := rfl
/-- slot x holds a list: its own, or a shared one -/
def Holds (x : Sl) (xs : List D) : Prop := x = .o (.l xs) ∨ x = .d (.lst xs)
theorem Holds.own {xs : List D} : Holds (.o (.l xs)) xs := .inl rfl
theorem Holds.shared {xs : List D} : Holds (.d (.lst xs)) xs := .inr rfl
/-- the pairs of two rows -/
theorem z2_rows : ∀ a b : Row, z2D (a.map D.int) (b.map D.int) = List.zipWith (fun x y => [D.int x, D.int y]) a b
  | [], [] => rfl
  | [], _ :: _ => rfl
  | _ :: _, [] => rfl
  | x :: a, y :: b => by
    have := z2_rows a b
    unfold z2D at this ⊢
    rw [List.map_cons, List.map_cons, List.zipWith_cons_cons, List.zipWith_cons_cons, this]
def pairEq : D → Bool
  | .tup [.int x, .int y] => x == y
  | _ => false
def pairNe : D → D
  | .tup [.int x, .int y] => .bl (!(x == y))
  | _ => .non
def prs (a b : Row) : List D := (z2D (a.map D.int) (b.map D.int)).map .tup
theorem prs_mem {a b : Row} {d : D} (h : d ∈ prs a b) : ∃ x y : Int, d = .tup [.int x, .int y] := by
  unfold prs at h
  rw [z2_rows] at h
  obtain ⟨l, hl, rfl⟩ := List.mem_map.mp h
  clear h
  induction a generalizing b with
  | nil => simp at hl
  | cons x a ih =>
    cases b with
    | nil => simp at hl
    | cons y b =>
      rw [List.zipWith_cons_cons, List.mem_cons] at hl
      rcases hl with rfl | hl
      · exact ⟨x, y, rfl⟩
      · exact ih hl
theorem prs_cons {x y : Int} {a b : Row} : prs (x :: a) (y :: b) = .tup [.int x, .int y] :: prs a b := rfl
theorem prs_fit : ∀ {a b : Row}, ((prs a b).filter pairEq).map (fun _ => D.int 1) = [] ↔ fitB a b = true
  | [], [] => by simp [prs, z2D, fitB]
  | [], _ :: _ => by simp [prs, z2D, fitB]
  | _ :: _, [] => by simp [prs, z2D, fitB]
  | x :: a, y :: b => by
    have ih := prs_fit (a := a) (b := b)
    rw [prs_cons, List.filter_cons]
    have e : fitB (x :: a) (y :: b) = (decide (x ≠ y) && fitB a b) := rfl
    rw [e]
    by_cases h : x = y
    · subst h
      simp [pairEq]
    · simp only [pairEq, beq_eq_false_iff_ne.mpr h, if_false, decide_eq_true h, Bool.true_and, Bool.false_eq_true]
      exact ih
theorem prs_len {a b : Row} : (prs a b).length ≤ a.length := by
  unfold prs
  rw [z2_rows, List.length_map, List.length_zipWith]
  omega
theorem prs_bls : ∀ {a b : Row}, ∃ bs, blsD ((prs a b).map pairNe) = some bs ∧ bs.all id = fitB a b
  | [], [] => ⟨[], rfl, rfl⟩
  | [], _ :: _ => ⟨[], rfl, rfl⟩
  | _ :: _, [] => ⟨[], rfl, rfl⟩
  | x :: a, y :: b => by
    obtain ⟨bs, e, h⟩ := prs_bls (a := a) (b := b)
    refine ⟨(!(x == y)) :: bs, ?_, ?_⟩
    · rw [prs_cons, List.map_cons]
      show (blsD ((prs a b).map pairNe)).map _ = _
      rw [e]; rfl
    · rw [List.all_cons, h]
      show (!(x == y) && _) = (decide (x ≠ y) && fitB a b)
      congr 1
      by_cases h : x = y <;> simp [h]
theorem eqD_nil {xs : List D} : eqDs xs [] = decide (xs = []) := by cases xs <;> simp
theorem pl1 {n : Nat} {xs : List D} : plAll n (xs.map fun _ => D.int 1) = true := by
  induction xs with
  | nil => rfl
  | cons a l ih => rw [List.map_cons, plAll_cons, ih, pl_int]; rfl
theorem rowsL_le {c : Nat} (hc : c ≤ 5) : (rowsL c).length ≤ 48 := by
  have h5 : c = 0 ∨ c = 1 ∨ c = 2 ∨ c = 3 ∨ c = 4 ∨ c = 5 := by omega
  rcases h5 with rfl | rfl | rfl | rfl | rfl | rfl <;> decide +kernel
theorem take_flat {rows : List Row} {j : Nat} {row : Row} (h : rows[j]? = some row) : (rows.take (j + 1)).flatMap grow = (rows.take j).flatMap grow ++ grow row := by
  rw [List.take_add_one, h, List.flatMap_append]
  simp
theorem flat_grow_len (rows : List Row) : (rows.flatMap grow).length ≤ 3 * rows.length := by
  induction rows with
  | nil => simp
  | cons a l ih => rw [List.flatMap_cons, List.length_append, List.length_cons]; have := grow_len a; omega
/-- the law's rows: one more colour -/
noncomputable def growE : M R := (mLc (mItA fRng1 [(mC (.int 3))]) (tgN 10) (mOr (mTest (mBin fEq (mVar 8) (mTup []))) (mTest (mBin fNe (mBin fIx (mVar 8) (mUn fNeg (mC (.int 1)))) (mVar 10)))) (mBin fAdd (mVar 8) (mTup [(mVar 10)])) [10])
/-- the places of the rows that fit -/
def fitK (rows : List Row) (row : Row) : List Nat := (List.range rows.length).filter fun k => fitB (rows[k]?.getD []) row
def fitD (rows : List Row) (row : Row) : D := .lst ((fitK rows row).map fun k => .int (k : Nat))
theorem fitK_sum {rows : List Row} {f : Row → Int} {row : Row} : ((fitK rows row).map fun k => f (rows[k]?.getD [])).sum = adj rows f row := by
  unfold fitK adj
  have : ∀ (l : List Row), (((List.range l.length).filter fun k => fitB (l[k]?.getD []) row).map fun k => f (l[k]?.getD [])) = (l.filter fun o => fitB row o).map f := by
    intro l
    induction l with
    | nil => rfl
    | cons a l ih =>
      rw [List.length_cons, List.range_succ_eq_map, List.filter_cons, List.filter_cons, List.filter_map, fit_comm row a]
      have e2 : (List.map (fun k => f ((a :: l)[k]?.getD [])) (List.map Nat.succ (List.filter ((fun k => fitB ((a :: l)[k]?.getD []) row) ∘ Nat.succ) (List.range l.length)))) = (l.filter fun o => fitB row o).map f := by
        rw [← ih, List.map_map]
        rfl
      by_cases h : fitB a row = true
      · rw [if_pos h, if_pos (by simpa using h), List.map_cons, List.map_cons, e2]; rfl
      · rw [if_neg h, if_neg (by simpa using h), e2]
  rw [this]
section
variable {ds : Option DS} {Q : PD.R → Option DS → Prop} {c : Nat} {row : Row}
theorem w_grow {Q : R → S → Prop} {x0 x1 x2 x3 x4 x5 x6 x7 x9 x10 x11 x12 : Sl} (hrow : row.length ≤ 5) (q : Q (.t (.l ((grow row).map tupI))) ⟨[x0, x1, x2, x3, x4, x5, x6, x7, .d (tupI row), x9, x10, x11, x12], ds⟩) :
    wq growE ⟨[x0, x1, x2, x3, x4, x5, x6, x7, .d (tupI row), x9, x10, x11, x12], ds⟩ Q mk := by
  unfold growE
  simp
  refine ⟨by decide, ?_⟩
  rw [rg3]
  refine q_lc_pure (fun d => match d with | .int x => okN row x | _ => false) (fun d => match d with | .int x => tupI (row ++ [x]) | _ => .non) ?_ ?_
  · intro dd hd
    have : ∃ x : Int, dd = .int x := by simp at hd; rcases hd with rfl | rfl | rfl <;> exact ⟨_, rfl⟩
    obtain ⟨x, rfl⟩ := this
    have hz : row.length + 1 ≤ sizeLine := sz (by omega)
    rcases List.eq_nil_or_concat row with rfl | ⟨ini, lst, rfl⟩
    · simp [tupI, okN, sz, pla]
    · rw [List.concat_eq_append] at hz ⊢
      have a1 : atI ((ini ++ [lst]).map D.int) (-1) = some (.int lst) := by rw [List.map_append]; exact atI_neg1
      have p1 : plAll 59 ((ini ++ [lst]).map D.int) = true := pla
      have n1 : eqDs ((ini ++ [lst]).map D.int) [] = false := by rw [eqD_nil]; simp
      simp at a1 hz p1 n1
      by_cases h : lst = x
      · subst h
        simp [tupI, okN, a1, hz, p1, n1]
      · simp [tupI, okN, a1, hz, p1, n1, h, show 1 ≤ sizeLine from by decide]
  · have e : (([.int 0, .int 1, .int 2] : List D).filter (fun d => match d with | .int x => okN row x | _ => false)).map (fun d => match d with | .int x => tupI (row ++ [x]) | _ => .non) = (grow row).map tupI := by
      unfold grow
      by_cases k0 : okN row 0 = true <;> by_cases k1 : okN row 1 = true <;> by_cases k2 : okN row 2 = true <;> simp [k0, k1, k2]
    rw [e]
    have hg := grow_len row
    simp
    exact ⟨sz (by omega), q⟩
end
end K36
namespace K36
open PySem PySem.Spec PyProof.Rows L2 PD
theorem rowAt {rows : List Row} {k : Nat} (h : k < rows.length) : atI (rows.map tupI) (k : Int) = some (tupI (rows[k]?.getD [])) := by
  rw [atI_get?]; simp [h]
theorem rowAt_mem {rows : List Row} {k : Nat} (h : k < rows.length) : rows[k]?.getD [] ∈ rows := by
  rw [List.getElem?_eq_getElem h]; exact List.getElem_mem h
section
variable {ds : Option DS} {r c : Nat}
/-- a row's fits -/
theorem w_fit {Q : R → S → Prop} {rows : List Row} {row : Row} {x0 x1 x3 x4 x5 x6 x7 x9 x10 x11 x12 : Sl} (hl : rows.length ≤ 48) (hr : ∀ a ∈ rows, a.length ≤ 5) (q : Q (.t (.l ((fitK rows row).map fun k => .int (k : Nat)))) ⟨[x0, x1, .d (.lst (rows.map tupI)), x3, x4, x5, x6, x7, .d (tupI row), x9, x10, x11, x12], ds⟩) :
    wq (mLc (mItA fRng1 [(mPrim fLen (mArgs [(mVar 2)]))]) (tgN 3) (mTest (mBin fEq (mLc (mItA fZ2 [(mBin fIx (mVar 2) (mVar 3)), (mVar 8)]) (tgT (tgCons (tgN 11) (tgCons (tgN 12) tgNil))) (mTest (mBin fEq (mVar 11) (mVar 12))) (mC (.int 1)) [11, 12]) (mLst []))) (mVar 3) [3]) ⟨[x0, x1, .d (.lst (rows.map tupI)), x3, x4, x5, x6, x7, .d (tupI row), x9, x10, x11, x12], ds⟩ Q mk := by
  simp
  refine ⟨rg_ok (by omega), ?_⟩
  refine q_lc_pure (onI false fun k => fitB (rows[k.toNat]?.getD []) row) id ?_ ?_
  · intro dd hd
    obtain ⟨k, hk⟩ := List.getElem?_of_mem hd
    obtain ⟨rfl, hk2⟩ := rgD_at hk
    have hk3 : k < rows.length := by omega
    have hz := hr _ (rowAt_mem hk3)
    simp [rowAt hk3, tupI]
    generalize rows[k]?.getD [] = a at *
    show wq (lcLoop _ _ _ _ (prs a row)) _ _ _
    refine q_lc_pure pairEq (fun _ => .int 1) ?_ ?_
    · intro dd hd
      obtain ⟨x, y, rfl⟩ := prs_mem hd
      simp [pairEq]
    · have e := prs_fit (a := a) (b := row)
      have hz2 : (((prs a row).filter pairEq).map fun _ => D.int 1).length ≤ sizeLine := by
        rw [List.length_map]
        have := List.length_filter_le pairEq (prs a row)
        have := prs_len (a := a) (b := row)
        exact sz (by omega)
      have hp : plAll 59 (((prs a row).filter pairEq).map fun _ => D.int 1) = true := pl1
      have hn := eqD_nil (xs := ((prs a row).filter pairEq).map fun _ => D.int 1)
      generalize ((prs a row).filter pairEq).map (fun _ => D.int 1) = ys at *
      simp [hz2, hp, hn]
      by_cases h : fitB a row = true
      · simp [h, e.mpr h]
      · have h2 : ys ≠ [] := fun z => h (e.mp z)
        simp [h, h2]
  · rw [filter_onI, List.map_id]
    have hz : (fitK rows row).length ≤ 48 := by
      have := List.length_filter_le (fun k => fitB (rows[k]?.getD []) row) (List.range rows.length)
      rw [List.length_range] at this
      exact Nat.le_trans this hl
    simp
    refine ⟨sz (by unfold fitK at hz; omega), ?_⟩
    exact q
theorem w_sums {Q : R → S → Prop} {rows : List Row} {f : Row → Int} {x0 x1 x2 x3 x4 x6 x7 x8 x9 x10 x11 x12 : Sl} (hl : rows.length ≤ 48) (h4 : Holds x4 (rows.map (fitD rows)))
    (q : ∀ x4', Holds x4' (rows.map (fitD rows)) → Q (.t (.l (rows.map fun row => .int (adj rows f row)))) ⟨[x0, x1, x2, x3, x4', .o (.l (rows.map fun row => .int (f row))), x6, x7, x8, x9, x10, x11, x12], ds⟩) :
    wq (mLc (mIt (mVar 4)) (tgN 9) mYes (mPrim fSum (mArgs [(mLc (mIt (mVar 9)) (tgN 3) mYes (mBin fIx (mVar 5) (mVar 3)) [3])])) [9]) ⟨[x0, x1, x2, x3, x4, .o (.l (rows.map fun row => .int (f row))), x6, x7, x8, x9, x10, x11, x12], ds⟩ Q mk := by
  have run : wq (lcLoop (tgN 9) mYes (mPrim fSum (mArgs [(mLc (mIt (mVar 9)) (tgN 3) mYes (mBin fIx (mVar 5) (mVar 3)) [3])])) [9] (rows.map (fitD rows))) ⟨[x0, x1, x2, x3, .d (.lst (rows.map (fitD rows))), .o (.l (rows.map fun row => .int (f row))), x6, x7, x8, .no, x10, x11, x12], ds⟩ (fun xs s => xs = rows.map (fun row => .int (adj rows f row)) ∧ s = ⟨[x0, x1, x2, x3, .d (.lst (rows.map (fitD rows))), .o (.l (rows.map fun row => .int (f row))), x6, x7, x8, .no, x10, x11, x12], ds⟩) mk := by
    refine q_lc_pure (fun _ => true) (fun d => match d with | .lst ks => .int ((ks.map (onI 0 fun k => f (rows[k.toNat]?.getD []))).sum) | _ => .non) ?_ ?_
    · intro dd hd
      obtain ⟨row, hrow, rfl⟩ := List.mem_map.mp hd
      simp [fitD]
      refine q_lc_pure (fun _ => true) (onI .non fun k => .int (f (rows[k.toNat]?.getD []))) ?_ ?_
      · intro dd hd
        obtain ⟨k, hk, rfl⟩ := List.mem_map.mp hd
        have hk2 : k < rows.length := by
          have := (List.mem_filter.mp hk).1
          simpa using this
        have a1 : atI (rows.map fun row => D.int (f row)) (k : Int) = some (.int (f (rows[k]?.getD []))) := by
          rw [atI_get?]; simp [hk2]
        simp [a1]
      · have hz : (fitK rows row).length ≤ 48 := by
          have := List.length_filter_le (fun k => fitB (rows[k]?.getD []) row) (List.range rows.length)
          rw [List.length_range] at this
          exact Nat.le_trans this hl
        rw [List.filter_eq_self.mpr (fun _ _ => rfl), List.map_map]
        have e2 : List.map ((onI D.non fun k => D.int (f (rows[k.toNat]?.getD []))) ∘ fun (k : Nat) => D.int (k : Int)) (fitK rows row) = ((fitK rows row).map fun k => f (rows[k]?.getD [])).map D.int := by
          rw [List.map_map]; rfl
        rw [e2]
        simp [-List.map_map, intsD_map]
        refine ⟨sz (by omega), ?_⟩
        rw [List.map_map]; rfl
    · rw [List.filter_eq_self.mpr (fun _ _ => rfl), List.map_map]
      refine ⟨?_, rfl⟩
      refine List.map_congr_left fun row hrow => ?_
      simp only [Function.comp, fitD, List.map_map]
      rw [← fitK_sum]
      rfl
  rcases h4 with rfl | rfl
  all_goals
    simp
    refine wq_mono run ?_
    rintro xs s ⟨rfl, rfl⟩
    simp
    exact ⟨sz (by omega), q _ .shared⟩
theorem w_lcount {Q : PD.R → Option DS → Prop} (hr1 : 1 ≤ r) (hr : r ≤ 60) (hc : c ≤ 5) (q : Q (.d (.int ((tot (rowsL c) (pw (rowsL c) (r - 1))).fdiv 3))) ds) : fq f__law_count [.int r, .int c] ds Q mk := by
  unfold f__law_count m__law_count
  simp
  refine ⟨by decide, rg_ok (by omega), ?_⟩
  have hrl : ∀ n, n ≤ 5 → ∀ a ∈ rowsL n, a.length ≤ 5 := fun n hn a ha => by rw [rowsL_len n a ha]; exact hn
  refine q_loop (fun i s => ∃ x2 x3 x7 x8, Holds x2 ((rowsL i).map tupI) ∧ s = ⟨[.d (.int r), .d (.int c), x2, x3, .no, .no, .no, x7, x8, .no, .no, .no, .no], ds⟩) ⟨_, _, _, _, .own, rfl⟩ ?_ ?_
  · rintro i d s hi ⟨x2, x3, x7, x8, h2, rfl⟩
    obtain ⟨rfl, hi2⟩ := rgD_at hi
    have inner : ∀ x8, wq (mLoop (tgN 8) (mSet 7 (mBin fAdd (mVar 7) growE)) ((rowsL i).map tupI)) ⟨[.d (.int r), .d (.int c), .d (.lst ((rowsL i).map tupI)), .d (.int i), .no, .no, .no, .o (.l []), x8, .no, .no, .no, .no], ds⟩ (fun fl s => fl = .nx ∧ ∃ x8, s = ⟨[.d (.int r), .d (.int c), .d (.lst ((rowsL i).map tupI)), .d (.int i), .no, .no, .no, .o (.l ((rowsL (i + 1)).map tupI)), x8, .no, .no, .no, .no], ds⟩) mk := by
      intro x8
      refine q_loop (fun j s => ∃ x8, s = ⟨[.d (.int r), .d (.int c), .d (.lst ((rowsL i).map tupI)), .d (.int i), .no, .no, .no, .o (.l ((((rowsL i).take j).flatMap grow).map tupI)), x8, .no, .no, .no, .no], ds⟩) ⟨_, rfl⟩ ?_ ?_
      · rintro j d s hj ⟨x8, rfl⟩
        rw [List.getElem?_map, Option.map_eq_some_iff] at hj
        obtain ⟨row, hrow, rfl⟩ := hj
        have hm : row ∈ rowsL i := List.mem_of_getElem? hrow
        simp
        refine w_grow (hrl i (by omega) row hm) ?_
        have h1 := flat_grow_len ((rowsL i).take j)
        have h2 := List.length_take_le j (rowsL i)
        have h3 := rowsL_le (c := i) (by omega)
        have h4 := grow_len row
        have hz : (List.flatMap grow (List.take j (rowsL i))).length + (grow row).length ≤ sizeLine := sz (by have := List.length_take_le' j (rowsL i); omega)
        rw [take_flat hrow, List.map_append]
        simp
        rw [← List.map_take, ← List.length_flatMap]
        exact hz
      · rintro s ⟨x8, rfl⟩
        rw [List.length_map, List.take_length]
        exact ⟨rfl, x8, rfl⟩
    rcases h2 with rfl | rfl
    all_goals
      simp
      refine wq_mono (inner x8) ?_
      rintro fl s ⟨rfl, y8, rfl⟩
      simp
      exact .inr rfl
  · rintro s ⟨x2, x3, x7, x8, h2, rfl⟩
    rw [rgD_len, show ((c : Nat) : Int).toNat = c from rfl] at h2
    have hl := rowsL_le hc
    have fits : ∀ x8 : Sl, wq (lcLoop (tgN 8) mYes (mLc (mItA fRng1 [(mPrim fLen (mArgs [(mVar 2)]))]) (tgN 3) (mTest (mBin fEq (mLc (mItA fZ2 [(mBin fIx (mVar 2) (mVar 3)), (mVar 8)]) (tgT (tgCons (tgN 11) (tgCons (tgN 12) tgNil))) (mTest (mBin fEq (mVar 11) (mVar 12))) (mC (.int 1)) [11, 12]) (mLst []))) (mVar 3) [3]) [8] ((rowsL c).map tupI)) ⟨[.d (.int r), .d (.int c), .d (.lst ((rowsL c).map tupI)), x3, .no, .no, .no, x7, .no, .no, .no, .no, .no], ds⟩ (fun xs s => xs = (rowsL c).map (fitD (rowsL c)) ∧ s = ⟨[.d (.int r), .d (.int c), .d (.lst ((rowsL c).map tupI)), x3, .no, .no, .no, x7, .no, .no, .no, .no, .no], ds⟩) mk := by
      intro x8
      refine q_lc_pure (fun _ => true) (onT .non (fitD (rowsL c))) ?_ ?_
      · intro dd hd
        obtain ⟨row, hrow, rfl⟩ := List.mem_map.mp hd
        simp only [q_yes, q_tgN, if_true, true_and]
        refine w_fit hl (hrl c hc) ?_
        simp [tupI, fitD]
      · rw [List.filter_eq_self.mpr (fun _ _ => rfl), List.map_map]
        refine ⟨?_, rfl⟩
        refine List.map_congr_left fun row hrow => ?_
        simp only [Function.comp, tupI, onT_tup]
    have rest : wq (mLoop (tgN 6) (mSet 5 (mLc (mIt (mVar 4)) (tgN 9) mYes (mPrim fSum (mArgs [(mLc (mIt (mVar 9)) (tgN 3) mYes (mBin fIx (mVar 5) (mVar 3)) [3])])) [9])) (rgD ((r : Int) - 1))) ⟨[.d (.int r), .d (.int c), .d (.lst ((rowsL c).map tupI)), x3, .o (.l ((rowsL c).map (fitD (rowsL c)))), .o (.l ((rowsL c).map fun row => .int 1)), .no, x7, x8, .no, .no, .no, .no], ds⟩ (fun fl s => fl = .nx ∧ ∃ x4 x6, s = ⟨[.d (.int r), .d (.int c), .d (.lst ((rowsL c).map tupI)), x3, x4, .o (.l ((rowsL c).map fun row => .int (pw (rowsL c) (r - 1) row))), x6, x7, x8, .no, .no, .no, .no], ds⟩) mk := by
      refine q_loop (fun i s => ∃ x4 x6, Holds x4 ((rowsL c).map (fitD (rowsL c))) ∧ s = ⟨[.d (.int r), .d (.int c), .d (.lst ((rowsL c).map tupI)), x3, x4, .o (.l ((rowsL c).map fun row => .int (pw (rowsL c) i row))), x6, x7, x8, .no, .no, .no, .no], ds⟩) ⟨_, _, .own, rfl⟩ ?_ ?_
      · rintro i d s hi ⟨x4, x6, h4, rfl⟩
        obtain ⟨rfl, hi2⟩ := rgD_at hi
        simp only [q_set, q_tgN]
        refine w_sums (f := pw (rowsL c) i) hl h4 ?_
        intro x4' h4'
        simp
        exact ⟨_, h4', rfl, fun a _ => rfl⟩
      · rintro s ⟨x4, x6, h4, rfl⟩
        rw [rgD_len, show ((r : Int) - 1).toNat = r - 1 by omega]
        exact ⟨rfl, _, _, rfl⟩
    have ones : List.replicate ((rowsL c).length) (D.int 1) = (rowsL c).map fun row => .int 1 := by rw [List.map_const']
    rcases h2 with rfl | rfl
    all_goals
      simp
      refine wq_mono (fits x8) ?_
      rintro xs s ⟨rfl, rfl⟩
      simp
      refine ⟨sz (by omega), by decide, ⟨by omega, sz (by omega)⟩, rg_ok (by omega), ?_⟩
      rw [ones]
      refine wq_mono rest ?_
      rintro fl s ⟨rfl, x4, x6, rfl⟩
      have e5 : ((rowsL c).map fun row => D.int (pw (rowsL c) (r - 1) row)) = ((rowsL c).map (pw (rowsL c) (r - 1))).map D.int := by rw [List.map_map]; rfl
      rw [e5]
      simp [-List.map_map, intsD_map]
      exact q
end
end K36
namespace K36
open PySem PySem.Spec PyProof.Rows L2 PD
theorem toNK_row (row : Row) : toNK (tupI row) = some (nkI row) := toNK_ints row
def tabG (rows : List Row) (g : Row → D) : List (D × D) := rows.map fun row => (tupI row, g row)
theorem keyOk_tab {kvs : List (D × D)} {row : Row} (h : ∀ p ∈ kvs, kfam p.1 = 2) : keyOk kvs (tupI row) = some (nkI row) := keyOk_of (toNK_row row) (show (2:Nat) ≠ 0 by decide) (by simpa [tupI, kfam] using h) (depth_ints row)
theorem fam_G {rows : List Row} {g : Row → D} : ∀ p ∈ tabG rows g, kfam p.1 = 2 := by
  intro p hp
  obtain ⟨row, _, rfl⟩ := List.mem_map.mp hp
  rfl
theorem getG_none {rows : List Row} {g : Row → D} {row : Row} (h : row ∉ rows) : getK (tabG rows g) (nkI row) = none := by
  refine getK_none fun p hp => ?_
  obtain ⟨a, ha, rfl⟩ := List.mem_map.mp hp
  simp only [toNK_row, ne_eq, Option.some.injEq, nkI_inj]
  rintro rfl; exact h ha
theorem getG_some {g : Row → D} {row : Row} : ∀ {rows : List Row}, row ∈ rows → getK (tabG rows g) (nkI row) = some (g row)
  | a :: rows, h => by
    show getK ((tupI a, g a) :: tabG rows g) _ = _
    rw [getK_cons, toNK_row]
    by_cases e : a = row
    · subst e; rw [if_pos rfl]
    · rw [if_neg (by simpa [nkI_inj] using e)]
      rcases List.mem_cons.mp h with h | h
      · exact absurd h.symm e
      · exact getG_some h
def tabD (L : Tab) : List (D × D) := L.map fun p => (tupI p.1, .int p.2)
theorem fam_D {L : Tab} : ∀ p ∈ tabD L, kfam p.1 = 2 := by
  intro p hp
  obtain ⟨row, _, rfl⟩ := List.mem_map.mp hp
  rfl
theorem getD_look {row : Row} : ∀ {L : Tab}, getK (tabD L) (nkI row) = (look L row).map .int
  | [] => rfl
  | p :: L => by
    show getK ((tupI p.1, .int p.2) :: tabD L) _ = _
    rw [getK_cons, toNK_row, getD_look (L := L)]
    unfold look
    rw [List.find?_cons]
    by_cases e : p.1 = row
    · rw [if_pos (by rw [e]), decide_eq_true e]; rfl
    · rw [if_neg (by simpa [nkI_inj] using e), decide_eq_false e]
theorem putD {L : Tab} {row : Row} {v : Int} : PD.putK (tabD L) (nkI row) (tupI row) (.int v) = tabD (lput L row v) := by
  unfold PD.putK lput
  rw [getD_look, Option.isSome_map]
  by_cases h : (look L row).isSome = true
  · rw [if_pos h, if_pos h]
    unfold tabD
    rw [List.map_map, List.map_map]
    refine List.map_congr_left fun p hp => ?_
    simp only [Function.comp, toNK_row, Option.some.injEq, nkI_inj]
    by_cases e : p.1 = row
    · rw [if_pos e, if_pos e]
    · rw [if_neg e, if_neg e]
  · rw [if_neg h, if_neg h]
    unfold tabD
    rw [List.map_append]; rfl
def HoldsK (x : Sl) (kvs : List (D × D)) : Prop := x = .o (.k kvs) ∨ x = .d (.dct kvs)
theorem rowsL_nd {c : Nat} (hc : c ≤ 5) : (rowsL c).Nodup := by
  have h5 : c = 0 ∨ c = 1 ∨ c = 2 ∨ c = 3 ∨ c = 4 ∨ c = 5 := by omega
  rcases h5 with rfl | rfl | rfl | rfl | rfl | rfl <;> decide +kernel
theorem nd_inj {α : Type} {l : List α} (nd : l.Nodup) {i j : Nat} (hi : i < l.length) (hj : j < l.length) (e : l[i] = l[j]) : i = j := by
  rcases Nat.lt_trichotomy i j with h | h | h
  · exact absurd e (List.pairwise_iff_getElem.mp nd i j hi hj h)
  · exact h
  · exact absurd e.symm (List.pairwise_iff_getElem.mp nd j i hj hi h)
theorem dc_keys {rows : List Row} {g : Row → D} (nd : rows.Nodup) (hl : rows.length ≤ 48) (f : D → D × D) (hf : ∀ row, f (tupI row) = (tupI row, g row)) : ∀ (i : Nat) (d : D), (rows.map tupI)[i]? = some d → (((rows.map tupI).take i).map f).length < sizeLine ∧ ∃ nk, keyOk (((rows.map tupI).take i).map f) (f d).1 = some nk ∧ getK (((rows.map tupI).take i).map f) nk = none := by
  intro i d h
  rw [List.getElem?_map, Option.map_eq_some_iff] at h
  obtain ⟨row, hrow, rfl⟩ := h
  have e : ((rows.map tupI).take i).map f = tabG (rows.take i) g := by
    rw [← List.map_take, List.map_map]
    exact List.map_congr_left fun r _ => hf r
  rw [e, hf]
  refine ⟨?_, nkI row, keyOk_tab fam_G, getG_none ?_⟩
  · have : (tabG (rows.take i) g).length ≤ 48 := by
      unfold tabG
      rw [List.length_map]
      have := List.length_take_le' i rows
      omega
    exact Nat.lt_of_le_of_lt this (by decide)
  · intro hm
    obtain ⟨j, hj⟩ := List.getElem?_of_mem hm
    rw [List.getElem?_take] at hj
    split at hj
    · rename_i hji
      obtain ⟨h1, h2⟩ := List.getElem?_eq_some_iff.mp hj
      obtain ⟨h3, h4⟩ := List.getElem?_eq_some_iff.mp hrow
      have := nd_inj nd h1 h3 (h2.trans h4.symm)
      omega
    · cases hj
def belG (rows : List Row) (row : Row) : D := .lst ((below rows row).map tupI)
theorem below_len {rows : List Row} {row : Row} : (below rows row).length ≤ rows.length := List.length_filter_le _ _
section
variable {ds : Option DS} {r c : Nat}
/-- the rows that fit below -/
theorem w_bel {Q : R → S → Prop} {rows : List Row} {row : Row} {x0 x1 x2 x4 x5 x6 x7 x9 x10 x11 x12 : Sl} (hl : rows.length ≤ 48) (hrow : row.length ≤ 5) (q : Q (.t (.l ((below rows row).map tupI))) ⟨[x0, x1, x2, .d (.lst (rows.map tupI)), x4, x5, x6, x7, .d (tupI row), x9, x10, x11, x12], ds⟩) :
    wq (mLc (mIt (mVar 3)) (tgN 10) (mTru (mPrim fAll (mArgs [(mLc (mItA fZ2 [(mVar 8), (mVar 10)]) (tgT (tgCons (tgN 11) (tgCons (tgN 12) tgNil))) mYes (mBin fNe (mVar 11) (mVar 12)) [11, 12])]))) (mVar 10) [10]) ⟨[x0, x1, x2, .d (.lst (rows.map tupI)), x4, x5, x6, x7, .d (tupI row), x9, x10, x11, x12], ds⟩ Q mk := by
  simp
  refine q_lc_pure (onT false fun o => fitB row o) id ?_ ?_
  · intro dd hd
    obtain ⟨o, ho, rfl⟩ := List.mem_map.mp hd
    simp [tupI]
    show wq (lcLoop _ _ _ _ (prs row o)) _ _ _
    refine q_lc_pure (fun _ => true) pairNe ?_ ?_
    · intro dd hd
      obtain ⟨x, y, rfl⟩ := prs_mem hd
      simp [pairNe]
    · rw [List.filter_eq_self.mpr (fun _ _ => rfl)]
      obtain ⟨bs, e1, e2⟩ := prs_bls (a := row) (b := o)
      have hz : (prs row o).length ≤ sizeLine := sz (by have := prs_len (a := row) (b := o); omega)
      simp [-List.map_map, e1, hz, e2]
  · have e : ((rows.map tupI).filter (onT false fun o => fitB row o)).map id = (below rows row).map tupI := by
      rw [List.map_id, List.filter_map]
      unfold below
      congr 1
      refine List.filter_congr fun o _ => ?_
      simp only [Function.comp, tupI, onT_tup]
    rw [e]
    simp
    exact ⟨sz (by have := below_len (rows := rows) (row := row); omega), q⟩
end
end K36
namespace K36
open PySem PySem.Spec PyProof.Rows L2 PD
section
variable {ds : Option DS} {r c : Nat}
noncomputable abbrev addB : MS := (mFor (mIt (mBin fIx (mVar 4) (mVar 8))) (tgN 10) (mAsg (tgSub (mVar 7) (mVar 10)) (mBin fAdd (mMethT "dict" fDGet (mVar 7) [(mVar 10), (mC (.int 0))]) (mVar 9))))
theorem tab_sz {rows : List Row} {L : Tab} (h : TabOk rows L) (hl : rows.length ≤ 48) : (tabD L).length < sizeLine := by
  have := h.len
  unfold tabD
  rw [List.length_map]
  exact Nat.lt_of_le_of_lt (m := 48) (by omega) (by decide)
/-- a row's share for those below it -/
theorem w_addB {Q : Fl → S → Prop} {rows : List Row} {A : Tab} {p : Row × Int} {x0 x1 x2 x3 x5 x6 x10 x11 x12 : Sl} (hl : rows.length ≤ 48) (hp : p.1 ∈ rows) (hA : TabOk rows A)
    (q : ∀ x10, Q .nx ⟨[x0, x1, x2, x3, .o (.k (tabG rows (belG rows))), x5, x6, .o (.k (tabD (turnT rows A p))), .d (tupI p.1), .d (.int p.2), x10, x11, x12], ds⟩) :
    wq addB ⟨[x0, x1, x2, x3, .o (.k (tabG rows (belG rows))), x5, x6, .o (.k (tabD A)), .d (tupI p.1), .d (.int p.2), x10, x11, x12], ds⟩ Q mk := by
  unfold addB
  simp [keyOk_tab (fam_G (rows := rows) (g := belG rows)), getG_some hp, belG]
  refine q_loop (fun j s => ∃ x10, s = ⟨[x0, x1, x2, x3, .o (.k (tabG rows (belG rows))), x5, x6, .o (.k (tabD (addAll A ((below rows p.1).take j) p.2))), .d (tupI p.1), .d (.int p.2), x10, x11, x12], ds⟩) ⟨_, rfl⟩ ?_ ?_
  · rintro j d s hj ⟨x10, rfl⟩
    rw [List.getElem?_map, Option.map_eq_some_iff] at hj
    obtain ⟨o, ho, rfl⟩ := hj
    have hA2 : TabOk rows (addAll A ((below rows p.1).take j) p.2) := addAll_ok hA fun o' h' => below_sub o' (List.mem_of_mem_take h')
    have hz := tab_sz hA2 hl
    rw [List.take_add_one, ho, Option.toList_some, addAll_snoc]
    generalize addAll A ((below rows p.1).take j) p.2 = B at *
    simp [keyOk_tab (fam_D (L := B)), getD_look, hz]
    unfold ladd
    cases look B o with
    | none => simp [putD]
    | some u => simp [putD]
  · rintro s ⟨x10, rfl⟩
    rw [List.length_map, List.take_length]
    exact q x10
theorem w_nets {Q : PD.R → Option DS → Prop} (hr1 : 1 ≤ r) (hr : r ≤ 60) (hc : c ≤ 5) (q : Q (.d (.int ((tot (rowsL c) (pw (rowsL c) (r - 1))).fdiv 3))) ds) : fq f_count_nets [.str [109, 105, 117, 114, 97], .int r, .int c] ds Q mk := by
  have hl := rowsL_le hc
  have nd := rowsL_nd hc
  have hrl : ∀ a ∈ rowsL c, a.length ≤ 5 := fun a ha => by rw [rowsL_len c a ha]; exact hc
  rw [← rounds_sum nd (r - 1)] at q
  unfold f_count_nets m_count_nets
  simp
  refine w_rows hc ?_
  generalize rowsL c = rows at *
  simp
  refine q_dc_pure (fun d => (d, onT .non (belG rows) d)) ?_ (dc_keys nd hl (g := belG rows) _ (fun row => by simp [tupI])) ?_
  · intro dd hd
    obtain ⟨row, hrow, rfl⟩ := List.mem_map.mp hd
    generalize hm : mLc (mIt (mVar 3)) (tgN 10) (mTru (mPrim fAll (mArgs [(mLc (mItA fZ2 [(mVar 8), (mVar 10)]) (tgT (tgCons (tgN 11) (tgCons (tgN 12) tgNil))) mYes (mBin fNe (mVar 11) (mVar 12)) [11, 12])]))) (mVar 10) [10] = M
    simp
    subst hm
    refine w_bel hl (hrl row hrow) ?_
    simp [belG, tupI]
  · have e1 : (rows.map tupI).map (fun d => (d, onT .non (belG rows) d)) = tabG rows (belG rows) := by
      rw [List.map_map]
      exact List.map_congr_left fun row _ => by simp [tupI]
    rw [e1]
    simp
    refine q_dc_pure (fun d => (d, .int 1)) ?_ (dc_keys nd hl (g := fun _ => .int 1) _ (fun row => rfl)) ?_
    · intro dd hd
      obtain ⟨row, hrow, rfl⟩ := List.mem_map.mp hd
      simp
    · have e2 : (rows.map tupI).map (fun d => (d, D.int 1)) = tabD (roundsT rows 0) := by
        unfold roundsT tabD
        rw [List.map_map, List.map_map]; rfl
      rw [e2]
      simp
      refine ⟨rg_ok (by omega), ?_⟩
      refine q_loop (fun i s => ∃ x5 x6 x7 x8 x9 x10, HoldsK x5 (tabD (roundsT rows i)) ∧ s = ⟨[.d (.str [109, 105, 117, 114, 97]), .d (.int r), .d (.int c), .d (.lst (rows.map tupI)), .o (.k (tabG rows (belG rows))), x5, x6, x7, x8, x9, x10, .no, .no], ds⟩) ⟨_, _, _, _, _, _, .inl rfl, rfl⟩ ?_ ?_
      · rintro i d s hi ⟨x5, x6, x7, x8, x9, x10, h5, rfl⟩
        obtain ⟨rfl, hi2⟩ := rgD_at hi
        have inner : ∀ x8 x9 x10, wq (mLoop (tgT (tgCons (tgN 8) (tgCons (tgN 9) tgNil))) addB ((tabD (roundsT rows i)).map fun p => .tup [p.1, p.2])) ⟨[.d (.str [109, 105, 117, 114, 97]), .d (.int r), .d (.int c), .d (.lst (rows.map tupI)), .o (.k (tabG rows (belG rows))), .d (.dct (tabD (roundsT rows i))), .d (.int i), .o (.k []), x8, x9, x10, .no, .no], ds⟩ (fun fl s => fl = .nx ∧ ∃ x8 x9 x10, s = ⟨[.d (.str [109, 105, 117, 114, 97]), .d (.int r), .d (.int c), .d (.lst (rows.map tupI)), .o (.k (tabG rows (belG rows))), .d (.dct (tabD (roundsT rows i))), .d (.int i), .o (.k (tabD (roundsT rows (i + 1)))), x8, x9, x10, .no, .no], ds⟩) mk := by
          intro x8 x9 x10
          refine q_loop (fun j s => ∃ x8 x9 x10, s = ⟨[.d (.str [109, 105, 117, 114, 97]), .d (.int r), .d (.int c), .d (.lst (rows.map tupI)), .o (.k (tabG rows (belG rows))), .d (.dct (tabD (roundsT rows i))), .d (.int i), .o (.k (tabD (((roundsT rows i).take j).foldl (turnT rows) []))), x8, x9, x10, .no, .no], ds⟩) ⟨_, _, _, rfl⟩ ?_ ?_
          · rintro j d s hj ⟨x8, x9, x10, rfl⟩
            unfold tabD at hj
            rw [List.map_map, List.getElem?_map, Option.map_eq_some_iff] at hj
            obtain ⟨p, hp, rfl⟩ := hj
            have hm : p ∈ roundsT rows i := List.mem_of_getElem? hp
            have hk : p.1 ∈ rows := (rounds_ok nd i).sub p.1 (List.mem_map_of_mem hm)
            simp only [Function.comp, q_tgT, q_tgCons, q_tgN, q_tgNil]
            refine w_addB hl hk (fold_ok nilOk) ?_
            intro x10
            refine ⟨.d (tupI p.1), .d (.int p.2), x10, ?_⟩
            rw [List.take_add_one, hp, Option.toList_some, List.foldl_append]
            rfl
          · rintro s ⟨x8, x9, x10, rfl⟩
            have e3 : ((tabD (roundsT rows i)).map fun p => D.tup [p.1, p.2]).length = (roundsT rows i).length := by unfold tabD; simp
            rw [e3, List.take_length]
            exact ⟨rfl, _, _, _, rfl⟩
        rcases h5 with rfl | rfl
        all_goals
          simp
          refine wq_mono (inner _ _ _) ?_
          rintro fl s ⟨rfl, y8, y9, y10, rfl⟩
          simp
          exact .inr rfl
      · rintro s ⟨x5, x6, x7, x8, x9, x10, h5, rfl⟩
        rw [rgD_len, show ((r : Int) - 1).toNat = r - 1 by omega] at h5
        have e4 : (tabD (roundsT rows (r - 1))).map (·.2) = ((roundsT rows (r - 1)).map (·.2)).map D.int := by
          unfold tabD
          rw [List.map_map, List.map_map]; rfl
        rcases h5 with rfl | rfl
        all_goals
          simp [-List.map_map, e4, intsD_map]
          exact q
theorem vals : (tot (rowsL 1) (pw (rowsL 1) 0)).fdiv 3 = 1 ∧ (tot (rowsL 2) (pw (rowsL 2) 1)).fdiv 3 = 6 := by decide +kernel
end
end K36
namespace K36
open PySem PySem.Spec PyProof.Rows L2 PD
noncomputable def bFlip : MS := (mThen (mSet 13 (mCall f__law_draw (mArgs [(mVar 1), (mVar 3)]))) (mAsg (tgSub (mVar 11) (mVar 13)) (mIf (mTest (mBin fEq (mBin fIx (mVar 11) (mVar 13)) (mC (.str [100])))) (mC (.str [117])) (mC (.str [100])))))
noncomputable def bKind : MS := (mThen (mSet 14 (mCall f__law_wrong (mArgs [(mVar 12), (mVar 9), (mVar 10), (mVar 11)]))) (mIfS (mNot (mTru (mCall f__law_eq (mArgs [(mLst [(mCall f_is_right_net (mArgs [(mVar 12), (mVar 9), (mVar 10), (mVar 11)])), (mLc (mIt (mCall f_wrong_corners (mArgs [(mVar 12), (mVar 9), (mVar 10), (mVar 11)]))) (tgN 17) mYes (mPrim fTuple (mArgs [(mVar 17)])) [17])]), (mLst [(mBin fEq (mVar 14) (mLst [])), (mVar 14)])])))) (mRetS (mC (.bl false))) mSkip))
noncomputable def bStep : MS := (mThen (mSet 11 (mIf (mTest (mBin fGt (mVar 6) (mC (.int 0)))) (mPrim fList (mArgs [(mVar 5)])) (mLc (mItA fRng1 [(mVar 3)]) (tgN 8) mYes (mCall f__law_pick (mArgs [(mVar 1), (mLst [(mC (.str [117])), (mC (.str [100]))])])) [8])))
    (mThen (mFor (mItA fRng1 [(mIf (mTest (mBin fNe (mVar 11) (mLst []))) (mCall f__law_draw (mArgs [(mVar 1), (mC (.int 3))])) (mC (.int 0)))]) (tgN 8) bFlip)
    (mThen (mSet 11 (mMethT "str" fJoin (mC (.str [])) [(mVar 11)]))
    (mThen (mFor (mIt (mTup [(mC (.str [115, 113, 117, 97, 114, 101, 115])), (mC (.str [109, 105, 117, 114, 97]))])) (tgN 12) bKind)
    (mThen (mIfS (mAnd (mTest (mBin fGt (mVar 9) (mC (.int 1)))) (mTest (mBin fGt (mVar 10) (mC (.int 1))))) (mThen (mPar 15 16 (mCall f__law_draw (mArgs [(mVar 1), (mBin fSub (mVar 9) (mC (.int 1)))])) (mCall f__law_draw (mArgs [(mVar 1), (mBin fSub (mVar 10) (mC (.int 1)))]))) (mIfS (mNot (mTru (mCall f__law_eq (mArgs [(mCall f_corner_bends (mArgs [(mVar 9), (mVar 10), (mVar 11), (mVar 15), (mVar 16)])), (mCall f__law_at (mArgs [(mVar 9), (mVar 10), (mVar 11), (mVar 15), (mVar 16)]))])))) (mRetS (mC (.bl false))) mSkip)) mSkip)
    (mIfS (mAnd (mTest (mBin fGt (mVar 3) (mC (.int 0)))) (mTest (mBin fNe (mLc (mIt (mTup [(mSl (mVar 11) (mPart (mC (.int 1))) mNoPart), (mBin fAdd (mVar 11) (mC (.str [117]))), (mBin fAdd (mC (.str [120])) (mSl (mVar 11) (mPart (mC (.int 1))) mNoPart))])) (tgN 17) mYes (mCall f_is_right_net (mArgs [(mC (.str [109, 105, 117, 114, 97])), (mVar 9), (mVar 10), (mVar 17)])) [17]) (mBin fMul (mLst [(mC (.bl false))]) (mC (.int 3)))))) (mRetS (mC (.bl false))) mSkip))))))
noncomputable def bTail : MS := (mThen (mAsg (tgT (tgCons (tgN 9) (tgCons (tgN 10) tgNil))) (mTup [(mBin fAdd (mC (.int 1)) (mCall f__law_draw (mArgs [(mVar 1), (mC (.int 60))]))), (mBin fAdd (mC (.int 1)) (mCall f__law_draw (mArgs [(mVar 1), (mC (.int 5))])))]))
    (mThen (mSet 7 (mC (.int 1)))
    (mThen (mFor (mItA fRng1 [(mBin fSub (mBin fAdd (mBin fMul (mBin fSub (mVar 9) (mC (.int 1))) (mVar 10)) (mBin fMul (mVar 9) (mBin fSub (mVar 10) (mC (.int 1))))) (mBin fMul (mBin fSub (mVar 9) (mC (.int 1))) (mBin fSub (mVar 10) (mC (.int 1)))))]) (tgN 8) (mSet 7 (mBin fMul (mC (.int 2)) (mVar 7))))
    (mIfS (mNot (mTru (mCall f__law_eq (mArgs [(mLst [(mCall f_count_nets (mArgs [(mC (.str [109, 105, 117, 114, 97])), (mVar 9), (mVar 10)])), (mCall f_count_nets (mArgs [(mC (.str [115, 113, 117, 97, 114, 101, 115])), (mVar 9), (mVar 10)]))]), (mLst [(mCall f__law_count (mArgs [(mVar 9), (mVar 10)])), (mVar 7)])])))) (mRetS (mC (.bl false))) mSkip))))
noncomputable def bTurn : MS := (mThen (mAsg (tgT (tgCons (tgN 9) (tgCons (tgN 10) tgNil))) (mTup [(mBin fAdd (mC (.int 1)) (mCall f__law_draw (mArgs [(mVar 1), (mC (.int 6))]))), (mBin fAdd (mC (.int 1)) (mCall f__law_draw (mArgs [(mVar 1), (mC (.int 6))])))]))
    (mThen (mSet 3 (mBin fAdd (mBin fMul (mBin fSub (mVar 9) (mC (.int 1))) (mVar 10)) (mBin fMul (mVar 9) (mBin fSub (mVar 10) (mC (.int 1))))))
    (mThen (mSet 4 (mCall f__law_colouring (mArgs [(mVar 1), (mVar 9), (mVar 10)])))
    (mThen (mSet 5 (mCall f__law_by (mArgs [(mVar 9), (mVar 10), (mVar 4)])))
    (mThen (mIfS (mNot (mTru (mCall f__law_eq (mArgs [(mLst [(mCall f_count_creases (mArgs [(mVar 9), (mVar 10)])), (mCall f_bends_by_colours (mArgs [(mVar 9), (mVar 10), (mVar 4)])), (mPrim fTuple (mArgs [(mCall f_colours_of (mArgs [(mVar 9), (mVar 10), (mVar 5)]))]))]), (mLst [(mVar 3), (mVar 5), (mPrim fTuple (mArgs [(mLc (mIt (mVar 4)) (tgN 17) mYes (mBin fMod (mBin fSub (mVar 17) (mBin fIx (mVar 4) (mC (.int 0)))) (mC (.int 3))) [17])]))])])))) (mRetS (mC (.bl false))) mSkip)
    (mThen (mIfS (mTest (mBin fNe (mCall f__law_wrong (mArgs [(mC (.str [109, 105, 117, 114, 97])), (mVar 9), (mVar 10), (mVar 5)])) (mLst []))) (mRetS (mC (.bl false))) mSkip)
    (mThen (mFor (mItA fRng1 [(mC (.int 5))]) (tgN 6) bStep)
    bTail)))))))
theorem law_eq : m_law = (mThen (mSet 1 (mCall f__law_state (mArgs [(mVar 0)])))
    (mThen (mFor (mItA fRng1 [(mC (.int 5))]) (tgN 2) bTurn)
    (mRetS (mCall f__law_eq (mArgs [(mLst [(mCall f_count_nets (mArgs [(mC (.str [109, 105, 117, 114, 97])), (mC (.int 1)), (mC (.int 1))])), (mCall f_count_nets (mArgs [(mC (.str [109, 105, 117, 114, 97])), (mC (.int 2)), (mC (.int 2))])), (mCall f_count_nets (mArgs [(mC (.str [115, 113, 117, 97, 114, 101, 115])), (mC (.int 2)), (mC (.int 2))])), (mCall f_is_right_net (mArgs [(mC (.str [115, 113, 117, 97, 114, 101, 115])), (mC (.int 1)), (mC (.int 1)), (mC (.str []))]))]), (mLst [(mC (.int 1)), (mC (.int 6)), (mC (.int 8)), (mC (.bl true))])]))))) := rfl
def chD (c : Nat) : D := .str [c]
theorem UD.set {l : List Nat} (h : UD l) {k x : Nat} (hx : x = 117 ∨ x = 100) : UD (l.set k x) := by
  intro y hy
  rcases List.mem_or_eq_of_mem_set hy with h1 | h1
  · exact h y h1
  · rw [h1]; exact hx
theorem drop1 {l : List Nat} : cutL l (some 1) none = l.drop 1 := by
  unfold cutL HT.sIx
  cases l with
  | nil => rfl
  | cons a l => simp
def EnvL (d : DS) (x0 x2 x3 x4 x5 x6 x7 x8 x9 x10 x11 x12 x13 x14 x15 x16 x17 : Sl) : S := ⟨[x0, .d .st, x2, x3, x4, x5, x6, x7, x8, x9, x10, x11, x12, x13, x14, x15, x16, x17], some d⟩
section
variable {d : DS} {ds : Option DS} {r c : Nat} {l : List Nat} {mi : Bool} {x0 x2 x3 x4 x5 x6 x7 x8 x9 x10 x11 x12 x13 x14 x15 x16 x17 : Sl}
theorem w_flip {Q : Fl → S → Prop} (u : UD l) (h0 : 0 < l.length) (h1 : l.length ≤ 1000)
    (q : ∀ l', l'.length = l.length → UD l' → ∀ d x13, Q .nx (EnvL d x0 x2 (.d (.int l.length)) x4 x5 x6 x7 x8 x9 x10 (.o (.l (l'.map chD))) x12 x13 x14 x15 x16 x17)) : wq bFlip (EnvL d x0 x2 (.d (.int l.length)) x4 x5 x6 x7 x8 x9 x10 (.o (.l (l.map chD))) x12 x13 x14 x15 x16 x17) Q mk := by
  unfold bFlip EnvL
  simp
  refine w_draw h0 (by omega) fun v hv d' => ?_
  have a1 : atI (l.map chD) (v : Int) = some (chD l[v]) := by rw [atI_get?]; simp [hv]
  have i1 : ixN l.length (v : Int) = some v := by unfold ixN; rw [if_pos (by omega), if_pos (by omega)]; rfl
  simp [a1, chD, i1]
  have hv2 : l[v] = 117 ∨ l[v] = 100 := u _ (List.getElem_mem hv)
  have fin : ∀ x, x = 117 ∨ x = 100 → Q .nx ⟨[x0, .d .st, x2, .d (.int l.length), x4, x5, x6, x7, x8, x9, x10, .o (.l ((l.map fun c => D.str [c]).set v (.str [x]))), x12, .d (.int v), x14, x15, x16, x17], some d'⟩ := by
    intro x hx
    have := q (l.set v x) (by simp) (u.set hx) d' (.d (.int v))
    rw [List.map_set] at this
    exact this
  rcases hv2 with e | e
  · simp [e]; exact fin 100 (.inr rfl)
  · simp [e]; exact fin 117 (.inl rfl)
theorem okE_prD {n i j : Nat} : okE (n + 2) (prD i j) := by
  refine ⟨by simp, ?_⟩
  intro x hx
  simp at hx
  rcases hx with rfl | rfl <;> trivial
theorem wrL_mem {n : Nat} {x : D} (h : x ∈ wrL mi r c l n) : ∃ i j : Nat, x = prD i j := by
  obtain ⟨i, _, h⟩ := List.mem_flatMap.mp h
  obtain ⟨j, _, rfl⟩ := List.mem_map.mp h
  exact ⟨i, j, rfl⟩
theorem pl_pairs {xs : List D} (h : ∀ x ∈ xs, ∃ i j : Nat, x = prD i j) {n : Nat} : plAll (n + 1) xs = true := by
  induction xs with
  | nil => rfl
  | cons a l ih =>
    obtain ⟨i, j, rfl⟩ := h a List.mem_cons_self
    rw [plAll_cons, ih fun x hx => h x (List.mem_cons_of_mem _ hx)]
    simp [prD]
theorem w_kind {Q : Fl → S → Prop} (hr1 : 1 ≤ r) (hr : r ≤ 60) (hc1 : 1 ≤ c) (hc : c ≤ 60) (hl : l.length = (r - 1) * c + r * (c - 1)) (u : UD l)
    (q : ∀ x14, Q .nx (EnvL d x0 x2 x3 x4 x5 x6 x7 x8 (.d (.int r)) (.d (.int c)) (.d (.str l)) (.d (.str (kN mi))) x13 x14 x15 x16 x17)) : wq bKind (EnvL d x0 x2 x3 x4 x5 x6 x7 x8 (.d (.int r)) (.d (.int c)) (.d (.str l)) (.d (.str (kN mi))) x13 x14 x15 x16 x17) Q mk := by
  unfold bKind EnvL
  simp
  refine w_lw hr1 hr hc1 hc hl u ?_
  simp
  refine w_irn hr1 hr hc1 hc hl u ?_
  simp
  refine w_wc hr1 hr hc1 hc hl u ?_
  have hz : (wrL mi r c l (r - 1)).length ≤ 3600 := by
    have h1 := wrL_len (mi := mi) (r := r) (c := c) (l := l) (n := r - 1)
    have h2 : (r - 1) * (c - 1) ≤ 60 * 60 := mulb (by omega) (by omega)
    omega
  have hm : ∀ x ∈ wrL mi r c l (r - 1), ∃ i j : Nat, x = prD i j := fun x hx => wrL_mem hx
  have hp : plAll 59 (wrL mi r c l (r - 1)) = true := pl_pairs hm
  generalize wrL mi r c l (r - 1) = xs at *
  simp
  refine q_lc_pure (fun _ => true) id ?_ ?_
  · intro dd hd
    obtain ⟨i, j, rfl⟩ := hm dd hd
    simp [prD]
  · rw [List.filter_eq_self.mpr (fun _ _ => rfl), List.map_id]
    have e : decide (xs = []) = decide (xs.length = 0) := by simp
    simp [sz (show xs.length ≤ 16777216 by omega), hp, eqD_nil, sz]
    refine eq_self 19 _ ?_ _ _ ?_
    · refine ⟨by simp, ?_⟩
      intro x hx
      simp at hx
      rcases hx with rfl | rfl
      · trivial
      · refine ⟨by omega, ?_⟩
        intro y hy
        obtain ⟨i, j, rfl⟩ := hm y hy
        exact okE_prD
    · simp
      exact q _
end
end K36
namespace K36
open PySem PySem.Spec PyProof.Rows L2 PD
theorem strs_ch : ∀ l : List Nat, strsD (l.map chD) = some (l.map fun c => [c])
  | [] => rfl
  | a :: l => by
    show (strsD (l.map chD)).map _ = _
    rw [strs_ch l]; rfl
theorem join_ch (l : List Nat) : joinL [] (l.map fun c => [c]) = l := by
  have h : ∀ l : List Nat, ((l.map fun c => [c]).map fun y => ([] : List Nat) ++ y).flatten = l := by
    intro l
    induction l with
    | nil => rfl
    | cons a l ih => rw [List.map_cons, List.map_cons, List.flatten_cons, ih]; rfl
  cases l with
  | nil => rfl
  | cons a l => show [a] ++ _ = _; rw [h]; rfl
theorem sum_ch (l : List Nat) : ((l.map fun c => [c]).map (·.length)).sum = l.length := by
  induction l with
  | nil => rfl
  | cons a l ih => rw [List.map_cons, List.map_cons, List.sum_cons, ih, List.length_cons]; simp; omega
theorem plc {n : Nat} {l : List Nat} : plAll n (l.map chD) = true := by
  induction l with
  | nil => rfl
  | cons a l ih => rw [List.map_cons, plAll_cons, ih]; simp [chD]
section
variable {d : DS} {ds : Option DS} {r c n : Nat} {l bs : List Nat} {mi : Bool} {x0 x2 x3 x4 x5 x6 x7 x8 x9 x10 x11 x12 x13 x14 x15 x16 x17 : Sl}
noncomputable def e11 : M R := (mIf (mTest (mBin fGt (mVar 6) (mC (.int 0)))) (mPrim fList (mArgs [(mVar 5)])) (mLc (mItA fRng1 [(mVar 3)]) (tgN 8) mYes (mCall f__law_pick (mArgs [(mVar 1), (mLst [(mC (.str [117])), (mC (.str [100]))])])) [8]))
theorem w_e11 {Q : R → S → Prop} {step : Nat} (hn : n ≤ 1000) (hb : bs.length = n) (ub : UD bs)
    (q : ∀ l, l.length = n → UD l → ∀ d, Q (.t (.l (l.map chD))) (EnvL d x0 x2 (.d (.int n)) x4 (.d (.str bs)) (.d (.int step)) x7 x8 x9 x10 x11 x12 x13 x14 x15 x16 x17)) : wq e11 (EnvL d x0 x2 (.d (.int n)) x4 (.d (.str bs)) (.d (.int step)) x7 x8 x9 x10 x11 x12 x13 x14 x15 x16 x17) Q mk := by
  unfold e11 EnvL
  by_cases hs : 0 < step
  · simp [hs]
    exact q bs hb ub d
  · simp [hs]
    refine ⟨rg_ok (by omega), ?_⟩
    refine q_lc_inv (fun i acc s => ∃ l d, acc = l.map chD ∧ l.length = i ∧ UD l ∧ s = EnvL d x0 x2 (.d (.int n)) x4 (.d (.str bs)) (.d (.int step)) x7 .no x9 x10 x11 x12 x13 x14 x15 x16 x17) ⟨[], d, rfl, rfl, fun x h => (by cases h), rfl⟩ ?_ ?_
    · rintro i dd acc s hi ⟨l, d1, rfl, rfl, u, rfl⟩
      unfold EnvL
      simp
      refine ⟨by decide, ?_⟩
      refine w_pick (by decide) (by decide) ?_
      intro x hx d'
      have hx2 : ∃ y, x = chD y ∧ (y = 117 ∨ y = 100) := by
        simp at hx
        rcases hx with rfl | rfl
        · exact ⟨117, rfl, .inl rfl⟩
        · exact ⟨100, rfl, .inr rfl⟩
      obtain ⟨y, rfl, hy⟩ := hx2
      have e : scalD (chD y) = true := rfl
      simp [e]
      refine ⟨l ++ [y], by simp, by simp, ?_⟩
      intro z hz
      rcases List.mem_append.mp hz with hz | hz
      · exact u z hz
      · rw [List.mem_singleton.mp hz]; exact hy
    · rintro acc s ⟨l, d1, rfl, h1, u, rfl⟩
      rw [rgD_len] at h1
      unfold EnvL
      simp
      exact ⟨sz (by omega), q l (by omega) u d1⟩
theorem w_flips {Q : Fl → S → Prop} (u : UD l) (hl : l.length = n) (h1 : n ≤ 1000)
    (q : ∀ l', l'.length = n → UD l' → ∀ d x8 x13, Q .nx (EnvL d x0 x2 (.d (.int n)) x4 x5 x6 x7 x8 x9 x10 (.o (.l (l'.map chD))) x12 x13 x14 x15 x16 x17)) :
    wq (mFor (mItA fRng1 [(mIf (mTest (mBin fNe (mVar 11) (mLst []))) (mCall f__law_draw (mArgs [(mVar 1), (mC (.int 3))])) (mC (.int 0)))]) (tgN 8) bFlip) (EnvL d x0 x2 (.d (.int n)) x4 x5 x6 x7 x8 x9 x10 (.o (.l (l.map chD))) x12 x13 x14 x15 x16 x17) Q mk := by
  have run : ∀ (k : Nat) (d : DS), (0 < k → 0 < n) → wq (mLoop (tgN 8) bFlip (rgD (k : Int))) (EnvL d x0 x2 (.d (.int n)) x4 x5 x6 x7 x8 x9 x10 (.o (.l (l.map chD))) x12 x13 x14 x15 x16 x17) Q mk := by
    intro k d hk
    refine q_loop (fun i s => ∃ l' d x8 x13, l'.length = n ∧ UD l' ∧ s = EnvL d x0 x2 (.d (.int n)) x4 x5 x6 x7 x8 x9 x10 (.o (.l (l'.map chD))) x12 x13 x14 x15 x16 x17) ⟨l, d, _, _, hl, u, rfl⟩ ?_ ?_
    · rintro i dd s hi ⟨l', d1, y8, y13, rfl, u', rfl⟩
      obtain ⟨rfl, hi2⟩ := rgD_at hi
      simp only [q_tgN]
      refine w_flip (x8 := .d (.int i)) (x13 := y13) u' (hk (by omega)) h1 ?_
      intro l2 h2 u2 d2 z13
      exact ⟨l2, d2, _, z13, h2, u2, rfl⟩
    · rintro s ⟨l', d1, y8, y13, h2, u', rfl⟩
      exact q l' h2 u' d1 y8 y13
  unfold EnvL at run ⊢
  by_cases he : l = []
  · subst he
    simp [plc]
    exact ⟨by decide, run 0 d (by simp)⟩
  · have hne : eqDs (l.map chD) [] = false := by rw [eqD_nil]; simp [he]
    have hpos : 0 < n := by have := List.length_pos_iff.mpr he; omega
    simp [plc, hne]
    refine w_draw (many := 3) (by decide) (by decide) fun v hv d' => ?_
    simp
    exact ⟨rg_ok (by omega), run v d' (fun _ => hpos)⟩
end
end K36
namespace K36
open PySem PySem.Spec PyProof.Rows L2 PD
section
variable {d : DS} {ds : Option DS} {r c n : Nat} {l bs : List Nat} {mi : Bool} {x0 x2 x3 x4 x5 x6 x7 x8 x9 x10 x11 x12 x13 x14 x15 x16 x17 : Sl}
noncomputable def bCor : MS := (mIfS (mAnd (mTest (mBin fGt (mVar 9) (mC (.int 1)))) (mTest (mBin fGt (mVar 10) (mC (.int 1))))) (mThen (mPar 15 16 (mCall f__law_draw (mArgs [(mVar 1), (mBin fSub (mVar 9) (mC (.int 1)))])) (mCall f__law_draw (mArgs [(mVar 1), (mBin fSub (mVar 10) (mC (.int 1)))]))) (mIfS (mNot (mTru (mCall f__law_eq (mArgs [(mCall f_corner_bends (mArgs [(mVar 9), (mVar 10), (mVar 11), (mVar 15), (mVar 16)])), (mCall f__law_at (mArgs [(mVar 9), (mVar 10), (mVar 11), (mVar 15), (mVar 16)]))])))) (mRetS (mC (.bl false))) mSkip)) mSkip)
noncomputable def bBad : MS := (mIfS (mAnd (mTest (mBin fGt (mVar 3) (mC (.int 0)))) (mTest (mBin fNe (mLc (mIt (mTup [(mSl (mVar 11) (mPart (mC (.int 1))) mNoPart), (mBin fAdd (mVar 11) (mC (.str [117]))), (mBin fAdd (mC (.str [120])) (mSl (mVar 11) (mPart (mC (.int 1))) mNoPart))])) (tgN 17) mYes (mCall f_is_right_net (mArgs [(mC (.str [109, 105, 117, 114, 97])), (mVar 9), (mVar 10), (mVar 17)])) [17]) (mBin fMul (mLst [(mC (.bl false))]) (mC (.int 3)))))) (mRetS (mC (.bl false))) mSkip)
theorem w_cor {Q : Fl → S → Prop} (hr1 : 1 ≤ r) (hr : r ≤ 60) (hc1 : 1 ≤ c) (hc : c ≤ 60) (hl : l.length = (r - 1) * c + r * (c - 1))
    (q : ∀ d x15 x16, Q .nx (EnvL d x0 x2 x3 x4 x5 x6 x7 x8 (.d (.int r)) (.d (.int c)) (.d (.str l)) x12 x13 x14 x15 x16 x17)) : wq bCor (EnvL d x0 x2 x3 x4 x5 x6 x7 x8 (.d (.int r)) (.d (.int c)) (.d (.str l)) x12 x13 x14 x15 x16 x17) Q mk := by
  unfold bCor EnvL
  by_cases h1 : 1 < r
  · by_cases h2 : 1 < c
    · obtain ⟨a, rfl⟩ : ∃ a, r = a + 1 := ⟨r - 1, by omega⟩
      obtain ⟨b, rfl⟩ : ∃ b, c = b + 1 := ⟨c - 1, by omega⟩
      simp [show (1 : Int) < (a : Int) + 1 by omega, show (1 : Int) < (b : Int) + 1 by omega, show ((a : Int) + 1 - 1) = a by omega, show ((b : Int) + 1 - 1) = b by omega]
      refine w_draw (by omega) (by omega) fun v hv d' => ?_
      simp
      refine w_draw (by omega) (by omega) fun v2 hv2 d2 => ?_
      simp
      refine w_cb' (r := a + 1) (c := b + 1) hr hc hl (by omega) (by omega) ?_
      simp
      refine w_at (r := a + 1) (c := b + 1) hr hc hl (by omega) (by omega) ?_
      simp
      refine eq_self 19 _ (by trivial) _ _ ?_
      simp
      exact q d2 _ _
    · simp [show (1 : Int) < r by omega, show ¬ (1 : Int) < c by omega]
      exact q d x15 x16
  · simp [show ¬ (1 : Int) < r by omega]
    exact q d x15 x16
theorem w_bad {Q : Fl → S → Prop} (hr1 : 1 ≤ r) (hr : r ≤ 60) (hc1 : 1 ≤ c) (hc : c ≤ 60) (hl : l.length = (r - 1) * c + r * (c - 1)) (hn : n = l.length) (h9 : n ≤ 10000)
    (q : Q .nx (EnvL d x0 x2 (.d (.int n)) x4 x5 x6 x7 x8 (.d (.int r)) (.d (.int c)) (.d (.str l)) x12 x13 x14 x15 x16 x17)) : wq bBad (EnvL d x0 x2 (.d (.int n)) x4 x5 x6 x7 x8 (.d (.int r)) (.d (.int c)) (.d (.str l)) x12 x13 x14 x15 x16 x17) Q mk := by
  unfold bBad EnvL
  by_cases h0 : 0 < n
  · have z : 1 + l.length ≤ sizeLine := sz (by omega)
    have z1 : l.length + 1 ≤ sizeLine := sz (by omega)
    have z2 : (l.drop 1).length + 1 ≤ sizeLine := sz (by rw [List.length_drop]; omega)
    have z3 : 1 + (l.drop 1).length ≤ sizeLine := sz (by rw [List.length_drop]; omega)
    rw [List.length_drop] at z2 z3
    simp [h0, drop1, z, z1, z2, z3]
    refine ⟨by decide, ?_⟩
    refine q_lc_pure (fun _ => true) (fun _ => .bl false) ?_ ?_
    · intro dd hd
      simp at hd
      rcases hd with rfl | rfl | rfl
      · simp
        exact w_irn_len (mi := true) hr1 hr hc1 hc (by simp; omega) (by simp)
      · simp
        exact w_irn_len (mi := true) hr1 hr hc1 hc (by simp; omega) (by simp)
      · simp
        exact w_irn_x (mi := true) hr1 hr hc1 hc (by simp; omega) (by simp; omega) (by simp)
    · have e : eqDs [D.bl false, D.bl false, D.bl false] (List.replicate 3 (D.bl false)) = true := by simp [List.replicate]
      simp [e, show 3 ≤ sizeLine from by decide, show 1 ≤ sizeLine from by decide, List.replicate]
      exact q
  · simp [h0]
    exact q
theorem step_eq : bStep = (mThen (mSet 11 e11)
    (mThen (mFor (mItA fRng1 [(mIf (mTest (mBin fNe (mVar 11) (mLst []))) (mCall f__law_draw (mArgs [(mVar 1), (mC (.int 3))])) (mC (.int 0)))]) (tgN 8) bFlip)
    (mThen (mSet 11 (mMethT "str" fJoin (mC (.str [])) [(mVar 11)]))
    (mThen (mFor (mIt (mTup [(mC (.str [115, 113, 117, 97, 114, 101, 115])), (mC (.str [109, 105, 117, 114, 97]))])) (tgN 12) bKind)
    (mThen bCor bBad))))) := rfl
theorem w_stepB {Q : Fl → S → Prop} {step : Nat} (hr1 : 1 ≤ r) (hr : r ≤ 6) (hc1 : 1 ≤ c) (hc : c ≤ 6) (hl : bs.length = (r - 1) * c + r * (c - 1)) (hn : n = bs.length) (ub : UD bs)
    (q : ∀ d x8 x11 x12 x13 x14 x15 x16, Q .nx (EnvL d x0 x2 (.d (.int n)) x4 (.d (.str bs)) (.d (.int step)) x7 x8 (.d (.int r)) (.d (.int c)) x11 x12 x13 x14 x15 x16 x17)) : wq bStep (EnvL d x0 x2 (.d (.int n)) x4 (.d (.str bs)) (.d (.int step)) x7 x8 (.d (.int r)) (.d (.int c)) x11 x12 x13 x14 x15 x16 x17) Q mk := by
  have b0 : (r - 1) * c ≤ 6 * 6 := mulb (by omega) (by omega)
  have b1 : r * (c - 1) ≤ 6 * 6 := mulb (by omega) (by omega)
  rw [step_eq]
  simp only [q_then, q_set]
  refine w_e11 (by omega) hn.symm ub ?_
  intro l1 hl1 u1 d1
  unfold EnvL
  simp only [setR_t, bO_some, thK_n, List.set_cons_zero, List.set_cons_succ]
  simp only [q_then]
  refine w_flips (n := n) u1 hl1 (by omega) ?_
  intro l hl2 u d2 y8 y13
  unfold EnvL
  simp [strs_ch, join_ch, -List.map_map]
  refine ⟨by rw [List.map_map]; have := sum_ch l; rw [List.map_map] at this; rw [show (List.map (List.length ∘ fun c => [c]) l).sum = l.length from this]; omega, by decide, ?_⟩
  have hl3 : l.length = (r - 1) * c + r * (c - 1) := by omega
  refine q_loop (fun i s => ∃ x12 x14, s = EnvL d2 x0 x2 (.d (.int n)) x4 (.d (.str bs)) (.d (.int step)) x7 y8 (.d (.int r)) (.d (.int c)) (.d (.str l)) x12 y13 x14 x15 x16 x17) ⟨_, _, rfl⟩ ?_ ?_
  · rintro i dd s hi ⟨y12, y14, rfl⟩
    have hk : ∃ mi, dd = .str (kN mi) := by
      have := List.mem_of_getElem? hi
      simp at this
      rcases this with rfl | rfl
      · exact ⟨false, rfl⟩
      · exact ⟨true, rfl⟩
    obtain ⟨mi, rfl⟩ := hk
    simp only [q_tgN]
    refine w_kind (x14 := y14) hr1 (by omega) hc1 (by omega) hl3 u ?_
    intro z14
    exact ⟨_, z14, rfl⟩
  · rintro s ⟨y12, y14, rfl⟩
    simp only [thK_n, q_then]
    refine w_cor hr1 (by omega) hc1 (by omega) hl3 ?_
    intro d3 y15 y16
    simp only [thK_n]
    refine w_bad hr1 (by omega) hc1 (by omega) hl3 (by omega) (by omega) ?_
    exact q _ _ _ _ _ _ _ _
end
end K36
namespace K36
open PySem PySem.Spec PyProof.Rows L2 PD
theorem nrm_map {r c : Nat} {cs : List Int} (h : cs.length = r * c) : ((List.range (r * c)).map fun t => D.int (nrm cs t)) = cs.map fun x => D.int ((x - cs[0]?.getD 0).fmod 3) := by
  refine List.ext_getElem (by simp [h]) ?_
  intro i h1 h2
  rw [List.length_map] at h2
  simp [nrm, h2]
theorem okE_strs {n : Nat} {l : List Nat} : okE n (.str l) := by cases n <;> trivial
theorem okE_int {n : Nat} {k : Int} : okE n (.int k) := by cases n <;> trivial
section
variable {d : DS} {ds : Option DS} {r c n : Nat} {l bs : List Nat} {mi : Bool} {x0 x2 x3 x4 x5 x6 x7 x8 x9 x10 x11 x12 x13 x14 x15 x16 x17 : Sl}
theorem w_tail {Q : Fl → S → Prop}
    (q : ∀ d x2 x3 x4 x5 x6 x7 x8 x9 x10 x11 x12 x13 x14 x15 x16 x17, Q .nx (EnvL d x0 x2 x3 x4 x5 x6 x7 x8 x9 x10 x11 x12 x13 x14 x15 x16 x17)) : wq bTail (EnvL d x0 x2 x3 x4 x5 x6 x7 x8 x9 x10 x11 x12 x13 x14 x15 x16 x17) Q mk := by
  unfold bTail EnvL
  simp
  refine w_draw (many := 60) (by decide) (by decide) fun v hv d1 => ?_
  simp
  refine w_draw (many := 5) (by decide) (by decide) fun v2 hv2 d2 => ?_
  simp
  rw [show (1 : Int) + v = ((v + 1 : Nat) : Int) by omega, show (1 : Int) + v2 = ((v2 + 1 : Nat) : Int) by omega]
  have hr1 : 1 ≤ v + 1 := by omega
  have hr : v + 1 ≤ 60 := by omega
  have hc1 : 1 ≤ v2 + 1 := by omega
  have hc : v2 + 1 ≤ 5 := by omega
  generalize v + 1 = r at *
  generalize v2 + 1 = c at *
  have b1 : r * c ≤ 60 * 60 := mulb hr (by omega)
  simp [cmul' (show ((r : Int) - 1).natAbs < 2 ^ 63 by omega), cmul' (show ((r : Int)).natAbs < 2 ^ 63 by omega), cc_eq hr1 hc1, sz]
  refine ⟨rg_ok (by omega), ?_⟩
  refine q_loop (fun i s => ∃ x8, s = ⟨[x0, .d .st, x2, x3, x4, x5, x6, .d (.int (2 ^ i)), x8, .d (.int r), .d (.int c), x11, x12, x13, x14, x15, x16, x17], some d2⟩) ⟨_, rfl⟩ ?_ ?_
  · rintro i dd s hi ⟨x8, rfl⟩
    obtain ⟨rfl, hi2⟩ := rgD_at hi
    simp [cmul' (show ((2 : Int)).natAbs < 2 ^ 63 by decide)]
    rw [Int.pow_succ, Int.mul_comm]
  · rintro s ⟨x8, rfl⟩
    rw [rgD_len, Int.toNat_natCast]
    simp
    refine w_nets hr1 hr hc ?_
    simp
    refine w_sq hr1 hr hc1 (by omega) ?_
    simp
    refine ⟨by decide, ?_⟩
    refine w_lcount hr1 hr hc ?_
    simp
    refine ⟨by decide, ?_⟩
    refine eq_self 19 _ ?_ _ _ ?_
    · refine ⟨by simp, ?_⟩
      intro x hx
      simp at hx
      rcases hx with rfl | rfl <;> exact okE_int
    · simp
      exact q _ _ _ _ _ _ _ _ _ _ _ _ _ _ _ _ _
theorem w_turn {Q : Fl → S → Prop}
    (q : ∀ d x2 x3 x4 x5 x6 x7 x8 x9 x10 x11 x12 x13 x14 x15 x16 x17, Q .nx (EnvL d x0 x2 x3 x4 x5 x6 x7 x8 x9 x10 x11 x12 x13 x14 x15 x16 x17)) : wq bTurn (EnvL d x0 x2 x3 x4 x5 x6 x7 x8 x9 x10 x11 x12 x13 x14 x15 x16 x17) Q mk := by
  unfold bTurn EnvL
  simp
  refine w_draw (many := 6) (by decide) (by decide) fun v hv d1 => ?_
  simp
  refine w_draw (many := 6) (by decide) (by decide) fun v2 hv2 d2 => ?_
  simp
  rw [show (1 : Int) + v = ((v + 1 : Nat) : Int) by omega, show (1 : Int) + v2 = ((v2 + 1 : Nat) : Int) by omega]
  have hr1 : 1 ≤ v + 1 := by omega
  have hr : v + 1 ≤ 6 := by omega
  have hc1 : 1 ≤ v2 + 1 := by omega
  have hc : v2 + 1 ≤ 6 := by omega
  generalize v + 1 = r at *
  generalize v2 + 1 = c at *
  have b1 : r * c ≤ 6 * 6 := mulb hr (by omega)
  have hmany : ((r : Int) - 1) * c + (r : Int) * ((c : Int) - 1) = (((r - 1) * c + r * (c - 1) : Nat) : Int) := by rw [c1 hr1, c2 hc1]; omega
  simp [cmul' (show ((r : Int) - 1).natAbs < 2 ^ 63 by omega), cmul' (show ((r : Int)).natAbs < 2 ^ 63 by omega), sz]
  rw [hmany]
  refine w_colouring hr1 (by omega) hc1 (by omega) ?_
  intro cs P d3
  have hcs := P.len
  simp
  refine w_law_by hr1 (by omega) hc1 (by omega) hcs ?_
  simp [cmul' (show ((r : Int) - 1).natAbs < 2 ^ 63 by omega), cmul' (show ((r : Int)).natAbs < 2 ^ 63 by omega)]
  refine w_bends hr1 (by omega) hc1 (by omega) hcs ?_
  simp
  refine w_colours hr1 hr hc1 hc P ?_
  simp
  refine ⟨by decide, ?_⟩
  have hp : 0 < cs.length := by rw [hcs]; exact Nat.mul_pos hr1 hc1
  have a0 : atI (cs.map D.int) 0 = some (.int (cs[0]?.getD 0)) := at_cs' (k := 0) rfl hp
  refine q_lc_pure (fun _ => true) (onI .non fun x => .int ((x - cs[0]?.getD 0).fmod 3)) ?_ ?_
  · intro dd hd
    obtain ⟨x, hx, rfl⟩ := List.mem_map.mp hd
    simp [a0]
  · rw [List.filter_eq_self.mpr (fun _ _ => rfl), List.map_map, nrm_map hcs, hmany]
    have em : List.map ((onI D.non fun x => D.int ((x - cs[0]?.getD 0).fmod 3)) ∘ D.int) cs = cs.map fun x => D.int ((x - cs[0]?.getD 0).fmod 3) := rfl
    rw [em]
    have hz : cs.length ≤ sizeLine := sz (by omega)
    simp [hz]
    refine ⟨by decide, ?_⟩
    refine eq_self 19 _ ?_ _ _ ?_
    · refine ⟨by simp, ?_⟩
      intro x hx
      simp at hx
      rcases hx with rfl | rfl | rfl
      · exact okE_int
      · exact okE_strs
      · refine ⟨by simp; omega, ?_⟩
        intro y hy
        obtain ⟨z, _, rfl⟩ := List.mem_map.mp hy
        exact okE_int
    · simp
      refine w_lw (mi := true) hr1 (by omega) hc1 (by omega) byS_len by_ud ?_
      rw [by_right P hc1]
      simp
      refine ⟨rg_ok (by decide), ?_⟩
      refine q_loop (fun i s => ∃ d x6 x8 x11 x12 x13 x14 x15 x16, s = EnvL d x0 x2 (.d (.int ((byS r c cs).length : Nat))) (.d (.tup (cs.map .int))) (.d (.str (byS r c cs))) x6 x7 x8 (.d (.int r)) (.d (.int c)) x11 x12 x13 x14 x15 x16 x17) ⟨d3, _, _, _, _, _, _, _, _, by rw [byS_len]; rfl⟩ ?_ ?_
      · rintro i dd s hi ⟨d4, y6, y8, y11, y12, y13, y14, y15, y16, rfl⟩
        obtain ⟨rfl, hi2⟩ := rgD_at hi
        simp only [q_tgN]
        refine w_stepB (bs := byS r c cs) (d := d4) (x8 := y8) (x11 := y11) (x12 := y12) (x13 := y13) (x14 := y14) (x15 := y15) (x16 := y16) hr1 hr hc1 hc byS_len rfl by_ud ?_
        intro d5 z8 z11 z12 z13 z14 z15 z16
        exact ⟨d5, _, z8, z11, z12, z13, z14, z15, z16, rfl⟩
      · rintro s ⟨d4, y6, y8, y11, y12, y13, y14, y15, y16, rfl⟩
        simp only [thK_n]
        exact w_tail q
end
end K36
namespace PD
open PySem PySem.Spec PyProof.Rows L2
theorem law_sp {w : World} {K : PySem.W.Frag} {fn : Fn} (h : ∀ ns : List Int, ns.length ≤ 63 → fq fn [.scr ns] none (fun r _ => r = .d (.bl true)) mk) (H : Hp) (a : Addr) (ns : List Int) (hl : ns.length ≤ 63) (hS : SqL K H a (ns.map V.int)) :
    spF w K fn 1 [.ref a] H (fun v _ => v = .bl true) fun _ _ _ => False := by
  obtain ⟨r, ds', e, rfl⟩ := h ns hl
  refine ⟨⟨H, none⟩, none, [.scr ns], ⟨Sub.refl _, rfl⟩, .cons (.scr hS) .nil, rfl, _, _, e, ?_⟩
  intro v g' H' _ _ hr
  cases hr with
  | d h => cases h; rfl
@[simp ↓] theorem w_state {ns : List Int} {Q : R → Option DS → Prop} {h : Mk Q} : fq f__law_state [.scr ns] none Q h ↔ ns.length ≤ sizeLine ∧ Q (.d .st) (some ⟨ns.map absI, seedOf ns + 1⟩) := by
  show (∃ r ds', (if ns.length ≤ sizeLine then _ else none) = some (r, ds') ∧ Q r ds') ↔ _
  by_cases hl : ns.length ≤ sizeLine
  · rw [if_pos hl]
    exact ⟨fun ⟨_, _, e, q⟩ => (by cases e; exact ⟨hl, q⟩), fun q => ⟨_, _, rfl, q.2⟩⟩
  · rw [if_neg hl]
    exact ⟨fun ⟨_, _, e, q⟩ => (by cases e), fun q => absurd q.1 hl⟩
end PD
namespace K36
open PySem PySem.Spec PyProof.Rows L2 PD
theorem w_law (ns : List Int) (hl : ns.length ≤ 63) : fq f_law [.scr ns] none (fun r _ => r = .d (.bl true)) mk := by
  unfold f_law
  rw [law_eq]
  simp
  refine ⟨sz (by omega), rg_ok (by decide), ?_⟩
  refine q_loop (fun i s => ∃ d x2 x3 x4 x5 x6 x7 x8 x9 x10 x11 x12 x13 x14 x15 x16 x17, s = EnvL d (.d (.scr ns)) x2 x3 x4 x5 x6 x7 x8 x9 x10 x11 x12 x13 x14 x15 x16 x17) ⟨_, _, _, _, _, _, _, _, _, _, _, _, _, _, _, _, _, rfl⟩ ?_ ?_
  · rintro i dd s hi ⟨d, x2, x3, x4, x5, x6, x7, x8, x9, x10, x11, x12, x13, x14, x15, x16, x17, rfl⟩
    obtain ⟨rfl, hi2⟩ := rgD_at hi
    simp only [q_tgN]
    refine w_turn (d := d) (x2 := .d (.int i)) (x3 := x3) (x4 := x4) (x5 := x5) (x6 := x6) (x7 := x7) (x8 := x8) (x9 := x9) (x10 := x10) (x11 := x11) (x12 := x12) (x13 := x13) (x14 := x14) (x15 := x15) (x16 := x16) (x17 := x17) ?_
    intro d' y2 y3 y4 y5 y6 y7 y8 y9 y10 y11 y12 y13 y14 y15 y16 y17
    exact ⟨d', _, _, _, _, _, _, _, _, _, _, _, _, _, _, _, _, rfl⟩
  · rintro s ⟨d, x2, x3, x4, x5, x6, x7, x8, x9, x10, x11, x12, x13, x14, x15, x16, x17, rfl⟩
    unfold EnvL
    simp
    have v1 := vals.1
    have v2 := vals.2
    refine w_nets (r := 1) (c := 1) (by decide) (by decide) (by decide) ?_
    rw [show (1 : Nat) - 1 = 0 from rfl, v1]
    simp
    refine w_nets (r := 2) (c := 2) (by decide) (by decide) (by decide) ?_
    rw [show (2 : Nat) - 1 = 1 from rfl, v2]
    simp
    refine w_sq (r := 2) (c := 2) (by decide) (by decide) (by decide) (by decide) ?_
    simp
    refine w_irn (mi := false) (l := []) (r := 1) (c := 1) (by decide) (by decide) (by decide) (by decide) rfl (fun x h => by cases h) ?_
    have e0 : wrL false 1 1 [] (1 - 1) = [] := rfl
    rw [e0]
    simp
    refine ⟨by decide, ?_⟩
    refine eq_self 19 _ ?_ _ _ ?_
    · refine ⟨by simp, ?_⟩
      intro x hx
      simp at hx
      rcases hx with rfl | rfl | rfl | rfl <;> trivial
    · simp
end K36
open PySem PySem.W PyProof.Rows
set_option maxHeartbeats 0 in
theorem PySem.Challenge.cw_foldedflat_k36_whole_right_nets_by_colou_holds : PySem.Challenge.rw_foldedflat_k36_whole_right_nets_by_colou.Holds := by
  w_on; o_law; k_head; (case hw => w_witness2)
  k_fill
  refine L2.walk_of (l := PySem.Challenge.rw_foldedflat_k36_whole_right_nets_by_colou) (n := 63) (k := 21) (x := "script") (CX := fun _ => L2.CX0) (sp := fun w => PD.spF w _ K36.f_law 1) rfl (by decide) rfl ⟨rfl, by decide, by decide⟩ (fun w h Y => PySem.W.kIn_of Y) ?F (fun w H a ns hl _ hS => PD.law_sp K36.w_law H a ns hl hS) (fun _ _ _ _ _ h => h)
  case F =>
    intro w mg fa h KX G hmg
    refine' K36.all_F KX G hmg ?a0 ?l0 ?c0 ?k0 ?a1 ?l1 ?c1 ?k1 ?a2 ?l2 ?c2 ?k2 ?a3 ?l3 ?c3 ?k3 ?a4 ?l4 ?c4 ?k4 ?a5 ?l5 ?c5 ?k5 ?a6 ?l6 ?c6 ?k6 ?a7 ?l7 ?c7 ?k7 ?a8 ?l8 ?c8 ?k8 ?a9 ?l9 ?c9 ?k9 ?a10 ?l10 ?c10 ?k10 ?a11 ?l11 ?c11 ?k11 ?a12 ?l12 ?c12 ?k12 ?a13 ?l13 ?c13 ?k13 ?a14 ?l14 ?c14 ?k14 ?a15 ?l15 ?c15 ?k15 ?a16 ?l16 ?c16 ?k16 ?a17 ?l17 ?c17 ?k17 ?a18 ?l18 ?c18 ?k18 ?a19 ?l19 ?c19 ?k19 ?a20 ?l20 ?c20 ?k20 ?a21 ?l21 ?c21 ?k21 ?z0 ?z1 ?z2 ?z3 ?z4 ?z5 ?z6 ?z7 ?z8 ?z9 ?z10 ?z11
    (case a0 => k_is); (case l0 => k_is); (case c0 => k_is); (case k0 => k_is); (case a1 => k_is); (case l1 => k_is); (case c1 => k_is); (case k1 => k_is); (case a2 => k_is); (case l2 => k_is); (case c2 => k_is); (case k2 => k_is); (case a3 => k_is); (case l3 => k_is); (case c3 => k_is); (case k3 => k_is); (case a4 => k_is); (case l4 => k_is); (case c4 => k_is); (case k4 => k_is); (case a5 => k_is); (case l5 => k_is); (case c5 => k_is); (case k5 => k_is); (case a6 => k_is); (case l6 => k_is); (case c6 => k_is); (case k6 => k_is); (case a7 => k_is); (case l7 => k_is); (case c7 => k_is); (case k7 => k_is); (case a8 => k_is); (case l8 => k_is); (case c8 => k_is); (case k8 => k_is); (case a9 => k_is); (case l9 => k_is); (case c9 => k_is); (case k9 => k_is); (case a10 => k_is); (case l10 => k_is); (case c10 => k_is); (case k10 => k_is); (case a11 => k_is); (case l11 => k_is); (case c11 => k_is); (case k11 => k_is); (case a12 => k_is); (case l12 => k_is); (case c12 => k_is); (case k12 => k_is); (case a13 => k_is); (case l13 => k_is); (case c13 => k_is); (case k13 => k_is); (case a14 => k_is); (case l14 => k_is); (case c14 => k_is); (case k14 => k_is); (case a15 => k_is); (case l15 => k_is); (case c15 => k_is); (case k15 => k_is); (case a16 => k_is); (case l16 => k_is); (case c16 => k_is); (case k16 => k_is); (case a17 => k_is); (case l17 => k_is); (case c17 => k_is); (case k17 => k_is); (case a18 => k_is); (case l18 => k_is); (case c18 => k_is); (case k18 => k_is); (case a19 => k_is); (case l19 => k_is); (case c19 => k_is); (case k19 => k_is); (case a20 => k_is); (case l20 => k_is); (case c20 => k_is); (case k20 => k_is); (case a21 => k_is); (case l21 => k_is); (case c21 => k_is); (case k21 => k_is); (case z0 => k_is); (case z1 => k_is); (case z2 => k_is); (case z3 => k_is); (case z4 => k_is); (case z5 => k_is); (case z6 => k_is); (case z7 => k_is); (case z8 => k_is); (case z9 => k_is); (case z10 => k_is); (case z11 => k_is)
