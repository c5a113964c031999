import PyProof.Rows.All
import Wide.All
import OpenK.AllK
import Wide.FinOn
import HandS.ForMost
import HandS.ForExc
import HandS.Deep
import HandS.HeadHook1
import HandS.Wide
import HandS.TupAny
import HandS.TupLe
import HandS.IsInst
import HandS.StrMore
import HandS.Style
import HandS.Replace
import KE.SortData
import HandS.CallSlots
import HandS.Zip
import KE.GoesMore
import KE.GoesEnum
import HandS.More
import HandS.TupLen
import HandS.Conv
import HandS.Iter
import KE.KDictCopyH
import PyProof.Rows.TupDisplay
import HandS.Exc
import HandS.TryMany
import HandS.ExcField
import HandS.ExcIs
import KE.KExcIs
import HandS.Defaults
import PyProof.StrBlock
import PyProof.StrCalls6
import PyProof.ToksMono
import HandS.ExcInit
import HandS.HeadHook2
import HandS.Small
import KE.KStateDown
import HandS.Base
import HandS.Call
import HandS.Ends
import HandS.Words
import HandS.WordsExc
import HandS.Head0
import HandS.Head1
import HandS.Head2
import HandS.HeadEnd
import PySem.Challenge.RW_renamehall_k21_no_hall
set_option Elab.async false
set_option linter.all false
set_option maxRecDepth 100000
/-! RHCore: pure data D, its place in an abstract heap (Rp), the frame (Ext), the state of a body (Bd). -/
namespace RH
open PySem PySem.Spec PyProof.Rows L2

/-- pure data; ptr n: the n-th object of the store; scr: the script; exn: an error of the class named c, its fields -/
inductive D where
  | non | bl (b : Bool) | int (i : Int) | str (l : List Nat) | tup (ds : List D) | lst (ds : List D) | ptr (n : Nat) | scr (ns : List Int)
  | exn (c : Str) (fs : List Str) (ds : List D)
/-- a slot: unknown, data -/
inductive Cell where
  | u | sh (d : D)
/-- an object that is shared and changed: a list, a dict (k 0: its keys are ints and texts; 1: tuples of these), an instance of the class named c -/
inductive Ob where
  | lst (ds : List D)
  | dct (k : Nat) (kvs : List (D × D))
  | ins (c : Str) (fs : List (Str × D))
def Ob.vals : Ob → List D
  | .lst ds => ds
  | .dct _ kvs => kvs.map (·.2)
  | .ins _ fs => fs.map (·.2)
/-- the store: the objects that are shared and changed (the feed is one) -/
abbrev Store := List Ob
/-- an exception: its class's name, its fields -/
structure Exn where
  cls : Str
  args : List D
inductive Res (α : Type) where
  | ok (a : α) (S : Store)
  | err (x : Exn) (S : Store)
  | bad

/-! ### == -/
mutual
def eqb : D → D → Bool
  | .non, .non => true
  | .bl a, .bl b => a == b
  | .bl a, .int j => (if a then 1 else 0) == j
  | .int i, .bl b => i == (if b then 1 else 0)
  | .int i, .int j => i == j
  | .str x, .str y => x == y
  | .lst xs, .lst ys => eqbs xs ys
  | .tup xs, .tup ys => eqbs xs ys
  | _, _ => false
def eqbs : List D → List D → Bool
  | [], [] => true
  | x :: xs, y :: ys => eqb x y && eqbs xs ys
  | _, _ => false
end
mutual
def toPy : D → PyData
  | .non => .none
  | .bl b => .bool b
  | .int i => .int i
  | .str l => .str ⟨l.toArray⟩
  | .tup ds => .tuple (toPys ds)
  | .lst ds => .list (toPys ds)
  | .ptr _ => .none
  | .scr _ => .none
  | .exn _ _ _ => .none
def toPys : List D → List PyData
  | [] => []
  | d :: ds => toPy d :: toPys ds
end
mutual
/-- no pointer within -/
def pln : D → Bool
  | .tup ds => plns ds
  | .lst ds => plns ds
  | .ptr _ => false
  | .scr _ => false
  | .exn _ _ _ => false
  | _ => true
def plns : List D → Bool
  | [] => true
  | d :: ds => pln d && plns ds
end
mutual
def dep : D → Nat
  | .tup ds => deps ds + 1
  | .lst ds => deps ds + 1
  | _ => 0
def deps : List D → Nat
  | [] => 0
  | d :: ds => max (dep d) (deps ds)
end
/-- can be held against others -/
def okD (d : D) : Bool := pln d && decide (dep d ≤ 60)

theorem beq_str (x y : List Nat) : ((⟨x.toArray⟩ : Str) == ⟨y.toArray⟩) = (x == y) := by
  by_cases h : x = y
  · subst h; simp
  · have h1 : (⟨x.toArray⟩ : Str) ≠ ⟨y.toArray⟩ := fun e => h (by simpa using congrArg (fun z : Str => z.cps.toList) e)
    rw [beq_eq_false_iff_ne.mpr h, beq_eq_false_iff_ne.mpr h1]
mutual
theorem eqv_toPy : ∀ d e : D, pln d = true → pln e = true → PyData.eqv (toPy d) (toPy e) = eqb d e
  | .tup xs, .tup ys, h, h' => by simp only [toPy, PyData.eqv, eqb]; exact eqvs_toPys xs ys (by simpa [pln] using h) (by simpa [pln] using h')
  | .lst xs, .lst ys, h, h' => by simp only [toPy, PyData.eqv, eqb]; exact eqvs_toPys xs ys (by simpa [pln] using h) (by simpa [pln] using h')
  | .str x, .str y, _, _ => by simp only [toPy, PyData.eqv, eqb]; exact beq_str x y
  | .non, e, _, h' => by cases e <;> first | rfl | (simp [pln] at h')
  | .bl b, e, _, h' => by cases e <;> first | rfl | (simp [pln] at h')
  | .int b, e, _, h' => by cases e <;> first | rfl | (simp [pln] at h')
  | .str b, .non, _, _ => rfl
  | .str b, .bl _, _, _ => rfl
  | .str b, .int _, _, _ => rfl
  | .str b, .tup _, _, _ => rfl
  | .str b, .lst _, _, _ => rfl
  | .tup b, .non, _, _ => rfl
  | .tup b, .bl _, _, _ => rfl
  | .tup b, .int _, _, _ => rfl
  | .tup b, .str _, _, _ => rfl
  | .tup b, .lst _, _, _ => rfl
  | .lst b, .non, _, _ => rfl
  | .lst b, .bl _, _, _ => rfl
  | .lst b, .int _, _, _ => rfl
  | .lst b, .str _, _, _ => rfl
  | .lst b, .tup _, _, _ => rfl
  | .ptr _, _, h, _ => by simp [pln] at h
  | .str _, .ptr _, _, h => by simp [pln] at h
  | .tup _, .ptr _, _, h => by simp [pln] at h
  | .lst _, .ptr _, _, h => by simp [pln] at h
  | .scr _, _, h, _ => by simp [pln] at h
  | .str _, .scr _, _, h => by simp [pln] at h
  | .tup _, .scr _, _, h => by simp [pln] at h
  | .lst _, .scr _, _, h => by simp [pln] at h
  | .exn _ _ _, _, h, _ => by simp [pln] at h
  | .str _, .exn _ _ _, _, h => by simp [pln] at h
  | .tup _, .exn _ _ _, _, h => by simp [pln] at h
  | .lst _, .exn _ _ _, _, h => by simp [pln] at h
theorem eqvs_toPys : ∀ d e : List D, plns d = true → plns e = true → PyData.eqvAll (toPys d) (toPys e) = eqbs d e
  | [], [], _, _ => rfl
  | [], _ :: _, _, _ => rfl
  | _ :: _, [], _, _ => rfl
  | x :: xs, y :: ys, h, h' => by
    simp only [plns, Bool.and_eq_true] at h h'
    simp only [toPys, PyData.eqvAll, eqbs]
    rw [eqv_toPy x y h.1 h'.1, eqvs_toPys xs ys h.2 h'.2]
end
mutual
theorem dep_toPy : ∀ d : D, (toPy d).depth = dep d
  | .non => rfl
  | .bl _ => rfl
  | .int _ => rfl
  | .str _ => rfl
  | .ptr _ => rfl
  | .scr _ => rfl
  | .exn _ _ _ => rfl
  | .tup ds => by simp only [toPy, PyData.depth, dep]; rw [deps_toPys ds]
  | .lst ds => by simp only [toPy, PyData.depth, dep]; rw [deps_toPys ds]
theorem deps_toPys : ∀ ds : List D, PyData.depthAll (toPys ds) = deps ds
  | [] => rfl
  | d :: ds => by simp only [toPys, PyData.depthAll, deps, dep_toPy d, deps_toPys ds]
end
theorem okD_pln {d : D} (h : okD d = true) : pln d = true := by
  simp only [okD, Bool.and_eq_true] at h
  exact h.1

/-! ### data in the heap -/
/-- signs of a text: ASCII alone here -/
def Asc (l : List Nat) : Prop := ∀ c, c ∈ l → c < 128
def ascB (l : List Nat) : Bool := l.all fun c => decide (c < 128)
theorem asc_of {l : List Nat} (h : ascB l = true) : Asc l := fun c hc => of_decide_eq_true (List.all_eq_true.mp h c hc)
theorem asc_strOk {l : List Nat} (h : Asc l) : PyData.strOk ⟨l.toArray⟩ = true := by
  simp only [PyData.strOk, List.all_toArray, List.all_eq_true, decide_eq_true_eq]
  intro c hc
  have := h c hc
  omega
/-- the list that nothing changes -/
def SqF (K : PySem.W.Frag) (H : Hp) (a : Addr) (xs : List V) : Prop := (∃ o, H a = some (.frz o (.lst xs))) ∨ SqL K (fun _ => none) a xs
theorem SqF.sq {K : PySem.W.Frag} {H : Hp} {a : Addr} {xs : List V} (h : SqF K H a xs) : SqL K H a xs := by
  rcases h with ⟨o, h⟩ | h
  · exact .inl (.inr ⟨o, h⟩)
  · rcases h with (h | ⟨o, h⟩) | h
    · cases h
    · cases h
    · exact .inr h
/-- the object at a is an error of the class named c, its dict dd -/
def XPhi (K : PySem.W.Frag) (c : Str) (dd : Option Addr) (a : Addr) : Heap → Prop := fun h => ∃ oe, h.get? a = some oe ∧ Zc (.ref (He.ga K c)) dd oe ∧ ∃ vs, oe.data = .fields vs
section
variable (K : PySem.W.Frag) (μ : List Addr) (W : Addr → Prop) (H : Hp)
mutual
/-- v is d in H; its lists stand outside of W and of the store μ -/
inductive Rp : D → V → Prop
  | non : Rp .non .non
  | bl (b : Bool) : Rp (.bl b) (.bl b)
  | int (i : Int) : Rp (.int i) (.int i)
  | str {l : List Nat} : Asc l → Rp (.str l) (.str ⟨l.toArray⟩)
  | tup {a : Addr} {vs : List V} {ds : List D} : H a = some (.tup vs) → Rps ds vs → Rp (.tup ds) (.ref a)
  | lst {a : Addr} {vs : List V} {ds : List D} : H a = some (.lst vs) → ¬ W a → a ∉ μ → Rps ds vs → Rp (.lst ds) (.ref a)
  | ptr {a : Addr} {n : Nat} : μ[n]? = some a → Rp (.ptr n) (.ref a)
  | scr {a : Addr} {ns : List Int} : SqF K H a (ns.map V.int) → Rp (.scr ns) (.ref a)
  | exn {a : Addr} {c : Str} {dd : Option Addr} {fs : List Str} {ds : List D} {vs : List V} : H a = some (.ext (XPhi K c dd a)) → ¬ W a → a ∉ μ → ((fs = [] ∧ dd = none) ∨ ∃ d, dd = some d ∧ H d = some (.xd (fs.zip vs).reverse) ∧ d ∉ μ) → Rps ds vs → Rp (.exn c fs ds) (.ref a)
inductive Rps : List D → List V → Prop
  | nil : Rps [] []
  | cons {d : D} {v : V} {ds : List D} {vs : List V} : Rp d v → Rps ds vs → Rps (d :: ds) (v :: vs)
end
end
/-- what stays whatever happens -/
def Im : HO → Prop
  | .tup _ => True
  | .frz _ _ => True
  | _ => False
/-- .. but a locked dict -/
def Imd : HO → Prop
  | .tup _ => True
  | .frz _ (.dK _) => False
  | .frz _ (.dT _) => False
  | .frz _ _ => True
  | _ => False
/-- all that is tracked but the store's objects stays -/
def Ext (μ : List Addr) (H H' : Hp) : Prop := ∀ b o, H b = some o → (b ∉ μ ∨ Im o) → H' b = some o
/-- the store's objects: those that were, and new ones -/
def Gr (μ : List Addr) (H : Hp) (μ' : List Addr) : Prop := (∃ more, μ' = μ ++ more) ∧ ∀ b, b ∈ μ' → b ∉ μ → H b = none

theorem Ext.refl {μ : List Addr} {H : Hp} : Ext μ H H := fun _ _ h _ => h
theorem Gr.refl {μ : List Addr} {H : Hp} : Gr μ H μ := ⟨⟨[], by simp⟩, fun b h h' => absurd h h'⟩
theorem Gr.sub {μ μ' : List Addr} {H : Hp} (g : Gr μ H μ') : ∀ b, b ∈ μ → b ∈ μ' := fun b h => by
  obtain ⟨⟨m, rfl⟩, _⟩ := g
  exact List.mem_append_left _ h
theorem Ext.trans {μ μ' : List Addr} {H H1 H2 : Hp} (a : Ext μ H H1) (g : Gr μ H μ') (b : Ext μ' H1 H2) : Ext μ H H2 := fun c o h q => by
  have h1 := a c o h q
  refine b c o h1 ?_
  rcases q with q | q
  · by_cases hc : c ∈ μ'
    · have := g.2 c hc q
      rw [h] at this; cases this
    · exact .inl hc
  · exact .inr q
theorem Ext.free {μ : List Addr} {H H' : Hp} (a : Ext μ H H') {b : Addr} (hb : b ∉ μ) (h : H' b = none) : H b = none := by
  cases q : H b with
  | none => rfl
  | some o => rw [a b o q (.inl hb)] at h; cases h
theorem Gr.trans {μ μ' μ'' : List Addr} {H H1 : Hp} (g : Gr μ H μ') (a : Ext μ H H1) (g' : Gr μ' H1 μ'') : Gr μ H μ'' := by
  obtain ⟨⟨m, rfl⟩, h1⟩ := g
  obtain ⟨⟨m', rfl⟩, h2⟩ := g'
  refine ⟨⟨m ++ m', by simp⟩, fun b hb hn => ?_⟩
  by_cases hc : b ∈ μ ++ m
  · exact h1 b hc hn
  · exact a.free hn (h2 b hb hc)
theorem Ext.of_same {μ : List Addr} {H H' : Hp} (h : Same H H') : Ext μ H H' := fun b o e _ => h b o e
theorem same_new {H : Hp} {p : Addr} {o : HO} (h : H p = none) : Same H (upd H p o) := fun b x e => by
  rw [upd_ne (ne_of_none e h)]
  exact e
theorem Ext.new {μ : List Addr} {H : Hp} {p : Addr} {o : HO} (h : H p = none) : Ext μ H (upd H p o) := .of_same (same_new h)

section
variable {K : PySem.W.Frag} {μ μ' : List Addr} {W W' : Addr → Prop} {H H' : Hp}
theorem SqT.ext {a : Addr} {vs : List V} (h : SqT K H a vs) (x : Ext μ H H') : SqT K H' a vs := by
  rcases h with (h | ⟨o, h⟩) | h
  · exact .inl (.inl (x _ _ h (.inr trivial)))
  · exact .inl (.inr ⟨o, x _ _ h (.inr trivial)⟩)
  · exact .inr h
theorem Rd.ext {a : Addr} {u : HO} (h : Rd H a u) (x : Ext μ H H') (ha : a ∉ μ) : Rd H' a u := by
  rcases h with h | ⟨o, h⟩
  · exact .inl (x _ _ h (.inl ha))
  · exact .inr ⟨o, x _ _ h (.inl ha)⟩
theorem rd_there {a : Addr} {u : HO} (h : Rd H a u) : H a ≠ none := by
  rcases h with h | ⟨o, h⟩ <;> (rw [h]; intro z; cases z)
mutual
theorem Rp.ext (x : Ext μ H H') (g : Gr μ H μ') (w : ∀ b, H b ≠ none → W' b → W b) : ∀ {d : D} {v : V}, Rp K μ W H d v → Rp K μ' W' H' d v
  | _, _, .non => .non
  | _, _, .bl b => .bl b
  | _, _, .int b => .int b
  | _, _, .str b => .str b
  | _, _, .tup h r => .tup (x _ _ h (.inr trivial)) (Rps.ext x g w r)
  | _, _, .lst h nw nm r => .lst (x _ _ h (.inl nm)) (fun z => nw (w _ (rd_there (.inl h)) z)) (fun z => rd_there (.inl h) (g.2 _ z nm)) (Rps.ext x g w r)
  | _, _, .scr h => .scr (h.imp (fun ⟨o, h⟩ => ⟨o, x _ _ h (.inr trivial)⟩) id)
  | _, _, .exn h nw nm hd r => .exn (x _ _ h (.inl nm)) (fun z => nw (w _ (rd_there (.inl h)) z)) (fun z => rd_there (.inl h) (g.2 _ z nm)) (hd.imp id fun ⟨d, e, h, nm⟩ => ⟨d, e, x _ _ h (.inl nm), fun z => rd_there (.inl h) (g.2 _ z nm)⟩) (Rps.ext x g w r)
  | _, _, .ptr h => .ptr (by
      obtain ⟨⟨m, rfl⟩, _⟩ := g
      rw [List.getElem?_append_left (List.getElem?_eq_some_iff.mp h).1]
      exact h)
theorem Rps.ext (x : Ext μ H H') (g : Gr μ H μ') (w : ∀ b, H b ≠ none → W' b → W b) : ∀ {ds : List D} {vs : List V}, Rps K μ W H ds vs → Rps K μ' W' H' ds vs
  | _, _, .nil => .nil
  | _, _, .cons h r => .cons (Rp.ext x g w h) (Rps.ext x g w r)
end
theorem Rp.ext' {d : D} {v : V} (h : Rp K μ W H d v) (x : Ext μ H H') (g : Gr μ H μ') : Rp K μ' W H' d v := Rp.ext x g (fun _ _ z => z) h
theorem Rps.ext' {d : List D} {v : List V} (h : Rps K μ W H d v) (x : Ext μ H H') (g : Gr μ H μ') : Rps K μ' W H' d v := Rps.ext x g (fun _ _ z => z) h
theorem Rps.length : ∀ {ds : List D} {vs : List V}, Rps K μ W H ds vs → ds.length = vs.length
  | _, _, .nil => rfl
  | _, _, .cons _ r => congrArg (· + 1) r.length
theorem Rps.get : ∀ {ds : List D} {vs : List V} {i : Nat} {d : D}, Rps K μ W H ds vs → ds[i]? = some d → ∃ v, vs[i]? = some v ∧ Rp K μ W H d v
  | _, _, _, _, .nil, e => by simp at e
  | _, _, 0, _, .cons h _, e => by simp at e; subst e; exact ⟨_, rfl, h⟩
  | _, _, i + 1, d, .cons _ r, e => by
    obtain ⟨v, h1, h2⟩ := Rps.get (i := i) (d := d) r (by simpa using e)
    exact ⟨v, by simpa using h1, h2⟩
theorem Rps.getV : ∀ {ds : List D} {vs : List V} {i : Nat} {v : V}, Rps K μ W H ds vs → vs[i]? = some v → ∃ d, ds[i]? = some d ∧ Rp K μ W H d v
  | _, _, _, _, .nil, e => by simp at e
  | _, _, 0, _, .cons h _, e => by simp at e; subst e; exact ⟨_, rfl, h⟩
  | _, _, i + 1, v, .cons _ r, e => by
    obtain ⟨d, h1, h2⟩ := Rps.getV (i := i) (v := v) r (by simpa using e)
    exact ⟨d, by simpa using h1, h2⟩
theorem Rps.append : ∀ {ds es : List D} {vs us : List V}, Rps K μ W H ds vs → Rps K μ W H es us → Rps K μ W H (ds ++ es) (vs ++ us)
  | _, _, _, _, .nil, s => s
  | _, _, _, _, .cons h r, s => .cons h (Rps.append r s)
theorem Rps.drop : ∀ {ds : List D} {vs : List V} (n : Nat), Rps K μ W H ds vs → Rps K μ W H (ds.drop n) (vs.drop n)
  | _, _, 0, r => r
  | _, _, _ + 1, .nil => .nil
  | _, _, n + 1, .cons _ r => Rps.drop n r
theorem Rps.take : ∀ {ds : List D} {vs : List V} (n : Nat), Rps K μ W H ds vs → Rps K μ W H (ds.take n) (vs.take n)
  | _, _, 0, _ => .nil
  | _, _, _ + 1, .nil => .nil
  | _, _, n + 1, .cons h r => .cons h (Rps.take n r)
theorem Rps.set : ∀ {ds : List D} {vs : List V} {d : D} {v : V} (i : Nat), Rps K μ W H ds vs → Rp K μ W H d v → Rps K μ W H (ds.set i d) (vs.set i v)
  | _, _, _, _, _, .nil, _ => .nil
  | _, _, _, _, 0, .cons _ r, h => .cons h r
  | _, _, _, _, i + 1, .cons q r, h => .cons q (Rps.set i r h)
theorem Rps.reverse : ∀ {ds : List D} {vs : List V}, Rps K μ W H ds vs → Rps K μ W H ds.reverse vs.reverse
  | _, _, .nil => .nil
  | _, _, .cons h r => by
    rw [List.reverse_cons, List.reverse_cons]
    exact (Rps.reverse r).append (.cons h .nil)
mutual
theorem Rp.dp : ∀ {d : D} {v : V}, Rp K μ W H d v → pln d = true → Dp K H v (toPy d)
  | _, _, .non, _ => by simp only [toPy]; exact .non
  | _, _, .bl b, _ => by simp only [toPy]; exact .bl b
  | _, _, .int b, _ => by simp only [toPy]; exact .int b
  | _, _, .str b, _ => by simp only [toPy]; exact .str _
  | _, _, .tup h r, p => by simp only [toPy]; exact .tup (.inl (.inl h)) (Rps.dp r (by simpa [pln] using p))
  | _, _, .lst h _ _ r, p => by simp only [toPy]; exact .lst (.inl (.inl h)) (Rps.dp r (by simpa [pln] using p))
  | _, _, .ptr _, p => by simp [pln] at p
  | _, _, .scr _, p => by simp [pln] at p
  | _, _, .exn _ _ _ _ _, p => by simp [pln] at p
theorem Rps.dp : ∀ {ds : List D} {vs : List V}, Rps K μ W H ds vs → plns ds = true → DpAll K H vs (toPys ds)
  | _, _, .nil, _ => by simp only [toPys]; exact .nil
  | _, _, .cons h r, p => by
    simp only [plns, Bool.and_eq_true] at p
    simp only [toPys]
    exact .cons (Rp.dp h p.1) (Rps.dp r p.2)
end
mutual
theorem Rp.lay : ∀ {d : D} {v : V}, Rp K μ W H d v → (toPy d).canLay0 = true
  | _, _, .non => by simp [toPy, PyData.canLay0]
  | _, _, .bl _ => by simp [toPy, PyData.canLay0]
  | _, _, .int _ => by simp [toPy, PyData.canLay0]
  | _, _, .ptr _ => by simp [toPy, PyData.canLay0]
  | _, _, .scr _ => by simp [toPy, PyData.canLay0]
  | _, _, .exn _ _ _ _ _ => by simp [toPy, PyData.canLay0]
  | _, _, .str h => by simp only [toPy, PyData.canLay0]; exact asc_strOk h
  | _, _, .tup _ r => by simp only [toPy, PyData.canLay0]; exact Rps.lay r
  | _, _, .lst _ _ _ r => by simp only [toPy, PyData.canLay0]; exact Rps.lay r
theorem Rps.lay : ∀ {ds : List D} {vs : List V}, Rps K μ W H ds vs → PyData.canLayAll0 (toPys ds) = true
  | _, _, .nil => by simp [toPys, PyData.canLayAll0]
  | _, _, .cons h r => by simp only [toPys, PyData.canLayAll0, Rp.lay h, Rps.lay r, Bool.and_self]
end
theorem Rp.shaped {d : D} {v : V} (r : Rp K μ W H d v) (h : okD d = true) : SeqAt.shaped (toPy d) = true := by
  simp only [okD, Bool.and_eq_true, decide_eq_true_eq] at h
  simp only [SeqAt.shaped, r.lay, dep_toPy, Bool.true_and, decide_eq_true_eq]
  omega
end
/-- a key of a dict -/
def kOf : D → Option Key
  | .int i => some (.inl i)
  | .str l => some (.inr ⟨l.toArray⟩)
  | _ => none
def ksOf : List D → Option (List Key)
  | [] => some []
  | d :: ds => match kOf d, ksOf ds with
    | some k, some ks => some (k :: ks)
    | _, _ => none
/-- .. that is a tuple -/
def tOf : D → Option (List Key)
  | .tup ds => ksOf ds
  | _ => none
/-- its texts are plain -/
def KAsc : D → Prop
  | .str l => Asc l
  | .tup ds => ∀ l, D.str l ∈ ds → Asc l
  | _ => True
/-- the keys as the heap has them -/
inductive Keys {α : Type} (f : D → Option α) : List D → List α → Prop
  | nil : Keys f [] []
  | cons {d : D} {k : α} {ds : List D} {ks : List α} : f d = some k → KAsc d → Keys f ds ks → Keys f (d :: ds) (k :: ks)
/-- the object's shape in the heap -/
def ObSh (K : PySem.W.Frag) (μ : List Addr) (H : Hp) (a : Addr) : Ob → List V → HO → Prop
  | .lst _, vs, o => o = .lst vs
  | .dct 0 kvs, vs, o => ∃ ks, Keys kOf (kvs.map (·.1)) ks ∧ o = .dK (ks.zip vs)
  | .dct 1 kvs, vs, o => ∃ ks, Keys tOf (kvs.map (·.1)) ks ∧ o = .dT (ks.zip vs)
  | .dct 2 kvs, vs, o => ∃ ks od, Keys kOf (kvs.map (·.1)) ks ∧ o = .frz od (.dK (ks.zip vs))
  | .dct 3 kvs, vs, o => ∃ ks od, Keys tOf (kvs.map (·.1)) ks ∧ o = .frz od (.dT (ks.zip vs))
  | .dct _ _, _, _ => False
  | .ins c fs, vs, o => ∃ dx, o = .ins (He.ga K c) dx ((fs.map (·.1)).zip vs) ∧ H dx = some (.own a) ∧ dx ∉ μ
def ObAt (K : PySem.W.Frag) (μ : List Addr) (W : Addr → Prop) (H : Hp) (a : Addr) (ob : Ob) : Prop := ∃ o vs, H a = some o ∧ ObSh K μ H a ob vs o ∧ Rps K μ W H ob.vals vs
/-- not locked -/
def Ob.unl : Ob → Bool
  | .dct k _ => decide (k < 2)
  | _ => true
theorem ObSh.im {K : PySem.W.Frag} {μ : List Addr} {H : Hp} {a : Addr} {ob : Ob} {vs : List V} {o : HO} (h : ObSh K μ H a ob vs o) (hu : ob.unl = true) : ¬ Im o := by
  unfold ObSh at h
  split at h
  · cases h; exact id
  · obtain ⟨_, _, rfl⟩ := h; exact id
  · obtain ⟨_, _, rfl⟩ := h; exact id
  · cases hu
  · cases hu
  · exact h.elim
  · obtain ⟨dx, rfl, _⟩ := h; exact id
theorem ObSh.keep {K : PySem.W.Frag} {μ μ' : List Addr} {H H' : Hp} {a : Addr} {ob : Ob} {vs : List V} {o : HO} (h : ObSh K μ H a ob vs o) (k : ∀ dx, H dx = some (.own a) → dx ∉ μ → H' dx = some (.own a) ∧ dx ∉ μ') : ObSh K μ' H' a ob vs o := by
  unfold ObSh at h ⊢
  split at h
  · exact h
  · exact h
  · exact h
  · exact h
  · exact h
  · exact h.elim
  · obtain ⟨dx, e, h1, h2⟩ := h
    exact ⟨dx, e, k dx h1 h2⟩
/-- the store's objects stand -/
structure SOk (K : PySem.W.Frag) (μ : List Addr) (W : Addr → Prop) (H : Hp) (S : Store) : Prop where
  len : μ.length = S.length
  nd : μ.Nodup
  nw : ∀ b, b ∈ μ → ¬ W b
  at_ : ∀ (n : Nat) (a : Addr) (ob : Ob), μ[n]? = some a → S[n]? = some ob → ObAt K μ W H a ob
theorem SOk.keep {K : PySem.W.Frag} {μ : List Addr} {W W' : Addr → Prop} {H H' : Hp} {S : Store} (s : SOk K μ W H S) (k : ∀ b o, H b = some o → b ∈ μ → H' b = some o) (x : Ext μ H H') (w : ∀ b, H b ≠ none → W' b → W b) : SOk K μ W' H' S :=
  ⟨s.len, s.nd, fun b h z => by
    obtain ⟨n, hn⟩ := List.mem_iff_getElem?.mp h
    have hl : n < S.length := by rw [← s.len]; exact (List.getElem?_eq_some_iff.mp hn).1
    obtain ⟨o, vs, e, _⟩ := s.at_ n b _ hn (List.getElem?_eq_getElem hl)
    exact s.nw b h (w b (by rw [e]; intro q; cases q) z), fun n a ob h1 h2 => by
    obtain ⟨o, vs, e, sh, r⟩ := s.at_ n a ob h1 h2
    exact ⟨o, vs, k a _ e (List.mem_of_getElem? h1), sh.keep fun dx e n => ⟨x dx _ e (.inl n), n⟩, Rps.ext x .refl w r⟩⟩
theorem SOk.same {K : PySem.W.Frag} {μ : List Addr} {W : Addr → Prop} {H H' : Hp} {S : Store} (s : SOk K μ W H S) (k : Same H H') : SOk K μ W H' S :=
  s.keep (fun b o h _ => k b o h) (.of_same k) (fun _ _ z => z)
section
variable {K : PySem.W.Frag} {μ : List Addr} {S : Store} {H : Hp}
theorem Rp.less {W W' : Addr → Prop} {d : D} {v : V} (h : Rp K μ W H d v) (w : ∀ b, W' b → W b) : Rp K μ W' H d v := Rp.ext .refl .refl (fun b _ z => w b z) h
theorem Rps.less {W W' : Addr → Prop} {d : List D} {v : List V} (h : Rps K μ W H d v) (w : ∀ b, W' b → W b) : Rps K μ W' H d v := Rps.ext .refl .refl (fun b _ z => w b z) h
theorem SOk.less {W W' : Addr → Prop} (h : SOk K μ W H S) (w : ∀ b, W' b → W b) : SOk K μ W' H S := h.keep (fun _ _ h _ => h) .refl (fun b _ z => w b z)
end
/-- one slot -/
def SlotOk (K : PySem.W.Frag) (μ : List Addr) (W : Addr → Prop) (H : Hp) (x : Option (Option V)) : Cell → Prop
  | .u => True
  | .sh d => ∃ v, x = some (some v) ∧ Rp K μ W H d v
/-- what a body keeps in sight: the addresses that nothing holds (lists that are being made), the store and the heap at its entry, data that stays -/
structure Fx where
  W : Addr → Prop
  μ0 : List Addr
  H0 : Hp
  pn : List (D × V)
/-- the state of a body -/
structure Bd (K : PySem.W.Frag) (F : Fx) (μ : List Addr) (S : Store) (σ : L2.St) (ρ : List Cell) (H : Hp) : Prop where
  dom : ∀ b, F.W b → H b ≠ none
  st : SOk K μ F.W H S
  len : σ.length = ρ.length
  ext : Ext F.μ0 F.H0 H
  gr : Gr F.μ0 F.H0 μ
  pin : ∀ p, p ∈ F.pn → Rp K μ F.W H p.1 p.2
  slot : ∀ (i : Nat) (c : Cell), ρ[i]? = some c → SlotOk K μ F.W H σ[i]? c
section
variable {K : PySem.W.Frag} {F : Fx} {μ μ' : List Addr} {S S' : Store} {σ : L2.St} {ρ : List Cell} {H H' : Hp}
theorem SOk.there {W : Addr → Prop} (s : SOk K μ W H S) : ∀ b, b ∈ μ → ∃ o, H b = some o ∧ True := fun b h => by
  obtain ⟨n, hn⟩ := List.mem_iff_getElem?.mp h
  have hl : n < S.length := by rw [← s.len]; exact (List.getElem?_eq_some_iff.mp hn).1
  obtain ⟨o, vs, e, sh, _⟩ := s.at_ n b _ hn (List.getElem?_eq_getElem hl)
  exact ⟨o, e, trivial⟩
/-- an expression was evaluated -/
theorem Bd.step (b : Bd K F μ S σ ρ H) (x : Ext μ H H') (g : Gr μ H μ') (s : SOk K μ' F.W H' S') : Bd K F μ' S' σ ρ H' where
  dom := fun a h => by
    have h1 := b.dom a h
    have : a ∉ μ := fun z => b.st.nw a z h
    cases e : H a with
    | none => exact absurd e h1
    | some o => rw [x a o e (.inl this)]; intro z; cases z
  st := s
  len := b.len
  ext := b.ext.trans b.gr x
  gr := b.gr.trans b.ext g
  pin := fun p hp => (b.pin p hp).ext' x g
  slot := fun i c h => by
    have q := b.slot i c h
    cases c with
    | u => trivial
    | sh d =>
      obtain ⟨v, h1, h2⟩ := q
      exact ⟨v, h1, h2.ext' x g⟩
theorem Bd.same (b : Bd K F μ S σ ρ H) (k : Same H H') : Bd K F μ S σ ρ H' := b.step (.of_same k) .refl (b.st.same k)
end
end RH

set_option Elab.async false
set_option linter.all false
set_option maxRecDepth 100000
/-! RHOps: the operators and built-ins over D, each held against the layer's rule. -/
namespace RH
open PySem PySem.Spec PyProof.Rows L2

def Dm (μ : List Addr) (W : Addr → Prop) (H : Hp) : Prop := (∀ b, W b → H b ≠ none) ∧ ∀ b, b ∈ μ → H b ≠ none
/-- a value that is read only: its topmost list may be an owned one -/
def Rw (K : PySem.W.Frag) (μ : List Addr) (W : Addr → Prop) (H : Hp) (d : D) (v : V) : Prop :=
  Rp K μ W H d v ∨ ∃ a vs ds, d = .lst ds ∧ v = .ref a ∧ H a = some (.lst vs) ∧ Rps K μ W H ds vs
/-- a list that nothing else holds -/
def Fsh (K : PySem.W.Frag) (μ : List Addr) (W : Addr → Prop) (H0 H : Hp) (d : D) (v : V) : Prop :=
  ∀ ds, d = .lst ds → ∃ a vs, v = .ref a ∧ H0 a = none ∧ H a = some (.lst vs) ∧ a ∉ μ ∧ Rps K μ (fun b => W b ∨ b = a) H ds vs
/-- what follows takes the value d, whatever it stands at -/
def Po (K : PySem.W.Frag) (μ : List Addr) (W : Addr → Prop) (H : Hp) (d : D) (Q : VK) : Prop :=
  ∀ v H', Same H H' → Rp K μ W H' d v → Fsh K μ W H H' d v → Q v H'
section
variable {K : PySem.W.Frag} {μ : List Addr} {W : Addr → Prop} {H : Hp} {d : D} {v : V} {Q : VK}
theorem Rp.w (h : Rp K μ W H d v) : Rw K μ W H d v := .inl h
theorem Fsh.triv {H0 : Hp} (nl : ∀ ds, d ≠ .lst ds) : Fsh K μ W H0 H d v := fun ds e => absurd e (nl ds)
theorem Po.val (h : Po K μ W H d Q) (r : Rp K μ W H d v) (nl : ∀ ds, d ≠ .lst ds := by intro _ z; cases z) : Q v H := h v H (Same.refl H) r (.triv nl)
theorem Po.newL {ds : List D} {vs : List V} (h : Po K μ W H (.lst ds) Q) (dm : Dm μ W H) (r : Rps K μ W H ds vs) : ∀ p, H p = none → Q (.ref p) (upd H p (.lst vs)) := fun p hp => by
  have x : Ext μ H (upd H p (.lst vs)) := Ext.new hp
  have nm : p ∉ μ := fun z => dm.2 p z hp
  refine h _ _ (same_new hp) (.lst upd_same (fun z => dm.1 p z hp) nm (r.ext' x .refl)) fun ds' e => ?_
  cases e
  exact ⟨p, vs, rfl, hp, upd_same, nm, Rps.ext x .refl (fun b hb z => by
    rcases z with z | z
    · exact z
    · subst z; exact absurd hp hb) r⟩
theorem Po.newT {ds : List D} {vs : List V} (h : Po K μ W H (.tup ds) Q) (r : Rps K μ W H ds vs) : ∀ p, H p = none → Q (.ref p) (upd H p (.tup vs)) := fun p hp =>
  h _ _ (same_new hp) (.tup upd_same (r.ext' (Ext.new hp) .refl)) (.triv (by intro _ z; cases z))
theorem Rw.int {i : Int} (h : Rw K μ W H (.int i) v) : v = .int i := by
  rcases h with h | ⟨_, _, _, e, _⟩
  · cases h; rfl
  · cases e
theorem Rw.bl {i : Bool} (h : Rw K μ W H (.bl i) v) : v = .bl i := by
  rcases h with h | ⟨_, _, _, e, _⟩
  · cases h; rfl
  · cases e
theorem Rw.non (h : Rw K μ W H .non v) : v = .non := by
  rcases h with h | ⟨_, _, _, e, _⟩
  · cases h; rfl
  · cases e
theorem Rw.str {l : List Nat} (h : Rw K μ W H (.str l) v) : v = .str ⟨l.toArray⟩ ∧ Asc l := by
  rcases h with h | ⟨_, _, _, e, _⟩
  · cases h with | str a => exact ⟨rfl, a⟩
  · cases e
theorem Rw.tupH {ds : List D} (h : Rw K μ W H (.tup ds) v) : ∃ a vs, v = .ref a ∧ H a = some (.tup vs) ∧ Rps K μ W H ds vs := by
  rcases h with h | ⟨_, _, _, e, _⟩
  · cases h with | tup a r => exact ⟨_, _, rfl, a, r⟩
  · cases e
theorem Rw.tup {ds : List D} (h : Rw K μ W H (.tup ds) v) : ∃ a vs, v = .ref a ∧ SqT K H a vs ∧ Rps K μ W H ds vs := by
  obtain ⟨a, vs, h1, h2, h3⟩ := h.tupH
  exact ⟨a, vs, h1, .inl (.inl h2), h3⟩
theorem Rw.lst {ds : List D} (h : Rw K μ W H (.lst ds) v) : ∃ a vs, v = .ref a ∧ H a = some (.lst vs) ∧ Rps K μ W H ds vs := by
  rcases h with h | ⟨a, vs, _, e, h1, h2, h3⟩
  · cases h with | lst a _ _ r => exact ⟨_, _, rfl, a, r⟩
  · cases e; exact ⟨a, vs, h1, h2, h3⟩
theorem Rw.scr {ns : List Int} (h : Rw K μ W H (.scr ns) v) : ∃ a, v = .ref a ∧ SqL K H a (ns.map V.int) := by
  rcases h with h | ⟨_, _, _, e, _⟩
  · cases h with | scr a => exact ⟨_, rfl, a.sq⟩
  · cases e
theorem Rw.ptr {n : Nat} (h : Rw K μ W H (.ptr n) v) : ∃ a, v = .ref a ∧ μ[n]? = some a := by
  rcases h with h | ⟨_, _, _, e, _⟩
  · cases h with | ptr a => exact ⟨_, rfl, a⟩
  · cases e
theorem Rw.dp (h : Rw K μ W H d v) (p : pln d = true) : Dp K H v (toPy d) := by
  rcases h with h | ⟨a, vs, ds, rfl, rfl, h2, h3⟩
  · exact h.dp p
  · simp only [toPy]
    exact .lst (.inl (.inl h2)) (h3.dp (by simpa [pln] using p))
theorem Rw.shaped (h : Rw K μ W H d v) (p : okD d = true) : SeqAt.shaped (toPy d) = true := by
  rcases h with h | ⟨a, vs, ds, rfl, rfl, h2, h3⟩
  · exact h.shaped p
  · simp only [okD, Bool.and_eq_true, decide_eq_true_eq] at p
    have e := dep_toPy (.lst ds)
    have l : (toPy (.lst ds)).canLay0 = true := by simp only [toPy, PyData.canLay0]; exact h3.lay
    simp only [SeqAt.shaped, l, e, Bool.true_and, decide_eq_true_eq]
    omega
theorem Rw.ext {μ' : List Addr} {H' : Hp} (h : Rw K μ W H d v) (x : Ext μ H H') (g : Gr μ H μ') (nm : ∀ a, v = .ref a → ∀ vs, H a = some (.lst vs) → a ∉ μ) : Rw K μ' W H' d v := by
  rcases h with h | ⟨a, vs, ds, rfl, rfl, h2, h3⟩
  · exact .inl (h.ext' x g)
  · exact .inr ⟨a, vs, ds, rfl, rfl, x _ _ h2 (.inl (nm a rfl vs h2)), h3.ext' x g⟩
theorem Asc.append {a b : List Nat} (h : Asc a) (h' : Asc b) : Asc (a ++ b) := fun c hc => by
  rcases List.mem_append.mp hc with z | z
  · exact h c z
  · exact h' c z
theorem Asc.cut {a : List Nat} (h : Asc a) (m n : Nat) : Asc ((a.drop m).take n) := fun c hc => h c (List.mem_of_mem_drop (List.mem_of_mem_take hc))
theorem Asc.one {a : List Nat} (h : Asc a) {c : Nat} (hc : c ∈ a) : Asc [c] := fun x hx => by simp at hx; subst hx; exact h _ hc
theorem str_app (a b : List Nat) : (⟨a.toArray⟩ : Str) ++ ⟨b.toArray⟩ = ⟨(a ++ b).toArray⟩ := by
  show (⟨a.toArray ++ b.toArray⟩ : Str) = _
  simp
theorem str_len (a : List Nat) : (⟨a.toArray⟩ : Str).length = a.length := by simp [Str.length]
end

/-! ### binary operators -/
def addD : D → D → Option D
  | .int a, .int b => some (.int (a + b))
  | .str a, .str b => if a.length + b.length ≤ 16777216 then some (.str (a ++ b)) else none
  | .lst a, .lst b => if a.length + b.length ≤ 16777216 then some (.lst (a ++ b)) else none
  | .tup a, .tup b => if a.length + b.length ≤ 16777216 then some (.tup (a ++ b)) else none
  | _, _ => none
def subD : D → D → Option D
  | .int a, .int b => some (.int (a - b))
  | _, _ => none
/-- a number within 64 bits -/
def w64 (i : Int) : Bool := decide (-(18446744073709551616) < i) && decide (i < 18446744073709551616)
def mulD : D → D → Option D
  | .int a, .int b => if w64 a || w64 b then some (.int (a * b)) else none
  | .str [c], .int b => if -1000000 ≤ b ∧ b ≤ 1000000 then some (.str (List.replicate b.toNat c)) else none
  | .lst ds, .int b => if 0 ≤ b ∧ b ≤ 1000 ∧ ds.length ≤ 1000 then some (.lst (List.replicate b.toNat ds).flatten) else none
  | _, _ => none
def fdivD : D → D → Option D
  | .int a, .int b => if 0 < b ∧ b < 1152921504606846976 then some (.int (a / b)) else none
  | _, _ => none
def modD : D → D → Option D
  | .int a, .int b => if 0 < b then some (.int (a % b)) else none
  | _, _ => none
def powD : D → D → Option D
  | .int a, .int b => if 0 ≤ b ∧ b ≤ 1000000 ∧ a.natAbs < 18446744073709551616 then some (.int (a ^ b.toNat)) else none
  | _, _ => none
inductive Bop where
  | add | sub | mul | fdiv | mod | pow
  deriving DecidableEq
def Bop.op : Bop → Operator
  | .add => .Add | .sub => .Sub | .mul => .Mult | .fdiv => .FloorDiv | .mod => .Mod | .pow => .Pow
def binD : Bop → D → D → Option D
  | .add => addD | .sub => subD | .mul => mulD | .fdiv => fdivD | .mod => modD | .pow => powD
/-- the layer's rule for f does what g says -/
def OpD (X : Cx) (f : Value → Value → Sem Value) (g : D → D → Option D) : Prop := ∃ r, OpR X f r ∧ ∀ (μ : List Addr) (W : Addr → Prop) (H : Hp) (d e z : D) (x y : V) (Q : VK), g d e = some z → Dm μ W H → Rw X.K μ W H d x → Rw X.K μ W H e y → Po X.K μ W H z Q → r x y H Q
section
variable {X : Cx}
theorem add_ok : OpD X (binaryOp .Add) addD := by
  refine ⟨_, op_add.or (op_add_str.or (op_cat.or op_catA)), fun μ W H d e z x y Q g dm rx ry q => ?_⟩
  unfold addD at g
  split at g
  · cases g
    cases rx.int
    cases ry.int
    exact .inl ⟨_, _, rfl, rfl, q.val (.int _)⟩
  · rename_i a b
    split at g
    · cases g
      obtain ⟨rfl, ax⟩ := rx.str
      obtain ⟨rfl, ay⟩ := ry.str
      refine .inr (.inl ⟨_, _, rfl, rfl, ?_, ?_⟩)
      · rw [str_len, str_len, sizeLine_eq]; assumption
      · rw [str_app]; exact q.val (.str (ax.append ay))
    · cases g
  · rename_i a b
    split at g
    · cases g
      obtain ⟨p, vs, rfl, hp, rp⟩ := rx.lst
      obtain ⟨p', vs', rfl, hp', rp'⟩ := ry.lst
      refine .inr (.inr (.inl ⟨p, p', vs, vs', rfl, rfl, hp, hp', ?_, q.newL dm (rp.append rp')⟩))
      rw [← rp.length, ← rp'.length, sizeLine_eq]; assumption
    · cases g
  · rename_i a b
    split at g
    · cases g
      obtain ⟨p, vs, rfl, hp, rp⟩ := rx.tupH
      obtain ⟨p', vs', rfl, hp', rp'⟩ := ry.tupH
      refine .inr (.inr (.inr ⟨p, p', vs, vs', rfl, rfl, .inl (.inl hp), .inl (.inl hp'), ?_, fun e => ?_, fun _ e => ?_, fun _ _ => q.newT (rp.append rp')⟩))
      · rw [← rp.length, ← rp'.length, sizeLine_eq]; assumption
      · subst e
        cases rp
        exact q.val (.tup hp' rp')
      · subst e
        cases rp'
        rw [List.append_nil] at q
        exact q.val (.tup hp rp)
    · cases g
  · cases g
theorem int2_ok {f : Value → Value → Sem Value} {C : Int → Int → Prop} {h : Int → Int → Int} {g : D → D → Option D} (o : OpR X f (rI C fun i j => .int (h i j))) (hg : ∀ d e z, g d e = some z → ∃ i j, d = .int i ∧ e = .int j ∧ C i j ∧ z = .int (h i j)) : OpD X f g := by
  refine ⟨_, o, fun μ W H d e z x y Q ge dm rx ry q => ?_⟩
  obtain ⟨i, j, rfl, rfl, c, rfl⟩ := hg d e z ge
  cases rx.int
  cases ry.int
  exact ⟨i, j, rfl, rfl, c, q.val (.int _)⟩
theorem int2_ok0 {f : Value → Value → Sem Value} {h : Int → Int → Int} {g : D → D → Option D} (o : OpR X f (rI0 fun i j => .int (h i j))) (hg : ∀ d e z, g d e = some z → ∃ i j, d = .int i ∧ e = .int j ∧ z = .int (h i j)) : OpD X f g := by
  refine ⟨_, o, fun μ W H d e z x y Q ge dm rx ry q => ?_⟩
  obtain ⟨i, j, rfl, rfl, rfl⟩ := hg d e z ge
  cases rx.int
  cases ry.int
  exact ⟨i, j, rfl, rfl, q.val (.int _)⟩
theorem w64_ok {i : Int} (h : w64 i = true) : -(2 ^ 64) < i ∧ i < 2 ^ 64 := by
  simp only [w64, Bool.and_eq_true, decide_eq_true_eq] at h
  exact ⟨by omega, by omega⟩
theorem foldl_rep {c : Nat} : ∀ (n : Nat) (a : Array Nat), (List.replicate n (#[c] : Array Nat)).foldl (· ++ ·) a = a ++ (List.replicate n c).toArray
  | 0, a => by simp
  | n + 1, a => by
    rw [List.replicate_succ, List.foldl_cons, foldl_rep n, List.replicate_succ]
    apply Array.ext'
    simp
theorem txt_mul {c : Nat} {n : Int} : Txt.mul ⟨#[c]⟩ n = ⟨(List.replicate n.toNat c).toArray⟩ := by
  unfold Txt.mul
  split
  · rename_i h
    have : n.toNat = 0 := by omega
    rw [this]; rfl
  · split
    · rename_i h h2
      have : n = 1 := by simpa [Str.length] using h2
      subst this; rfl
    · rw [foldl_rep]; simp
theorem op_mul_str : OpR X (binaryOp .Mult) (fun x y H Q => ∃ (c : Nat) (n : Int), x = .str ⟨#[c]⟩ ∧ y = .int n ∧ (-1000000 ≤ n ∧ n ≤ 1000000) ∧ Q (.str ⟨(List.replicate n.toNat c).toArray⟩) H) := by
  intro pins s σ H x y v u Q I rx ry h
  obtain ⟨c, n, rfl, rfl, hz, q⟩ := h
  obtain ⟨t, rfl⟩ := rx
  obtain ⟨t', rfl⟩ := ry
  refine SB.mul ⟨by simp; omega, fun h1 _ => ?_, fun h1 _ => ?_⟩ (fun t' tk => ⟨.str (Txt.mul ⟨#[c]⟩ n), H, I.tok _, ⟨_, rfl⟩, by rw [txt_mul]; exact q⟩)
  · have : (1 : Int) ≤ (2 ^ 63 - 1) / n := Int.le_ediv_of_mul_le (by omega) (by omega)
    show ¬ (((1 : Nat) : Int) > (2 ^ 63 - 1) / n)
    generalize (2 ^ 63 - 1) / n = z at this ⊢
    omega
  · show decide ((⟨#[c]⟩ : Str).length * n.toNat > sizeLine) = false
    rw [decide_eq_false_iff_not, sizeLine_eq]
    simp [Str.length]; omega
theorem Rps.rep {K : PySem.W.Frag} {μ : List Addr} {W : Addr → Prop} {H : Hp} {ds : List D} {vs : List V} (r : Rps K μ W H ds vs) : ∀ n : Nat, Rps K μ W H (List.replicate n ds).flatten (List.replicate n vs).flatten
  | 0 => .nil
  | n + 1 => by
    rw [List.replicate_succ, List.replicate_succ, List.flatten_cons, List.flatten_cons]
    exact r.append (Rps.rep r n)
theorem mul_ok : OpD X (binaryOp .Mult) mulD := by
  refine ⟨_, op_mul.or (op_mul_str.or op_rep), fun μ W H d e z x y Q g dm rx ry q => ?_⟩
  unfold mulD at g
  split at g
  · split at g
    · rename_i h
      cases g
      cases rx.int
      cases ry.int
      refine .inl ⟨_, _, rfl, rfl, ?_, q.val (.int _)⟩
      rcases Bool.or_eq_true _ _ ▸ h with h | h
      · exact .inl (w64_ok h)
      · exact .inr (w64_ok h)
    · cases g
  · split at g
    · rename_i h
      cases g
      obtain ⟨rfl, ha⟩ := rx.str
      cases ry.int
      refine .inr (.inl ⟨_, _, rfl, rfl, h, q.val (.str fun c hc => ?_)⟩)
      rw [List.mem_replicate] at hc
      rw [hc.2]
      exact ha _ (by simp)
    · cases g
  · split at g
    · rename_i h
      cases g
      obtain ⟨p, vs, rfl, hp, rp⟩ := rx.lst
      cases ry.int
      obtain ⟨h0, h1, h2⟩ := h
      refine .inr (.inr ⟨p, _, vs, rfl, rfl, hp, by omega, by omega, ?_, q.newL dm (Rps.rep rp _)⟩)
      rw [← rp.length, sizeLine_eq]
      refine Nat.le_trans (Nat.mul_le_mul h2 (show _ ≤ 1000 by omega)) (by decide)
    · cases g
  · cases g
theorem bin_ok : ∀ b : Bop, OpD X (binaryOp b.op) (binD b)
  | .add => add_ok
  | .sub => int2_ok0 (h := fun i j => i - j) op_sub fun d e z g => by
      simp only [binD] at g
      unfold subD at g; split at g
      · cases g; exact ⟨_, _, rfl, rfl, rfl⟩
      · cases g
  | .mul => mul_ok
  | .fdiv => int2_ok (h := fun i j => i / j) op_fdivW fun d e z g => by
      simp only [binD] at g
      unfold fdivD at g; split at g
      · split at g
        · rename_i h
          cases g
          refine ⟨_, _, rfl, rfl, ⟨h.1, ?_⟩, rfl⟩
          exact Nat.lt_of_lt_of_le (PySem.Flt.log2_lt_of (k := 60) (by omega) (by have := h.1; have := h.2; omega)) (by omega)
        · cases g
      · cases g
  | .mod => int2_ok (h := fun i j => i % j) op_mod fun d e z g => by
      simp only [binD] at g
      unfold modD at g; split at g
      · split at g
        · rename_i h
          cases g
          exact ⟨_, _, rfl, rfl, h, rfl⟩
        · cases g
      · cases g
  | .pow => int2_ok (h := fun i j => i ^ j.toNat) op_pow fun d e z g => by
      simp only [binD] at g
      unfold powD at g; split at g
      · split at g
        · rename_i h
          cases g
          exact ⟨_, _, rfl, rfl, h, rfl⟩
        · cases g
      · cases g
end

/-! ### comparisons -/
inductive Cop where
  | eq | ne | lt | le | gt | ge | inn | nin | is | isn
  deriving DecidableEq
def Cop.op : Cop → CmpOp
  | .eq => .Eq | .ne => .NotEq | .lt => .Lt | .le => .LtE | .gt => .Gt | .ge => .GtE | .inn => .In | .nin => .NotIn | .is => .Is | .isn => .IsNot
def eqD (d e : D) : Option Bool := if okD d && okD e then some (eqb d e) else none
def flatD : D → Bool
  | .non => true | .bl _ => true | .int _ => true | .str _ => true | _ => false
def inD : D → D → Option Bool
  | .str [c], .str z => some (decide (c ∈ z))
  | d, .lst ds => if okD d && okD (.lst ds) then some (ds.any fun z => eqb z d) else none
  | d, .tup ds => if flatD d && ds.all flatD then some (ds.any fun z => eqb z d) else none
  | _, _ => none
def ltI (f : Int → Int → Bool) : D → D → Option Bool
  | .int a, .int b => some (f a b)
  | _, _ => none
def isNon : D → Bool
  | .non => true
  | _ => false
def isD : D → D → Option Bool
  | d, .non => some (isNon d)
  | .bl a, .bl b => some (decide (a = b))
  | _, _ => none
def cmpB : Cop → D → D → Option Bool
  | .eq, d, e => eqD d e
  | .ne, d, e => (eqD d e).map (!·)
  | .lt, d, e => ltI (fun a b => decide (a < b)) d e
  | .le, d, e => ltI (fun a b => decide (a ≤ b)) d e
  | .gt, d, e => ltI (fun a b => decide (b < a)) d e
  | .ge, d, e => ltI (fun a b => decide (b ≤ a)) d e
  | .inn, d, e => inD d e
  | .nin, d, e => (inD d e).map (!·)
  | .is, d, e => isD d e
  | .isn, d, e => (isD d e).map (!·)
def cmpD (c : Cop) (d e : D) : Option D := (cmpB c d e).map .bl
section
variable {X : Cx}
theorem OpD.bool {f : Value → Value → Sem Value} {g : D → D → Option Bool} {r : R2} (o : OpR X f r) (h : ∀ (μ : List Addr) (W : Addr → Prop) (H : Hp) (d e : D) (k : Bool) (x y : V) (Q : VK), g d e = some k → Rw X.K μ W H d x → Rw X.K μ W H e y → Q (.bl k) H → r x y H Q) : OpD X f (fun d e => (g d e).map .bl) := by
  refine ⟨_, o, fun μ W H d e z x y Q ge dm rx ry q => ?_⟩
  cases k : g d e with
  | none => simp only [k] at ge; cases ge
  | some b =>
    simp only [k] at ge
    cases ge
    exact h μ W H d e b x y Q k rx ry (q.val (.bl _))
theorem lt_ok {f : Value → Value → Sem Value} {p : Int → Int → Bool} (o : OpR X f (rI0 fun i j => .bl (p i j))) : OpD X f (fun d e => (ltI p d e).map .bl) :=
  OpD.bool o fun μ W H d e k x y Q ge rx ry q => by
    unfold ltI at ge; split at ge
    · cases ge
      cases rx.int
      cases ry.int
      exact ⟨_, _, rfl, rfl, q⟩
    · cases ge
theorem eq_ok (hu : X.A.units + 64 < cLine) : OpD X (compareOp .Eq) (fun d e => (eqD d e).map .bl) :=
  OpD.bool (op_eqD hu) fun μ W H d e k x y Q ge rx ry q => by
    unfold eqD at ge; split at ge
    · rename_i h
      simp only [Bool.and_eq_true] at h
      cases ge
      refine ⟨_, _, rx.dp (okD_pln h.1), ry.dp (okD_pln h.2), rx.shaped h.1, ry.shaped h.2, ?_⟩
      rw [eqv_toPy _ _ (okD_pln h.1) (okD_pln h.2)]
      exact q
    · cases ge
theorem ne_ok (hu : X.A.units + 64 < cLine) : OpD X (compareOp .NotEq) (fun d e => ((eqD d e).map (!·)).map .bl) :=
  OpD.bool (op_neD hu) fun μ W H d e k x y Q ge rx ry q => by
    unfold eqD at ge; split at ge
    · rename_i h
      simp only [Bool.and_eq_true] at h
      cases ge
      refine ⟨_, _, rx.dp (okD_pln h.1), ry.dp (okD_pln h.2), rx.shaped h.1, ry.shaped h.2, ?_⟩
      rw [eqv_toPy _ _ (okD_pln h.1) (okD_pln h.2)]
      exact q
    · cases ge
theorem any_toPys (d : D) (p : pln d = true) : ∀ ds : List D, plns ds = true → ((toPys ds).any fun z => PyData.eqv z (toPy d)) = ds.any fun z => eqb z d
  | [], _ => rfl
  | z :: zs, h => by
    simp only [plns, Bool.and_eq_true] at h
    simp only [toPys, List.any_cons, eqv_toPy z d h.1 p, any_toPys d p zs h.2]
theorem flat_rp {K : PySem.W.Frag} {μ : List Addr} {W : Addr → Prop} {H : Hp} {d : D} {v : V} (r : Rp K μ W H d v) (h : flatD d = true) : flatV v = true := by
  cases r <;> first | rfl | (simp [flatD] at h)
theorem flat_eq {K : PySem.W.Frag} {μ : List Addr} {W : Addr → Prop} {H : Hp} {d e : D} {v u : V} (r : Rp K μ W H d v) (r' : Rp K μ W H e u) (h : flatD d = true) (h' : flatD e = true) : eqV v u = eqb d e := by
  cases r <;> first | (simp [flatD] at h; done) | (cases r' <;> first | (simp [flatD] at h'; done) | rfl | exact beq_str _ _)
theorem flat_all {K : PySem.W.Frag} {μ : List Addr} {W : Addr → Prop} {H : Hp} : ∀ {ds : List D} {vs : List V}, Rps K μ W H ds vs → ds.all flatD = true → vs.all flatV = true
  | _, _, .nil, _ => rfl
  | _, _, .cons h r, p => by
    simp only [List.all_cons, Bool.and_eq_true] at p ⊢
    exact ⟨flat_rp h p.1, flat_all r p.2⟩
theorem flat_any {K : PySem.W.Frag} {μ : List Addr} {W : Addr → Prop} {H : Hp} {e : D} {u : V} (r' : Rp K μ W H e u) (h' : flatD e = true) : ∀ {ds : List D} {vs : List V}, Rps K μ W H ds vs → ds.all flatD = true → (vs.any fun y => eqV y u) = ds.any fun z => eqb z e
  | _, _, .nil, _ => rfl
  | _, _, .cons h r, p => by
    simp only [List.all_cons, Bool.and_eq_true] at p
    simp only [List.any_cons, flat_eq h r' p.1 h', flat_any r' h' r p.2]
theorem Rw.flat {K : PySem.W.Frag} {μ : List Addr} {W : Addr → Prop} {H : Hp} {d : D} {v : V} (r : Rw K μ W H d v) (h : flatD d = true) : Rp K μ W H d v := by
  rcases r with r | ⟨_, _, _, rfl, _⟩
  · exact r
  · simp [flatD] at h
theorem in_cases {d e : D} {k : Bool} (h : inD d e = some k) : (∃ c z, d = .str [c] ∧ e = .str z ∧ k = decide (c ∈ z)) ∨ (∃ ds, e = .lst ds ∧ okD d = true ∧ okD (.lst ds) = true ∧ k = ds.any fun z => eqb z d) ∨
    (∃ ds, e = .tup ds ∧ flatD d = true ∧ ds.all flatD = true ∧ k = ds.any fun z => eqb z d) := by
  unfold inD at h
  split at h
  · cases h; exact .inl ⟨_, _, rfl, rfl, rfl⟩
  · split at h
    · rename_i q
      simp only [Bool.and_eq_true] at q
      cases h; exact .inr (.inl ⟨_, rfl, q.1, q.2, rfl⟩)
    · cases h
  · split at h
    · rename_i q
      simp only [Bool.and_eq_true] at q
      cases h; exact .inr (.inr ⟨_, rfl, q.1, q.2, rfl⟩)
    · cases h
  · cases h
theorem in_ok (hu : X.A.units + 65 < cLine) : OpD X (compareOp .In) (fun d e => (inD d e).map .bl) :=
  OpD.bool (op_in_sign.or ((op_inD hu).or op_in_seq)) fun μ W H d e k x y Q ge rx ry q => by
    rcases in_cases ge with ⟨c, z, rfl, rfl, rfl⟩ | ⟨ds, rfl, h1, h2, rfl⟩ | ⟨ds, rfl, h1, h2, rfl⟩
    · obtain ⟨rfl, _⟩ := rx.str
      obtain ⟨rfl, _⟩ := ry.str
      exact .inl ⟨c, _, rfl, rfl, q⟩
    · have p := okD_pln h2
      simp only [pln] at p
      refine .inr (.inl ⟨_, toPys ds, rx.dp (okD_pln h1), ?_, rx.shaped h1, ?_, ?_⟩)
      · have := ry.dp (okD_pln h2); simp only [toPy] at this; exact this
      · have := ry.shaped h2; simp only [toPy] at this; exact this
      · rw [any_toPys d (okD_pln h1) ds p]; exact q
    · obtain ⟨a, vs, rfl, hs, r⟩ := ry.tup
      refine .inr (.inr ⟨a, vs, rfl, .inr hs, flat_rp (rx.flat h1) h1, flat_all r h2, ?_⟩)
      show Q (.bl (inV x vs)) H
      rw [inV, flat_any (rx.flat h1) h1 r h2]
      exact q
theorem nin_ok (hu : X.A.units + 65 < cLine) : OpD X (compareOp .NotIn) (fun d e => ((inD d e).map (!·)).map .bl) :=
  OpD.bool (g := fun d e => (inD d e).map (!·)) (op_notIn_sign.or ((op_notInD hu).or op_notIn_seq)) fun μ W H d e k x y Q ge rx ry q => by
    cases hk : inD d e with
    | none => simp only [hk] at ge; cases ge
    | some k' =>
    simp only [hk] at ge
    cases ge
    rcases in_cases hk with ⟨c, z, rfl, rfl, rfl⟩ | ⟨ds, rfl, h1, h2, rfl⟩ | ⟨ds, rfl, h1, h2, rfl⟩
    · obtain ⟨rfl, _⟩ := rx.str
      obtain ⟨rfl, _⟩ := ry.str
      exact .inl ⟨c, _, rfl, rfl, q⟩
    · have p := okD_pln h2
      simp only [pln] at p
      refine .inr (.inl ⟨_, toPys ds, rx.dp (okD_pln h1), ?_, rx.shaped h1, ?_, ?_⟩)
      · have := ry.dp (okD_pln h2); simp only [toPy] at this; exact this
      · have := ry.shaped h2; simp only [toPy] at this; exact this
      · rw [any_toPys d (okD_pln h1) ds p]; exact q
    · obtain ⟨a, vs, rfl, hs, r⟩ := ry.tup
      refine .inr (.inr ⟨a, vs, rfl, .inr hs, flat_rp (rx.flat h1) h1, flat_all r h2, ?_⟩)
      show Q (.bl (!inV x vs)) H
      rw [inV, flat_any (rx.flat h1) h1 r h2]
      exact q
theorem is_cases {d e : D} {k : Bool} (h : isD d e = some k) : (e = .non ∧ k = isNon d) ∨ (∃ a b, d = .bl a ∧ e = .bl b ∧ k = decide (a = b)) := by
  unfold isD at h
  split at h
  · cases h; exact .inl ⟨rfl, rfl⟩
  · cases h; exact .inr ⟨_, _, rfl, rfl, rfl⟩
  · cases h
theorem Rw.isnon {K : PySem.W.Frag} {μ : List Addr} {W : Addr → Prop} {H : Hp} {d : D} {v : V} (r : Rw K μ W H d v) : decide (v = .non) = isNon d := by
  rcases r with r | ⟨_, _, _, rfl, rfl, _⟩
  · cases r <;> rfl
  · rfl
theorem is_ok : OpD X (compareOp .Is) (fun d e => (isD d e).map .bl) :=
  OpD.bool (op_isN.or op_isBl) fun μ W H d e k x y Q ge rx ry q => by
    rcases is_cases ge with ⟨rfl, rfl⟩ | ⟨a, b, rfl, rfl, rfl⟩
    · refine .inl ⟨ry.non, ?_⟩
      rw [rx.isnon]; exact q
    · cases rx.bl; cases ry.bl
      exact .inr ⟨_, _, rfl, rfl, q⟩
theorem isn_ok : OpD X (compareOp .IsNot) (fun d e => ((isD d e).map (!·)).map .bl) :=
  OpD.bool (g := fun d e => (isD d e).map (!·)) (op_notN.or op_notBl) fun μ W H d e k x y Q ge rx ry q => by
    cases hk : isD d e with
    | none => simp only [hk] at ge; cases ge
    | some k' =>
    simp only [hk] at ge
    cases ge
    rcases is_cases hk with ⟨rfl, rfl⟩ | ⟨a, b, rfl, rfl, rfl⟩
    · refine .inl ⟨ry.non, ?_⟩
      rw [rx.isnon]; exact q
    · cases rx.bl; cases ry.bl
      exact .inr ⟨_, _, rfl, rfl, q⟩
theorem cmp_ok (hu : X.A.units + 65 < cLine) : ∀ c : Cop, OpD X (compareOp c.op) (cmpD c)
  | .eq => eq_ok (by omega)
  | .ne => ne_ok (by omega)
  | .lt => lt_ok op_lt
  | .le => lt_ok op_le
  | .gt => lt_ok op_gt
  | .ge => lt_ok op_ge
  | .inn => in_ok hu
  | .nin => nin_ok hu
  | .is => is_ok
  | .isn => isn_ok
end
end RH

set_option Elab.async false
set_option linter.all false
set_option maxRecDepth 100000
/-! RHOps2: subscripts, slices, built-in functions, methods of textsOf over D. -/
namespace RH
open PySem PySem.Spec PyProof.Rows L2

/-! ### subscripts, slices -/
def idxD : D → D → Option D
  | .lst ds, .int i => atI ds i
  | .tup ds, .int i => atI ds i
  | .str z, .int i => if z.length ≤ 16777216 then (atI z i).map fun c => .str [c] else none
  | _, _ => none
def cutG {α : Type} (xs : List α) (lo hi : Option Int) : List α := (xs.drop (HT.sIx xs.length 0 lo)).take (HT.sIx xs.length xs.length hi - HT.sIx xs.length 0 lo)
def sliceD (d : D) (lo hi : Option Int) : Option D :=
  match d with
  | .lst ds => some (.lst (cutG ds lo hi))
  | .tup ds => some (.tup (cutG ds lo hi))
  | .str z => if z.length ≤ 16777216 then some (.str (cutG z lo hi)) else none
  | _ => none
section
variable {X : Cx} {K : PySem.W.Frag} {μ : List Addr} {W : Addr → Prop} {H : Hp}
theorem Rps.atI {ds : List D} {vs : List V} {i : Int} {d : D} (r : Rps K μ W H ds vs) (h : atI ds i = some d) : ∃ v, L2.atI vs i = some v ∧ Rp K μ W H d v := by
  unfold L2.atI at h ⊢
  rw [r.length] at h
  cases e : ixN vs.length i with
  | none => rw [e] at h; cases h
  | some j =>
    rw [e] at h
    obtain ⟨v, h1, h2⟩ := r.get (show ds[j]? = some d from h)
    exact ⟨v, h1, h2⟩
theorem atI_mem {α : Type} {xs : List α} {i : Int} {x : α} (h : atI xs i = some x) : x ∈ xs := by
  obtain ⟨j, _, h, _⟩ := atI_get h
  exact List.mem_of_getElem? h
theorem ix_ok : ∃ r, IxR X r ∧ ∀ (μ : List Addr) (W : Addr → Prop) (H : Hp) (d e z : D) (x y : V) (Q : VK), idxD d e = some z → Rw X.K μ W H d x → Rw X.K μ W H e y → (∀ v, Rp X.K μ W H z v → Q v H) → r x y H Q := by
  refine ⟨_, ix_seq, fun μ W H d e z x y Q g rx ry q => ?_⟩
  unfold idxD at g
  split at g
  · cases ry.int
    obtain ⟨a, vs, rfl, h1, h2⟩ := rx.lst
    obtain ⟨v, h3, h4⟩ := h2.atI g
    exact .inl ⟨a, vs, _, v, rfl, rfl, .of h1, h3, q v h4⟩
  · cases ry.int
    obtain ⟨a, vs, rfl, h1, h2⟩ := rx.tup
    obtain ⟨v, h3, h4⟩ := h2.atI g
    exact .inr (.inl ⟨a, vs, _, v, rfl, rfl, h1, h3, q v h4⟩)
  · split at g
    · rename_i hz
      cases ry.int
      obtain ⟨rfl, ha⟩ := rx.str
      obtain ⟨c, e, rfl⟩ := Option.map_eq_some_iff.mp g
      exact .inr (.inr ⟨_, _, c, rfl, rfl, by rw [str_len, sizeLine_eq]; exact hz, e, q _ (.str (ha.one (atI_mem e)))⟩)
    · cases g
  · cases g
theorem Rps.cut {ds : List D} {vs : List V} (r : Rps K μ W H ds vs) (lo hi : Option Int) : Rps K μ W H (cutG ds lo hi) (cutV vs lo hi) := by
  unfold cutG cutV
  rw [r.length]
  exact (r.drop _).take _
theorem cutG_whole {α : Type} {xs : List α} {lo hi : Option Int} (h : HT.sIx xs.length 0 lo = 0 ∧ HT.sIx xs.length xs.length hi = xs.length) : cutG xs lo hi = xs := by
  unfold cutG
  rw [h.1, h.2]
  simp
theorem sl_ok : ∃ r, SlR X r ∧ ∀ (μ : List Addr) (W : Addr → Prop) (H : Hp) (d z : D) (lo hi : Option Int) (x : V) (Q : VK), sliceD d lo hi = some z → Dm μ W H → Rw X.K μ W H d x → Po X.K μ W H z Q → r x lo hi H Q := by
  refine ⟨_, sl_list.or (sl_tupA.or sl_str), fun μ W H d z lo hi x Q g dm rx q => ?_⟩
  unfold sliceD at g
  split at g
  · cases g
    obtain ⟨a, vs, rfl, h1, h2⟩ := rx.lst
    exact .inl ⟨a, vs, rfl, .of h1, q.newL dm (h2.cut lo hi)⟩
  · cases g
    obtain ⟨a, vs, rfl, h1, h2⟩ := rx.tupH
    refine .inr (.inl ⟨a, vs, rfl, .inl (.inl h1), fun e => ?_, fun _ => q.newT (h2.cut lo hi)⟩)
    rw [cutG_whole (by rw [h2.length]; exact e)] at q
    exact q.val (.tup h1 h2)
  · split at g
    · rename_i hz
      cases g
      obtain ⟨rfl, ha⟩ := rx.str
      refine .inr (.inr ⟨_, rfl, by rw [str_len, sizeLine_eq]; exact hz, ?_⟩)
      exact q.val (v := .str (cutS _ lo hi)) (.str (ha.cut _ _))
    · cases g
  · cases g
end

/-! ### built-in functions -/
inductive Bi where
  | len | lst | tup | min | max | str | int | all | any | sum | rng
  deriving DecidableEq
def strI (i : Int) : List Nat := (toString i).toList.map Char.toNat
def boolsOf : List D → Option (List Bool)
  | [] => some []
  | .bl b :: r => (boolsOf r).map (b :: ·)
  | _ => none
def intsOf : List D → Option (List Int)
  | [] => some []
  | .int b :: r => (intsOf r).map (b :: ·)
  | _ => none
def textsOf : List D → Option (List (List Nat))
  | [] => some []
  | .str b :: r => (textsOf r).map (b :: ·)
  | _ => none
def biD : Bi → List D → Option D
  | .len, [.lst ds] => some (.int ds.length)
  | .len, [.tup ds] => some (.int ds.length)
  | .len, [.scr ds] => some (.int ds.length)
  | .len, [.str l] => if l.length ≤ 16777216 then some (.int l.length) else none
  | .lst, [.lst ds] => some (.lst ds)
  | .lst, [.tup ds] => some (.lst ds)
  | .lst, [.scr ns] => some (.lst (ns.map .int))
  | .tup, [.lst ds] => some (.tup ds)
  | .tup, [.tup ds] => some (.tup ds)
  | .min, [.int i, .int j] => some (.int (if j < i then j else i))
  | .max, [.int i, .int j] => some (.int (if j > i then j else i))
  | .str, [.int i] => if i.natAbs.log2 < 1920 then some (.str (strI i)) else none
  | .int, [.int i] => some (.int i)
  | .int, [.bl k] => some (.int (if k then 1 else 0))
  | .int, [.str l] => if l.length ≤ 640 then (PySem.intText? ⟨l.toArray⟩).map .int else none
  | .all, [.lst ds] => (boolsOf ds).map fun bs => .bl (bs.all id)
  | .any, [.lst ds] => (boolsOf ds).map fun bs => .bl (bs.any id)
  | .sum, [.lst ds] => (intsOf ds).map fun ns => .int ns.sum
  | _, _ => none
inductive Rws (K : PySem.W.Frag) (μ : List Addr) (W : Addr → Prop) (H : Hp) : List D → List V → Prop
  | nil : Rws K μ W H [] []
  | cons {d : D} {v : V} {ds : List D} {vs : List V} : Rw K μ W H d v → Rws K μ W H ds vs → Rws K μ W H (d :: ds) (v :: vs)
def CallD (X : Cx) (f : Value) (g : List D → Option D) : Prop := ∃ r, CallR X f r ∧ ∀ (μ : List Addr) (W : Addr → Prop) (H : Hp) (ds : List D) (z : D) (vs : List V) (Q : VK), g ds = some z → Dm μ W H → Rws X.K μ W H ds vs → Po X.K μ W H z Q → r vs H Q
section
variable {X : Cx} {K : PySem.W.Frag} {μ : List Addr} {W : Addr → Prop} {H : Hp}
theorem Rws.one {d : D} {vs : List V} (h : Rws K μ W H [d] vs) : ∃ v, vs = [v] ∧ Rw K μ W H d v := by
  cases h with | cons h r => cases r; exact ⟨_, rfl, h⟩
theorem Rws.two {d e : D} {vs : List V} (h : Rws K μ W H [d, e] vs) : ∃ v u, vs = [v, u] ∧ Rw K μ W H d v ∧ Rw K μ W H e u := by
  cases h with | cons h r => cases r with | cons h' r => cases r; exact ⟨_, _, rfl, h, h'⟩
theorem bools_rps : ∀ {ds : List D} {vs : List V} {bs : List Bool}, Rps K μ W H ds vs → boolsOf ds = some bs → vs = bs.map V.bl
  | _, _, _, .nil, e => by cases e; rfl
  | _, _, bs, .cons (d := d) (ds := ds) h r, e => by
    cases h <;> first | (simp [boolsOf] at e; done) | skip
    rename_i b
    simp only [boolsOf] at e
    cases q : boolsOf ds with
    | none => rw [q] at e; cases e
    | some bs' =>
      rw [q] at e
      cases e
      rw [bools_rps r q]; rfl
theorem ints_rps : ∀ {ds : List D} {vs : List V} {bs : List Int}, Rps K μ W H ds vs → intsOf ds = some bs → vs = bs.map V.int
  | _, _, _, .nil, e => by cases e; rfl
  | _, _, bs, .cons (d := d) (ds := ds) h r, e => by
    cases h <;> first | (simp [intsOf] at e; done) | skip
    rename_i b
    simp only [intsOf] at e
    cases q : intsOf ds with
    | none => rw [q] at e; cases e
    | some bs' =>
      rw [q] at e
      cases e
      rw [ints_rps r q]; rfl
theorem texts_rps : ∀ {ds : List D} {vs : List V} {bs : List (List Nat)}, Rps K μ W H ds vs → textsOf ds = some bs → vs = (bs.map fun l => (⟨l.toArray⟩ : Str)).map V.str ∧ ∀ l ∈ bs, Asc l
  | _, _, _, .nil, e => by cases e; exact ⟨rfl, fun _ z => nomatch z⟩
  | _, _, bs, .cons (d := d) (ds := ds) h r, e => by
    cases h <;> first | (simp [textsOf] at e; done) | skip
    rename_i b ha
    simp only [textsOf] at e
    cases q : textsOf ds with
    | none => rw [q] at e; cases e
    | some bs' =>
      rw [q] at e
      cases e
      obtain ⟨h1, h2⟩ := texts_rps r q
      refine ⟨by rw [h1]; rfl, fun l hl => ?_⟩
      rcases List.mem_cons.mp hl with rfl | hl
      · exact ha
      · exact h2 l hl
theorem rps_ints : ∀ (ns : List Int), Rps K μ W H (ns.map .int) (ns.map V.int)
  | [] => .nil
  | n :: ns => .cons (.int n) (rps_ints ns)
theorem strI_asc (i : Int) : Asc (strI i) := by
  have nat : ∀ n : Nat, Asc ((toString n).toList.map Char.toNat) := fun n c hc => by
    have e : (toString n).toList.map Char.toNat = TL.numL n := by
      show (Nat.repr n).toList.map Char.toNat = _
      unfold TL.numL Nat.repr
      simp
    rw [e] at hc
    have := TL.numL_digits n c hc
    omega
  unfold strI
  cases i with
  | ofNat n => exact nat n
  | negSucc n =>
    intro c hc
    have e : toString (Int.negSucc n) = "-" ++ toString (n + 1) := rfl
    rw [e, String.toList_append, List.map_append] at hc
    rcases List.mem_append.mp hc with z | z
    · have : c ∈ ([45] : List Nat) := z
      simp at this; omega
    · exact nat (n + 1) c z
theorem str_ofString (s : String) : Str.ofString s = ⟨(s.toList.map Char.toNat).toArray⟩ := Str.ofString_eq_toList s
def Bi.val : Bi → Value
  | .len => .builtin "len" | .lst => .type "list" | .tup => .type "tuple" | .min => .builtin "min" | .max => .builtin "max" | .str => .type "str" | .int => .type "int"
  | .all => .builtin "all" | .any => .builtin "any" | .sum => .builtin "sum" | .rng => .type "range"
theorem bi_ok (hc : X.calm = true) : ∀ b : Bi, CallD X b.val (biD b)
  | .len => by
    refine ⟨_, call_len, fun μ W H ds z vs Q g dm r q => ?_⟩
    unfold biD at g
    split at g <;> first | (rename_i h0; cases h0; done) | skip
    all_goals first | (cases g; done) | skip
    · obtain ⟨v, rfl, r1⟩ := r.one
      cases g
      obtain ⟨a, ws, rfl, h1, h2⟩ := r1.lst
      exact ⟨_, ws.length, rfl, .inl ⟨ws, .of h1, rfl⟩, by rw [← h2.length]; exact q.val (.int _)⟩
    · obtain ⟨v, rfl, r1⟩ := r.one
      cases g
      obtain ⟨a, ws, rfl, h1, h2⟩ := r1.tup
      exact ⟨_, ws.length, rfl, .inr ⟨ws, h1, rfl⟩, by rw [← h2.length]; exact q.val (.int _)⟩
    · obtain ⟨v, rfl, r1⟩ := r.one
      cases g
      obtain ⟨a, rfl, h1⟩ := r1.scr
      exact ⟨_, _, rfl, .inl ⟨_, h1, rfl⟩, by rw [List.length_map]; exact q.val (.int _)⟩
    · obtain ⟨v, rfl, r1⟩ := r.one
      split at g
      · rename_i hz
        cases g
        obtain ⟨rfl, _⟩ := r1.str
        refine ⟨_, _, rfl, ⟨by rw [str_len, sizeLine_eq]; exact hz, rfl⟩, ?_⟩
        rw [str_len]; exact q.val (.int _)
      · cases g
  | .lst => by
    refine ⟨_, call_list_of, fun μ W H ds z vs Q g dm r q => ?_⟩
    unfold biD at g
    split at g <;> first | (rename_i h0; cases h0; done) | skip
    all_goals first | (cases g; done) | skip
    · obtain ⟨v, rfl, r1⟩ := r.one
      cases g
      obtain ⟨a, ws, rfl, h1, h2⟩ := r1.lst
      exact ⟨a, ws, rfl, .inl (.of h1), q.newL dm h2⟩
    · obtain ⟨v, rfl, r1⟩ := r.one
      cases g
      obtain ⟨a, ws, rfl, h1, h2⟩ := r1.tup
      exact ⟨a, ws, rfl, .inr h1, q.newL dm h2⟩
    · obtain ⟨v, rfl, r1⟩ := r.one
      cases g
      obtain ⟨a, rfl, h1⟩ := r1.scr
      exact ⟨a, _, rfl, .inl h1, q.newL dm (rps_ints _)⟩
  | .tup => by
    refine ⟨_, call_tuple_of, fun μ W H ds z vs Q g dm r q => ?_⟩
    unfold biD at g
    split at g <;> first | (rename_i h0; cases h0; done) | skip
    all_goals first | (cases g; done) | skip
    · obtain ⟨v, rfl, r1⟩ := r.one
      cases g
      obtain ⟨a, ws, rfl, h1, h2⟩ := r1.lst
      exact ⟨a, ws, rfl, .inl ⟨.of h1, q.newT h2⟩⟩
    · obtain ⟨v, rfl, r1⟩ := r.one
      cases g
      obtain ⟨a, ws, rfl, h1, h2⟩ := r1.tupH
      exact ⟨a, ws, rfl, .inr ⟨.inl (.inl h1), q.val (.tup h1 h2)⟩⟩
  | .min => by
    refine ⟨_, call_min2 hc, fun μ W H ds z vs Q g dm r q => ?_⟩
    unfold biD at g
    split at g <;> first | (rename_i h0; cases h0; done) | skip
    all_goals first | (cases g; done) | skip
    · obtain ⟨v, u, rfl, r1, r2⟩ := r.two
      cases g
      cases r1.int
      cases r2.int
      exact ⟨_, _, rfl, q.val (.int _)⟩
  | .max => by
    refine ⟨_, call_max2 hc, fun μ W H ds z vs Q g dm r q => ?_⟩
    unfold biD at g
    split at g <;> first | (rename_i h0; cases h0; done) | skip
    all_goals first | (cases g; done) | skip
    · obtain ⟨v, u, rfl, r1, r2⟩ := r.two
      cases g
      cases r1.int
      cases r2.int
      exact ⟨_, _, rfl, q.val (.int _)⟩
  | .str => by
    refine ⟨_, call_str_int, fun μ W H ds z vs Q g dm r q => ?_⟩
    unfold biD at g
    split at g <;> first | (rename_i h0; cases h0; done) | skip
    all_goals first | (cases g; done) | skip
    · obtain ⟨v, rfl, r1⟩ := r.one
      split at g
      · rename_i hz
        cases g
        cases r1.int
        refine ⟨_, rfl, hz, ?_⟩
        rw [str_ofString]
        exact q.val (.str (strI_asc _))
      · cases g
  | .int => by
    refine ⟨_, call_int1.or call_int_str, fun μ W H ds z vs Q g dm r q => ?_⟩
    unfold biD at g
    split at g <;> first | (rename_i h0; cases h0; done) | skip
    all_goals first | (cases g; done) | skip
    · obtain ⟨v, rfl, r1⟩ := r.one
      cases g
      cases r1.int
      exact .inl (.inl ⟨_, rfl, q.val (.int _)⟩)
    · obtain ⟨v, rfl, r1⟩ := r.one
      cases g
      cases r1.bl
      exact .inl (.inr ⟨_, rfl, q.val (.int _)⟩)
    · obtain ⟨v, rfl, r1⟩ := r.one
      split at g
      · rename_i hz
        obtain ⟨rfl, _⟩ := r1.str
        obtain ⟨n, e, rfl⟩ := Option.map_eq_some_iff.mp g
        exact .inr ⟨_, n, rfl, e, by rw [str_len]; exact hz, q.val (.int _)⟩
      · cases g
  | .all => by
    refine ⟨_, cr_all hc, fun μ W H ds z vs Q g dm r q => ?_⟩
    unfold biD at g
    split at g <;> first | (rename_i h0; cases h0; done) | skip
    all_goals first | (cases g; done) | skip
    · obtain ⟨v, rfl, r1⟩ := r.one
      obtain ⟨a, ws, rfl, h1, h2⟩ := r1.lst
      obtain ⟨bs, e, rfl⟩ := Option.map_eq_some_iff.mp g
      exact ⟨a, bs, rfl, by rw [← bools_rps h2 e]; exact .of h1, q.val (.bl _)⟩
  | .any => by
    refine ⟨_, cr_any hc, fun μ W H ds z vs Q g dm r q => ?_⟩
    unfold biD at g
    split at g <;> first | (rename_i h0; cases h0; done) | skip
    all_goals first | (cases g; done) | skip
    · obtain ⟨v, rfl, r1⟩ := r.one
      obtain ⟨a, ws, rfl, h1, h2⟩ := r1.lst
      obtain ⟨bs, e, rfl⟩ := Option.map_eq_some_iff.mp g
      exact ⟨a, bs, rfl, by rw [← bools_rps h2 e]; exact .of h1, q.val (.bl _)⟩
  | .sum => by
    refine ⟨_, cr_sum hc, fun μ W H ds z vs Q g dm r q => ?_⟩
    unfold biD at g
    split at g <;> first | (rename_i h0; cases h0; done) | skip
    all_goals first | (cases g; done) | skip
    · obtain ⟨v, rfl, r1⟩ := r.one
      obtain ⟨a, ws, rfl, h1, h2⟩ := r1.lst
      obtain ⟨bs, e, rfl⟩ := Option.map_eq_some_iff.mp g
      exact ⟨a, bs, rfl, by rw [← ints_rps h2 e]; exact .of h1, q.val (.int _)⟩
  | .rng => ⟨fun _ _ _ => False, fun _ _ _ _ _ _ _ _ _ h => h.elim, fun μ W H ds z vs Q g dm r q => by
    unfold biD at g
    split at g <;> first | (rename_i h0; cases h0; done) | (cases g; done)⟩
end
end RH

set_option Elab.async false
set_option linter.all false
set_option maxRecDepth 100000
/-! RHRun: the code language, its run over D, its check against the syntax. -/
namespace RH
open PySem PySem.Spec PyProof.Rows L2

/-! ### methods of texts -/
inductive M0 where
  | lower | upper
  deriving DecidableEq
inductive M1 where
  | join | split | index
  deriving DecidableEq
def m0D : M0 → D → Option D
  | .lower, .str l => if l.length ≤ 5592405 then some (.str (l.map lo1)) else none
  | .upper, .str l => if l.length ≤ 5592405 then some (.str (l.map up1)) else none
  | _, _ => none
def lens (ps : List (List Nat)) : Nat := (ps.map List.length).sum
def joinD (s : List Nat) (ds : List D) : Option D :=
  match textsOf ds with
  | some ps => if lens ps + ps.length * s.length ≤ 16777216 then some (.str (TL.joinL s ps)) else none
  | none => none
def asS : D → Option (List Nat)
  | .str l => some l
  | _ => none
def m1D : M1 → List Nat → D → Option D
  | .join, s, .lst ds => joinD s ds
  | .join, s, .tup ds => joinD s ds
  | .split, l, .str [c] => if l.length + 2 ≤ 16777216 ∧ c < 128 then some (.lst ((TL.spl [c] 0 [] l).map .str)) else none
  | .index, l, .str s => match Builtin.Str.occurrences ⟨l.toArray⟩ ⟨s.toArray⟩ 0 l.length 1 with
    | i :: _ => some (.int (i : Nat))
    | [] => none
  | _, _, _ => none
/-- a built-in class asked by isinstance -/
inductive Ty where
  | int | bool | str | list | tuple
  deriving DecidableEq
def isiD : Ty → D → Option Bool
  | .int, .int _ => some true | .int, .bl _ => some true | .int, .non => some false | .int, .str _ => some false | .int, .lst _ => some false | .int, .tup _ => some false
  | .bool, .int _ => some false | .bool, .bl _ => some true | .bool, .non => some false | .bool, .str _ => some false | .bool, .lst _ => some false | .bool, .tup _ => some false
  | .str, .int _ => some false | .str, .bl _ => some false | .str, .non => some false | .str, .str _ => some true | .str, .lst _ => some false | .str, .tup _ => some false
  | .list, .int _ => some false | .list, .bl _ => some false | .list, .non => some false | .list, .str _ => some false | .list, .lst _ => some true | .list, .tup _ => some false
  | .tuple, .int _ => some false | .tuple, .bl _ => some false | .tuple, .non => some false | .tuple, .str _ => some false | .tuple, .lst _ => some false | .tuple, .tup _ => some true
  | _, _ => none

def w62 (i : Int) : Bool := decide (-(4611686018427387904) ≤ i) && decide (i < 4611686018427387904)
/-- a method that changes a list -/
inductive Lm where
  | insert | reverse | pop | popAt | clear | extend
  deriving DecidableEq
def lmD : Lm → List D → List D → Option (List D)
  | .insert, ds, [.int i, d] => if ds.length < 16777216 ∧ 0 ≤ i ∧ i < 9223372036854775808 then some (ds.take i.toNat ++ [d] ++ ds.drop i.toNat) else none
  | .reverse, ds, [] => some ds.reverse
  | .clear, _, [] => some []
  | .pop, ds, [] => if ds.isEmpty then none else some ds.dropLast
  | .popAt, ds, [.int i] => if w62 i then (match ixN ds.length i with
    | some n => some (ds.eraseIdx n)
    | none => none) else none
  | .extend, ds, [.lst es] => if ds.length + es.length ≤ 16777216 then some (ds ++ es) else none
  | _, _, _ => none
/-- what makes a walk -/
inductive Wc where
  | r1 | r2 | r3 | enum | zip | rev
  deriving DecidableEq

/-! ### the code -/
mutual
inductive Tg where
  | name (i : Nat)
  | tup (l : Tgs)
inductive Tgs where
  | nil
  | cons (t : Tg) (r : Tgs)
end
mutual
inductive CE where
  | var (i : Nat)
  | lit (d : D)
  | glb (j : Nat) (d : D)
  | bin (o : Bop) (a b : CE)
  | neg (a : CE)
  | cmp (o : Cop) (a b : CE)
  | chn (o o' : Cop) (a b c : CE)
  | bop (n : Bool) (l : CL)
  | nt (a : CE)
  | ife (c a b : CE)
  | tup (l : CL)
  | lst (l : CL)
  | idx (a b : CE)
  | slc (a : CE) (lo hi : CO)
  | call (f : Nat) (l : CL)
  | bi (b : Bi) (l : CL)
  | m0 (m : M0) (o : CE)
  | m1 (m : M1) (o a : CE)
  | isi (t : Ty) (a : CE)
  | pop0 (o : CE)
  | pop1 (o a : CE)
  | new (a : CE)
  | inG (n : Bool) (a : CE) (ds : List D)
  | lrg (l : CL)
  | lix (o a : CE)
  | ddpV (i : Nat)
  | ddpI (n : Int)
  | dnew (k : Nat)
  | didx (d k : CE)
  | din (n : Bool) (k d : CE)
  | dget (d k x : CE)
  | dlen (d : CE)
  | dpop (d k : CE)
  | cst (d : D)
  | xis (a : CE) (ns : List Str) (tp : Bool) (cs : List (Str × Bool))
  | xfl (a : CE) (f : Str) (cs : List (Str × Nat))
  | fld (o : CE) (f : Str) (cs : List Str)
  | mcl (o : CE) (c m : Str) (fn : Nat) (l : CL)
  | mkI (c : Str) (fn : Nat) (l : CL) (df : List D)
  | isc (a : CE) (c : Str)
  | srt (a : CE)
  | dof (k : Nat) (a : CE)
  | ddpT
  | compK (own : List (Str × Nat)) (elt : CE) (t : Tg) (d : CE) (c : CO)
  | comp (own : List (Str × Nat)) (elt : CE) (t : Tg) (it : CI) (c : CO)
inductive CL where
  | nil
  | cons (a : CE) (r : CL)
inductive CO where
  | no
  | yes (a : CE)
inductive CI where
  | seq (a : CE)
  | wlk (w : Wc) (l : CL)
end
mutual
inductive CS where
  | set (i : Nat) (e : CE)
  | setT (t : Tg) (e : CE)
  | exp (e : CE)
  | app (o e : CE)
  | mth (m : Lm) (o : CE) (l : CL)
  | sip (o j e : CE)
  | dput (d k e : CE)
  | fst (o : CE) (f : Str) (cs : List Str) (e : CE)
  | ret (e : CE)
  | retN
  | ife (c : CE) (a b : CB)
  | forr (t : Tg) (it : CI) (b : CB)
  | forK (t : Tg) (e : CE) (b : CB)
  | whl (n : Nat) (c : CE) (b : CB)
  | rai (x : Str) (n : Nat) (l : CL)
  | pas
  | brk
  | cnt
  | tryE (b : CB) (hs : HL)
inductive CB where
  | nil
  | cons (s : CS) (r : CB)
/-- except x as i: the classes of errors, whether they are caught here, their fields -/
inductive HL where
  | nil
  | cons (x : Str) (i : Nat) (cs : List (Str × Bool × List Str)) (b : CB) (r : HL)
end
mutual
/-- the slots that are set -/
def asgS : CS → List Nat
  | .set i _ => [i]
  | .ife _ a b => asgB a ++ asgB b
  | _ => []
def asgB : CB → List Nat
  | .nil => []
  | .cons s r => asgS s ++ asgB r
end
mutual
/-- a try's body: no loop, no raise -/
def tbS : CS → Bool
  | .set _ _ => true
  | .exp _ => true
  | .ret _ => true
  | .ife _ a b => tbB a && tbB b
  | .pas => true
  | _ => false
def tbB : CB → Bool
  | .nil => true
  | .cons s r => tbS s && tbB r
end

/-! ### the run -/
/-- a def's worth: whether what it hands back is a new list, and its answer -/
structure Fn where
  fr : Bool
  m : List D → Store → Res D
def Res.bind {α β : Type} (r : Res α) (f : α → Store → Res β) : Res β :=
  match r with
  | .ok a S => f a S
  | .err x S => .err x S
  | .bad => .bad
def ofO {α : Type} (o : Option α) (S : Store) : Res α :=
  match o with
  | some a => .ok a S
  | none => .bad
def asB : D → Option Bool
  | .bl b => some b
  | _ => none
def asI : D → Option Int
  | .int b => some b
  | _ => none
/-- no way out by an error -/
def Res.nox {α : Type} : Res α → Res α
  | .err _ _ => .bad
  | r => r
/-- a call; one without arguments may not end in an error -/
def callF (f : Fn) (ds : List D) (S : Store) : Res D :=
  match ds with
  | [] => (f.m [] S).nox
  | ds => f.m ds S
mutual
def bindT : Tg → D → List Cell → Option (List Cell)
  | .name i, d, ρ => some (ρ.set i (.sh d))
  | .tup l, .tup ds, ρ => bindTs l ds ρ
  | _, _, _ => none
def bindTs : Tgs → List D → List Cell → Option (List Cell)
  | .nil, [], ρ => some ρ
  | .cons t r, d :: ds, ρ => match bindT t d ρ with
    | some ρ' => bindTs r ds ρ'
    | none => none
  | _, _, _ => none
end
def wipeC (ρ : List Cell) : List Nat → List Cell
  | [] => ρ
  | v :: vs => (wipeC ρ vs).set v .u
/-- what is walked: its items, and the store's lists that they are taken from -/
structure Wlk where
  ds : List D
  g : List (Nat × List D)
/-- these lists stand -/
def okG (S : Store) : List (Nat × List D) → Prop
  | [] => True
  | (p, ds) :: r => S[p]? = some (.lst ds) ∧ okG S r
open Classical in
/-- a comprehension's turns: step gives an element, or none -/
noncomputable def compL (g : List (Nat × List D)) (step : D → Store → Res (Option D)) : List D → Store → List D → Res D
  | [], S, acc => if okG S g then .ok (.lst acc) S else .bad
  | d :: ds, S, acc => if okG S g then (match step d S with
    | .ok (some y) S' => if acc.length < 16777216 then compL g step ds S' (acc ++ [y]) else .bad
    | .ok none S' => compL g step ds S' acc
    | .err _ _ => .bad
    | .bad => .bad) else .bad
/-- a pointer's list -/
def drf (S : Store) : D → Option D
  | .ptr n => match S[n]? with
    | some (.lst ds) => some (.lst ds)
    | _ => none
  | d => some d
def drfs (S : Store) : List D → Option (List D)
  | [] => some []
  | d :: ds => match drf S d, drfs S ds with
    | some d', some ds' => some (d' :: ds')
    | _, _ => none
/-- the list of a pointer is to stand -/
def grd (S : Store) : D → List (Nat × List D)
  | .ptr n => match S[n]? with
    | some (.lst ds) => [(n, ds)]
    | _ => []
  | _ => []
def grds (S : Store) : List D → List (Nat × List D)
  | [] => []
  | d :: ds => grd S d ++ grds S ds
def seqOf : D → Option (List D)
  | .lst ds => some ds
  | .tup ds => some ds
  | .str l => some (l.map fun c => .str [c])
  | _ => none
def zipD : List D → List D → List D
  | a :: as, b :: bs => .tup [a, b] :: zipD as bs
  | _, _ => []
def enumD : Nat → List D → List D
  | _, [] => []
  | n, d :: ds => .tup [.int (n : Nat), d] :: enumD (n + 1) ds
def wcD : Wc → List D → Option (List D)
  | .r1, [.int j] => if w62 j then some ((List.range j.toNat).map fun i => .int ((i : Nat) : Int)) else none
  | .r2, [.int i, .int j] => if w62 i && w62 j then some ((List.range (j - i).toNat).map fun (k : Nat) => .int (i + (k : Int))) else none
  | .r3, [.int i, .int j, .int c] => if w62 i && w62 j && c == -1 then some ((List.range (i - j).toNat).map fun (k : Nat) => .int (i + (k : Int) * -1)) else none
  | .enum, [.lst ds] => some (enumD 0 ds)
  | .zip, [.lst ds, .lst es] => some (zipD ds es)
  | .zip, [.tup ds, .tup es] => some (zipD ds es)
  | .zip, [.str x, .str y] => some (zipD (x.map fun c => .str [c]) (y.map fun c => .str [c]))
  | .rev, [.lst ds] => some ds.reverse
  | _, _ => none
def Cop.byId : Cop → Bool
  | .is => true
  | .isn => true
  | _ => false
/-- held against one another; a pointer is its list but for is -/
def cmpS (S : Store) (o : Cop) (x y : D) : Option D :=
  if o.byId then cmpD o x y else match drf S x, drf S y with
  | some x', some y' => cmpD o x' y'
  | _, _ => none
/-- a pointer to a list -/
def ltOf (S : Store) : D → Option Nat
  | .ptr p => match S[p]? with
    | some (.lst _) => some p
    | _ => none
  | _ => none
/-- the popped one, and what is left -/
def pop0V (ds : List D) : Option (D × List D) := match ds[ds.length - 1]? with
  | some d => some (d, ds.dropLast)
  | none => none
def pop1V (ds : List D) : D → Option (D × List D)
  | .int i => if w62 i then (match ixN ds.length i with
    | some n => match ds[n]? with
      | some d => some (d, ds.eraseIdx n)
      | none => none
    | none => none) else none
  | _ => none
def ppopF (p : Nat) (f : List D → Option (D × List D)) (S : Store) : Res D :=
  match S[p]? with
  | some (.lst ds) => match f ds with
    | some (d, es) => .ok d (S.set p (.lst es))
    | none => .bad
  | _ => .bad
/-! dicts -/
def keyOk : Nat → D → Bool
  | 0, d => (kOf d).isSome
  | 1, d => (tOf d).isSome
  | _, _ => false
/-- .. of a dict that is read, locked or not -/
def keyR : Nat → D → Bool
  | 0, d => (kOf d).isSome
  | 1, d => (tOf d).isSome
  | 2, d => (kOf d).isSome
  | 3, d => (tOf d).isSome
  | _, _ => false
section
open Classical
/-- the value of a key -/
noncomputable def valD : List (D × D) → D → Option D
  | [], _ => none
  | (a, b) :: r, k => if a = k then some b else valD r k
noncomputable def rep1 (k v : D) (kv : D × D) : D × D := if kv.1 = k then (kv.1, v) else kv
/-- in its place, or at the end -/
noncomputable def putD (kvs : List (D × D)) (k v : D) : List (D × D) :=
  if ∃ b, (k, b) ∈ kvs then kvs.map (rep1 k v) else kvs ++ [(k, v)]
noncomputable def dropD (kvs : List (D × D)) (k : D) : List (D × D) := kvs.filter fun kv => decide (kv.1 ≠ k)
end
/-- the dict that d points to -/
def dctOf (S : Store) : D → Option (Nat × Nat × List (D × D))
  | .ptr p => match S[p]? with
    | some (.dct k kvs) => some (p, k, kvs)
    | _ => none
  | _ => none
/-- what a dict has for a key, if the key can be one -/
noncomputable def lookS (S : Store) (d k : D) : Option (Option D) := match dctOf S d with
  | some (_, n, kvs) => if keyR n k then some (valD kvs k) else none
  | none => none
/-- {k: v} -/
def ddpF (k v : D) (S : Store) : Res D := match kOf k with
  | some _ => .ok (.ptr S.length) (S ++ [.dct 0 [(k, v)]])
  | none => .bad
/-- list(range(..)) -/
def lrgD : List D → Option D
  | [.int n] => if 0 ≤ n ∧ n ≤ 16777216 then some (.lst ((List.range n.toNat).map fun i => .int ((i : Nat) : Int))) else none
  | [.int i, .int j] => if 0 ≤ i ∧ i ≤ 16777216 ∧ 0 ≤ j ∧ j ≤ 16777216 then some (.lst ((List.range (j - i).toNat).map fun k => .int (i + ((k : Nat) : Int)))) else none
  | _ => none
def lsD (S : Store) (d : D) : Option (List D) := match drf S d with
  | some (.lst ds) => some ds
  | _ => none
/-- xs.index(y) -/
def lixD (ds : List D) (y : D) : Option D := if flatD y && ds.all flatD then (ds.findIdx? fun z => eqb z y).map fun j => .int ((j : Nat) : Int) else none
def dnewF (k : Nat) (S : Store) : Res D := if k ≤ 1 then .ok (.ptr S.length) (S ++ [.dct k []]) else .bad
noncomputable def dpopF (d k : D) (S : Store) : Res D := match dctOf S d with
  | some (p, 0, kvs) => (match kOf k, valD kvs k with
    | some _, some v => .ok v (S.set p (.dct 0 (dropD kvs k)))
    | _, _ => .bad)
  | _ => .bad
/-- isinstance of an error -/
def xisD (cs : List (Str × Bool)) : D → Option D
  | .exn c _ _ => (cs.lookup c).map .bl
  | _ => none
/-- an error's field -/
def xflD (f : Str) (cs : List (Str × Nat)) : D → Option D
  | .exn c fs ds => match cs.lookup c with
    | some i => if fs[i]? = some f ∧ fs.Nodup then ds[i]? else none
    | none => none
  | _ => none
/-- an instance's field -/
def fldD (S : Store) (f : Str) (cs : List Str) : D → Option D
  | .ptr p => match S[p]? with
    | some (.ins c fs) => if c ∈ cs then fs.lookup f else none
    | _ => none
  | _ => none
/-- an instance of the class c that has no field m -/
def insD (S : Store) (c m : Str) : D → Option Nat
  | .ptr p => match S[p]? with
    | some (.ins c' fs) => if c' = c ∧ fs.lookup m = none then some p else none
    | _ => none
  | _ => none
/-- whether it is an instance of the class c -/
def iscD (S : Store) (c : Str) : D → Option D
  | .ptr p => match S[p]? with
    | some (.ins c' _) => if c' = c then some (.bl true) else none
    | _ => none
  | _ => none
def asN : D → Option Unit
  | .non => some ()
  | _ => none
def putS (f : Str) (d : D) : List (Str × D) → List (Str × D)
  | [] => [(f, d)]
  | (g, x) :: r => if g = f then (g, d) :: r else (g, x) :: putS f d r
/-- what is sorted: a list, or a dict's keys -/
def srtS (S : Store) : D → Option (List D)
  | .lst ds => some ds
  | .ptr p => match S[p]? with
    | some (.lst ds) => some ds
    | some (.dct k kvs) => if k < 4 then some (kvs.map (·.1)) else none
    | _ => none
  | _ => none
def headT : D → Bool
  | .tup (_ :: _) => true
  | _ => false
def notTN : D → Bool
  | .tup _ => false
  | .non => false
  | _ => true
/-- sorted(..) -/
noncomputable def srtD (ds : List D) : Option D :=
  if (ds.all okD && ds.all fun d => ds.all fun e => PySem.W.alike (toPy d) (toPy e)) && (ds.all headT || ds.all notTN) && decide (ds.length ≤ 16777216) then some (.lst (ds.mergeSort (PySem.W.dataLe false toPy))) else none
/-- pairs -/
def prsD : List D → Option (List (D × D))
  | [] => some []
  | .tup [a, b] :: r => (prsD r).map ((a, b) :: ·)
  | _ => none
noncomputable def mergeD (kvs : List (D × D)) : List (D × D) → List (D × D)
  | [] => kvs
  | (a, b) :: r => mergeD (putD kvs a b) r
/-- dict(..) of pairs, or of a dict -/
noncomputable def dofF (k : Nat) (x : D) (S : Store) : Res D := match x with
  | .ptr p => (match S[p]? with
    | some (.lst ds) => (match prsD ds with
      | some ps => if k < 2 ∧ ps.all (fun q => keyOk k q.1) = true then .ok (.ptr S.length) (S ++ [.dct k (mergeD [] ps)]) else .bad
      | none => .bad)
    | some (.dct k' kvs) => if k = 0 ∧ (k' = 0 ∨ k' = 2) then .ok (.ptr S.length) (S ++ [.dct k kvs]) else .bad
    | _ => .bad)
  | .lst ds => (match prsD ds with
      | some ps => if k < 2 ∧ ps.all (fun q => keyOk k q.1) = true then .ok (.ptr S.length) (S ++ [.dct k (mergeD [] ps)]) else .bad
      | none => .bad)
  | _ => .bad
def xaD : List Str → List D → List D
  | [], _ => []
  | _ :: _, ds => ds
/-- the dict at which a walk goes -/
def lckF (S : Store) : Res D → Option (Nat × Nat × List (D × D))
  | .ok d _ => match dctOf S d with
    | some (n, k, kvs) => if k < 2 then some (n, k, kvs) else none
    | none => none
  | _ => none
open Classical in
/-- behind an expression that walks a dict: it is free again -/
noncomputable def unlE (n k : Nat) (kvs : List (D × D)) : Res D → Res D
  | .ok d S => if S[n]? = some (.dct (k + 2) kvs) then .ok d (S.set n (.dct k kvs)) else .bad
  | _ => .bad
def isPtr (n : Nat) : D → Bool
  | .ptr m => decide (m = n)
  | _ => false
/-- a new list goes into the store -/
def newF (d : D) (S : Store) : Res D :=
  match d with
  | .lst ds => .ok (.ptr S.length) (S ++ [.lst ds])
  | d => .ok d S
mutual
noncomputable def evE (Φ : Nat → Fn) : CE → List Cell → Store → Res D
  | .var i, ρ, S => match ρ[i]? with
    | some (.sh d) => .ok d S
    | _ => .bad
  | .lit d, _, S => .ok d S
  | .cst d, _, S => .ok d S
  | .glb _ d, _, S => .ok d S
  | .bin o a b, ρ, S => (evE Φ a ρ S).bind fun x S => (evE Φ b ρ S).bind fun y S => (ofO (drf S x) S).bind fun x S => (ofO (drf S y) S).bind fun y S => ofO (binD o x y) S
  | .neg a, ρ, S => (evE Φ a ρ S).bind fun x S => ofO ((asI x).map fun i => .int (-i)) S
  | .cmp o a b, ρ, S => (evE Φ a ρ S).bind fun x S => (evE Φ b ρ S).bind fun y S => ofO (cmpS S o x y) S
  | .chn o o' a b c, ρ, S => (evE Φ a ρ S).bind fun x S => (evE Φ b ρ S).bind fun y S => (ofO (cmpB o x y) S).bind fun k S =>
      if k then (evE Φ c ρ S).bind fun z S => ofO (cmpD o' y z) S else .ok (.bl false) S
  | .bop n l, ρ, S => evB Φ n l ρ S
  | .nt a, ρ, S => (evE Φ a ρ S).bind fun x S => ofO ((asB x).map fun b => .bl (!b)) S
  | .ife c a b, ρ, S => (evE Φ c ρ S).bind fun x S => (ofO (asB x) S).bind fun k S => if k then evE Φ a ρ S else evE Φ b ρ S
  | .tup l, ρ, S => (evL Φ l ρ S).bind fun ds S => if ds.length ≤ 16777216 then .ok (.tup ds) S else .bad
  | .lst l, ρ, S => (evL Φ l ρ S).bind fun ds S => if ds.length ≤ 16777216 then .ok (.lst ds) S else .bad
  | .idx a b, ρ, S => (evE Φ a ρ S).bind fun x S => (evE Φ b ρ S).bind fun y S => (ofO (drf S x) S).bind fun x S => ofO (idxD x y) S
  | .slc a lo hi, ρ, S => (evE Φ a ρ S).bind fun x S => (evO Φ lo ρ S).bind fun i S => (evO Φ hi ρ S).bind fun j S => (ofO (drf S x) S).bind fun x S => ofO (sliceD x i j) S
  | .call f l, ρ, S => (evL Φ l ρ S).bind fun ds S => callF (Φ f) ds S
  | .bi b l, ρ, S => (evL Φ l ρ S).bind fun ds S => (ofO (drfs S ds) S).bind fun ds S => ofO (biD b ds) S
  | .m0 m o, ρ, S => (evE Φ o ρ S).bind fun x S => ofO (m0D m x) S
  | .m1 m o a, ρ, S => (evE Φ o ρ S).bind fun x S => (ofO (asS x) S).bind fun l S => (evE Φ a ρ S).bind fun y S => (ofO (drf S y) S).bind fun y S => ofO (m1D m l y) S
  | .isi t a, ρ, S => (evE Φ a ρ S).bind fun x S => (ofO (drf S x) S).bind fun x S => ofO ((isiD t x).map .bl) S
  | .pop0 o, ρ, S => (evE Φ o ρ S).bind fun x S => (ofO (ltOf S x) S).bind fun p S => ppopF p pop0V S
  | .pop1 o a, ρ, S => (evE Φ o ρ S).bind fun x S => (ofO (ltOf S x) S).bind fun p S => (evE Φ a ρ S).bind fun x S => ppopF p (fun ds => pop1V ds x) S
  | .new a, ρ, S => (evE Φ a ρ S).bind fun x S => newF x S
  | .inG n a ds, ρ, S => (evE Φ a ρ S).bind fun x S => ofO (if flatD x then some (.bl ((ds.any fun z => eqb z x) != n)) else none) S
  | .lrg l, ρ, S => (evL Φ l ρ S).bind fun ds S => ofO (lrgD ds) S
  | .lix o a, ρ, S => (evE Φ o ρ S).bind fun x S => (ofO (lsD S x) S).bind fun _ S => (evE Φ a ρ S).bind fun y S => (ofO (lsD S x) S).bind fun ds S => ofO (lixD ds y) S
  | .ddpV i, ρ, S => match ρ[i]? with
    | some (.sh d) => ddpF d (.bl true) S
    | _ => .bad
  | .ddpI n, _, S => ddpF (.int n) (.bl true) S
  | .dnew k, _, S => dnewF k S
  | .didx d k, ρ, S => (evE Φ d ρ S).bind fun x S => (evE Φ k ρ S).bind fun y S => (ofO (lookS S x y) S).bind fun o S => ofO o S
  | .din n k d, ρ, S => (evE Φ k ρ S).bind fun y S => (evE Φ d ρ S).bind fun x S => (ofO (lookS S x y) S).bind fun o S => .ok (.bl (o.isSome != n)) S
  | .dget d k e, ρ, S => (evE Φ d ρ S).bind fun x S => (ofO (dctOf S x) S).bind fun _ S => (evE Φ k ρ S).bind fun y S => (evE Φ e ρ S).bind fun z S => (ofO (lookS S x y) S).bind fun o S => .ok (o.getD z) S
  | .dlen d, ρ, S => (evE Φ d ρ S).bind fun x S => (ofO (dctOf S x) S).bind fun q S => if q.2.1 < 2 then .ok (.int q.2.2.length) S else .bad
  | .dpop d k, ρ, S => (evE Φ d ρ S).bind fun x S => (ofO (dctOf S x) S).bind fun _ S => (evE Φ k ρ S).bind fun y S => dpopF x y S
  | .xis a _ _ cs, ρ, S => (evE Φ a ρ S).bind fun x S => ofO (xisD cs x) S
  | .xfl a f cs, ρ, S => (evE Φ a ρ S).bind fun x S => ofO (xflD f cs x) S
  | .fld o f cs, ρ, S => (evE Φ o ρ S).bind fun x S => ofO (fldD S f cs x) S
  | .mcl o c m fn l, ρ, S => (evE Φ o ρ S).bind fun x S => (ofO (insD S c m x) S).bind fun _ S => (evL Φ l ρ S).bind fun ds S => (Φ fn).m (x :: ds) S
  | .mkI c fn l df, ρ, S => (evL Φ l ρ S).bind fun ds S => ((Φ fn).m (.ptr S.length :: (ds ++ df)) (S ++ [.ins c []])).bind fun d S1 => (ofO (asN d) S1).bind fun _ S1 => .ok (.ptr S.length) S1
  | .isc a c, ρ, S => (evE Φ a ρ S).bind fun x S => ofO (iscD S c x) S
  | .srt a, ρ, S => (evE Φ a ρ S).bind fun x S => (ofO (srtS S x) S).bind fun ds S => ofO (srtD ds) S
  | .dof k a, ρ, S => (evE Φ a ρ S).bind fun x S => dofF k x S
  | .ddpT, _, S => .ok (.ptr S.length) (S ++ [.dct 1 [(.tup [], .bl true)]])
  | .compK own elt t d c, ρ, S => match lckF S (evE Φ d ρ S) with
    | some (n, k, kvs) => unlE n k kvs ((evE Φ d ρ (S.set n (.dct (k + 2) kvs))).bind fun y S => if isPtr n y then compL [] (fun d S =>
      (ofO (bindT t d (wipeC ρ (own.map (·.2)))) S).bind fun ρ' S => (evC Φ c ρ' S).bind fun k S => if k then (evE Φ elt ρ' S).bind fun y S => .ok (some y) S else .ok none S) (kvs.map (·.1)) S [] else .bad)
    | none => .bad
  | .comp own elt t it c, ρ, S => (evI Φ it ρ S).bind fun w S => compL w.g (fun d S =>
      (ofO (bindT t d (wipeC ρ (own.map (·.2)))) S).bind fun ρ' S => (evC Φ c ρ' S).bind fun k S => if k then (evE Φ elt ρ' S).bind fun y S => .ok (some y) S else .ok none S) w.ds S []
noncomputable def evL (Φ : Nat → Fn) : CL → List Cell → Store → Res (List D)
  | .nil, _, S => .ok [] S
  | .cons a r, ρ, S => (evE Φ a ρ S).bind fun x S => (evL Φ r ρ S).bind fun xs S => .ok (x :: xs) S
/-- and, or: bools alone -/
noncomputable def evB (Φ : Nat → Fn) : Bool → CL → List Cell → Store → Res D
  | _, .nil, _, _ => .bad
  | n, .cons a r, ρ, S => (evE Φ a ρ S).bind fun x S => (ofO (asB x) S).bind fun k S =>
      match r with
      | .nil => .ok (.bl k) S
      | r => if k == n then evB Φ n r ρ S else .ok (.bl k) S
noncomputable def evO (Φ : Nat → Fn) : CO → List Cell → Store → Res (Option Int)
  | .no, _, S => .ok none S
  | .yes a, ρ, S => (evE Φ a ρ S).bind fun x S => (ofO (asI x) S).bind fun i S => .ok (some i) S
/-- a comprehension's test -/
noncomputable def evC (Φ : Nat → Fn) : CO → List Cell → Store → Res Bool
  | .no, _, S => .ok true S
  | .yes a, ρ, S => (evE Φ a ρ S).bind fun x S => ofO (asB x) S
/-- what is walked -/
noncomputable def evI (Φ : Nat → Fn) : CI → List Cell → Store → Res Wlk
  | .seq a, ρ, S => (evE Φ a ρ S).bind fun x S => (ofO (drf S x) S).bind fun y S => (ofO (seqOf y) S).bind fun ds S => .ok ⟨ds, grd S x⟩ S
  | .wlk w l, ρ, S => (evL Φ l ρ S).bind fun xs S => (ofO (drfs S xs) S).bind fun ys S => (ofO (wcD w ys) S).bind fun ds S => .ok ⟨ds, grds S xs⟩ S
end
/-- how a statement ends -/
inductive Flw where
  | nx (ρ : List Cell)
  | rt (fr : Bool) (d : D)
  | bk (ρ : List Cell)
  | ct (ρ : List Cell)
abbrev Out := Res Flw
/-- behind a loop's body: on, or out of the loop -/
def after (r : Out) (go : List Cell → Store → Out) : Out :=
  match r with
  | .ok (.nx ρ) S => go ρ S
  | .ok (.ct ρ) S => go ρ S
  | .ok (.bk ρ) S => .ok (.nx ρ) S
  | .ok (.rt fr d) S => .ok (.rt fr d) S
  | .err x S => .err x S
  | .bad => .bad
open Classical in
noncomputable def loopF (g : List (Nat × List D)) (body : D → List Cell → Store → Out) : List D → List Cell → Store → Out
  | [], ρ, S => if okG S g then .ok (.nx ρ) S else .bad
  | d :: ds, ρ, S => if okG S g then after (body d ρ S) (loopF g body ds) else .bad
def loopW (c : List Cell → Store → Res Bool) (body : List Cell → Store → Out) : Nat → List Cell → Store → Out
  | 0, _, _ => .bad
  | n + 1, ρ, S => (c ρ S).bind fun k S => if k then after (body ρ S) (loopW c body n) else .ok (.nx ρ) S
/-- 1: shared; 2: a new list -/
def kE (Φ : Nat → Fn) : CE → Nat
  | .var _ => 1
  | .idx _ _ => 1
  | .glb _ _ => 1
  | .pop0 _ => 1
  | .pop1 _ _ => 1
  | .new _ => 1
  | .ddpV _ => 1
  | .ddpI _ => 1
  | .dnew _ => 1
  | .didx _ _ => 1
  | .dget _ _ _ => 1
  | .dpop _ _ => 1
  | .xfl _ _ _ => 1
  | .fld _ _ _ => 1
  | .mcl _ _ _ fn _ => if (Φ fn).fr then 2 else 1
  | .mkI _ _ _ _ => 1
  | .dof _ _ => 1
  | .ddpT => 1
  | .call f _ => if (Φ f).fr then 2 else 1
  | .ife _ a b => min (kE Φ a) (kE Φ b)
  | _ => 2
def noLst : Flw → Bool
  | .rt _ (.lst _) => false
  | _ => true
open Classical in
/-- behind a walk over a dict's keys: it is free again -/
noncomputable def unlF (n k : Nat) (kvs : List (D × D)) : Out → Out
  | .ok f S => if S[n]? = some (.dct (k + 2) kvs) ∧ noLst f = true then .ok f (S.set n (.dct k kvs)) else .bad
  | _ => .bad
def setF (ρ : List Cell) (i : Nat) (c : Cell) (S : Store) : Out := .ok (.nx (ρ.set i c)) S
def setTF (ρ : List Cell) (t : Tg) (d : D) (S : Store) : Out :=
  match bindT t d ρ with
  | some ρ' => .ok (.nx ρ') S
  | none => .bad
def sipF (ρ : List Cell) (o : D) (d k : D) (S : Store) : Out :=
  match ltOf S o with
  | some p => (match k, S[p]? with
    | .int k, some (.lst ds) => match ixN ds.length k with
      | some n => .ok (.nx ρ) (S.set p (.lst (ds.set n d)))
      | none => .bad
    | _, _ => .bad)
  | none => .bad
noncomputable def dputF (ρ : List Cell) (d k v : D) (S : Store) : Out := match dctOf S d with
  | some (p, n, kvs) => if keyOk n k ∧ kvs.length < 16777216 then .ok (.nx ρ) (S.set p (.dct n (putD kvs k v))) else .bad
  | none => .bad
def fstF (ρ : List Cell) (x : D) (f : Str) (cs : List Str) (d : D) (S : Store) : Out := match x with
  | .ptr p => (match S[p]? with
    | some (.ins c fs) => if c ∈ cs ∧ fs.length < 900 then .ok (.nx ρ) (S.set p (.ins c (putS f d fs))) else .bad
    | _ => .bad)
  | _ => .bad
def appF (ρ : List Cell) (p : Nat) (d : D) (S : Store) : Out :=
  match S[p]? with
  | some (.lst ds) => if ds.length < 16777216 then .ok (.nx ρ) (S.set p (.lst (ds ++ [d]))) else .bad
  | _ => .bad
/-- a method's arguments: what extends is a list, by its pointer or not -/
def lmA (m : Lm) (S : Store) (as : List D) : Option (List D) := match m with
  | .extend => drfs S as
  | _ => some as
def mthF (m : Lm) (ρ : List Cell) (p : Nat) (as : List D) (S : Store) : Out :=
  match S[p]? with
  | some (.lst ds) => match lmA m S as with
    | some as => (match lmD m ds as with
      | some es => .ok (.nx ρ) (S.set p (.lst es))
      | none => .bad)
    | none => .bad
  | _ => .bad
def seqB (r : Out) (go : List Cell → Store → Out) : Out :=
  match r with
  | .ok (.nx ρ) S => go ρ S
  | o => o
/-- behind a suite: the error's name is gone -/
def unT (i : Nat) : Out → Out
  | .ok (.nx ρ) S => .ok (.nx (ρ.set i .u)) S
  | .ok (.bk ρ) S => .ok (.bk (ρ.set i .u)) S
  | .ok (.ct ρ) S => .ok (.ct (ρ.set i .u)) S
  | .ok (.rt fr d) S => .ok (.rt fr d) S
  | _ => .bad
/-- an error of a try's body -/
def tryF (r : Out) (h : Exn → Store → Out) : Out :=
  match r with
  | .err x S => h x S
  | r => r
mutual
noncomputable def evS (Φ : Nat → Fn) : CS → List Cell → Store → Out
  | .set i e, ρ, S => (evE Φ e ρ S).bind fun d S => setF ρ i (.sh d) S
  | .setT t e, ρ, S => (evE Φ e ρ S).bind fun d S => setTF ρ t d S
  | .exp e, ρ, S => (evE Φ e ρ S).bind fun _ S => .ok (.nx ρ) S
  | .app o e, ρ, S => (evE Φ o ρ S).bind fun x S => (ofO (ltOf S x) S).bind fun p S => (evE Φ e ρ S).bind fun d S => appF ρ p d S
  | .mth m o l, ρ, S => (evE Φ o ρ S).bind fun x S => (ofO (ltOf S x) S).bind fun p S => (evL Φ l ρ S).bind fun as S => mthF m ρ p as S
  | .sip o j e, ρ, S => (evE Φ e ρ S).bind fun d S => (evE Φ o ρ S).bind fun x S => (evE Φ j ρ S).bind fun k S => sipF ρ x d k S
  | .dput d k e, ρ, S => (evE Φ e ρ S).bind fun v S => (evE Φ d ρ S).bind fun x S => (evE Φ k ρ S).bind fun y S => dputF ρ x y v S
  | .fst o f cs e, ρ, S => (evE Φ e ρ S).bind fun d S => (evE Φ o ρ S).bind fun x S => fstF ρ x f cs d S
  | .ret e, ρ, S => (evE Φ e ρ S).bind fun d S => .ok (.rt (decide (2 ≤ kE Φ e)) d) S
  | .retN, _, S => .ok (.rt true .non) S
  | .ife c a b, ρ, S => (evE Φ c ρ S).bind fun x S => (ofO (asB x) S).bind fun k S => if k then evBk Φ a ρ S else evBk Φ b ρ S
  | .forK t e b, ρ, S => match lckF S (evE Φ e ρ S) with
    | some (n, k, kvs) => unlF n k kvs ((evE Φ e ρ (S.set n (.dct (k + 2) kvs))).bind fun y S => match y with
      | .ptr m => if m = n then loopF [] (fun d ρ S => seqB (setTF ρ t d S) (evBk Φ b)) (kvs.map (·.1)) ρ S else .bad
      | _ => .bad)
    | none => .bad
  | .forr t it b, ρ, S => (evI Φ it ρ S).bind fun w S => loopF w.g (fun d ρ S => seqB (setTF ρ t d S) (evBk Φ b)) w.ds ρ S
  | .whl n c b, ρ, S => loopW (fun ρ S => (evE Φ c ρ S).bind fun x S => ofO (asB x) S) (evBk Φ b) n ρ S
  | .rai x n l, ρ, S => (evL Φ l ρ S).bind fun ds S => if ds.length = n then .err ⟨x, ds⟩ S else .bad
  | .pas, ρ, S => .ok (.nx ρ) S
  | .brk, ρ, S => .ok (.bk ρ) S
  | .cnt, ρ, S => .ok (.ct ρ) S
  | .tryE b hs, ρ, S => tryF (evBk Φ b ρ S) fun x S => evHL Φ hs x (wipeC ρ (asgB b)) S
noncomputable def evBk (Φ : Nat → Fn) : CB → List Cell → Store → Out
  | .nil, ρ, S => .ok (.nx ρ) S
  | .cons s r, ρ, S => seqB (evS Φ s ρ S) (evBk Φ r)
noncomputable def evHL (Φ : Nat → Fn) : HL → Exn → List Cell → Store → Out
  | .nil, x, _, S => .err x S
  | .cons _ i cs b r, x, ρ, S => match cs.lookup x.cls with
    | some (true, fs) => unT i (evBk Φ b (ρ.set i (.sh (.exn x.cls fs (xaD fs x.args)))) S)
    | some (false, _) => evHL Φ r x ρ S
    | none => .bad
end
mutual
/-- no pointer but to the first n objects -/
def upD (n : Nat) : D → Bool
  | .lst ds => upDs n ds
  | .tup ds => upDs n ds
  | .exn _ _ ds => upDs n ds
  | .ptr m => decide (m < n)
  | _ => true
def upDs (n : Nat) : List D → Bool
  | [] => true
  | d :: ds => upD n d && upDs n ds
end
/-- the first objects stand as they stood, or point to one another alone -/
def oldP (S0 S : Store) : Prop := ∀ (i : Nat) (ob : Ob), i < S0.length → S[i]? = some ob → S0[i]? = some ob ∨ upDs S0.length ob.vals = true
open Classical in
/-- at a def's end what was made in the store since its entry leaves it, where nothing points to it; a list handed back by its pointer is that list -/
noncomputable def cutD (S0 : Store) (d : D) (S : Store) : Option (D × Store) :=
  if oldP S0 S then (match d with
    | .ptr p => if p < S0.length then some (.ptr p, S.take S0.length) else (match S[p]? with
      | some (.lst ds) => if upDs S0.length ds then some (.lst ds, S.take S0.length) else none
      | _ => none)
    | d => if upD S0.length d then some (d, S.take S0.length) else none)
  else none
/-- whether the list is new by that -/
def newB (n : Nat) : D → Bool
  | .ptr p => !decide (p < n)
  | _ => false
open Classical in
/-- a def's end -/
noncomputable def endD (fr : Bool) (S0 : Store) : Out → Res D
  | .ok (.nx _) S => .ok .non (if oldP S0 S then S.take S0.length else S)
  | .ok (.rt f d) S => match cutD S0 d S with
    | some (d', S') => if fr && !f && !newB S0.length d then .bad else .ok d' S'
    | none => if fr && !f then .bad else .ok d S
  | .err x S => if oldP S0 S ∧ upDs S0.length x.args = true then .err x (S.take S0.length) else .err x S
  | _ => .bad
/-- a def of np parameters and n slots -/
noncomputable def runDef (Φ : Nat → Fn) (fr : Bool) (np n : Nat) (b : CB) (ds : List D) (S : Store) : Res D :=
  if ds.length = np then endD fr S (evBk Φ b (ds.map .sh ++ List.replicate (n - ds.length) .u) S) else .bad
end RH

set_option Elab.async false
set_option linter.all false
set_option maxRecDepth 100000
/-! RHSnd1: what a run promises (spD), the readings tX, tT, tL of code, and the rules for expressions. -/
namespace RH
open PySem PySem.Spec PyProof.Rows L2

/-- exception classes by name: where the class stands, its fields' names -/
structure XT where
  cl : Str → Addr
  fl : Str → List Str
def XRep (E : XT) (K : PySem.W.Frag) (μ : List Addr) (W : Addr → Prop) (H : Hp) (x : Exn) (c : Value) (dd : Option Addr) : Prop :=
  c = .ref (E.cl x.cls) ∧ match E.fl x.cls with
    | [] => dd = none
    | fs => ∃ d vs, dd = some d ∧ H d = some (.xd (fs.zip vs).reverse) ∧ d ∉ μ ∧ Rps K μ W H x.args vs

/-- the store does not hold the list v -/
def NSt (K : PySem.W.Frag) (μ : List Addr) (W : Addr → Prop) (H : Hp) (S : Store) (d : D) (v : V) : Prop := ∀ ds a, d = .lst ds → v = .ref a → SOk K μ (fun b => W b ∨ b = a) H S
/-- k 2: a list is a new one -/
def RK (k : Nat) (K : PySem.W.Frag) (μ : List Addr) (W : Addr → Prop) (H0 H : Hp) (S : Store) (d : D) (v : V) : Prop := Rp K μ W H d v ∧ (2 ≤ k → Fsh K μ W H0 H d v ∧ NSt K μ W H S d v)
def RR (fr : Bool) (K : PySem.W.Frag) (μ : List Addr) (W : Addr → Prop) (H0 H : Hp) (S : Store) (d : D) (v : V) : Prop := Rp K μ W H d v ∧ (fr = true → Fsh K μ W H0 H d v ∧ NSt K μ W H S d v)
/-- the promise of a def -/
def spD (E : XT) (K : PySem.W.Frag) (f : Fn) : Sp := fun vs H Q X => ∃ (W : Addr → Prop) (μ : List Addr) (S : Store) (ds : List D), (∀ b, W b → H b ≠ none) ∧ SOk K μ W H S ∧ Rps K μ W H ds vs ∧
  match f.m ds S with
  | .ok d S' => ∀ v H' μ', Ext μ H H' → Gr μ H μ' → SOk K μ' W H' S' → RR f.fr K μ' W H H' S' d v → Q v H'
  | .err x S' => ∀ c dd H' μ', Ext μ H H' → Gr μ H μ' → SOk K μ' W H' S' → XRep E K μ' W H' x c dd → X c dd H'
  | .bad => False
section
variable {K : PySem.W.Frag} {μ μ' : List Addr} {W : Addr → Prop} {H0 H H' : Hp} {S : Store} {d : D} {v : V} {k : Nat}
theorem RK.w (h : RK k K μ W H0 H S d v) : Rw K μ W H d v := h.1.w
theorem RK.of (h : Rp K μ W H d v) (f : Fsh K μ W H0 H d v) (n : NSt K μ W H S d v) : RK k K μ W H0 H S d v := ⟨h, fun _ => ⟨f, n⟩⟩
theorem Fsh.back {H1 : Hp} (f : Fsh K μ' W H1 H' d v) (x : Ext μ H0 H1) (sub : ∀ b, b ∈ μ → b ∈ μ') : Fsh K μ' W H0 H' d v := fun ds e => by
  obtain ⟨a, vs, h1, h2, h3, h4, h5⟩ := f ds e
  exact ⟨a, vs, h1, x.free (fun z => h4 (sub a z)) h2, h3, h4, h5⟩
end

/-- the end of a run in a body: P for its result, EW for an error -/
def Fin (K : PySem.W.Frag) (E : XT) (EW : WX) (F : Fx) (σ : L2.St) (ρ : List Cell) {α : Type} (P : α → Store → List Addr → Hp → Prop) (μ : List Addr) (H : Hp) : Res α → Prop
  | .ok a S => P a S μ H
  | .err x S => ∀ c dd H' μ', Ext μ H H' → Gr μ H μ' → Bd K F μ' S σ ρ H' → XRep E K μ' F.W H' x c dd → EW c dd σ H'
  | .bad => False
/-- P can be asked later -/
def Tr {α : Type} (P : α → Store → List Addr → Hp → Prop) : Prop := ∀ a S μ H μ1 H1, P a S μ H → Ext μ H H1 → Gr μ H μ1 → P a S μ1 H1
section
variable {K : PySem.W.Frag} {E : XT} {EW : WX} {F : Fx} {σ : L2.St} {ρ : List Cell}
theorem Fin.later {α : Type} {P : α → Store → List Addr → Hp → Prop} {μ μ1 : List Addr} {H H1 : Hp} {r : Res α} (tr : Tr P) (h : Fin K E EW F σ ρ P μ H r) (x : Ext μ H H1) (g : Gr μ H μ1) : Fin K E EW F σ ρ P μ1 H1 r := by
  cases r with
  | ok a S => exact tr a S μ H μ1 H1 h x g
  | err y S => exact fun c dd H' μ' x' g' b r => h c dd H' μ' (x.trans g x') (g.trans x g') b r
  | bad => exact h
end
/-- what an expression's value is wanted for -/
def PE1 (K : PySem.W.Frag) (F : Fx) (σ : L2.St) (ρ : List Cell) (k : Nat) (Q : VK) : D → Store → List Addr → Hp → Prop := fun d S μ H =>
  ∀ v H' μ', Ext μ H H' → Gr μ H μ' → Bd K F μ' S σ ρ H' → RK k K μ' F.W H H' S d v → Q v H'
theorem PE1.tr {K : PySem.W.Frag} {F : Fx} {σ : L2.St} {ρ : List Cell} {k : Nat} {Q : VK} : Tr (PE1 K F σ ρ k Q) := fun d S μ H μ1 H1 h x g v H' μ' x' g' b r =>
  h v H' μ' (x.trans g x') (g.trans x g') b ⟨r.1, fun hk => ⟨(r.2 hk).1.back x (fun a ha => g'.sub a (g.sub a ha)), (r.2 hk).2⟩⟩
/-- the reading of an expression's code -/
def tX (K : PySem.W.Frag) (E : XT) (EW : WX) (k : Nat) (m : List Cell → Store → Res D) : TE := fun σ H Q => ∃ F μ S ρ, Bd K F μ S σ ρ H ∧ Fin K E EW F σ ρ (PE1 K F σ ρ k Q) μ H (m ρ S)
/-- .. of a test's -/
def PT1 (K : PySem.W.Frag) (F : Fx) (σ : L2.St) (ρ : List Cell) (Q : Bool → Hp → Prop) : Bool → Store → List Addr → Hp → Prop := fun b S μ H =>
  ∀ H' μ', Ext μ H H' → Gr μ H μ' → Bd K F μ' S σ ρ H' → Q b H'
theorem PT1.tr {K : PySem.W.Frag} {F : Fx} {σ : L2.St} {ρ : List Cell} {Q : Bool → Hp → Prop} : Tr (PT1 K F σ ρ Q) := fun d S μ H μ1 H1 h x g H' μ' x' g' b =>
  h H' μ' (x.trans g x') (g.trans x g') b
def tT (K : PySem.W.Frag) (E : XT) (EW : WX) (m : List Cell → Store → Res Bool) : TT := fun σ H Q => ∃ F μ S ρ, Bd K F μ S σ ρ H ∧ Fin K E EW F σ ρ (PT1 K F σ ρ Q) μ H (m ρ S)
/-- .. of arguments' -/
def PL1 (K : PySem.W.Frag) (F : Fx) (σ : L2.St) (ρ : List Cell) (Q : List V → Hp → Prop) : List D → Store → List Addr → Hp → Prop := fun ds S μ H =>
  ∀ vs H' μ', Ext μ H H' → Gr μ H μ' → Bd K F μ' S σ ρ H' → Rps K μ' F.W H' ds vs → Q vs H'
theorem PL1.tr {K : PySem.W.Frag} {F : Fx} {σ : L2.St} {ρ : List Cell} {Q : List V → Hp → Prop} : Tr (PL1 K F σ ρ Q) := fun d S μ H μ1 H1 h x g vs H' μ' x' g' b r =>
  h vs H' μ' (x.trans g x') (g.trans x g') b r
def tL (K : PySem.W.Frag) (E : XT) (EW : WX) (m : List Cell → Store → Res (List D)) : TA := fun σ H Q => ∃ F μ S ρ, Bd K F μ S σ ρ H ∧ Fin K E EW F σ ρ (PL1 K F σ ρ Q) μ H (m ρ S)
/-- .. of an optional int's -/
def PO1 (K : PySem.W.Frag) (F : Fx) (σ : L2.St) (ρ : List Cell) (Q : Option Int → Hp → Prop) : Option Int → Store → List Addr → Hp → Prop := fun i S μ H =>
  ∀ H' μ', Ext μ H H' → Gr μ H μ' → Bd K F μ' S σ ρ H' → Q i H'
def tO (K : PySem.W.Frag) (E : XT) (EW : WX) (m : List Cell → Store → Res (Option Int)) : TO := fun σ H Q => ∃ F μ S ρ, Bd K F μ S σ ρ H ∧ Fin K E EW F σ ρ (PO1 K F σ ρ Q) μ H (m ρ S)
section
variable {K : PySem.W.Frag} {E : XT} {EW : WX} {F : Fx} {σ : L2.St} {ρ : List Cell} {μ : List Addr} {S : Store} {H : Hp} {β : Type} {P : β → Store → List Addr → Hp → Prop}
theorem tX.bind {k : Nat} {m : List Cell → Store → Res D} {f : D → Store → Res β} {R : VK} (tr : Tr P) (B : Bd K F μ S σ ρ H) (h : Fin K E EW F σ ρ P μ H ((m ρ S).bind f))
    (hR : ∀ d S1 v H1 μ1, Ext μ H H1 → Gr μ H μ1 → Bd K F μ1 S1 σ ρ H1 → RK k K μ1 F.W H H1 S1 d v → Fin K E EW F σ ρ P μ1 H1 (f d S1) → R v H1) : tX K E EW k m σ H R := by
  refine ⟨F, μ, S, ρ, B, ?_⟩
  cases e : m ρ S with
  | ok d S1 =>
    rw [e] at h
    exact fun v H1 μ1 x g B1 r => hR d S1 v H1 μ1 x g B1 r (Fin.later tr h x g)
  | err y S1 => rw [e] at h; exact h
  | bad => rw [e] at h; exact h
theorem tT.bind {m : List Cell → Store → Res Bool} {f : Bool → Store → Res β} {R : Bool → Hp → Prop} (tr : Tr P) (B : Bd K F μ S σ ρ H) (h : Fin K E EW F σ ρ P μ H ((m ρ S).bind f))
    (hR : ∀ b S1 H1 μ1, Ext μ H H1 → Gr μ H μ1 → Bd K F μ1 S1 σ ρ H1 → Fin K E EW F σ ρ P μ1 H1 (f b S1) → R b H1) : tT K E EW m σ H R := by
  refine ⟨F, μ, S, ρ, B, ?_⟩
  cases e : m ρ S with
  | ok d S1 =>
    rw [e] at h
    exact fun H1 μ1 x g B1 => hR d S1 H1 μ1 x g B1 (Fin.later tr h x g)
  | err y S1 => rw [e] at h; exact h
  | bad => rw [e] at h; exact h
theorem tL.bind {m : List Cell → Store → Res (List D)} {f : List D → Store → Res β} {R : List V → Hp → Prop} (tr : Tr P) (B : Bd K F μ S σ ρ H) (h : Fin K E EW F σ ρ P μ H ((m ρ S).bind f))
    (hR : ∀ ds S1 vs H1 μ1, Ext μ H H1 → Gr μ H μ1 → Bd K F μ1 S1 σ ρ H1 → Rps K μ1 F.W H1 ds vs → Fin K E EW F σ ρ P μ1 H1 (f ds S1) → R vs H1) : tL K E EW m σ H R := by
  refine ⟨F, μ, S, ρ, B, ?_⟩
  cases e : m ρ S with
  | ok d S1 =>
    rw [e] at h
    exact fun v H1 μ1 x g B1 r => hR d S1 v H1 μ1 x g B1 r (Fin.later tr h x g)
  | err y S1 => rw [e] at h; exact h
  | bad => rw [e] at h; exact h
theorem tO.bind {m : List Cell → Store → Res (Option Int)} {f : Option Int → Store → Res β} {R : Option Int → Hp → Prop} (tr : Tr P) (B : Bd K F μ S σ ρ H) (h : Fin K E EW F σ ρ P μ H ((m ρ S).bind f))
    (hR : ∀ b S1 H1 μ1, Ext μ H H1 → Gr μ H μ1 → Bd K F μ1 S1 σ ρ H1 → Fin K E EW F σ ρ P μ1 H1 (f b S1) → R b H1) : tO K E EW m σ H R := by
  refine ⟨F, μ, S, ρ, B, ?_⟩
  cases e : m ρ S with
  | ok d S1 =>
    rw [e] at h
    exact fun H1 μ1 x g B1 => hR d S1 H1 μ1 x g B1 (Fin.later tr h x g)
  | err y S1 => rw [e] at h; exact h
  | bad => rw [e] at h; exact h
/-- an operation's end -/
theorem Fin.ofO {o : Option β} (h : Fin K E EW F σ ρ P μ H (ofO o S)) : ∃ b, o = some b ∧ P b S μ H := by
  cases o with
  | none => exact h.elim
  | some b => exact ⟨b, rfl, h⟩
theorem Bd.dm (B : Bd K F μ S σ ρ H) : Dm μ F.W H := ⟨fun b z => B.dom b z, fun b hb z => by
  obtain ⟨vs, e, _⟩ := B.st.there b hb
  rw [e] at z; cases z⟩
/-- a value made of what stands -/
theorem PE1.po {k : Nat} {Q : VK} {d : D} (B : Bd K F μ S σ ρ H) (h : PE1 K F σ ρ k Q d S μ H) : Po K μ F.W H d Q := fun v H' s r f =>
  h v H' μ (.of_same s) .refl (B.same s) (.of r f fun ds a e e' => by
    obtain ⟨a', vs, h1, h2, h3, _⟩ := f ds e
    subst e'
    cases h1
    exact B.st.keep (fun b o h _ => s b o h) (.of_same s) fun b hb z => by
      rcases z with z | z
      · exact z
      · subst z; exact absurd h2 hb)
/-- a value that stands -/
theorem PE1.rp {k : Nat} {Q : VK} {d : D} {v : V} (B : Bd K F μ S σ ρ H) (h : PE1 K F σ ρ k Q d S μ H) (hk : k < 2) (r : Rp K μ F.W H d v) : Q v H :=
  h v H μ .refl .refl B ⟨r, fun z => by omega⟩
end

/-! ### judgements weakened -/
section
variable {X : Cx} {e : Expr}
theorem _root_.L2.PE.imp {t t' : TE} (h : PE X e t) (i : ∀ σ H Q, t' σ H Q → t σ H Q) : PE X e t' := ⟨fun pins s σ H Q I q => h.run pins s σ H Q I (i σ H Q q)⟩
theorem _root_.L2.PT.imp {t t' : TT} (h : PT X e t) (i : ∀ σ H Q, t' σ H Q → t σ H Q) : PT X e t' := ⟨fun pins s σ H Q I q => h.run pins s σ H Q I (i σ H Q q)⟩
theorem _root_.L2.PW.imp {t t' : TT} (h : PW X e t) (i : ∀ σ H Q, t' σ H Q → t σ H Q) : PW X e t' := ⟨fun w pins s σ H Q I q => h.run w pins s σ H Q I (i σ H Q q)⟩
theorem _root_.L2.PA.imp {es : List Expr} {t t' : TA} (h : PA X es t) (i : ∀ σ H Q, t' σ H Q → t σ H Q) : PA X es t' := ⟨fun p pins s σ H Q I q => h.run p pins s σ H Q I (i σ H Q q)⟩
theorem _root_.L2.PO.imp {o : Option Expr} {t t' : TO} (h : PO X o t) (i : ∀ σ H Q, t' σ H Q → t σ H Q) : PO X o t' := ⟨fun pins s σ H Q I q => h.run pins s σ H Q I (i σ H Q q)⟩
theorem _root_.L2.PI.imp {tg it : Expr} {t t' : TI} (h : PI X tg it t) (i : ∀ σ H Q, t' σ H Q → t σ H Q) : PI X tg it t' := ⟨fun pins s σ H Q I q => h.run pins s σ H Q I (i σ H Q q)⟩
theorem _root_.L2.PI.or {tg it : Expr} {t t' : TI} (h : PI X tg it t) (h' : PI X tg it t') : PI X tg it (fun σ H Q => t σ H Q ∨ t' σ H Q) := ⟨fun pins s σ H Q I q => by
  rcases q with q | q
  · exact h.run pins s σ H Q I q
  · exact h'.run pins s σ H Q I q⟩
theorem _root_.L2.PS.imp {st : Stmt} {t t' : TS} (h : PS X st t) (i : ∀ D σ H, t' D σ H → t D σ H) : PS X st t' := ⟨fun pins s σ H D I q => h.run pins s σ H D I (i D σ H q)⟩
theorem _root_.L2.PSs.imp {st : List Stmt} {t t' : TS} (h : PSs X st t) (i : ∀ D σ H, t' D σ H → t D σ H) : PSs X st t' := ⟨fun pins s σ H D I q => h.run pins s σ H D I (i D σ H q)⟩
end
end RH

set_option Elab.async false
set_option linter.all false
set_option maxRecDepth 100000
/-! RHSnd2: one rule for each form of expression. -/
namespace RH
open PySem PySem.Spec PyProof.Rows L2
section
variable {X : Cx} {E : XT} {EW : WX} {Φ : Nat → Fn} {pos : Pos}
theorem s_var {i : Nat} {x : Str} (hN : X.N[i]? = some x) (hv : Vis X.env.scope x) (hd : (x == ("__debug__" : Str)) = false) (hcd : (x == ("__classdict__" : Str)) = false) : PE X (.Name x pos) (tX X.K E EW 1 (evE Φ (.var i))) := by
  refine (pe_var hN hv hd hcd).imp fun σ H Q h => ?_
  obtain ⟨F, μ, S, ρ, B, h⟩ := h
  simp only [evE] at h
  split at h
  · rename_i d e
    obtain ⟨v, h1, h2⟩ := B.slot i _ e
    exact ⟨v, h1, PE1.rp B h (by decide) h2⟩
  · exact h.elim
theorem s_val {e : Expr} {d : D} {v : V} {c : CE} {k : Nat} (h : PE X e (tC v)) (he : ∀ ρ S, evE Φ c ρ S = .ok d S) (hr : ∀ μ W H, Rp X.K μ W H d v) (hk : k < 2 ∨ ∀ ds, d ≠ .lst ds) : PE X e (tX X.K E EW k (evE Φ c)) := by
  refine h.imp fun σ H Q h => ?_
  obtain ⟨F, μ, S, ρ, B, h⟩ := h
  rw [he] at h
  refine h _ _ _ .refl .refl B ⟨hr _ _ _, fun z => ?_⟩
  rcases hk with hk | hk
  · omega
  · exact ⟨.triv hk, fun ds a e => absurd e (hk ds)⟩
theorem drf_rw {K : PySem.W.Frag} {F : Fx} {μ : List Addr} {S : Store} {σ : L2.St} {ρ : List Cell} {H : Hp} {d d' : D} {v : V} (B : Bd K F μ S σ ρ H) (rd : Rp K μ F.W H d v) (hd : drf S d = some d') : Rw K μ F.W H d' v := by
  unfold drf at hd
  split at hd
  · split at hd
    · rename_i ds hn
      cases hd
      obtain ⟨p, rfl, hp⟩ := rd.w.ptr
      obtain ⟨_, vs, e1, rfl, e2⟩ := B.st.at_ _ p _ hp hn
      exact .inr ⟨p, vs, ds, rfl, rfl, e1, e2⟩
    · cases hd
  · cases hd; exact rd.w
theorem Res.ofO_some {α β : Type} {a : α} {S : Store} {f : α → Store → Res β} : (ofO (some a) S).bind f = f a S := rfl
theorem s_bin {o : Bop} {a b : Expr} {ca cb : CE} {ka kb k : Nat} (ha : PE X a (tX X.K E EW ka (evE Φ ca))) (hb : PE X b (tX X.K E EW kb (evE Φ cb))) : PE X (.BinOp a o.op b pos) (tX X.K E EW k (evE Φ (.bin o ca cb))) := by
  obtain ⟨r, hr, hq⟩ := bin_ok (X := X) o
  refine (pe_op hr ha hb).imp fun σ H Q h => ?_
  obtain ⟨F, μ, S, ρ, B, h⟩ := h
  simp only [evE] at h
  refine tX.bind PE1.tr B h fun d S1 v H1 μ1 x1 g1 B1 r1 h => ?_
  refine tX.bind PE1.tr B1 h fun e S2 u H2 μ2 x2 g2 B2 r2 h => ?_
  cases hd : drf S2 d with
  | none => rw [hd] at h; exact h.elim
  | some d' =>
    rw [hd] at h
    cases he : drf S2 e with
    | none => rw [Res.ofO_some, he] at h; exact h.elim
    | some e' =>
      rw [Res.ofO_some, he] at h
      obtain ⟨z, hz, h⟩ := Fin.ofO (show Fin X.K E EW F σ ρ _ μ2 H2 (ofO (binD o d' e') S2) from h)
      exact hq μ2 _ H2 d' e' z v u Q hz B2.dm (drf_rw B2 (r1.1.ext' x2 g2) hd) (drf_rw B2 r2.1 he) (h.po B2)
theorem s_neg {a : Expr} {ca : CE} {ka k : Nat} (ha : PE X a (tX X.K E EW ka (evE Φ ca))) : PE X (.UnaryOp .USub a pos) (tX X.K E EW k (evE Φ (.neg ca))) := by
  refine (pe_un un_neg ha).imp fun σ H Q h => ?_
  obtain ⟨F, μ, S, ρ, B, h⟩ := h
  simp only [evE] at h
  refine tX.bind PE1.tr B h fun d S1 v H1 μ1 x1 g1 B1 r1 h => ?_
  obtain ⟨z, hz, h⟩ := Fin.ofO h
  cases d <;> simp [asI] at hz
  subst hz
  cases r1.w.int
  exact ⟨_, rfl, (h.po B1).val (.int _)⟩
theorem drfs_rws {K : PySem.W.Frag} {F : Fx} {μ : List Addr} {S : Store} {σ : L2.St} {ρ : List Cell} {H : Hp} (B : Bd K F μ S σ ρ H) : ∀ {ds ds' : List D} {vs : List V}, Rps K μ F.W H ds vs → drfs S ds = some ds' → Rws K μ F.W H ds' vs
  | _, _, _, .nil, h => by cases h; exact .nil
  | d :: ds, ds', _, .cons r rs, h => by
    unfold drfs at h
    cases e1 : drf S d with
    | none => rw [e1] at h; cases h
    | some d' =>
      cases e2 : drfs S ds with
      | none => rw [e1, e2] at h; cases h
      | some es =>
        rw [e1, e2] at h
        cases h
        exact .cons (drf_rw B r e1) (drfs_rws B rs e2)
theorem cmpS_rw {K : PySem.W.Frag} {F : Fx} {μ : List Addr} {S : Store} {σ : L2.St} {ρ : List Cell} {H : Hp} {o : Cop} {d e z : D} {v u : V} (B : Bd K F μ S σ ρ H) (rd : Rp K μ F.W H d v) (re : Rp K μ F.W H e u) (h : cmpS S o d e = some z) :
    ∃ d' e', cmpD o d' e' = some z ∧ Rw K μ F.W H d' v ∧ Rw K μ F.W H e' u := by
  unfold cmpS at h
  split at h
  · exact ⟨d, e, h, rd.w, re.w⟩
  · cases e1 : drf S d with
    | none => rw [e1] at h; cases h
    | some d' =>
      cases e2 : drf S e with
      | none => rw [e1, e2] at h; cases h
      | some e' =>
        rw [e1, e2] at h
        exact ⟨d', e', h, drf_rw B rd e1, drf_rw B re e2⟩
theorem s_cmp (hu : X.A.units + 65 < cLine) {o : Cop} {a b : Expr} {ca cb : CE} {ka kb k : Nat} (ha : PE X a (tX X.K E EW ka (evE Φ ca))) (hb : PE X b (tX X.K E EW kb (evE Φ cb))) (hm : behindInMarks o.op b = false) : PE X (.Compare a [o.op] [b] pos) (tX X.K E EW k (evE Φ (.cmp o ca cb))) := by
  obtain ⟨r, hr, hq⟩ := cmp_ok (X := X) hu o
  refine (pe_cmpR hr ha hb hm).imp fun σ H Q h => ?_
  obtain ⟨F, μ, S, ρ, B, h⟩ := h
  simp only [evE] at h
  refine tX.bind PE1.tr B h fun d S1 v H1 μ1 x1 g1 B1 r1 h => ?_
  refine tX.bind PE1.tr B1 h fun e S2 u H2 μ2 x2 g2 B2 r2 h => ?_
  obtain ⟨z, hz, h⟩ := Fin.ofO h
  obtain ⟨d', e', hz, ra, rb⟩ := cmpS_rw B2 (r1.1.ext' x2 g2) r2.1 hz
  exact hq μ2 _ H2 d' e' z v u Q hz B2.dm ra rb (h.po B2)
theorem s_inG {n : Bool} {a e2 : Expr} {ca : CE} {ka k : Nat} {ds : List D} {b : Addr} {vs : List V} (hn : PE X e2 (tC (.ref b))) (hs : ∀ H, SqT X.K H b vs) (hr : ∀ μ W H, Rps X.K μ W H ds vs) (hd : ds.all flatD = true) (ha : PE X a (tX X.K E EW ka (evE Φ ca))) (hm : behindInMarks (if n then CmpOp.NotIn else .In) e2 = false) : PE X (.Compare a [if n then CmpOp.NotIn else .In] [e2] pos) (tX X.K E EW k (evE Φ (.inG n ca ds))) := by
  have op : OpR X (compareOp (if n then CmpOp.NotIn else .In)) (rIn X.K n) := by cases n; exact op_in_seq; exact op_notIn_seq
  refine (pe_cmpR op ha hn hm).imp fun σ H Q h => ?_
  obtain ⟨F, μ, S, ρ, B, h⟩ := h
  simp only [evE] at h
  refine tX.bind PE1.tr B h fun d S1 v H1 μ1 x1 g1 B1 r1 h => ?_
  obtain ⟨z, hz, h⟩ := Fin.ofO h
  split at hz
  · rename_i hf
    cases hz
    refine ⟨b, vs, rfl, .inr (hs _), flat_rp r1.1 hf, flat_all (hr μ1 F.W H1) hd, ?_⟩
    have e : inV v vs = ds.any fun z => eqb z d := by rw [inV, flat_any r1.1 hf (hr μ1 F.W H1) hd]
    have e2 : (if n then !inV v vs else inV v vs) = ((ds.any fun z => eqb z d) != n) := by rw [e]; cases n <;> simp
    rw [e2]
    exact (h.po B1).val (.bl _)
  · cases hz
theorem cmpD_bl {o : Cop} {d e z : D} (h : cmpD o d e = some z) : ∃ b, z = .bl b ∧ cmpB o d e = some b := by
  unfold cmpD at h
  obtain ⟨b, h1, rfl⟩ := Option.map_eq_some_iff.mp h
  exact ⟨b, rfl, h1⟩
/-- the test's run of a code -/
noncomputable def evT (Φ : Nat → Fn) (c : CE) (ρ : List Cell) (S : Store) : Res Bool := (evE Φ c ρ S).bind fun x S => ofO (asB x) S
theorem Res.bind_assoc {α β γ : Type} (r : Res α) (f : α → Store → Res β) (g : β → Store → Res γ) : (r.bind f).bind g = r.bind fun a S => (f a S).bind g := by cases r <;> rfl
theorem s_cmpT (hu : X.A.units + 65 < cLine) {o : Cop} {a b : Expr} {ca cb : CE} {ka kb : Nat} (ha : PE X a (tX X.K E EW ka (evE Φ ca))) (hb : PE X b (tX X.K E EW kb (evE Φ cb))) (hm : behindInMarks o.op b = false) : PT X (.Compare a [o.op] [b] pos) (tT X.K E EW (evT Φ (.cmp o ca cb))) := by
  obtain ⟨r, hr, hq⟩ := cmp_ok (X := X) hu o
  refine (pt_cmpR hr ha hb hm).imp fun σ H Q h => ?_
  obtain ⟨F, μ, S, ρ, B, h⟩ := h
  simp only [evT, evE, Res.bind_assoc] at h
  refine tX.bind PT1.tr B h fun d S1 v H1 μ1 x1 g1 B1 r1 h => ?_
  refine tX.bind PT1.tr B1 h fun e S2 u H2 μ2 x2 g2 B2 r2 h => ?_
  cases hz : cmpS S2 o d e with
  | none => rw [hz] at h; exact h.elim
  | some z =>
    rw [hz] at h
    obtain ⟨d', e', hz, ra, rb⟩ := cmpS_rw B2 (r1.1.ext' x2 g2) r2.1 hz
    obtain ⟨k, rfl, _⟩ := cmpD_bl hz
    refine hq μ2 _ H2 d' e' _ v u _ hz B2.dm ra rb (fun v H' s r f => ?_)
    cases r
    exact ⟨k, rfl, h H' μ2 (.of_same s) .refl (B2.same s)⟩
theorem s_inGT {n : Bool} {a e2 : Expr} {ca : CE} {ka : Nat} {ds : List D} {b : Addr} {vs : List V} (hn : PE X e2 (tC (.ref b))) (hs : ∀ H, SqT X.K H b vs) (hr : ∀ μ W H, Rps X.K μ W H ds vs) (hd : ds.all flatD = true) (ha : PE X a (tX X.K E EW ka (evE Φ ca))) (hm : behindInMarks (if n then CmpOp.NotIn else .In) e2 = false) : PT X (.Compare a [if n then CmpOp.NotIn else .In] [e2] pos) (tT X.K E EW (evT Φ (.inG n ca ds))) := by
  have op : OpR X (compareOp (if n then CmpOp.NotIn else .In)) (rIn X.K n) := by cases n; exact op_in_seq; exact op_notIn_seq
  refine (pt_cmpR op ha hn hm).imp fun σ H Q h => ?_
  obtain ⟨F, μ, S, ρ, B, h⟩ := h
  simp only [evT, evE, Res.bind_assoc] at h
  refine tX.bind PT1.tr B h fun d S1 v H1 μ1 x1 g1 B1 r1 h => ?_
  by_cases hf : flatD d = true
  · rw [if_pos hf] at h
    refine ⟨b, vs, rfl, .inr (hs _), flat_rp r1.1 hf, flat_all (hr μ1 F.W H1) hd, ?_⟩
    have e : inV v vs = ds.any fun z => eqb z d := by rw [inV, flat_any r1.1 hf (hr μ1 F.W H1) hd]
    have e2 : (if n then !inV v vs else inV v vs) = ((ds.any fun z => eqb z d) != n) := by rw [e]; cases n <;> simp
    rw [e2]
    exact ⟨_, rfl, h H1 μ1 .refl .refl B1⟩
  · rw [if_neg hf] at h
    exact h.elim
theorem s_chn (hu : X.A.units + 65 < cLine) {o o' : Cop} {a b c : Expr} {ca cb cc : CE} {ka kb kc k : Nat} (ha : PE X a (tX X.K E EW ka (evE Φ ca))) (hb : PE X b (tX X.K E EW kb (evE Φ cb))) (hc : PE X c (tX X.K E EW kc (evE Φ cc))) (hm : lastMarks [o.op, o'.op] [b, c] = false) :
    PE X (.Compare a [o.op, o'.op] [b, c] pos) (tX X.K E EW k (evE Φ (.chn o o' ca cb cc))) := by
  obtain ⟨r, hr, hq⟩ := cmp_ok (X := X) hu o
  obtain ⟨r', hr', hq'⟩ := cmp_ok (X := X) hu o'
  refine (pe_chain hr hr' ha hb hc hm).imp fun σ H Q h => ?_
  obtain ⟨F, μ, S, ρ, B, h⟩ := h
  simp only [evE] at h
  refine tX.bind PE1.tr B h fun d S1 v H1 μ1 x1 g1 B1 r1 h => ?_
  refine tX.bind PE1.tr B1 h fun e S2 u H2 μ2 x2 g2 B2 r2 h => ?_
  cases hz : cmpB o d e with
  | none => rw [hz] at h; exact h.elim
  | some kk =>
    rw [hz] at h
    refine hq μ2 _ H2 d e (.bl kk) v u _ (by unfold cmpD; rw [hz]; rfl) B2.dm (r1.1.ext' x2 g2).w r2.w (fun w H3 s r f => ?_)
    cases r
    refine ⟨kk, rfl, ?_⟩
    have B3 := B2.same s
    have x3 : Ext μ2 H2 H3 := .of_same s
    cases kk with
    | false =>
      have h : PE1 X.K F σ ρ k Q (.bl false) S2 μ2 H2 := h
      rw [if_neg (by decide)]
      exact ((PE1.tr _ _ _ _ _ _ h x3 .refl).po B3).val (.bl _)
    | true =>
      have h : Fin X.K E EW F σ ρ (PE1 X.K F σ ρ k Q) μ2 H2 ((evE Φ cc ρ S2).bind fun z S => ofO (cmpD o' e z) S) := h
      rw [if_pos rfl]
      refine tX.bind PE1.tr B3 (Fin.later PE1.tr h x3 .refl) fun y S4 w H4 μ4 x4 g4 B4 r4 h => ?_
      obtain ⟨z, hz, h⟩ := Fin.ofO h
      exact hq' μ4 _ H4 e y z u w Q hz B4.dm ((r2.1.ext' x3 .refl).ext' x4 g4).w r4.w (h.po B4)
theorem s_chnT (hu : X.A.units + 65 < cLine) {o o' : Cop} {a b c : Expr} {ca cb cc : CE} {ka kb kc : Nat} (ha : PE X a (tX X.K E EW ka (evE Φ ca))) (hb : PE X b (tX X.K E EW kb (evE Φ cb))) (hc : PE X c (tX X.K E EW kc (evE Φ cc))) (hm : lastMarks [o.op, o'.op] [b, c] = false) :
    PT X (.Compare a [o.op, o'.op] [b, c] pos) (tT X.K E EW (evT Φ (.chn o o' ca cb cc))) := by
  obtain ⟨r, hr, hq⟩ := cmp_ok (X := X) hu o
  obtain ⟨r', hr', hq'⟩ := cmp_ok (X := X) hu o'
  refine (pt_chain hr hr' ha hb hc hm).imp fun σ H Q h => ?_
  obtain ⟨F, μ, S, ρ, B, h⟩ := h
  simp only [evT, evE, Res.bind_assoc] at h
  refine tX.bind PT1.tr B h fun d S1 v H1 μ1 x1 g1 B1 r1 h => ?_
  refine tX.bind PT1.tr B1 h fun e S2 u H2 μ2 x2 g2 B2 r2 h => ?_
  cases hz : cmpB o d e with
  | none => rw [hz] at h; exact h.elim
  | some kk =>
    rw [hz] at h
    refine hq μ2 _ H2 d e (.bl kk) v u _ (by unfold cmpD; rw [hz]; rfl) B2.dm (r1.1.ext' x2 g2).w r2.w (fun w H3 s r f => ?_)
    cases r
    refine ⟨kk, rfl, ?_⟩
    have B3 := B2.same s
    have x3 : Ext μ2 H2 H3 := .of_same s
    cases kk with
    | false =>
      have h : PT1 X.K F σ ρ Q false S2 μ2 H2 := h
      rw [if_neg (by decide)]
      exact ⟨false, rfl, h H3 μ2 x3 .refl B3⟩
    | true =>
      have h : Fin X.K E EW F σ ρ (PT1 X.K F σ ρ Q) μ2 H2 (((evE Φ cc ρ S2).bind fun z S => ofO (cmpD o' e z) S).bind fun x S => ofO (asB x) S) := h
      rw [if_pos rfl]
      rw [Res.bind_assoc] at h
      refine tX.bind PT1.tr B3 (Fin.later PT1.tr h x3 .refl) fun y S4 w H4 μ4 x4 g4 B4 r4 h => ?_
      cases hz : cmpD o' e y with
      | none => rw [hz] at h; exact h.elim
      | some z =>
        obtain ⟨k, rfl, _⟩ := cmpD_bl hz
        rw [hz] at h
        refine hq' μ4 _ H4 e y _ u w _ hz B4.dm ((r2.1.ext' x3 .refl).ext' x4 g4).w r4.w (fun v H' s r f => ?_)
        cases r
        exact ⟨k, rfl, h H' μ4 (.of_same s) .refl (B4.same s)⟩
/-- a test by its value -/
theorem s_test {e : Expr} {c : CE} {k : Nat} (h : PE X e (tX X.K E EW k (evE Φ c))) (he : ∀ whole, isTrue e X.env whole = (do let v ← whole; standAt e.pos; holding [v] (truthy v))) : PT X e (tT X.K E EW (evT Φ c)) := by
  refine (pt_val h he).imp fun σ H Q h => ?_
  obtain ⟨F, μ, S, ρ, B, h⟩ := h
  simp only [evT] at h
  refine tX.bind PT1.tr B h fun d S1 v H1 μ1 x1 g1 B1 r1 h => ?_
  obtain ⟨b, hb, h⟩ := Fin.ofO h
  cases d <;> simp [asB] at hb
  subst hb
  cases r1.w.bl
  exact ⟨_, rfl, h _ _ .refl .refl B1⟩
theorem s_nt {a : Expr} {ca : CE} {ka k : Nat} (ha : PE X a (tX X.K E EW ka (evE Φ ca))) : PE X (.UnaryOp .Not a pos) (tX X.K E EW k (evE Φ (.nt ca))) := by
  refine (pe_not ha).imp fun σ H Q h => ?_
  obtain ⟨F, μ, S, ρ, B, h⟩ := h
  simp only [evE] at h
  refine tX.bind PE1.tr B h fun d S1 v H1 μ1 x1 g1 B1 r1 h => ?_
  obtain ⟨z, hz, h⟩ := Fin.ofO h
  cases d <;> simp [asB] at hz
  subst hz
  cases r1.w.bl
  exact ⟨_, rfl, (h.po B1).val (.bl _)⟩
theorem s_ntT {a : Expr} {ca : CE} (ha : PT X a (tT X.K E EW (evT Φ ca))) : PT X (.UnaryOp .Not a pos) (tT X.K E EW (evT Φ (.nt ca))) := by
  refine (pt_not ha).imp fun σ H Q h => ?_
  obtain ⟨F, μ, S, ρ, B, h⟩ := h
  have e : evT Φ (.nt ca) ρ S = (evT Φ ca ρ S).bind fun b S => .ok (!b) S := by
    simp only [evT, evE, Res.bind_assoc]
    cases evE Φ ca ρ S with
    | ok d S1 => cases d <;> rfl
    | err _ _ => rfl
    | bad => rfl
  rw [e] at h
  refine tT.bind PT1.tr B h fun b S1 H1 μ1 x1 g1 B1 h => ?_
  exact h _ _ .refl .refl B1
theorem s_ife {c a b : Expr} {cc ca cb : CE} {ka kb k : Nat} (hc : PT X c (tT X.K E EW (evT Φ cc))) (ha : PE X a (tX X.K E EW ka (evE Φ ca))) (hb : PE X b (tX X.K E EW kb (evE Φ cb))) (hka : k ≤ ka) (hkb : k ≤ kb) : PE X (.IfExp c a b pos) (tX X.K E EW k (evE Φ (.ife cc ca cb))) := by
  refine (pe_ifExp hc ha hb).imp fun σ H Q h => ?_
  obtain ⟨F, μ, S, ρ, B, h⟩ := h
  have e : evE Φ (.ife cc ca cb) ρ S = (evT Φ cc ρ S).bind fun k S => if k then evE Φ ca ρ S else evE Φ cb ρ S := by simp only [evT, evE, Res.bind_assoc]
  rw [e] at h
  refine tT.bind PE1.tr B h fun b S1 H1 μ1 x1 g1 B1 h => ?_
  have wk : ∀ {k' : Nat} {r : Res D}, k ≤ k' → Fin X.K E EW F σ ρ (PE1 X.K F σ ρ k Q) μ1 H1 r → Fin X.K E EW F σ ρ (PE1 X.K F σ ρ k' Q) μ1 H1 r := fun {k' r} hk h => by
    cases r with
    | ok d S => exact fun v H' μ' x g b r => h v H' μ' x g b ⟨r.1, fun z => r.2 (by omega)⟩
    | err _ _ => exact h
    | bad => exact h
  cases b with
  | true => rw [if_pos rfl]; rw [if_pos rfl] at h; exact ⟨F, μ1, S1, ρ, B1, wk hka h⟩
  | false => rw [if_neg (by decide)]; rw [if_neg (by decide)] at h; exact ⟨F, μ1, S1, ρ, B1, wk hkb h⟩
/-! arguments -/
theorem s_nil : PA X [] (tL X.K E EW (evL Φ .nil)) := by
  refine pa_nil.imp fun σ H Q h => ?_
  obtain ⟨F, μ, S, ρ, B, h⟩ := h
  exact h _ _ _ .refl .refl B .nil
theorem s_cons {e : Expr} {es : List Expr} {c : CE} {r : CL} {k : Nat} (he : PE X e (tX X.K E EW k (evE Φ c))) (hr : PA X es (tL X.K E EW (evL Φ r))) (hs : starEach (e :: es) X.env = (false, eval e X.env) :: starEach es X.env) :
    PA X (e :: es) (tL X.K E EW (evL Φ (.cons c r))) := by
  refine (pa_cons he hr hs).imp fun σ H Q h => ?_
  obtain ⟨F, μ, S, ρ, B, h⟩ := h
  simp only [evL] at h
  refine tX.bind PL1.tr B h fun d S1 v H1 μ1 x1 g1 B1 r1 h => ?_
  refine tL.bind PL1.tr B1 h fun ds S2 vs H2 μ2 x2 g2 B2 r2 h => ?_
  exact h _ _ _ .refl .refl B2 (.cons (r1.1.ext' x2 g2) r2)
theorem s_tup {l : CL} {es : List Expr} {x1 k : Nat} (h : PA X es (tL X.K E EW (evL Φ l))) : PE X (.Tuple es x1 pos) (tX X.K E EW k (evE Φ (.tup l))) := by
  refine (pe_tup h).imp fun σ H Q h => ?_
  obtain ⟨F, μ, S, ρ, B, h⟩ := h
  simp only [evE] at h
  refine tL.bind PE1.tr B h fun ds S1 vs H1 μ1 x1 g1 B1 r1 h => ?_
  split at h
  · rename_i hl
    exact ⟨by rw [sizeLine_eq, ← r1.length]; exact hl, (PE1.po B1 h).newT r1⟩
  · exact h.elim
theorem s_lst {l : CL} {es : List Expr} {k : Nat} (h : PA X es (tL X.K E EW (evL Φ l))) : PE X (.List es pos) (tX X.K E EW k (evE Φ (.lst l))) := by
  refine (pe_lst h).imp fun σ H Q h => ?_
  obtain ⟨F, μ, S, ρ, B, h⟩ := h
  simp only [evE] at h
  refine tL.bind PE1.tr B h fun ds S1 vs H1 μ1 x1 g1 B1 r1 h => ?_
  split at h
  · rename_i hl
    exact ⟨by rw [sizeLine_eq, ← r1.length]; exact hl, (PE1.po B1 h).newL B1.dm r1⟩
  · exact h.elim
theorem s_idx {a b : Expr} {ca cb : CE} {ka kb k : Nat} (hk : k < 2) (ha : PE X a (tX X.K E EW ka (evE Φ ca))) (hb : PE X b (tX X.K E EW kb (evE Φ cb))) (hs : PlainIx b) : PE X (.Subscript a b pos) (tX X.K E EW k (evE Φ (.idx ca cb))) := by
  obtain ⟨r, hr, hq⟩ := ix_ok (X := X)
  refine (pe_ix hr ha hb hs).imp fun σ H Q h => ?_
  obtain ⟨F, μ, S, ρ, B, h⟩ := h
  simp only [evE] at h
  refine tX.bind PE1.tr B h fun d S1 v H1 μ1 x1 g1 B1 r1 h => ?_
  refine tX.bind PE1.tr B1 h fun e S2 u H2 μ2 x2 g2 B2 r2 h => ?_
  cases hd : drf S2 d with
  | none => rw [hd] at h; exact h.elim
  | some d' =>
    rw [hd] at h
    obtain ⟨z, hz, h⟩ := Fin.ofO (show Fin X.K E EW F σ ρ _ μ2 H2 (ofO (idxD d' e) S2) from h)
    refine hq μ2 F.W H2 d' e z v u Q hz ?_ r2.w (fun w rw => PE1.rp B2 h hk rw)
    exact drf_rw B2 (r1.1.ext' x2 g2) hd
theorem s_no : PO X none (tO X.K E EW (evO Φ .no)) := by
  refine po_none.imp fun σ H Q h => ?_
  obtain ⟨F, μ, S, ρ, B, h⟩ := h
  exact h _ _ .refl .refl B
theorem PO1.tr {K : PySem.W.Frag} {F : Fx} {σ : L2.St} {ρ : List Cell} {Q : Option Int → Hp → Prop} : Tr (PO1 K F σ ρ Q) := fun d S μ H μ1 H1 h x g H' μ' x' g' b =>
  h H' μ' (x.trans g x') (g.trans x g') b
theorem s_yes {e : Expr} {c : CE} {k : Nat} (h : PE X e (tX X.K E EW k (evE Φ c))) : PO X (some e) (tO X.K E EW (evO Φ (.yes c))) := by
  refine (po_some h).imp fun σ H Q h => ?_
  obtain ⟨F, μ, S, ρ, B, h⟩ := h
  simp only [evO] at h
  refine tX.bind PO1.tr B h fun d S1 v H1 μ1 x1 g1 B1 r1 h => ?_
  cases d with
  | int i => cases r1.w.int; exact ⟨i, rfl, h _ _ .refl .refl B1⟩
  | _ => exact h.elim
theorem s_slc {a : Expr} {lo hi : Option Expr} {ca : CE} {cl ch : CO} {ka k : Nat} {p2 : Pos} (ha : PE X a (tX X.K E EW ka (evE Φ ca))) (hl : PO X lo (tO X.K E EW (evO Φ cl))) (hh : PO X hi (tO X.K E EW (evO Φ ch))) : PE X (.Subscript a (.Slice lo hi none p2) pos) (tX X.K E EW k (evE Φ (.slc ca cl ch))) := by
  obtain ⟨r, hr, hq⟩ := sl_ok (X := X)
  refine (pe_slice hr ha hl hh).imp fun σ H Q h => ?_
  obtain ⟨F, μ, S, ρ, B, h⟩ := h
  simp only [evE] at h
  refine tX.bind PE1.tr B h fun d S1 v H1 μ1 x1 g1 B1 r1 h => ?_
  refine tO.bind PE1.tr B1 h fun i S2 H2 μ2 x2 g2 B2 h => ?_
  refine tO.bind PE1.tr B2 h fun j S3 H3 μ3 x3 g3 B3 h => ?_
  cases hd : drf S3 d with
  | none => rw [hd] at h; exact h.elim
  | some d' =>
    rw [hd] at h
    obtain ⟨z, hz, h⟩ := Fin.ofO (show Fin X.K E EW F σ ρ _ μ3 H3 (ofO (sliceD d' i j) S3) from h)
    exact hq μ3 _ H3 d' z i j v Q hz B3.dm (drf_rw B3 ((r1.1.ext' x2 g2).ext' x3 g3) hd) (h.po B3)
theorem s_bi {b : Bi} {x : Str} {p : Pos} {e : Expr} {es : List Expr} {l : CL} {k : Nat} (hcalm : X.calm = true) (hg : Gl X x) (hm : X.mg x = none) (hx : x ≠ "__name__") (hdb : (x == ("__debug__" : Str)) = false) (hv : bootBuiltins x = some b.val)
    (ha : PA X (e :: es) (tL X.K E EW (evL Φ l))) (he : starEach (e :: es) X.env = (false, eval e X.env) :: starEach es X.env) (hpl : (backTo pos (starEach es X.env)).any (·.1) = false) : PE X (.Call (.Name x p) (e :: es) [] pos) (tX X.K E EW k (evE Φ (.bi b l))) := by
  obtain ⟨r, hr, hq⟩ := bi_ok (X := X) hcalm b
  have go : PE X (.Call (.Name x p) (e :: es) [] pos) (tCB r (tL X.K E EW (evL Φ l))) := by
    cases b <;> first | exact pe_callB hr hg hm hv ha hx hdb he hpl | exact pe_callTy hr hg hm hv ha hx hdb he hpl
  refine go.imp fun σ H Q h => ?_
  obtain ⟨F, μ, S, ρ, B, h⟩ := h
  simp only [evE] at h
  refine tL.bind PE1.tr B h fun ds S1 vs H1 μ1 x1 g1 B1 r1 h => ?_
  cases hd : drfs S1 ds with
  | none => rw [hd] at h; exact h.elim
  | some ds' =>
    rw [hd] at h
    obtain ⟨z, hz, h⟩ := Fin.ofO (show Fin X.K E EW F σ ρ _ μ1 H1 (ofO (biD b ds') S1) from h)
    exact hq μ1 _ H1 ds' z vs Q hz B1.dm (drfs_rws B1 r1 hd) (h.po B1)
end
end RH

set_option Elab.async false
set_option linter.all false
set_option maxRecDepth 100000
/-! RHSnd3: and, or; calls; methods of texts; isinstance. -/
namespace RH
open PySem PySem.Spec PyProof.Rows L2
section
variable {X : Cx} {E : XT} {EW : WX} {Φ : Nat → Fn} {pos : Pos}
/-! ### and, or -/
def bopOf : Bool → BoolOp
  | true => .And
  | false => .Or
theorem evB_one (n : Bool) (a : CE) (ρ : List Cell) (S : Store) : evB Φ n (.cons a .nil) ρ S = (evT Φ a ρ S).bind fun k S => .ok (.bl k) S := by
  simp only [evB, evT, Res.bind_assoc]
theorem evB_cons (n : Bool) (a b : CE) (r : CL) (ρ : List Cell) (S : Store) : evB Φ n (.cons a (.cons b r)) ρ S = (evT Φ a ρ S).bind fun k S => if k == n then evB Φ n (.cons b r) ρ S else .ok (.bl k) S := by
  rw [evB, evT, Res.bind_assoc]
theorem s_bop1 {n : Bool} {a : Expr} {ca : CE} {ka k : Nat} (ha : PE X a (tX X.K E EW ka (evE Φ ca))) : PE X (.BoolOp (bopOf n) [a] pos) (tX X.K E EW k (evB Φ n (.cons ca .nil))) := by
  refine (pe_one ha).imp fun σ H Q h => ?_
  obtain ⟨F, μ, S, ρ, B, h⟩ := h
  rw [evB_one, evT, Res.bind_assoc] at h
  refine tX.bind PE1.tr B h fun d S1 v H1 μ1 x1 g1 B1 r1 h => ?_
  cases d with
  | bl b =>
    cases r1.w.bl
    exact (PE1.po B1 h).val (.bl _)
  | _ => exact h.elim
theorem s_bopC {n : Bool} {a b : Expr} {rest : List Expr} {ca cb : CE} {r : CL} {ka k : Nat} (ha : PE X a (tX X.K E EW ka (evE Φ ca))) (hb : PE X (.BoolOp (bopOf n) (b :: rest) pos) (tX X.K E EW k (evB Φ n (.cons cb r)))) : PE X (.BoolOp (bopOf n) (a :: b :: rest) pos) (tX X.K E EW k (evB Φ n (.cons ca (.cons cb r)))) := by
  cases n with
  | true =>
    refine (pe_and ha hb).imp fun σ H Q h => ?_
    obtain ⟨F, μ, S, ρ, B, h⟩ := h
    rw [evB_cons, evT, Res.bind_assoc] at h
    refine tX.bind PE1.tr B h fun d S1 v H1 μ1 x1 g1 B1 r1 h => ?_
    cases d with
    | bl b =>
      cases r1.w.bl
      refine ⟨b, rfl, ?_⟩
      cases b with
      | true => rw [if_pos rfl]; exact ⟨F, μ1, S1, ρ, B1, h⟩
      | false => rw [if_neg (by decide)]; exact (PE1.po B1 h).val (.bl _)
    | _ => exact h.elim
  | false =>
    refine (pe_or ha hb).imp fun σ H Q h => ?_
    obtain ⟨F, μ, S, ρ, B, h⟩ := h
    rw [evB_cons, evT, Res.bind_assoc] at h
    refine tX.bind PE1.tr B h fun d S1 v H1 μ1 x1 g1 B1 r1 h => ?_
    cases d with
    | bl b =>
      cases r1.w.bl
      refine ⟨b, rfl, ?_⟩
      cases b with
      | true => rw [if_pos rfl]; exact (PE1.po B1 h).val (.bl _)
      | false => rw [if_neg (by decide)]; exact ⟨F, μ1, S1, ρ, B1, h⟩
    | _ => exact h.elim
/-- the test's run of and, or -/
noncomputable def evBT (Φ : Nat → Fn) (n : Bool) (l : CL) (ρ : List Cell) (S : Store) : Res Bool := (evB Φ n l ρ S).bind fun x S => ofO (asB x) S
theorem evT_bop (n : Bool) (l : CL) : evT Φ (.bop n l) = evBT Φ n l := by funext ρ S; simp only [evT, evBT, evE]
theorem evBT_one (n : Bool) (a : CE) (ρ : List Cell) (S : Store) : evBT Φ n (.cons a .nil) ρ S = evT Φ a ρ S := by
  rw [evBT, evB_one, Res.bind_assoc]
  cases evT Φ a ρ S <;> rfl
theorem evBT_cons (n : Bool) (a b : CE) (r : CL) (ρ : List Cell) (S : Store) : evBT Φ n (.cons a (.cons b r)) ρ S = (evT Φ a ρ S).bind fun k S => if k == n then evBT Φ n (.cons b r) ρ S else .ok k S := by
  rw [evBT, evB_cons, Res.bind_assoc]
  congr 1
  funext k S
  cases h : k == n <;> simp [evBT, Res.bind, ofO, asB]
theorem s_bopT1 {n : Bool} {a : Expr} {ca : CE} (ha : PT X a (tT X.K E EW (evT Φ ca))) : PW X (.BoolOp (bopOf n) [a] pos) (tT X.K E EW (evBT Φ n (.cons ca .nil))) := by
  have go : PW X (.BoolOp (bopOf n) [a] pos) (tT X.K E EW (evT Φ ca)) := by
    cases n with
    | true => exact pw_and1 ha
    | false => exact pw_or1 ha
  refine go.imp fun σ H Q h => ?_
  obtain ⟨F, μ, S, ρ, B, h⟩ := h
  rw [evBT_one] at h
  exact ⟨F, μ, S, ρ, B, h⟩
theorem s_bopTC {n : Bool} {a b : Expr} {rest : List Expr} {ca cb : CE} {r : CL} (ha : PT X a (tT X.K E EW (evT Φ ca))) (hb : PW X (.BoolOp (bopOf n) (b :: rest) pos) (tT X.K E EW (evBT Φ n (.cons cb r)))) : PW X (.BoolOp (bopOf n) (a :: b :: rest) pos) (tT X.K E EW (evBT Φ n (.cons ca (.cons cb r)))) := by
  cases n with
  | true =>
    refine (pw_and ha hb).imp fun σ H Q h => ?_
    obtain ⟨F, μ, S, ρ, B, h⟩ := h
    rw [evBT_cons] at h
    refine tT.bind PT1.tr B h fun b S1 H1 μ1 x1 g1 B1 h => ?_
    cases b with
    | true => rw [if_pos rfl]; exact ⟨F, μ1, S1, ρ, B1, h⟩
    | false => rw [if_neg (by decide)]; exact h _ _ .refl .refl B1
  | false =>
    refine (pw_or ha hb).imp fun σ H Q h => ?_
    obtain ⟨F, μ, S, ρ, B, h⟩ := h
    rw [evBT_cons] at h
    refine tT.bind PT1.tr B h fun b S1 H1 μ1 x1 g1 B1 h => ?_
    cases b with
    | true => rw [if_pos rfl]; exact h _ _ .refl .refl B1
    | false => rw [if_neg (by decide)]; exact ⟨F, μ1, S1, ρ, B1, h⟩

/-! ### calls of the program's defs -/
theorem s_call {k kk : Nat} {f : Addr} {fd : FuncData} {ps : List Str} {fn : Nat} {x : Str} {p : Pos} {e : Expr} {es : List Expr} {c : CE} {l : CL} (G : FnOk X.prog X.w X.K X.mg X.base (L2.CX X.prog X.w) k f fd ps (spD E X.K (Φ fn))) (hr : Room k X.A) (hg : Gl X x) (hm : X.mg x = some (.ref f)) (hk : PySem.W.keepIn X.K (.ref f) = true) (hb : Binds X.K fd ps [])
    (tk : Takes X EW) (ha : PA X (e :: es) (tL X.K E EW (evL Φ (.cons c l)))) (hdb : (x == ("__debug__" : Str)) = false) (he : starEach (e :: es) X.env = (false, eval e X.env) :: starEach es X.env) (hpl : (backTo pos (starEach es X.env)).any (·.1) = false) (hkk : kk ≤ if (Φ fn).fr then 2 else 1) :
    PE X (.Call (.Name x p) (e :: es) [] pos) (tX X.K E EW kk (evE Φ (.call fn (.cons c l)))) := by
  refine (pe_callSD G hr hg hm hk hb .nil (fun σ => passAt tk σ) ha hdb he hpl).imp fun σ H Q h => ?_
  obtain ⟨F, μ, S, ρ, B, h⟩ := h
  rw [evE] at h
  refine tL.bind PE1.tr B h fun ds S1 vs H1 μ1 x1 g1 B1 r1 h => ?_
  rw [List.append_nil]
  cases hds : ds with
  | nil =>
    subst hds
    refine ⟨F.W, μ1, S1, [], B1.dom, B1.st, r1, ?_⟩
    simp only [callF] at h
    cases hm : (Φ fn).m [] S1 with
    | ok d S' =>
      rw [hm] at h
      exact fun v H' μ' x g s rr => h v H' μ' x g (B1.step x g s) ⟨rr.1, fun hk => rr.2 (by
        cases q : (Φ fn).fr with
        | true => rfl
        | false => rw [q] at hkk; simp at hkk; omega)⟩
    | err y S' => rw [hm] at h; exact h.elim
    | bad => rw [hm] at h; exact h.elim
  | cons d0 dr =>
    refine ⟨F.W, μ1, S1, ds, B1.dom, B1.st, r1, ?_⟩
    have h : Fin X.K E EW F σ ρ (PE1 X.K F σ ρ kk Q) μ1 H1 ((Φ fn).m ds S1) := by
      rw [hds] at h ⊢
      exact h
    cases hm : (Φ fn).m ds S1 with
    | ok d S' =>
      rw [hm] at h
      exact fun v H' μ' x g s rr => h v H' μ' x g (B1.step x g s) ⟨rr.1, fun hk => rr.2 (by
        cases q : (Φ fn).fr with
        | true => rfl
        | false => rw [q] at hkk; simp at hkk; omega)⟩
    | err y S' =>
      rw [hm] at h
      exact fun cc dd H' μ' x g s xr => h cc dd H' μ' x g (B1.step x g s) xr
    | bad => rw [hm] at h; exact h.elim
theorem s_call0 {k kk : Nat} {f : Addr} {fd : FuncData} {ps : List Str} {fn : Nat} {x : Str} {p : Pos} (G : FnOk X.prog X.w X.K X.mg X.base (L2.CX X.prog X.w) k f fd ps (spD E X.K (Φ fn))) (hr : Room k X.A) (hg : Gl X x) (hm : X.mg x = some (.ref f)) (hk : PySem.W.keepIn X.K (.ref f) = true) (hb : Binds X.K fd ps [])
    (hdb : (x == ("__debug__" : Str)) = false) (hkk : kk ≤ if (Φ fn).fr then 2 else 1) : PE X (.Call (.Name x p) [] [] pos) (tX X.K E EW kk (evE Φ (.call fn .nil))) := by
  refine (pe_call0 G hr hg hm hk hb .nil passL hdb).imp fun σ H Q h => ?_
  obtain ⟨F, μ, S, ρ, B, h⟩ := h
  rw [evE, evL] at h
  refine ⟨F.W, μ, S, [], B.dom, B.st, .nil, ?_⟩
  have h : Fin X.K E EW F σ ρ (PE1 X.K F σ ρ kk Q) μ H (((Φ fn).m [] S).nox) := h
  cases hm : (Φ fn).m [] S with
  | ok d S' =>
    rw [hm] at h
    exact fun v H' μ' x g s rr => h v H' μ' x g (B.step x g s) ⟨rr.1, fun hk => rr.2 (by
      cases q : (Φ fn).fr with
      | true => rfl
      | false => rw [q] at hkk; simp at hkk; omega)⟩
  | err y S' => rw [hm] at h; exact h.elim
  | bad => rw [hm] at h; exact h.elim

/-! ### methods of texts -/
def M0.name : M0 → Str
  | .lower => "lower" | .upper => "upper"
def M1.name : M1 → Str
  | .join => "join" | .split => "split" | .index => "index"
theorem asc_map {l : List Nat} {f : Nat → Nat} (hf : ∀ c, c < 128 → f c < 128) (h : Asc l) : Asc (l.map f) := fun c hc => by
  obtain ⟨a, ha, rfl⟩ := List.mem_map.mp hc
  exact hf a (h a ha)
theorem lo1_lt : ∀ c, c < 128 → lo1 c < 128 := by decide
theorem up1_lt : ∀ c, c < 128 → up1 c < 128 := by decide
theorem lower_l {l : List Nat} (h : Asc l) : Txt.lower ⟨l.toArray⟩ = ⟨(l.map lo1).toArray⟩ := by
  rw [lower_ascii (x := ⟨l.toArray⟩) (fun c hc => h c (by simpa using hc))]; simp
theorem upper_l {l : List Nat} (h : Asc l) : Txt.upper ⟨l.toArray⟩ = ⟨(l.map up1).toArray⟩ := by
  rw [upper_ascii (x := ⟨l.toArray⟩) (fun c hc => h c (by simpa using hc))]; simp
theorem s_m0 {m : M0} {o : Expr} {co : CE} {ko k : Nat} {apos : Pos} (ho : PE X o (tX X.K E EW ko (evE Φ co))) (hbase : attributeBase o m.name X.env (eval o X.env) = eval o X.env) (hline : (apos.endLine == pos.line) = true) :
    PE X (.Call (.Attribute o m.name apos) [] [] pos) (tX X.K E EW k (evE Φ (.m0 m co))) := by
  have all : ∀ {r : V → List V → Hp → VK → Prop}, (∀ (l : List Nat) (z : D) (H : Hp) (Q : VK), Asc l → m0D m (.str l) = some z → (∀ v, (∀ μ W H, Rp X.K μ W H z v) → Q v H) → r (.str ⟨l.toArray⟩) [] H Q) → (∀ d z, m0D m d = some z → (∃ l, d = .str l) ∧ ∀ ds, z ≠ .lst ds) →
      ∀ σ H Q, tX X.K E EW k (evE Φ (.m0 m co)) σ H Q → tM0 r (tX X.K E EW ko (evE Φ co)) σ H Q := fun {r} hr hd σ H Q h => by
    obtain ⟨F, μ, S, ρ, B, h⟩ := h
    simp only [evE] at h
    refine tX.bind PE1.tr B h fun d S1 v H1 μ1 x1 g1 B1 r1 h => ?_
    obtain ⟨z, hz, h2⟩ := Fin.ofO h
    obtain ⟨⟨l, rfl⟩, hl⟩ := hd d z hz
    obtain ⟨rfl, ha⟩ := r1.w.str
    exact ⟨⟨_, rfl⟩, hr l z H1 Q ha hz fun v rv => (PE1.po B1 h2).val (rv _ _ _) hl⟩
  cases m with
  | lower =>
    refine (pe_lower ho hbase hline).imp (all (fun l z H Q ha hz q => ?_) fun d z hz => ?_)
    · simp only [m0D] at hz
      split at hz
      · cases hz
        refine ⟨_, rfl, rfl, by rw [str_len]; assumption, ?_⟩
        rw [lower_l ha]
        exact q _ fun _ _ _ => .str (asc_map lo1_lt ha)
      · cases hz
    · unfold m0D at hz
      split at hz <;> first | (rename_i h0; cases h0; done) | (cases hz; done) | skip
      split at hz
      · cases hz; exact ⟨⟨_, rfl⟩, fun _ z => nomatch z⟩
      · cases hz
  | upper =>
    refine (pe_upper ho hbase hline).imp (all (fun l z H Q ha hz q => ?_) fun d z hz => ?_)
    · simp only [m0D] at hz
      split at hz
      · cases hz
        refine ⟨_, rfl, rfl, by rw [str_len]; assumption, ?_⟩
        rw [upper_l ha]
        exact q _ fun _ _ _ => .str (asc_map up1_lt ha)
      · cases hz
    · unfold m0D at hz
      split at hz <;> first | (rename_i h0; cases h0; done) | (cases hz; done) | skip
      split at hz
      · cases hz; exact ⟨⟨_, rfl⟩, fun _ z => nomatch z⟩
      · cases hz
theorem joinL_mem {s : List Nat} {c : Nat} : ∀ {ps : List (List Nat)}, c ∈ TL.joinL s ps → c ∈ s ∨ ∃ p ∈ ps, c ∈ p
  | [], h => by simp [TL.joinL] at h
  | [p], h => .inr ⟨p, by simp, by simpa [TL.joinL] using h⟩
  | p :: q :: r, h => by
    simp only [TL.joinL, List.mem_append] at h
    rcases h with h1 | h1 | h1
    · exact .inr ⟨p, by simp, h1⟩
    · exact .inl h1
    · rcases joinL_mem (ps := q :: r) h1 with h | ⟨t, ht, hc⟩
      · exact .inl h
      · exact .inr ⟨t, List.mem_cons_of_mem _ ht, hc⟩
theorem join_l (s : List Nat) (ps : List (List Nat)) : Txt.join ⟨s.toArray⟩ (ps.map fun l => (⟨l.toArray⟩ : Str)) = ⟨(TL.joinL s ps).toArray⟩ := by
  rw [TL.join_eq]
  apply TL.ext_tl
  rw [TL.tl_join]
  show TL.joinL s ((ps.map fun l => (⟨l.toArray⟩ : Str)).map TL.tl) = TL.joinL s ps
  rw [List.map_map]
  congr 1
  conv => rhs; rw [← List.map_id ps]
  rfl
theorem spl_mem {c : Nat} : ∀ {l acc : List Nat} {k : Nat} {p : List Nat} {x : Nat}, p ∈ TL.spl [c] k acc l → x ∈ p → x ∈ acc ∨ x ∈ l
  | [], acc, k, p, x, h, hx => by
    rw [TL.spl_nil] at h
    simp at h; subst h; exact .inl hx
  | a :: l, acc, 0, p, x, h, hx => by
    cases hp : TL.pre [c] (a :: l) with
    | true =>
      rw [TL.spl_hit hp] at h
      rcases List.mem_cons.mp h with h | h
      · subst h; exact .inl hx
      · rcases spl_mem h hx with z | z
        · simp at z
        · exact .inr (List.mem_cons_of_mem _ z)
    | false =>
      rw [TL.spl_miss hp] at h
      rcases spl_mem h hx with z | z
      · rcases List.mem_append.mp z with z | z
        · exact .inl z
        · simp at z; subst z; exact .inr (by simp)
      · exact .inr (List.mem_cons_of_mem _ z)
  | a :: l, acc, k + 1, p, x, h, hx => by
    rw [TL.spl_pass, List.drop_succ_cons] at h
    have h' : p ∈ TL.spl [c] k acc l := by rw [TL.spl_pass]; exact h
    rcases spl_mem h' hx with z | z
    · exact .inl z
    · exact .inr (List.mem_cons_of_mem _ z)
theorem rps_strs {K : PySem.W.Frag} {μ : List Addr} {W : Addr → Prop} {H : Hp} : ∀ (ps : List (List Nat)), (∀ p ∈ ps, Asc p) → Rps K μ W H (ps.map .str) ((ps.map fun l => (⟨l.toArray⟩ : Str)).map V.str)
  | [], _ => .nil
  | p :: ps, h => .cons (.str (h p (by simp))) (rps_strs ps fun q hq => h q (List.mem_cons_of_mem _ hq))
theorem split_l {l : List Nat} {c : Nat} (hc : c < 128) : (Txt.split ⟨l.toArray⟩ ⟨([c] : List Nat).toArray⟩) = (TL.spl [c] 0 [] l).map fun p => (⟨p.toArray⟩ : Str) := by
  apply TL.map_tl_inj
  rw [TL.split_spl _ _ (by simp [TL.tl]) (TL.kind_ok (by simp; omega)), List.map_map]
  show TL.spl [c] 0 [] l = _
  conv => lhs; rw [← List.map_id (TL.spl [c] 0 [] l)]
  rfl
theorem s_m1 {m : M1} {o a : Expr} {co ca : CE} {ko ka k : Nat} {apos : Pos} (ho : PE X o (tX X.K E EW ko (evE Φ co))) (ha : PE X a (tX X.K E EW ka (evE Φ ca))) (hs : starEach [a] X.env = [(false, eval a X.env)]) (hbase : attributeBase o m.name X.env (eval o X.env) = eval o X.env) (hline : (apos.endLine == pos.line) = true) :
    PE X (.Call (.Attribute o m.name apos) [a] [] pos) (tX X.K E EW k (evE Φ (.m1 m co ca))) := by
  have all : ∀ {r : V → List V → Hp → VK → Prop}, (∀ (μ : List Addr) (W : Addr → Prop) (l : List Nat) (d z : D) (H : Hp) (y : V) (Q : VK), Asc l → Dm μ W H → Rw X.K μ W H d y → m1D m l d = some z → Po X.K μ W H z Q → r (.str ⟨l.toArray⟩) [y] H Q) →
      ∀ σ H Q, tX X.K E EW k (evE Φ (.m1 m co ca)) σ H Q → tM1 r (tX X.K E EW ko (evE Φ co)) (tX X.K E EW ka (evE Φ ca)) σ H Q := fun {r} hr σ H Q h => by
    obtain ⟨F, μ, S, ρ, B, h⟩ := h
    simp only [evE] at h
    refine tX.bind PE1.tr B h fun d S1 v H1 μ1 x1 g1 B1 r1 h => ?_
    cases d with
    | str l =>
      obtain ⟨rfl, hl⟩ := r1.w.str
      refine ⟨⟨_, rfl⟩, ?_⟩
      have h : Fin X.K E EW F σ ρ (PE1 X.K F σ ρ k Q) μ1 H1 ((evE Φ ca ρ S1).bind fun y S => (ofO (drf S y) S).bind fun y S => ofO (m1D m l y) S) := h
      refine tX.bind PE1.tr B1 h fun e S2 u H2 μ2 x2 g2 B2 r2 h => ?_
      cases hd : drf S2 e with
      | none => rw [hd] at h; exact h.elim
      | some e' =>
        rw [hd] at h
        obtain ⟨z, hz, h⟩ := Fin.ofO (show Fin X.K E EW F σ ρ _ μ2 H2 (ofO (m1D m l e') S2) from h)
        exact hr μ2 _ l e' z H2 u Q hl B2.dm (drf_rw B2 r2.1 hd) hz (h.po B2)
    | _ => exact h.elim
  cases m with
  | join =>
    refine (pe_join ho ha hs hbase hline).imp (all fun μ W l d z H y Q hl dm ry hz q => ?_)
    have jn : ∀ ds vs, Rps X.K μ W H ds vs → joinD l ds = some z → ∃ ys : List Str, vs = ys.map V.str ∧ (ys.map (·.length)).sum + ys.length * (⟨l.toArray⟩ : Str).length ≤ 16777216 ∧ Q (.str (Txt.join ⟨l.toArray⟩ ys)) H := fun ds vs rp hj => by
      unfold joinD at hj
      split at hj
      · rename_i ps hps
        split at hj
        · rename_i hsz
          cases hj
          obtain ⟨e1, e2⟩ := texts_rps rp hps
          refine ⟨_, e1, ?_, ?_⟩
          · rw [List.length_map, str_len, List.map_map]
            have : (ps.map ((fun (x : Str) => x.length) ∘ fun l => (⟨l.toArray⟩ : Str))) = ps.map List.length := by
              apply List.map_congr_left; intro a _; simp [Str.length]
            rw [this]; exact hsz
          · rw [join_l]
            refine q.val (.str fun c hc => ?_)
            rcases joinL_mem hc with h | ⟨p, hp, h⟩
            · exact hl c h
            · exact e2 p hp c h
        · cases hj
      · cases hj
    unfold m1D at hz
    split at hz <;> first | (rename_i h0; cases h0; done) | (cases hz; done) | skip
    · obtain ⟨a, vs, rfl, h1, h2⟩ := ry.lst
      obtain ⟨ys, e1, e2, e3⟩ := jn _ _ h2 hz
      exact ⟨_, a, ys, rfl, rfl, .inl (by rw [← e1]; exact .of h1), e2, e3⟩
    · obtain ⟨a, vs, rfl, h1, h2⟩ := ry.tup
      obtain ⟨ys, e1, e2, e3⟩ := jn _ _ h2 hz
      exact ⟨_, a, ys, rfl, rfl, .inr (by rw [← e1]; exact h1), e2, e3⟩
  | split =>
    refine (pe_split ho ha hs hbase hline).imp (all fun μ W l d z H y Q hl dm ry hz q => ?_)
    unfold m1D at hz
    split at hz <;> first | (rename_i h0; cases h0; done) | (cases hz; done) | skip
    split at hz
    · rename_i hsz
      cases hz
      obtain ⟨rfl, _⟩ := ry.str
      refine ⟨_, _, rfl, rfl, by simp [Str.length], by rw [str_len, sizeLine_eq]; exact hsz.1, ?_⟩
      rw [split_l hsz.2]
      intro p hp
      exact q.newL dm (rps_strs _ fun p hp c hc => by
        rcases spl_mem hp hc with h | h
        · simp at h
        · exact hl c h) p hp
    · cases hz
  | index =>
    refine (pe_m1 PySem.F.slot_str_index PySem.F.type_str_index mt_sindex ho ha hs hbase hline).imp (all fun μ W l d z H y Q hl dm ry hz q => ?_)
    unfold m1D at hz
    split at hz <;> first | (rename_i h0; cases h0; done) | (cases hz; done) | skip
    split at hz
    · rename_i i rest ho
      cases hz
      obtain ⟨rfl, _⟩ := ry.str
      exact ⟨_, _, i, rest, rfl, rfl, by rw [str_len]; exact ho, q.val (.int _)⟩
    · cases hz

/-! ### isinstance -/
def Ty.name : Ty → String
  | .int => "int" | .bool => "bool" | .str => "str" | .list => "list" | .tuple => "tuple"
def tyD : D → String
  | .non => "NoneType" | .bl _ => "bool" | .int _ => "int" | .str _ => "str" | .tup _ => "tuple" | _ => "list"
theorem isi_kit : ∀ {t : Ty} {d : D} {b : Bool}, isiD t d = some b → kitB (tyD d) t.name = some b := by
  intro t d b h
  have k : ∀ t : Ty, kitB "NoneType" t.name = some false ∧ kitB "bool" t.name = some (t == .int || t == .bool) ∧ kitB "int" t.name = some (t == .int) ∧ kitB "str" t.name = some (t == .str) ∧ kitB "tuple" t.name = some (t == .tuple) ∧ kitB "list" t.name = some (t == .list) := by
    intro t
    cases t <;> decide +kernel
  obtain ⟨k1, k2, k3, k4, k5, k6⟩ := k t
  cases d <;> cases t <;> simp only [isiD] at h <;> first | (cases h; done) | skip
  all_goals (cases h; first | exact k1 | exact k2 | exact k3 | exact k4 | exact k5 | exact k6)
theorem ty_rw {K : PySem.W.Frag} {μ : List Addr} {W : Addr → Prop} {H : Hp} {t : Ty} {d : D} {v : V} {b : Bool} (h : isiD t d = some b) (r : Rw K μ W H d v) : TyX K H v (.type (tyD d)) := by
  cases d with
  | non => cases r.non; exact .base .non
  | bl _ => cases r.bl; exact .base (.bl _)
  | int _ => cases r.int; exact .base (.int _)
  | str _ => obtain ⟨rfl, _⟩ := r.str; exact .base (.str _)
  | lst _ => obtain ⟨a, vs, rfl, h1, _⟩ := r.lst; exact .base (.lst h1)
  | tup _ =>
    obtain ⟨a, vs, rfl, h1, _⟩ := r.tup
    rcases h1 with (h1 | ⟨o, h1⟩) | ⟨o, its, n, h1, h2, _⟩
    · exact .base (.tup h1)
    · exact .fTuple h1
    · exact .kTuple h1 h2
  | ptr _ => cases t <;> simp [isiD] at h
  | scr _ => cases t <;> simp [isiD] at h
  | exn _ _ _ => cases t <;> simp [isiD] at h
theorem s_isi {t : Ty} {a : Expr} {ca : CE} {ka k : Nat} {p pt : Pos} (hg : Gl X "isinstance") (hm : X.mg "isinstance" = none) (hg' : Gl X (t.name : Str)) (hm' : X.mg (t.name : Str) = none) (ha : PE X a (tX X.K E EW ka (evE Φ ca))) (hs : starEach [a, .Name (t.name : Str) pt] X.env = (false, eval a X.env) :: starEach [.Name (t.name : Str) pt] X.env) :
    PE X (.Call (.Name "isinstance" p) [a, .Name (t.name : Str) pt] [] pos) (tX X.K E EW k (evE Φ (.isi t ca))) := by
  have hty : PE X (.Name (t.name : Str) pt) (tC (.ty t.name)) := by
    cases t with
    | int => exact pe_bltn hg' hm' (u := .type "int") (by decide +kernel) rfl (by decide) (by decide)
    | bool => exact pe_bltn hg' hm' (u := .type "bool") (by decide +kernel) rfl (by decide) (by decide)
    | str => exact pe_bltn hg' hm' (u := .type "str") (by decide +kernel) rfl (by decide) (by decide)
    | list => exact pe_bltn hg' hm' (u := .type "list") (by decide +kernel) rfl (by decide) (by decide)
    | tuple => exact pe_bltn hg' hm' (u := .type "tuple") (by decide +kernel) rfl (by decide) (by decide)
  refine (pe_callB call_isi hg hm boot_isinstance (pa_cons ha (pa_cons hty pa_nil rfl) hs) (by decide) (by decide) hs rfl).imp fun σ H Q h => ?_
  obtain ⟨F, μ, S, ρ, B, h⟩ := h
  simp only [evE] at h
  refine tX.bind PE1.tr B h fun d S1 v H1 μ1 x1 g1 B1 r1 h => ?_
  cases hd : drf S1 d with
  | none => rw [hd] at h; exact h.elim
  | some d' =>
    rw [hd] at h
    obtain ⟨z, hz, h⟩ := Fin.ofO (show Fin X.K E EW F σ ρ _ μ1 H1 (ofO ((isiD t d').map RH.D.bl) S1) from h)
    obtain ⟨b, hb, rfl⟩ := Option.map_eq_some_iff.mp hz
    exact ⟨v, _, _, _, b, rfl, .ty _, ty_rw hb (drf_rw B1 r1.1 hd), kit_ty (isi_kit hb), (h.po B1).val (.bl _)⟩
end
end RH

set_option Elab.async false
set_option linter.all false
set_option maxRecDepth 100000
/-! RFSnd4: slots set; the store's objects made and changed. -/
namespace RH
open PySem PySem.Spec PyProof.Rows L2
section
variable {K : PySem.W.Frag} {F : Fx} {μ : List Addr} {S : Store} {σ : L2.St} {ρ : List Cell} {H : Hp}
mutual
theorem Rp.stay {W : Addr → Prop} {H' : Hp} (kT : ∀ b o, H b = some o → Imd o → H' b = some o) (kL : ∀ b o, H b = some o → ¬ Im o → (W b → ∃ fs, o = .xd fs) → b ∉ μ → H' b = some o) : ∀ {d : D} {v : V}, Rp K μ W H d v → Rp K μ W H' d v
  | _, _, .non => .non
  | _, _, .bl b => .bl b
  | _, _, .int b => .int b
  | _, _, .str b => .str b
  | _, _, .tup h r => .tup (kT _ _ h trivial) (Rps.stay kT kL r)
  | _, _, .lst h nw nm r => .lst (kL _ _ h id (fun z => absurd z nw) nm) nw nm (Rps.stay kT kL r)
  | _, _, .scr h => .scr (h.imp (fun ⟨o, h⟩ => ⟨o, kT _ _ h trivial⟩) id)
  | _, _, .exn h nw nm hd r => .exn (kL _ _ h id (fun z => absurd z nw) nm) nw nm (hd.imp id fun ⟨d, e, h, nm⟩ => ⟨d, e, kL _ _ h id (fun _ => ⟨_, rfl⟩) nm, nm⟩) (Rps.stay kT kL r)
  | _, _, .ptr h => .ptr h
theorem Rps.stay {W : Addr → Prop} {H' : Hp} (kT : ∀ b o, H b = some o → Imd o → H' b = some o) (kL : ∀ b o, H b = some o → ¬ Im o → (W b → ∃ fs, o = .xd fs) → b ∉ μ → H' b = some o) : ∀ {ds : List D} {vs : List V}, Rps K μ W H ds vs → Rps K μ W H' ds vs
  | _, _, .nil => .nil
  | _, _, .cons h r => .cons (Rp.stay kT kL h) (Rps.stay kT kL r)
end
theorem Bd.set (B : Bd K F μ S σ ρ H) {d : D} {v : V} (i : Nat) (r : Rp K μ F.W H d v) : Bd K F μ S (σ.set i (some v)) (ρ.set i (.sh d)) H where
  dom := B.dom
  st := B.st
  len := by rw [List.length_set, List.length_set]; exact B.len
  ext := B.ext
  gr := B.gr
  pin := B.pin
  slot := fun j c h => by
    by_cases hj : j = i
    · subst hj
      by_cases hlt : j < ρ.length
      · rw [List.getElem?_set_self hlt] at h
        cases h
        exact ⟨v, List.getElem?_set_self (by rw [B.len]; exact hlt), r⟩
      · rw [List.getElem?_eq_none (by rw [List.length_set]; omega)] at h; cases h
    · rw [List.getElem?_set_ne (Ne.symm hj)] at h
      rw [List.getElem?_set_ne (Ne.symm hj)]
      exact B.slot j c h
mutual
theorem Rp.push {W : Addr → Prop} {a : Addr} (na : ∀ fs, H a ≠ some (.xd fs)) : ∀ {d : D} {v : V}, Rp K μ (fun b => W b ∨ b = a) H d v → Rp K (μ ++ [a]) W H d v
  | _, _, .non => .non
  | _, _, .bl b => .bl b
  | _, _, .int b => .int b
  | _, _, .str b => .str b
  | _, _, .tup h r => .tup h (Rps.push na r)
  | _, _, .lst h nw nm r => .lst h (fun z => nw (.inl z)) (fun z => by
      rcases List.mem_append.mp z with z | z
      · exact nm z
      · exact nw (.inr (List.mem_singleton.mp z))) (Rps.push na r)
  | _, _, .scr h => .scr h
  | _, _, .exn h nw nm hd r => .exn h (fun z => nw (.inl z)) (fun z => by
      rcases List.mem_append.mp z with z | z
      · exact nm z
      · exact nw (.inr (List.mem_singleton.mp z))) (hd.imp id fun ⟨d, e, h, nm⟩ => ⟨d, e, h, fun z => by
      rcases List.mem_append.mp z with z | z
      · exact nm z
      · rw [List.mem_singleton.mp z] at h; exact na _ h⟩) (Rps.push na r)
  | _, _, .ptr h => .ptr (by rw [List.getElem?_append_left (List.getElem?_eq_some_iff.mp h).1]; exact h)
theorem Rps.push {W : Addr → Prop} {a : Addr} (na : ∀ fs, H a ≠ some (.xd fs)) : ∀ {ds : List D} {vs : List V}, Rps K μ (fun b => W b ∨ b = a) H ds vs → Rps K (μ ++ [a]) W H ds vs
  | _, _, .nil => .nil
  | _, _, .cons h r => .cons (Rp.push na h) (Rps.push na r)
end
theorem SOk.adopt {W : Addr → Prop} (st : SOk K μ (fun b => W b ∨ b = a) H S) (nw : ¬ W a) (nm : a ∉ μ) {ob : Ob} (nx : ∀ fs, H a ≠ some (.xd fs)) (no : ∀ b, H a ≠ some (.own b)) (ha : ObAt K (μ ++ [a]) W H a ob) : SOk K (μ ++ [a]) W H (S ++ [ob]) := by
  refine ⟨by simp [st.len], ?_, fun b hb z => ?_, fun n p qs h1 h2 => ?_⟩
  · rw [List.nodup_append]
    refine ⟨st.nd, by simp, fun x hx y hy => ?_⟩
    rw [List.mem_singleton.mp hy]
    intro z; subst z; exact nm hx
  · rcases List.mem_append.mp hb with q | q
    · exact st.nw b q (.inl z)
    · rw [List.mem_singleton.mp q] at z; exact nw z
  · by_cases hn : n < μ.length
    · rw [List.getElem?_append_left hn] at h1
      rw [List.getElem?_append_left (by rw [← st.len]; exact hn)] at h2
      obtain ⟨o, ws, e1, sh, e2⟩ := st.at_ n p qs h1 h2
      refine ⟨o, ws, e1, sh.keep fun dx e n => ⟨e, fun z => ?_⟩, e2.push nx⟩
      rcases List.mem_append.mp z with z | z
      · exact n z
      · rw [List.mem_singleton.mp z] at e; exact no _ e
    · have hn' : n = μ.length := by
        have := (List.getElem?_eq_some_iff.mp h1).1
        simp at this; omega
      subst hn'
      rw [List.getElem?_append_right (Nat.le_refl _)] at h1
      rw [st.len, List.getElem?_append_right (Nat.le_refl _)] at h2
      simp at h1 h2
      subst h1; subst h2
      exact ha
/-- a new list goes into the store -/
theorem Bd.adopt {Hb : Hp} {μb : List Addr} {Sb : Store} (B : Bd K F μb Sb σ ρ Hb) (x : Ext μb Hb H) (g : Gr μb Hb μ) {a : Addr} {vs : List V} {ds : List D} (na : Hb a = none) (ha : H a = some (.lst vs)) (nm : a ∉ μ) (r : Rps K μ (fun b => F.W b ∨ b = a) H ds vs)
    (st : SOk K μ (fun b => F.W b ∨ b = a) H S) : Ext μb Hb H ∧ Gr μb Hb (μ ++ [a]) ∧ Bd K F (μ ++ [a]) (S ++ [.lst ds]) σ ρ H ∧ Rp K (μ ++ [a]) F.W H (.ptr S.length) (.ref a) := by
  have g' : Gr μb Hb (μ ++ [a]) := by
    obtain ⟨⟨m, rfl⟩, g2⟩ := g
    refine ⟨⟨m ++ [a], by simp⟩, fun b hb hn => ?_⟩
    rcases List.mem_append.mp hb with z | z
    · exact g2 b z hn
    · rw [List.mem_singleton.mp z]; exact na
  have nx : ∀ fs, H a ≠ some (.xd fs) := fun fs z => by rw [ha] at z; cases z
  have s2 : SOk K (μ ++ [a]) F.W H (S ++ [.lst ds]) := st.adopt (fun z => B.dom a z na) nm nx (fun b z => by rw [ha] at z; cases z) ⟨_, vs, ha, rfl, r.push nx⟩
  exact ⟨x, g', B.step x g' s2, .ptr (by rw [← st.len]; simp)⟩
/-- an object of the store is changed -/
theorem Bd.stm' (B : Bd K F μ S σ ρ H) {n : Nat} {a : Addr} {ob ob' : Ob} {u : HO} {us : List V} (ha : μ[n]? = some a) (hS : S[n]? = some ob) (hi : ∀ o, F.H0 a = some o → Im o → False) (sh' : ObSh K μ H a ob' us u) (r : Rps K μ F.W H ob'.vals us) : Bd K F μ (S.set n ob') σ ρ (upd H a u) := by
  have am : a ∈ μ := List.mem_of_getElem? ha
  obtain ⟨o0, vs0, h2, sh0, _⟩ := B.st.at_ n a ob ha hS
  have no : ∀ b, H a ≠ some (.own b) := fun b z => by
    rw [h2] at z; cases z
    unfold ObSh at sh0
    split at sh0
    · cases sh0
    · obtain ⟨_, _, e⟩ := sh0; cases e
    · obtain ⟨_, _, e⟩ := sh0; cases e
    · obtain ⟨_, _, _, e⟩ := sh0; cases e
    · obtain ⟨_, _, _, e⟩ := sh0; cases e
    · exact sh0
    · obtain ⟨_, e, _⟩ := sh0; cases e
  have kO : ∀ {b p : Addr}, H b = some (.own p) → upd H a u b = some (.own p) := fun {b p} e => by
    rw [upd_ne (fun z => no p (by rw [← z]; exact e))]; exact e
  have kT : ∀ b o, H b = some o → Imd o → upd H a u b = some o := fun b o hb im => by
    rw [upd_ne (fun z => by
      subst z; rw [h2] at hb; cases hb
      unfold ObSh at sh0
      split at sh0
      · subst sh0; exact im
      · obtain ⟨_, _, rfl⟩ := sh0; exact im
      · obtain ⟨_, _, rfl⟩ := sh0; exact im
      · obtain ⟨_, _, _, rfl⟩ := sh0; exact im
      · obtain ⟨_, _, _, rfl⟩ := sh0; exact im
      · exact sh0
      · obtain ⟨_, rfl, _⟩ := sh0; exact im)]
    exact hb
  have kL : ∀ b o, H b = some o → ¬ Im o → (F.W b → ∃ fs, o = .xd fs) → b ∉ μ → upd H a u b = some o := fun b o hb _ _ nm => by
    rw [upd_ne (fun z => nm (by rw [z]; exact am))]; exact hb
  refine ⟨fun b hb => ?_, ⟨by rw [List.length_set]; exact B.st.len, B.st.nd, B.st.nw, fun m p qs h1 h3 => ?_⟩, B.len, fun b o hb q => ?_, B.gr, fun p hp => Rp.stay kT kL (B.pin p hp), fun j c h => ?_⟩
  · unfold upd; split
    · intro z; cases z
    · exact B.dom b hb
  · by_cases hm : m = n
    · subst hm
      rw [ha] at h1; cases h1
      have hl : m < S.length := by rw [← B.st.len]; exact (List.getElem?_eq_some_iff.mp ha).1
      rw [List.getElem?_set_self hl] at h3
      cases h3
      exact ⟨u, us, upd_same, sh'.keep fun dx e n => ⟨kO e, n⟩, Rps.stay kT kL r⟩
    · rw [List.getElem?_set_ne (Ne.symm hm)] at h3
      obtain ⟨o, ws, e1, sh, e2⟩ := B.st.at_ m p qs h1 h3
      refine ⟨o, ws, ?_, sh.keep fun dx e n => ⟨kO e, n⟩, Rps.stay kT kL e2⟩
      rw [upd_ne (fun z => hm ?_)]
      · exact e1
      · rw [z] at h1
        obtain ⟨l1, e1⟩ := List.getElem?_eq_some_iff.mp h1
        obtain ⟨l2, e2⟩ := List.getElem?_eq_some_iff.mp ha
        exact (List.getElem_inj B.st.nd).mp (e1.trans e2.symm)
  · by_cases hb' : b = a
    · subst hb'
      rcases q with q | q
      · exact absurd (by
          have h0 := B.ext b o hb (.inl q)
          have := B.gr.2 b am q
          rw [hb] at this; cases this) (fun z : False => z)
      · exact (hi o hb q).elim
    · rw [upd_ne hb']
      exact B.ext b o hb q
  · have q := B.slot j c h
    cases c with
    | u => trivial
    | sh d => obtain ⟨v, h1, h2⟩ := q; exact ⟨v, h1, Rp.stay kT kL h2⟩
theorem Bd.stm (B : Bd K F μ S σ ρ H) {n : Nat} {a : Addr} {ob ob' : Ob} {u : HO} {us : List V} (ha : μ[n]? = some a) (hS : S[n]? = some ob) (nu : ∀ b, u ≠ .own b) (sh' : ObSh K μ H a ob' us u) (r : Rps K μ F.W H ob'.vals us) (hu : ob.unl = true := by rfl) : Bd K F μ (S.set n ob') σ ρ (upd H a u) := by
  obtain ⟨o0, vs0, h2, sh0, _⟩ := B.st.at_ n a ob ha hS
  refine B.stm' ha hS (fun o h im => ?_) sh' r
  have h0 := B.ext a o h (.inr im)
  rw [h2] at h0; cases h0
  exact sh0.im hu im
end
end RH

set_option Elab.async false
set_option linter.all false
set_option maxRecDepth 100000
/-! RFZip: zip of two texts. -/
namespace RH
open PySem PySem.Spec PyProof.Rows L2
/-- two texts, sign by sign, in new pairs -/
def ItzS (x y : Str) : It :=
  ⟨fun i _ => i < x.cps.size ∧ i < y.cps.size,
    fun i H v H' => ∃ T c d, v = .ref T ∧ H T = none ∧ H' = upd H T (.tup [.str ⟨#[c]⟩, .str ⟨#[d]⟩]) ∧ x.cps[i]? = some c ∧ y.cps[i]? = some d,
    fun i _ => x.cps.size ≤ i ∨ y.cps.size ≤ i⟩
/-- a zip of two texts in its i-th turn -/
def ZsAt (x y : Str) (t t' : Tok) (z a b i1 i2 : Addr) (i : Nat) (h : Heap) : Prop :=
  (i ≤ x.cps.size ∧ i ≤ y.cps.size) ∧ IsZip h z a b .none ∧ IsTupOf2 h a (.ref i1) (.ref i2) ∧ (∃ u v, IsTupOf2 h b u v) ∧ h.IsStrIter i1 (strIterType x) x t i ∧ h.IsStrIter i2 (strIterType y) y t' i
theorem turn_zipS {P : Program} {w : World} {K : PySem.W.Frag} {elts : List Expr} {kk : Nat} {tpos : Pos} {x y : Str} {t t' : Tok} {z a b i1 i2 : Addr} (S : ZipSep2 z a b i1 i2 [i1] [i2]) :
    Turn P w K (.Tuple elts kk tpos) (ItzS x y) [z, a, b, i1, i2] z (ZsAt x y t t' z a b i1 i2) where
  mem := List.mem_cons_self
  obj := fun i h st c hc => by
    obtain ⟨_, q1, q2, ⟨u, v, q3⟩, ⟨o1, e1, _, d1⟩, ⟨o2, e2, _, d2⟩⟩ := st
    simp only [List.mem_cons, List.not_mem_nil, or_false] at hc
    rcases hc with rfl | rfl | rfl | rfl | rfl
    · exact ⟨_, q1, fun v z => nomatch z⟩
    · exact ⟨_, q2, fun v z => nomatch z⟩
    · exact ⟨_, q3, fun v z => nomatch z⟩
    · exact ⟨o1, e1, fun v z => by rw [d1] at z; cases z⟩
    · exact ⟨o2, e2, fun v z => by rw [d2] at z; cases z⟩
  keep := fun i h h' st k => by
    obtain ⟨q0, q1, q2, ⟨u, v, q3⟩, ⟨o1, e1, r1⟩, ⟨o2, e2, r2⟩⟩ := st
    exact ⟨q0, k z (by simp) _ q1, k a (by simp) _ q2, ⟨u, v, k b (by simp) _ q3⟩, ⟨o1, k i1 (by simp) _ e1, r1⟩, ⟨o2, k i2 (by simp) _ e2, r2⟩⟩
  item := by
    intro X hP hw hK hc i pins s σ H E I hf st hg
    subst hP hw hK
    obtain ⟨_, q1, q2, ⟨u, v, q3⟩, r1, r2⟩ := st
    obtain ⟨g1, g2⟩ := hg
    have hh : X.A.in1.handled = none := I.ok.hd hc
    have zl : z < s.heap.objs.size := Heap.lt_size q1
    refine wpAny_pyNext_zipD2_item S (Draws.text hh i1 x t) (Draws.text hh i2 y t') q1 q2 q3 r1 r2 g1 g2 fun y1 y2 h' tk p1 p2 b1 b2 d1 d2 b5 b6 b7 => ?_
    obtain ⟨c, uc, hcx, rfl⟩ := p1
    obtain ⟨d, ud, hdy, rfl⟩ := p2
    refine ⟨_, rfl, wpAny_letOwnedTupleGo_zip (s := { s with heap := h', toks := tk }) b1 fun h2 z2 sb => ?_⟩
    have hT : h2.get? s.heap.objs.size = some { cls := .type "tuple", data := .seq #[.str ⟨#[c]⟩ uc, .str ⟨#[d]⟩ ud] } := (sb.2 _ (Nat.ne_of_gt zl)).trans b5
    have ok : ObjOk X.prog X.w (upd H s.heap.objs.size (.tup [.str ⟨#[c]⟩, .str ⟨#[d]⟩])) h2 s.heap.objs.size (.tup [.str ⟨#[c]⟩, .str ⟨#[d]⟩]) :=
      ⟨by show 2 ≤ sizeLine; decide, [.str ⟨#[c]⟩ uc, .str ⟨#[d]⟩ ud], .cons ⟨uc, rfl⟩ (.cons ⟨ud, rfl⟩ .nil), ⟨_, hT, rfl, _, rfl⟩⟩
    have J : Inv X pins σ (upd H s.heap.objs.size (.tup [.str ⟨#[c]⟩, .str ⟨#[d]⟩])) { s with heap := h2, toks := tk } :=
      I.turnedNew (t' := tk) (ch := [z, a, b, i1, i2]) (fun e o ne q => by
        simp only [List.mem_cons, List.not_mem_nil, or_false, not_or] at ne
        exact (sb.2 e ne.1).trans (b7 e o ne.1 ne.2.2.1 ne.2.2.2.1 ne.2.2.2.2 q)) hf (Nat.le_refl _) ok
    refine ⟨.ref s.heap.objs.size, _, J, rfl, ⟨_, c, d, rfl, I.hok.fresh (Nat.le_refl _), rfl, hcx, hdy⟩, ⟨⟨g1, g2⟩, z2, ?_, ⟨_, _, (sb.2 _ S.TOz).trans b2⟩, ?_, ?_⟩, fun e he => ?_⟩
    · exact (sb.2 _ S.TIz).trans (b7 _ _ S.TIz S.TITO S.TIi1 S.TIi2 q2)
    · obtain ⟨o, e, r⟩ := d1; exact ⟨o, (sb.2 _ (Ne.symm S.zi1)).trans e, r⟩
    · obtain ⟨o, e, r⟩ := d2; exact ⟨o, (sb.2 _ (Ne.symm S.zi2)).trans e, r⟩
    · have lt : e < s.heap.objs.size := by
        simp only [List.mem_cons, List.not_mem_nil, or_false] at he
        obtain ⟨o1, e1, _⟩ := r1
        obtain ⟨o2, e2, _⟩ := r2
        rcases he with rfl | rfl | rfl | rfl | rfl
        · exact zl
        · exact Heap.lt_size q2
        · exact Heap.lt_size q3
        · exact Heap.lt_size e1
        · exact Heap.lt_size e2
      rw [upd_ne (Nat.ne_of_lt lt)]
      exact (hf e he).1
  done := by
    intro X hP hw hK hc i pins s σ H E I hf st hg
    subst hP hw hK
    obtain ⟨⟨l1, l2⟩, q1, q2, ⟨u, v, q3⟩, r1, r2⟩ := st
    have hh : X.A.in1.handled = none := I.ok.hd hc
    have hz : i = x.cps.size ∨ i = y.cps.size := by
      rcases hg with g | g
      · exact .inl (by omega)
      · exact .inr (by omega)
    exact wpAny_pyNext_zipD2_end S (Draws.text hh i1 x t) (Draws.text hh i2 y t') q1 q2 q3 r1 r2 l1 l2 hz fun h' tk b7 => ⟨rfl, I.turnedL (t' := tk) (ch := [z, a, b, i1, i2]) (fun e o ne q => by
      simp only [List.mem_cons, List.not_mem_nil, or_false, not_or] at ne
      exact b7 e o ne.1 ne.2.2.1 ne.2.2.2.1 ne.2.2.2.2 q) hf⟩
  self := fun A i s Q E st h => wpAny_pyIter_zip st.2.1 h
/-- zip of lists, of tuples, of texts -/
def iZipB (K : PySem.W.Frag) (ta : TA) : TI := fun σ H R => ta σ H fun vs H1 => (∃ a b xs ys, vs = [.ref a, .ref b] ∧ ((SqL K H1 a xs ∧ SqL K H1 b ys ∧ R (Itz K a b) H1) ∨ (SqT K H1 a xs ∧ SqT K H1 b ys ∧ R (RZ.ItzT K a b) H1))) ∨ ∃ x y, vs = [.str x, .str y] ∧ R (ItzS x y) H1
theorem pi_zipB {X : Cx} {e e2 : Expr} {ta : TA} {p pos tpos : Pos} {elts : List Expr} {kk : Nat} (hg : Gl X "zip") (hm : X.mg "zip" = none) (ha : PA X [e, e2] ta)
    (hs : starEach [e, e2] X.env = (false, eval e X.env) :: starEach [e2] X.env) (hpl : (backTo pos (starEach [e2] X.env)).any (·.1) = false) :
    PI X (.Tuple elts kk tpos) (.Call (.Name "zip" p) [e, e2] [] pos) (iZipB X.K ta) := by
  constructor
  intro pins s σ H R I h
  refine Call_ (ld_blt I hg hm PyProof.Rows.boot_zip (PyProof.Rows.callWith_type1 (thn (ha.run pos pins s σ H _ I h) fun us s1 q => ?_) hs hpl))
  obtain ⟨vs, H1, I1, r1, q1⟩ := q
  have fresh : ∀ c, c ∈ [s1.heap.objs.size + 4, s1.heap.objs.size + 2, s1.heap.objs.size + 3, s1.heap.objs.size, s1.heap.objs.size + 1] → FpOk X pins H1 c := fun c hcm => by
    have hle : s1.heap.objs.size ≤ c := by
      simp only [List.mem_cons, List.not_mem_nil, or_false] at hcm
      rcases hcm with rfl | rfl | rfl | rfl | rfl
      · exact Nat.le_add_right _ _
      · exact Nat.le_add_right _ _
      · exact Nat.le_add_right _ _
      · exact Nat.le_refl _
      · exact Nat.le_add_right _ _
    exact I1.fpOk hle (I1.hok.fresh hle)
  rcases q1 with ⟨a, b, xs, ys, rfl, q1⟩ | ⟨x, y, rfl, q1⟩
  · obtain ⟨v1, v2, rfl, ra, rb⟩ : ∃ v1 v2, us = [v1, v2] ∧ RelV (.ref a) v1 ∧ RelV (.ref b) v2 := by
      cases r1 with
      | cons r rr => cases rr with
        | cons r' rr => cases rr; exact ⟨_, _, rfl, r, r'⟩
    cases ra
    cases rb
    rcases q1 with ⟨hx, hy, q⟩ | ⟨hx, hy, q⟩
    · obtain ⟨_, _, p1, _⟩ := I1.list hx
      obtain ⟨_, _, p2, _⟩ := I1.list hy
      exact call_zip_2 p1.isList p2.isList fun h' z1 z2 z3 z4 z5 hsz hk => wpAny_pyIter_zip z1 ⟨_, _, _, _, H1, rfl, I1.kept (t' := s1.toks) hk, turn_zip (PySem.W.ktu_apart s1.heap.objs.size a b p1.lt p2.lt), ⟨z1, z2, ⟨_, _, z3⟩, z4, z5⟩, fresh, q⟩
    · obtain ⟨its, _, p1, _⟩ := I1.tuple hx
      obtain ⟨its2, _, p2, _⟩ := I1.tuple hy
      obtain ⟨o1, ho1, _⟩ := id p1
      obtain ⟨o2, ho2, _⟩ := id p2
      exact RZ.call_zipT (xs := its.toArray) (ys := its2.toArray) p1 p2 fun h' z1 z2 z3 z4 z5 hsz hk => wpAny_pyIter_zip z1 ⟨_, _, _, _, H1, rfl, I1.kept (t' := s1.toks) hk, RZ.turn_zipT (PySem.W.ktu_apart s1.heap.objs.size a b (Heap.lt_size ho1) (Heap.lt_size ho2)), ⟨z1, z2, ⟨_, _, z3⟩, z4, z5⟩, fresh, q⟩
  · obtain ⟨v1, v2, rfl, ⟨t, rfl⟩, ⟨t', rfl⟩⟩ : ∃ v1 v2, us = [v1, v2] ∧ RelV (.str x) v1 ∧ RelV (.str y) v2 := by
      cases r1 with
      | cons r rr => cases rr with
        | cons r' rr => cases rr; exact ⟨_, _, rfl, r, r'⟩
    exact zip_begins2 (begins_text x t) (begins_text y t') trivial trivial fun h' z1 z2 z3 z4 z5 hsz hk => wpAny_pyIter_zip z1 ⟨_, _, _, _, H1, rfl, I1.kept (t' := s1.toks) hk, turn_zipS (t := t) (t' := t') (zip_sep2 (fp1 := []) (fp2 := []) (by simp) (by simp)), ⟨⟨Nat.zero_le _, Nat.zero_le _⟩, z1, z2, ⟨_, _, z3⟩, ⟨_, z4, rfl, rfl⟩, ⟨_, z5, rfl, rfl⟩⟩, fresh, q1⟩
end RH

set_option Elab.async false
set_option linter.all false
set_option maxRecDepth 100000
/-! RHSnd5: targets; what is walked; comprehensions. -/
namespace RH
open PySem PySem.Spec PyProof.Rows L2
/-! ### targets -/
mutual
def tgs : Tg → List Nat
  | .name i => [i]
  | .tup l => tgss l
def tgss : Tgs → List Nat
  | .nil => []
  | .cons t r => tgs t ++ tgss r
end
/-- slots but vs stay -/
def Only (vs : List Nat) (σ σ' : L2.St) : Prop := σ'.length = σ.length ∧ ∀ j, j ∉ vs → σ'[j]? = σ[j]?
def tG (K : PySem.W.Frag) (t : Tg) : TG := fun v σ H Q => ∃ F μ S ρ d ρ', Bd K F μ S σ ρ H ∧ Rp K μ F.W H d v ∧ bindT t d ρ = some ρ' ∧ ∀ σ', Bd K F μ S σ' ρ' H → Only (tgs t) σ σ' → Q σ' H
def tGs (K : PySem.W.Frag) (l : Tgs) : TGs := fun vs σ H Q => ∃ F μ S ρ ds ρ', Bd K F μ S σ ρ H ∧ Rps K μ F.W H ds vs ∧ bindTs l ds ρ = some ρ' ∧ ∀ σ', Bd K F μ S σ' ρ' H → Only (tgss l) σ σ' → Q σ' H
theorem _root_.L2.PG.imp {X : Cx} {e : Expr} {t t' : TG} (h : PG X e t) (i : ∀ v σ H Q, t' v σ H Q → t v σ H Q) : PG X e t' := ⟨fun pins s σ H v u Q I r q => h.run pins s σ H v u Q I r (i v σ H Q q)⟩
theorem _root_.L2.PGs.imp {X : Cx} {e : List Expr} {t t' : TGs} (h : PGs X e t) (i : ∀ v σ H Q, t' v σ H Q → t v σ H Q) : PGs X e t' := ⟨fun pins s σ H v u Q I r q => h.run pins s σ H v u Q I r (i v σ H Q q)⟩
section
variable {X : Cx} {pos : Pos}
theorem g_name {i : Nat} {x : Str} (hN : X.N.Nodup) (hi : X.N[i]? = some x) (hx : Loc X.env.scope x) (hf : X.fn x = true ∨ X.env.scope.names.lookup x = some .local) : PG X (.Name x pos) (tG X.K (.name i)) := by
  refine (pg_name hN hi hx hf).imp fun v σ H Q h => ?_
  obtain ⟨F, μ, S, ρ, d, ρ', B, r, e, q⟩ := h
  simp only [bindT] at e
  cases e
  refine q _ (B.set i r) ⟨List.length_set .., fun j hj => List.getElem?_set_ne ?_⟩
  simp only [tgs, List.mem_singleton] at hj
  exact Ne.symm hj
theorem g_nil : PGs X [] (tGs X.K .nil) := by
  refine pgs_nil.imp fun vs σ H Q h => ?_
  obtain ⟨F, μ, S, ρ, ds, ρ', B, r, e, q⟩ := h
  cases r with
  | nil =>
    simp only [bindTs] at e
    cases e
    exact ⟨rfl, q σ B ⟨rfl, fun _ _ => rfl⟩⟩
  | cons _ _ => simp [bindTs] at e
theorem g_cons {t : Tg} {l : Tgs} {e : Expr} {es : List Expr} (h1 : PG X e (tG X.K t)) (h2 : PGs X es (tGs X.K l)) (hs : (assignEach (e :: es) X.env).map (·.2) = assign e X.env :: (assignEach es X.env).map (·.2)) : PGs X (e :: es) (tGs X.K (.cons t l)) := by
  refine (pgs_cons h1 h2 hs).imp fun vs σ H Q h => ?_
  obtain ⟨F, μ, S, ρ, ds, ρ', B, r, eb, q⟩ := h
  cases r with
  | nil => simp [bindTs] at eb
  | cons r rr =>
    rename_i d v ds vs
    simp only [bindTs] at eb
    split at eb
    · rename_i ρ1 e1
      refine ⟨v, vs, rfl, F, μ, S, ρ, d, ρ1, B, r, e1, fun σ1 B1 o1 => ?_⟩
      refine ⟨F, μ, S, ρ1, ds, ρ', B1, rr, eb, fun σ2 B2 o2 => ?_⟩
      refine q σ2 B2 ⟨o2.1.trans o1.1, fun j hj => ?_⟩
      simp only [tgss, List.mem_append, not_or] at hj
      exact (o2.2 j hj.2).trans (o1.2 j hj.1)
    · cases eb
def tgLen : Tgs → Nat
  | .nil => 0
  | .cons _ r => tgLen r + 1
theorem bindTs_tgLen : ∀ {l : Tgs} {ds : List D} {ρ ρ' : List Cell}, bindTs l ds ρ = some ρ' → ds.length = tgLen l
  | .nil, [], _, _, _ => rfl
  | .nil, _ :: _, _, _, h => by simp [bindTs] at h
  | .cons _ _, [], _, _, h => by simp [bindTs] at h
  | .cons t r, d :: ds, ρ, ρ', h => by
    simp only [bindTs] at h
    split at h
    · have := bindTs_tgLen h
      simp only [List.length_cons, tgLen]
      omega
    · cases h
theorem g_tup {l : Tgs} {es : List Expr} {k : Nat} (hc : X.calm = true) (h : PGs X es (tGs X.K l)) (hn : (assignEach es X.env).length = tgLen l) (hst : (assignEach es X.env).findIdx? (·.1) = none) : PG X (.Tuple es k pos) (tG X.K (.tup l)) := by
  refine (pg_tup hc h hn hst).imp fun v σ H Q h => ?_
  obtain ⟨F, μ, S, ρ, d, ρ', B, r, e, q⟩ := h
  cases d with
  | tup ds =>
    simp only [bindT] at e
    obtain ⟨a, vs, rfl, h1, h2⟩ := r.w.tup
    exact ⟨a, vs, rfl, h1, by rw [← h2.length]; exact bindTs_tgLen e, F, μ, S, ρ, ds, ρ', B, h2, e, q⟩
  | _ => simp [bindT] at e
end

/-! ### what is walked -/
/-- the walk J yields ds, as long as src stands -/
def Wk (K : PySem.W.Frag) (J : It) (src : List (D × V)) (ds : List D) : Prop := ∀ (μ : List Addr) (W : Addr → Prop) (H : Hp), (∀ p, p ∈ src → Rw K μ W H p.1 p.2) → ∀ i,
  (∀ d, ds[i]? = some d → J.go i H ∧ ∀ x H', J.yld i H x H' → Same H H' ∧ Rp K μ W H' d x) ∧ (ds.length ≤ i → J.stop i H)
/-- the sources: as they were told, as lists, as values -/
abbrev Src := List (D × D × V)
def PI1 (K : PySem.W.Frag) (F : Fx) (σ : L2.St) (ρ : List Cell) (R : It → Hp → Prop) : Wlk → Store → List Addr → Hp → Prop := fun w S μ H =>
  ∀ J (src : Src) H' μ', Ext μ H H' → Gr μ H μ' → Bd K F μ' S σ ρ H' → (∀ p, p ∈ src → Rp K μ' F.W H' p.1 p.2.2) → (∀ S1, okG S1 w.g → ∀ p, p ∈ src → drf S1 p.1 = some p.2.1) → Wk K J (src.map (·.2)) w.ds → R J H'
theorem PI1.tr {K : PySem.W.Frag} {F : Fx} {σ : L2.St} {ρ : List Cell} {R : It → Hp → Prop} : Tr (PI1 K F σ ρ R) := fun d S μ H μ1 H1 h x g J src H' μ' x' g' b r s w =>
  h J src H' μ' (x.trans g x') (g.trans x g') b r s w
def tIt (K : PySem.W.Frag) (E : XT) (EW : WX) (m : List Cell → Store → Res Wlk) : TI := fun σ H R => ∃ F μ S ρ, Bd K F μ S σ ρ H ∧ Fin K E EW F σ ρ (PI1 K F σ ρ R) μ H (m ρ S)
theorem drf_w {K : PySem.W.Frag} {μ : List Addr} {W : Addr → Prop} {S : Store} {H : Hp} {d d' : D} {v : V} (st : SOk K μ W H S) (rd : Rp K μ W H d v) (hd : drf S d = some d') : Rw K μ W H d' v := by
  unfold drf at hd
  split at hd
  · split at hd
    · rename_i ds hn
      cases hd
      obtain ⟨p, rfl, hp⟩ := rd.w.ptr
      obtain ⟨_, vs, e1, rfl, e2⟩ := st.at_ _ p _ hp hn
      exact .inr ⟨p, vs, ds, rfl, rfl, e1, e2⟩
    · cases hd
  · cases hd; exact rd.w
theorem okG_app {S : Store} : ∀ {g g' : List (Nat × List D)}, okG S (g ++ g') → okG S g ∧ okG S g'
  | [], _, h => ⟨trivial, h⟩
  | _ :: _, _, h => ⟨⟨h.1, (okG_app h.2).1⟩, (okG_app h.2).2⟩
theorem grd_drf {S S1 : Store} {x d : D} (h : drf S x = some d) (g : okG S1 (grd S x)) : drf S1 x = some d := by
  unfold drf at h
  split at h
  · split at h
    · rename_i n _ ds hn
      cases h
      simp only [grd, hn, okG] at g
      simp only [drf, g.1]
    · cases h
  · rename_i hx
    cases h
    unfold drf
    split
    · rename_i n
      exact absurd rfl (hx n)
    · rfl
section
variable {K : PySem.W.Frag}
theorem wk_list {ds : List D} {a : Addr} : Wk K (Itl K a) [(.lst ds, .ref a)] ds := fun μ W H hs i => by
  obtain ⟨a', vs, e, h1, h2⟩ := (hs (.lst ds, .ref a) (by simp)).lst
  cases e
  refine ⟨fun d hd => ?_, fun hi => ⟨vs, .of h1, by rw [← h2.length]; exact hi⟩⟩
  obtain ⟨v, h3, h4⟩ := h2.get hd
  refine ⟨⟨vs, v, .of h1, h3⟩, fun x H' y => ?_⟩
  obtain ⟨rfl, y⟩ := y
  have := y vs (.of h1)
  rw [h3] at this; cases this
  exact ⟨Same.refl _, h4⟩
theorem wk_tup {ds : List D} {a : Addr} : Wk K (Itt K a) [(.tup ds, .ref a)] ds := fun μ W H hs i => by
  obtain ⟨a', vs, e, h1, h2⟩ := (hs (.tup ds, .ref a) (by simp)).tup
  cases e
  refine ⟨fun d hd => ?_, fun hi => ⟨vs, h1, by rw [← h2.length]; exact hi⟩⟩
  obtain ⟨v, h3, h4⟩ := h2.get hd
  refine ⟨⟨vs, v, h1, h3⟩, fun x H' y => ?_⟩
  obtain ⟨rfl, y⟩ := y
  have := y vs h1
  rw [h3] at this; cases this
  exact ⟨Same.refl _, h4⟩
theorem wk_str {l : List Nat} : Wk K (Its ⟨l.toArray⟩) [(.str l, .str ⟨l.toArray⟩)] (l.map fun c => .str [c]) := fun μ W H hs i => by
  obtain ⟨_, ha⟩ := (hs (.str l, .str ⟨l.toArray⟩) (by simp)).str
  refine ⟨fun d hd => ?_, fun hi => by
    show (l.toArray).size ≤ i
    simpa using hi⟩
  rw [List.getElem?_map] at hd
  obtain ⟨c, hc, rfl⟩ := Option.map_eq_some_iff.mp hd
  have hlt : i < l.length := (List.getElem?_eq_some_iff.mp hc).1
  refine ⟨by show i < (l.toArray).size; simpa using hlt, fun x H' y => ?_⟩
  obtain ⟨rfl, c', hc', rfl⟩ := y
  have : (l.toArray)[i]? = some c := by simpa using hc
  rw [this] at hc'; cases hc'
  exact ⟨Same.refl _, .str (ha.one (List.mem_of_getElem? hc))⟩
theorem wk_range {lo : Int} {n : Nat} {src : List (D × V)} : Wk K (Itr lo n) src ((List.range n).map fun (k : Nat) => .int (lo + (k : Int))) := fun μ W H _ i => by
  refine ⟨fun d hd => ?_, fun hi => by show n ≤ i; simpa using hi⟩
  rw [List.getElem?_map] at hd
  obtain ⟨c, hc, rfl⟩ := Option.map_eq_some_iff.mp hd
  obtain ⟨hl, e⟩ := List.getElem?_eq_some_iff.mp hc
  simp at hl e
  subst e
  exact ⟨hl, fun x H' y => by obtain ⟨rfl, rfl⟩ := y; exact ⟨Same.refl _, .int _⟩⟩
theorem wk_rangeC {lo c : Int} {n : Nat} {src : List (D × V)} : Wk K (Itc lo c n) src ((List.range n).map fun (k : Nat) => .int (lo + (k : Int) * c)) := fun μ W H _ i => by
  refine ⟨fun d hd => ?_, fun hi => by show n ≤ i; simpa using hi⟩
  rw [List.getElem?_map] at hd
  obtain ⟨c', hc, rfl⟩ := Option.map_eq_some_iff.mp hd
  obtain ⟨hl, e⟩ := List.getElem?_eq_some_iff.mp hc
  simp at hl e
  subst e
  exact ⟨hl, fun x H' y => by obtain ⟨rfl, rfl⟩ := y; exact ⟨Same.refl _, .int _⟩⟩
theorem enumD_get : ∀ (ds : List D) (n i : Nat), (enumD n ds)[i]? = (ds[i]?).map fun d => .tup [.int ((n + i : Nat) : Int), d]
  | [], n, i => by simp [enumD]
  | d :: ds, n, 0 => by simp [enumD]
  | d :: ds, n, i + 1 => by
    simp only [enumD, List.getElem?_cons_succ]
    rw [enumD_get ds (n + 1) i]
    congr 1
    funext d
    rw [show n + 1 + i = n + (i + 1) by omega]
theorem enumD_len : ∀ (ds : List D) (n : Nat), (enumD n ds).length = ds.length
  | [], _ => rfl
  | d :: ds, n => by simp [enumD, enumD_len ds (n + 1)]
theorem wk_enum {ds : List D} {a : Addr} : Wk K (Ite K a) [(.lst ds, .ref a)] (enumD 0 ds) := fun μ W H hs i => by
  obtain ⟨a', vs, e, h1, h2⟩ := (hs (.lst ds, .ref a) (by simp)).lst
  cases e
  refine ⟨fun d hd => ?_, fun hi => ⟨vs, .of h1, by rw [← h2.length]; rw [enumD_len] at hi; exact hi⟩⟩
  rw [enumD_get] at hd
  obtain ⟨d', hd', rfl⟩ := Option.map_eq_some_iff.mp hd
  obtain ⟨v, h3, h4⟩ := h2.get hd'
  refine ⟨⟨vs, v, .of h1, h3⟩, fun x H' y => ?_⟩
  obtain ⟨T, x', rfl, nT, rfl, y⟩ := y
  have := y vs (.of h1)
  rw [h3] at this; cases this
  have e0 : (0 + i : Nat) = i := by omega
  rw [e0]
  exact ⟨same_new nT, .tup upd_same (.cons (.int _) (.cons (h4.ext' (Ext.new nT) .refl) .nil))⟩
theorem zipD_get : ∀ (ds es : List D) (i : Nat) (x : D), (zipD ds es)[i]? = some x → ∃ d e, ds[i]? = some d ∧ es[i]? = some e ∧ x = .tup [d, e]
  | [], _, i, x, h => by simp [zipD] at h
  | _ :: _, [], i, x, h => by simp [zipD] at h
  | d :: ds, e :: es, 0, x, h => by simp [zipD] at h; exact ⟨d, e, rfl, rfl, h.symm⟩
  | d :: ds, e :: es, i + 1, x, h => by
    simp only [zipD, List.getElem?_cons_succ] at h ⊢
    exact zipD_get ds es i x h
theorem zipD_len : ∀ (ds es : List D), (zipD ds es).length = min ds.length es.length
  | [], es => by simp [zipD]
  | _ :: _, [] => by simp [zipD]
  | d :: ds, e :: es => by simp only [zipD, List.length_cons, zipD_len ds es]; omega
theorem wk_zip {ds es : List D} {a b : Addr} : Wk K (Itz K a b) [(.lst ds, .ref a), (.lst es, .ref b)] (zipD ds es) := fun μ W H hs i => by
  obtain ⟨a', vs, e, h1, h2⟩ := (hs (.lst ds, .ref a) (by simp)).lst
  cases e
  obtain ⟨b', us, e, h1', h2'⟩ := (hs (.lst es, .ref b) (by simp)).lst
  cases e
  refine ⟨fun d hd => ?_, fun hi => ⟨vs, us, .of h1, .of h1', by rw [← h2.length, ← h2'.length]; rw [zipD_len] at hi; omega⟩⟩
  obtain ⟨d1, d2, e1, e2, rfl⟩ := zipD_get ds es i d hd
  obtain ⟨v, h3, h4⟩ := h2.get e1
  obtain ⟨u, h3', h4'⟩ := h2'.get e2
  refine ⟨⟨vs, us, v, u, .of h1, .of h1', h3, h3'⟩, fun x H' y => ?_⟩
  obtain ⟨T, x1, x2, rfl, nT, rfl, y1, y2⟩ := y
  have q1 := y1 vs (.of h1)
  rw [h3] at q1; cases q1
  have q2 := y2 us (.of h1')
  rw [h3'] at q2; cases q2
  exact ⟨same_new nT, .tup upd_same (.cons (h4.ext' (Ext.new nT) .refl) (.cons (h4'.ext' (Ext.new nT) .refl) .nil))⟩
theorem wk_zipT {ds es : List D} {a b : Addr} : Wk K (RZ.ItzT K a b) [(.tup ds, .ref a), (.tup es, .ref b)] (zipD ds es) := fun μ W H hs i => by
  obtain ⟨a', vs, e, h1, h2⟩ := (hs (.tup ds, .ref a) (by simp)).tup
  cases e
  obtain ⟨b', us, e, h1', h2'⟩ := (hs (.tup es, .ref b) (by simp)).tup
  cases e
  refine ⟨fun d hd => ?_, fun hi => ⟨vs, us, h1, h1', by rw [← h2.length, ← h2'.length]; rw [zipD_len] at hi; omega⟩⟩
  obtain ⟨d1, d2, e1, e2, rfl⟩ := zipD_get ds es i d hd
  obtain ⟨v, h3, h4⟩ := h2.get e1
  obtain ⟨u, h3', h4'⟩ := h2'.get e2
  refine ⟨⟨vs, us, v, u, h1, h1', h3, h3'⟩, fun x H' y => ?_⟩
  obtain ⟨T, x1, x2, rfl, nT, rfl, y1, y2⟩ := y
  have q1 := y1 vs h1
  rw [h3] at q1; cases q1
  have q2 := y2 us h1'
  rw [h3'] at q2; cases q2
  exact ⟨same_new nT, .tup upd_same (.cons (h4.ext' (Ext.new nT) .refl) (.cons (h4'.ext' (Ext.new nT) .refl) .nil))⟩
theorem wk_zipS {x y : List Nat} : Wk K (ItzS ⟨x.toArray⟩ ⟨y.toArray⟩) [(.str x, .str ⟨x.toArray⟩), (.str y, .str ⟨y.toArray⟩)] (zipD (x.map fun c => .str [c]) (y.map fun c => .str [c])) := fun μ W H hs i => by
  obtain ⟨_, ha⟩ := (hs (.str x, .str ⟨x.toArray⟩) (by simp)).str
  obtain ⟨_, hb⟩ := (hs (.str y, .str ⟨y.toArray⟩) (by simp)).str
  refine ⟨fun d hd => ?_, fun hi => by
    rw [zipD_len, List.length_map, List.length_map] at hi
    show (x.toArray).size ≤ i ∨ (y.toArray).size ≤ i
    simp only [List.size_toArray]
    omega⟩
  obtain ⟨d1, d2, e1, e2, rfl⟩ := zipD_get _ _ i d hd
  rw [List.getElem?_map] at e1 e2
  obtain ⟨c1, h1, rfl⟩ := Option.map_eq_some_iff.mp e1
  obtain ⟨c2, h2, rfl⟩ := Option.map_eq_some_iff.mp e2
  have l1 : i < x.length := (List.getElem?_eq_some_iff.mp h1).1
  have l2 : i < y.length := (List.getElem?_eq_some_iff.mp h2).1
  refine ⟨⟨by show i < (x.toArray).size; simpa using l1, by show i < (y.toArray).size; simpa using l2⟩, fun v H' q => ?_⟩
  obtain ⟨T, c, d, rfl, nT, rfl, q1, q2⟩ := q
  have k1 : (x.toArray)[i]? = some c1 := by simpa using h1
  have k2 : (y.toArray)[i]? = some c2 := by simpa using h2
  rw [k1] at q1; cases q1
  rw [k2] at q2; cases q2
  exact ⟨same_new nT, .tup upd_same (.cons (.str (ha.one (List.mem_of_getElem? h1))) (.cons (.str (hb.one (List.mem_of_getElem? h2))) .nil))⟩
theorem wk_rev {ds : List D} {a : Addr} : Wk K (Itv K a ds.length) [(.lst ds, .ref a)] ds.reverse := fun μ W H hs i => by
  obtain ⟨a', vs, e, h1, h2⟩ := (hs (.lst ds, .ref a) (by simp)).lst
  cases e
  refine ⟨fun d hd => ?_, fun hi => by show ds.length ≤ i; simpa using hi⟩
  have hl : i < ds.length := by
    have := (List.getElem?_eq_some_iff.mp hd).1
    simpa using this
  rw [List.getElem?_reverse hl] at hd
  obtain ⟨v, h3, h4⟩ := h2.get hd
  refine ⟨⟨hl, vs, v, .of h1, h3⟩, fun x H' y => ?_⟩
  obtain ⟨rfl, y⟩ := y
  have := y vs (.of h1)
  rw [h3] at this; cases this
  exact ⟨Same.refl _, h4⟩
end
section
variable {X : Cx} {E : XT} {EW : WX} {Φ : Nat → Fn} {pos : Pos} {tg : Expr}
theorem i_seq {a : Expr} {ca : CE} {k : Nat} (ha : PE X a (tX X.K E EW k (evE Φ ca))) : PI X tg a (tIt X.K E EW (evI Φ (.seq ca))) := by
  refine ((pi_list ha).or ((pi_tup ha).or (pi_str ha))).imp fun σ H R h => ?_
  obtain ⟨F, μ, S, ρ, B, h⟩ := h
  simp only [evI] at h
  -- which kind it is
  have hd : ∀ (cond : D → Store → Prop) (R' : VK), (∀ d S1 v H1 μ1, Ext μ H H1 → Gr μ H μ1 → Bd X.K F μ1 S1 σ ρ H1 → RK k X.K μ1 F.W H H1 S1 d v → Fin X.K E EW F σ ρ (PI1 X.K F σ ρ R) μ1 H1 ((ofO (drf S1 d) S1).bind fun y S => (ofO (seqOf y) S).bind fun ds S => .ok ⟨ds, grd S d⟩ S) → cond d S1 → R' v H1) →
      (∀ d S1, evE Φ ca ρ S = .ok d S1 → cond d S1) → tX X.K E EW k (evE Φ ca) σ H R' := fun cond R' hR hc => by
    refine ⟨F, μ, S, ρ, B, ?_⟩
    cases e : evE Φ ca ρ S with
    | ok d S1 =>
      rw [e] at h
      exact fun v H1 μ1 x g B1 r => hR d S1 v H1 μ1 x g B1 r (Fin.later PI1.tr h x g) (hc d S1 e)
    | err y S1 => rw [e] at h; exact h
    | bad => rw [e] at h; exact h
  cases e : evE Φ ca ρ S with
  | bad => rw [e] at h; exact h.elim
  | err y S1 => exact .inl (hd (fun _ _ => False) _ (fun _ _ _ _ _ _ _ _ _ _ z => z.elim) (fun d S1 z => by rw [e] at z; cases z))
  | ok d S1 =>
    cases hy : drf S1 d with
    | none => rw [e] at h; simp only [Res.bind, hy, ofO] at h; exact h.elim
    | some y =>
    have cnd : ∀ d' S', evE Φ ca ρ S = .ok d' S' → drf S' d' = some y := fun d' S' z => by rw [e] at z; cases z; exact hy
    have src1 : ∀ {d : D} {v : V} {H1 : Hp} {μ1 : List Addr} {S1 : Store}, RK k X.K μ1 F.W H H1 S1 d v → ∀ p, p ∈ ([(d, y, v)] : Src) → Rp X.K μ1 F.W H1 p.1 p.2.2 := fun r p hp => by
      simp at hp; subst hp; exact r.1
    have src2 : ∀ {d : D} {v : V} {S1 : Store}, drf S1 d = some y → ∀ S2, okG S2 (grd S1 d) → ∀ p, p ∈ ([(d, y, v)] : Src) → drf S2 p.1 = some p.2.1 := fun hy S2 g p hp => by
      simp at hp; subst hp; exact grd_drf hy g
    cases y with
    | lst ds =>
      refine .inl (hd (fun d S => drf S d = some (.lst ds)) _ (fun d' S' v H1 μ1 x g B1 r h c => ?_) cnd)
      rw [c] at h
      obtain ⟨a', vs, rfl, h1, h2⟩ := (drf_w B1.st r.1 c).lst
      exact ⟨a', rfl, ⟨vs, .of h1⟩, h _ [(d', .lst ds, .ref a')] _ _ .refl .refl B1 (src1 r) (src2 c) wk_list⟩
    | tup ds =>
      refine .inr (.inl (hd (fun d S => drf S d = some (.tup ds)) _ (fun d' S' v H1 μ1 x g B1 r h c => ?_) cnd))
      rw [c] at h
      obtain ⟨a', vs, rfl, h1, h2⟩ := (drf_w B1.st r.1 c).tup
      exact ⟨a', rfl, ⟨vs, h1⟩, h _ [(d', .tup ds, .ref a')] _ _ .refl .refl B1 (src1 r) (src2 c) wk_tup⟩
    | str l =>
      refine .inr (.inr (hd (fun d S => drf S d = some (.str l)) _ (fun d' S' v H1 μ1 x g B1 r h c => ?_) cnd))
      rw [c] at h
      obtain ⟨rfl, ha⟩ := (drf_w B1.st r.1 c).str
      exact ⟨_, rfl, h _ [(d', .str l, _)] _ _ .refl .refl B1 (src1 r) (src2 c) wk_str⟩
    | _ => rw [e] at h; simp only [Res.bind, hy, ofO] at h; exact h.elim
theorem w62_ok {i : Int} (h : w62 i = true) : -(2 ^ 62) ≤ i ∧ i < 2 ^ 62 := by
  simp only [w62, Bool.and_eq_true, decide_eq_true_eq] at h
  exact ⟨by omega, by omega⟩
theorem Rws.c1 {K : PySem.W.Frag} {μ : List Addr} {W : Addr → Prop} {H : Hp} {d : D} {vs : List V} (h : Rws K μ W H [d] vs) : ∃ v, vs = [v] ∧ Rw K μ W H d v := h.one
theorem Rws.c3 {K : PySem.W.Frag} {μ : List Addr} {W : Addr → Prop} {H : Hp} {d e f : D} {vs : List V} (h : Rws K μ W H [d, e, f] vs) : ∃ v u w, vs = [v, u, w] ∧ Rw K μ W H d v ∧ Rw K μ W H e u ∧ Rw K μ W H f w := by
  cases h with | cons h r => obtain ⟨u, w, rfl, q⟩ := r.two; exact ⟨_, _, _, rfl, h, q.1, q.2⟩
theorem drfs_w {K : PySem.W.Frag} {μ : List Addr} {W : Addr → Prop} {S : Store} {H : Hp} (st : SOk K μ W H S) : ∀ {ds ds' : List D} {vs : List V}, Rps K μ W H ds vs → drfs S ds = some ds' → Rws K μ W H ds' vs ∧ ∃ src : Src, src.map (·.1) = ds ∧ src.map (·.2.1) = ds' ∧ src.map (·.2.2) = vs ∧ (∀ p, p ∈ src → Rp K μ W H p.1 p.2.2) ∧ ∀ S1, okG S1 (grds S ds) → ∀ p, p ∈ src → drf S1 p.1 = some p.2.1
  | _, _, _, .nil, h => by cases h; exact ⟨.nil, [], rfl, rfl, rfl, fun _ z => (nomatch z), fun _ _ _ z => (nomatch z)⟩
  | d :: ds, ds', _, .cons (v := v) r rs, h => by
    unfold drfs at h
    cases e1 : drf S d with
    | none => rw [e1] at h; cases h
    | some d' =>
      cases e2 : drfs S ds with
      | none => rw [e1, e2] at h; cases h
      | some es =>
        rw [e1, e2] at h
        cases h
        obtain ⟨q1, src, a1, a2, a3, a4, a5⟩ := drfs_w st rs e2
        refine ⟨.cons (drf_w st r e1) q1, (d, d', v) :: src, by simp [a1], by simp [a2], by simp [a3], fun p hp => ?_, fun S1 g p hp => ?_⟩
        · rcases List.mem_cons.mp hp with rfl | hp
          · exact r
          · exact a4 p hp
        · rw [grds] at g
          rcases List.mem_cons.mp hp with rfl | hp
          · exact grd_drf e1 (okG_app g).1
          · exact a5 S1 (okG_app g).2 p hp
/-- a walk made of its arguments -/
theorem wlk_go {w : Wc} {l : CL} {R : It → Hp → Prop} {σ : L2.St} {H : Hp} {q : List V → Hp → Prop} (h : tIt X.K E EW (evI Φ (.wlk w l)) σ H R)
    (hq : ∀ (μ : List Addr) (W : Addr → Prop) (H1 : Hp) (ys ds : List D) (vs : List V), wcD w ys = some ds → Rws X.K μ W H1 ys vs → (∀ J src', (∀ p, p ∈ src' → p ∈ ys.zip vs) → Wk X.K J src' ds → R J H1) → q vs H1) : tL X.K E EW (evL Φ l) σ H q := by
  obtain ⟨F, μ, S, ρ, B, h⟩ := h
  simp only [evI] at h
  refine tL.bind PI1.tr B h fun ds S1 vs H1 μ1 x1 g1 B1 r1 h => ?_
  cases hd : drfs S1 ds with
  | none => rw [hd] at h; exact h.elim
  | some ys =>
    rw [hd] at h
    have h : Fin X.K E EW F σ ρ (PI1 X.K F σ ρ R) μ1 H1 ((ofO (wcD w ys) S1).bind fun es S => .ok ⟨es, grds S ds⟩ S) := h
    cases hw : wcD w ys with
    | none => rw [hw] at h; exact h.elim
    | some es =>
      rw [hw] at h
      obtain ⟨q1, src, a1, a2, a3, a4, a5⟩ := drfs_w B1.st r1 hd
      refine hq μ1 F.W H1 ys es vs hw q1 fun J src' sub wk => h J src H1 μ1 .refl .refl B1 a4 a5 fun μ W H hs i => wk μ W H (fun p hp => hs p ?_) i
      have e : ys.zip vs = src.map (·.2) := by
        rw [← a2, ← a3]
        clear hq h hs a1 a4 a5 a2 a3 sub hp
        induction src with
        | nil => rfl
        | cons x xs ih => simp [ih]
      rw [← e]; exact sub p hp
theorem i_r1 {a : Expr} {l : CL} {p : Pos} (hg : Gl X "range") (hm : X.mg "range" = none) (ha : PA X [a] (tL X.K E EW (evL Φ l))) (hs : starEach [a] X.env = [(false, eval a X.env)]) : PI X tg (.Call (.Name "range" p) [a] [] pos) (tIt X.K E EW (evI Φ (.wlk .r1 l))) := by
  refine (pi_range1 hg hm ha hs).imp fun σ H R h => ?_
  unfold iRng1
  refine wlk_go h fun μ W H1 ys ds vs hz r1 q => ?_
  unfold wcD at hz
  split at hz <;> first | (rename_i h0; cases h0; done) | (cases hz; done) | skip
  split at hz
  · rename_i w
    cases hz
    obtain ⟨v, rfl, q1⟩ := r1.c1
    cases q1.int
    refine ⟨_, rfl, (w62_ok w).1, (w62_ok w).2, q _ [] (fun _ z => nomatch z) ?_⟩
    have wk0 : ∀ n : Nat, Wk X.K (Itr 0 n) [] ((List.range n).map fun i => .int ((i : Nat) : Int)) := fun n => by
      have := wk_range (K := X.K) (lo := 0) (n := n) (src := [])
      simp only [Int.zero_add] at this
      exact this
    exact wk0 _
  · cases hz
theorem i_r2 {a b : Expr} {l : CL} {p : Pos} (hg : Gl X "range") (hm : X.mg "range" = none) (ha : PA X [a, b] (tL X.K E EW (evL Φ l))) (hs : starEach [a, b] X.env = [(false, eval a X.env), (false, eval b X.env)]) (hs2 : starEach [b] X.env = [(false, eval b X.env)]) : PI X tg (.Call (.Name "range" p) [a, b] [] pos) (tIt X.K E EW (evI Φ (.wlk .r2 l))) := by
  refine (pi_range2 hg hm ha hs hs2).imp fun σ H R h => ?_
  unfold iRng2
  refine wlk_go h fun μ W H1 ys ds vs hz r1 q => ?_
  unfold wcD at hz
  split at hz <;> first | (rename_i h0; cases h0; done) | (cases hz; done) | skip
  split at hz
  · rename_i w
    simp only [Bool.and_eq_true] at w
    cases hz
    obtain ⟨v, u, rfl, q1, q2⟩ := r1.two
    cases q1.int
    cases q2.int
    exact ⟨_, _, rfl, ⟨(w62_ok w.1).1, (w62_ok w.1).2, (w62_ok w.2).1, (w62_ok w.2).2⟩, q _ [] (fun _ z => nomatch z) wk_range⟩
  · cases hz
theorem i_r3 {a b c : Expr} {l : CL} {p : Pos} (hg : Gl X "range") (hm : X.mg "range" = none) (ha : PA X [a, b, c] (tL X.K E EW (evL Φ l))) (hs : starEach [a, b, c] X.env = (false, eval a X.env) :: starEach [b, c] X.env) (hpl : (backTo pos (starEach [b, c] X.env)).any (·.1) = false) : PI X tg (.Call (.Name "range" p) [a, b, c] [] pos) (tIt X.K E EW (evI Φ (.wlk .r3 l))) := by
  refine (pi_range3 hg hm ha hs hpl).imp fun σ H R h => ?_
  unfold iRng3
  refine wlk_go h fun μ W H1 ys ds vs hz r1 q => ?_
  unfold wcD at hz
  split at hz <;> first | (rename_i h0; cases h0; done) | (cases hz; done) | skip
  split at hz
  · rename_i w
    simp only [Bool.and_eq_true, beq_iff_eq] at w
    obtain ⟨⟨w1, w2⟩, wc⟩ := w
    cases hz
    obtain ⟨v, u, y, rfl, q1, q2, q3⟩ := r1.c3
    cases q1.int
    cases q2.int
    cases q3.int
    rw [wc]
    exact ⟨_, _, _, _, rfl, RgC.neg (w62_ok w1).1 (w62_ok w1).2 (w62_ok w2).1 (w62_ok w2).2, q _ [] (fun _ z => nomatch z) wk_rangeC⟩
  · cases hz
theorem i_enum {a : Expr} {l : CL} {p tpos : Pos} {elts : List Expr} {kk : Nat} (hg : Gl X "enumerate") (hm : X.mg "enumerate" = none) (ha : PA X [a] (tL X.K E EW (evL Φ l))) (hs : starEach [a] X.env = [(false, eval a X.env)]) : PI X (.Tuple elts kk tpos) (.Call (.Name "enumerate" p) [a] [] pos) (tIt X.K E EW (evI Φ (.wlk .enum l))) := by
  refine (pi_enum hg hm ha hs).imp fun σ H R h => ?_
  unfold iEnum
  refine wlk_go h fun μ W H1 ys ds vs hz r1 q => ?_
  unfold wcD at hz
  split at hz <;> first | (rename_i h0; cases h0; done) | (cases hz; done) | skip
  cases hz
  obtain ⟨v, rfl, q1⟩ := r1.c1
  obtain ⟨a', ws, rfl, h1, h2⟩ := q1.lst
  exact ⟨a', ws, rfl, .of h1, q _ [(_, _)] (fun p hp => hp) wk_enum⟩
theorem i_rev {a : Expr} {l : CL} {p : Pos} (hg : Gl X "reversed") (hm : X.mg "reversed" = none) (ha : PA X [a] (tL X.K E EW (evL Φ l))) (hs : starEach [a] X.env = [(false, eval a X.env)]) : PI X tg (.Call (.Name "reversed" p) [a] [] pos) (tIt X.K E EW (evI Φ (.wlk .rev l))) := by
  refine (pi_reversed hg hm ha hs).imp fun σ H R h => ?_
  unfold iRev
  refine wlk_go h fun μ W H1 ys ds vs hz r1 q => ?_
  unfold wcD at hz
  split at hz <;> first | (rename_i h0; cases h0; done) | (cases hz; done) | skip
  cases hz
  obtain ⟨v, rfl, q1⟩ := r1.c1
  obtain ⟨a', ws, rfl, h1, h2⟩ := q1.lst
  exact ⟨a', ws, rfl, .of h1, by rw [← h2.length]; exact q _ [(_, _)] (fun p hp => hp) wk_rev⟩
theorem i_zip {a b : Expr} {l : CL} {p tpos : Pos} {elts : List Expr} {kk : Nat} (hg : Gl X "zip") (hm : X.mg "zip" = none) (ha : PA X [a, b] (tL X.K E EW (evL Φ l))) (hs : starEach [a, b] X.env = (false, eval a X.env) :: starEach [b] X.env) (hpl : (backTo pos (starEach [b] X.env)).any (·.1) = false) : PI X (.Tuple elts kk tpos) (.Call (.Name "zip" p) [a, b] [] pos) (tIt X.K E EW (evI Φ (.wlk .zip l))) := by
  refine (pi_zipB hg hm ha hs hpl).imp fun σ H R h => ?_
  unfold iZipB
  refine wlk_go h fun μ W H1 ys ds vs hz r1 q => ?_
  unfold wcD at hz
  split at hz <;> first | (rename_i h0; cases h0; done) | (cases hz; done) | skip
  · cases hz
    obtain ⟨v, u, rfl, q1, q2⟩ := r1.two
    obtain ⟨a', ws, rfl, h1, h2⟩ := q1.lst
    obtain ⟨b', ws', rfl, h1', h2'⟩ := q2.lst
    exact .inl ⟨a', b', ws, ws', rfl, .inl ⟨.of h1, .of h1', q _ [(_, _), (_, _)] (fun p hp => hp) wk_zip⟩⟩
  · cases hz
    obtain ⟨v, u, rfl, q1, q2⟩ := r1.two
    obtain ⟨a', ws, rfl, h1, h2⟩ := q1.tup
    obtain ⟨b', ws', rfl, h1', h2'⟩ := q2.tup
    exact .inl ⟨a', b', ws, ws', rfl, .inr ⟨h1, h1', q _ [(_, _), (_, _)] (fun p hp => hp) wk_zipT⟩⟩
  · cases hz
    obtain ⟨v, u, rfl, q1, q2⟩ := r1.two
    obtain ⟨rfl, _⟩ := q1.str
    obtain ⟨rfl, _⟩ := q2.str
    exact .inr ⟨_, _, rfl, q _ [(_, _), (_, _)] (fun p hp => hp) wk_zipS⟩
end
end RH

set_option Elab.async false
set_option linter.all false
set_option maxRecDepth 100000
/-! RHSnd6: comprehensions. -/
namespace RH
open PySem PySem.Spec PyProof.Rows L2
section
variable {K : PySem.W.Frag} {F : Fx} {μ μ' : List Addr} {S S' : Store} {σ : L2.St} {ρ : List Cell} {H H' : Hp} 
theorem wipeC_len (ρ : List Cell) : ∀ vs : List Nat, (wipeC ρ vs).length = ρ.length
  | [] => rfl
  | v :: vs => by rw [wipeC, List.length_set, wipeC_len ρ vs]
theorem wipeC_in {ρ : List Cell} {j : Nat} : ∀ {vs : List Nat}, j ∈ vs → j < ρ.length → (wipeC ρ vs)[j]? = some .u
  | v :: vs, h, hl => by
    unfold wipeC
    by_cases e : v = j
    · subst e; exact List.getElem?_set_self (by rw [wipeC_len]; exact hl)
    · rw [List.getElem?_set_ne e]
      exact wipeC_in (by rcases List.mem_cons.mp h with z | z; exact absurd z.symm e; exact z) hl
theorem wipeC_out {ρ : List Cell} {j : Nat} : ∀ {vs : List Nat}, j ∉ vs → (wipeC ρ vs)[j]? = ρ[j]?
  | [], _ => rfl
  | v :: vs, h => by
    simp only [List.mem_cons, not_or] at h
    unfold wipeC
    rw [List.getElem?_set_ne (Ne.symm h.1)]
    exact wipeC_out h.2
theorem wipe_in {σ : L2.St} {j : Nat} : ∀ {vs : List Nat}, j ∈ vs → j < σ.length → (wipe σ vs)[j]? = some none
  | v :: vs, h, hl => by
    unfold wipe
    by_cases e : v = j
    · subst e; exact List.getElem?_set_self (by rw [wipe_length]; exact hl)
    · rw [List.getElem?_set_ne e]
      exact wipe_in (by rcases List.mem_cons.mp h with z | z; exact absurd z.symm e; exact z) hl
theorem wipe_only {σ σ' : L2.St} {vs ts : List Nat} (o : Only ts (wipe σ vs) σ') (sub : ∀ i, i ∈ ts → i ∈ vs) : wipe σ' vs = wipe σ vs := by
  have hl : σ'.length = σ.length := o.1.trans (wipe_length σ vs)
  apply List.ext_getElem?
  intro j
  by_cases hj : j ∈ vs
  · by_cases hlt : j < σ.length
    · rw [wipe_in hj hlt, wipe_in hj (by rw [hl]; exact hlt)]
    · rw [List.getElem?_eq_none (by rw [wipe_length]; omega), List.getElem?_eq_none (by rw [wipe_length]; omega)]
  · rw [wipe_out hj, o.2 j (fun z => hj (sub j z)), wipe_out hj]
theorem Bd.wipe (B : Bd K F μ S σ ρ H) (vs : List Nat) : Bd K F μ S (L2.wipe σ vs) (wipeC ρ vs) H where
  dom := B.dom
  st := B.st
  len := by rw [wipe_length, wipeC_len]; exact B.len
  ext := B.ext
  gr := B.gr
  pin := B.pin
  slot := fun i c e => by
    by_cases hi : i ∈ vs
    · have hl : i < ρ.length := by
        have := (List.getElem?_eq_some_iff.mp e).1
        rw [wipeC_len] at this; exact this
      rw [wipeC_in hi hl] at e
      cases e
      trivial
    · rw [wipeC_out hi] at e
      rw [wipe_out hi]
      exact B.slot i c e
/-- one more address that nothing holds -/
def Fx.more (F : Fx) (D : Addr) : Fx := { F with W := fun b => F.W b ∨ b = D }
theorem Bd.inner (B : Bd K F μ S σ ρ H) {D : Addr} (hD : H D = none) (x : Ext μ H H') (g : Gr μ H μ') (s : SOk K μ' (F.more D).W H' S') (hD' : H' D ≠ none) : Bd K (F.more D) μ' S' σ ρ H' := by
  have w : ∀ b, H b ≠ none → (F.more D).W b → F.W b := fun b hb z => by
    rcases z with z | z
    · exact z
    · subst z; exact absurd hD hb
  have B2 : Bd K F μ' S' σ ρ H' := B.step x g (s.less fun b z => .inl z)
  refine ⟨fun b hb => ?_, s, B.len, B2.ext, B2.gr, fun p hp => Rp.ext x g w (B.pin p hp), fun i c h => ?_⟩
  · rcases hb with hb | hb
    · exact B2.dom b hb
    · subst hb; exact hD'
  · have q := B.slot i c h
    cases c with
    | u => trivial
    | sh d => obtain ⟨v, h1, h2⟩ := q; exact ⟨v, h1, Rp.ext x g w h2⟩
end
/-- no error leaves -/
def EWF : WX := fun _ _ _ _ => False
section
variable {X : Cx} {E : XT} {EW : WX} {Φ : Nat → Fn} {pos : Pos}
/-- one turn of a comprehension -/
noncomputable def stepC (Φ : Nat → Fn) (vs : List Nat) (elt : CE) (t : Tg) (c : CO) (ρ : List Cell) (d : D) (S : Store) : Res (Option D) :=
  (ofO (bindT t d (wipeC ρ vs)) S).bind fun ρ' S => (evC Φ c ρ' S).bind fun k S => if k then (evE Φ elt ρ' S).bind fun y S => .ok (some y) S else .ok none S
theorem ev_comp {own : List (Str × Nat)} {elt : CE} {t : Tg} {it : CI} {c : CO} {ρ : List Cell} {S : Store} : evE Φ (.comp own elt t it c) ρ S = (evI Φ it ρ S).bind fun w S => compL w.g (stepC Φ (own.map (·.2)) elt t c ρ) w.ds S [] := by
  rw [evE]; rfl
theorem lc_go {own : List (Str × Nat)} {elt : CE} {t : Tg} {it : CI} {c : CO} {k ke : Nat} (sub : ∀ i, i ∈ tgs t → i ∈ own.map (·.2)) : ∀ σ H Q, tX X.K E EW k (evE Φ (.comp own elt t it c)) σ H Q →
    tLc (tIt X.K E EW (evI Φ it)) (tG X.K t) (tT X.K E EWF (evC Φ c)) (tX X.K E EWF ke (evE Φ elt)) (own.map (·.2)) σ H Q := fun σ H Q h => by
  obtain ⟨F, μ, S, ρ, B, h⟩ := h
  rw [ev_comp] at h
  -- what is walked
  refine ⟨F, μ, S, ρ, B, ?_⟩
  cases ei : evI Φ it ρ S with
  | bad => rw [ei] at h; exact h.elim
  | err y S1 => rw [ei] at h; exact h
  | ok w S1 =>
  rw [ei] at h
  intro J src H1 μ1 x1 g1 B1 hsrc hgd wk D hD
  have h : Fin X.K E EW F σ ρ (PE1 X.K F σ ρ k Q) μ1 H1 (compL w.g (stepC Φ (own.map (·.2)) elt t c ρ) w.ds S1 []) := Fin.later PE1.tr h x1 g1
  have dm := B1.dm
  let Wd : Addr → Prop := (F.more D).W
  have w1 : ∀ b, H1 b ≠ none → Wd b → F.W b := fun b hb z => by
    rcases z with z | z
    · exact z
    · subst z; exact absurd hD hb
  have nDm : D ∉ μ1 := fun z => dm.2 D z hD
  let items := w.ds
  let Iv : Nat → Nat → Hp → Prop := fun i m Hi => ∃ μi Si acc vs, m = items.length - i ∧ i ≤ items.length ∧ Ext μ1 H1 Hi ∧ Gr μ1 H1 μi ∧ SOk X.K μi Wd Hi Si ∧ Hi D = some (.lst vs) ∧ D ∉ μi ∧ Rps X.K μi Wd Hi acc vs ∧
    Fin X.K E EW F σ ρ (PE1 X.K F σ ρ k Q) μ1 H1 (compL w.g (stepC Φ (own.map (·.2)) elt t c ρ) (items.drop i) Si acc)
  refine ⟨Iv, ⟨items.length, μ1, S1, [], [], rfl, Nat.zero_le _, Ext.new hD, .refl, ?_, upd_same, nDm, .nil, h⟩, ?_⟩
  · exact B1.st.keep (fun b o hb _ => same_new hD b o hb) (Ext.new hD) w1
  rintro i m Hi ⟨μi, Si, acc, vs, rfl, hi, xi, gi, si, eD, nD, ra, hf⟩
  have srcI : okG Si w.g → ∀ p, p ∈ src.map (·.2) → Rw X.K μi Wd Hi p.1 p.2 := fun og p hp => by
    obtain ⟨q, hq, rfl⟩ := List.mem_map.mp hp
    exact drf_w si (Rp.ext xi gi w1 (hsrc q hq)) (hgd Si og q hq)
  by_cases hlt : i < items.length
  · -- one more turn
    obtain ⟨d, hd⟩ : ∃ d, items[i]? = some d := ⟨_, List.getElem?_eq_getElem hlt⟩
    have ed : items.drop i = d :: items.drop (i + 1) := by
      obtain ⟨h1, h2⟩ := List.getElem?_eq_some_iff.mp hd
      rw [← h2]; exact List.drop_eq_getElem_cons h1
    rw [ed, compL] at hf
    split at hf
    case isFalse => exact hf.elim
    rename_i og
    obtain ⟨go, yl⟩ := (wk μi Wd Hi (srcI og) i).1 d hd
    refine .inr ⟨go, fun H' => Iv (i + 1) (items.length - (i + 1)) H', fun H' hN => ⟨items.length - (i + 1), by omega, hN⟩, fun xv H2 y => ?_⟩
    obtain ⟨sm, rx⟩ := yl xv H2 y
    have x2 : Ext μ1 H1 H2 := xi.trans gi (.of_same sm)
    have s2 : SOk X.K μi Wd H2 Si := si.same sm
    have eD2 : H2 D = some (.lst vs) := sm _ _ eD
    have B2 : Bd X.K (F.more D) μi Si (wipe σ (own.map (·.2))) (wipeC ρ (own.map (·.2))) H2 := (B1.wipe _).inner hD x2 gi s2 (by rw [eD2]; intro z; cases z)
    cases eb : bindT t d (wipeC ρ (own.map (·.2))) with
    | none => simp only [stepC, eb, ofO, Res.bind] at hf; exact hf.elim
    | some ρ' =>
    simp only [stepC, eb, ofO, Res.bind] at hf
    refine ⟨F.more D, μi, Si, _, d, ρ', B2, rx, eb, fun σ' B3 oo => ⟨wipe_only oo sub, ?_⟩⟩
    refine ⟨F.more D, μi, Si, ρ', B3, ?_⟩
    cases ec : evC Φ c ρ' Si with
    | bad => rw [ec] at hf; exact hf.elim
    | err y S3 => rw [ec] at hf; exact hf.elim
    | ok b S3 =>
    rw [ec] at hf
    intro H3 μ3 x3 g3 B4
    have nD3 : D ∉ μ3 := fun z => by rw [g3.2 D z nD] at eD2; cases eD2
    have eD3 : H3 D = some (.lst vs) := x3 _ _ eD2 (.inl nD)
    have x13 : Ext μ1 H1 H3 := x2.trans gi x3
    have g13 : Gr μ1 H1 μ3 := gi.trans x2 g3
    have ra3 : Rps X.K μ3 Wd H3 acc vs := (ra.ext' (.of_same sm) .refl).ext' x3 g3
    cases b with
    | false =>
      simp only [Bool.false_eq_true, if_false] at hf ⊢
      exact ⟨μ3, S3, acc, vs, rfl, hlt, x13, g13, B4.st, eD3, nD3, ra3, hf⟩
    | true =>
      simp only [if_true] at hf ⊢
      refine ⟨F.more D, μ3, S3, ρ', B4, ?_⟩
      cases ee : evE Φ elt ρ' S3 with
      | bad => rw [ee] at hf; exact hf.elim
      | err y S4 => rw [ee] at hf; exact hf.elim
      | ok yd S4 =>
      rw [ee] at hf
      intro yv H4 μ4 x4 g4 B5 r5
      simp only [Res.bind] at hf
      split at hf
      case isFalse => exact hf.elim
      rename_i hsz
      have nD4 : D ∉ μ4 := fun z => by rw [g4.2 D z nD3] at eD3; cases eD3
      have eD4 : H4 D = some (.lst vs) := x4 _ _ eD3 (.inl nD3)
      have x14 : Ext μ1 H1 H4 := x13.trans g13 x4
      have g14 : Gr μ1 H1 μ4 := g13.trans x13 g4
      have ra4 : Rps X.K μ4 Wd H4 acc vs := ra3.ext' x4 g4
      have ry : Rp X.K μ4 Wd H4 yd yv := r5.1
      have kT : ∀ b o, H4 b = some o → Imd o → upd H4 D (.lst (vs ++ [yv])) b = some o := fun b o hb im => by
        rw [upd_ne (fun z => by subst z; rw [eD4] at hb; cases hb; exact im)]; exact hb
      have kL : ∀ b o, H4 b = some o → ¬ Im o → (Wd b → ∃ fs, o = .xd fs) → b ∉ μ4 → upd H4 D (.lst (vs ++ [yv])) b = some o := fun b o hb _ nw _ => by
        rw [upd_ne (fun z => by
          subst z
          obtain ⟨fs, e⟩ := nw (.inr rfl)
          subst e
          rw [eD4] at hb; cases hb)]; exact hb
      refine ⟨vs, eD4, by rw [sizeLine_eq, ← ra4.length]; exact hsz, μ4, S4, acc ++ [yd], vs ++ [yv], rfl, hlt, ?_, g14, ?_, upd_same, nD4, Rps.stay kT kL (ra4.append (.cons ry .nil)), hf⟩
      · intro b o hb q
        rw [upd_ne (ne_of_none hb hD)]
        exact x14 b o hb q
      · refine ⟨B5.st.len, B5.st.nd, B5.st.nw, fun n a ds h1 h2 => ?_⟩
        obtain ⟨o, ws, e1, sh, e2⟩ := B5.st.at_ n a ds h1 h2
        exact ⟨o, ws, by rw [upd_ne (fun z => nD4 (by rw [← z]; exact List.mem_of_getElem? h1))]; exact e1, sh.keep fun dx e n => ⟨by rw [upd_ne (fun z => by subst z; rw [eD4] at e; cases e)]; exact e, n⟩, Rps.stay kT kL e2⟩
  · have e : i = items.length := by omega
    subst e
    rw [List.drop_length, compL] at hf
    split at hf
    case isFalse => exact hf.elim
    rename_i og
    refine .inl ⟨(wk μi Wd Hi (srcI og) _).2 (Nat.le_refl _), ?_⟩
    refine hf (.ref D) Hi μi xi gi (B1.step xi gi (si.less fun b z => .inl z)) (.of (.lst eD (fun z => dm.1 D z hD) nD (ra.less fun b z => .inl z)) (fun ds e => ?_) fun ds a e e' => ?_)
    · cases e
      exact ⟨D, vs, rfl, hD, eD, nD, ra⟩
    · cases e'
      exact si
theorem s_comp {own : List (Str × Nat)} {elt : CE} {t : Tg} {it : CI} {c : CO} {k ke : Nat} {e tg iter : Expr} {ifs : List Expr} {scope : Scope} (sub : ∀ i, i ∈ tgs t → i ∈ own.map (·.2)) (hc : X.calm = true) (hN : X.N.Nodup) (hi : PI X tg iter (tIt X.K E EW (evI Φ it))) (ok : BlkOk X.N X.env.scope scope own)
    (hg : ∀ (s : Shared) (H : Hp) (C : Addr) (cl : List (Str × Addr)) (fp : List Addr), PG (X.blk s H scope (compEnvC scope cl C X.env) fp) tg (tG X.K t))
    (ht : ∀ (s : Shared) (H : Hp) (C : Addr) (cl : List (Str × Addr)) (fp : List Addr), PTs (X.blk s H scope (compEnvC scope cl C X.env) fp) ifs (tT X.K E EWF (evC Φ c)))
    (he : ∀ (s : Shared) (H : Hp) (C : Addr) (cl : List (Str × Addr)) (fp : List Addr), PE (X.blk s H scope (compEnvC scope cl C X.env) fp) e (tX X.K E EWF ke (evE Φ elt))) (hs : ∀ x, foldedSetIterable iter X.env x = pure x) :
    PE X (.ListComp e [⟨tg, iter, ifs, 0⟩] scope pos) (tX X.K E EW k (evE Φ (.comp own elt t it c))) :=
  (pe_lc hc hN hi ok hg ht he hs).imp (lc_go sub)
end
end RH

set_option Elab.async false
set_option linter.all false
set_option maxRecDepth 100000
/-! RFSnd7: statements. -/
namespace RH
open PySem PySem.Spec PyProof.Rows L2
/-- what is wanted of a statement's end -/
def PF (K : PySem.W.Frag) (F : Fx) (D : Ends) : Flw → Store → Prop
  | .nx ρ, S => ∀ σ H μ, Bd K F μ S σ ρ H → D.nx σ H
  | .bk ρ, S => ∀ σ H μ, Bd K F μ S σ ρ H → D.bk σ H
  | .ct ρ, S => ∀ σ H μ, Bd K F μ S σ ρ H → D.ct σ H
  | .rt fr d, S => ∀ v H μ, Ext F.μ0 F.H0 H → Gr F.μ0 F.H0 μ → SOk K μ F.W H S → RR fr K μ F.W F.H0 H S d v → D.rt v H
def FinS (K : PySem.W.Frag) (E : XT) (EW : WX) (F : Fx) (D : Ends) : Out → Prop
  | .ok f S => PF K F D f S
  | .err x S => ∀ c dd σ H μ ρ, Bd K F μ S σ ρ H → XRep E K μ F.W H x c dd → EW c dd σ H
  | .bad => False
def tSt (K : PySem.W.Frag) (E : XT) (EW : WX) (m : List Cell → Store → Out) : TS := fun D σ H => ∃ F μ S ρ, Bd K F μ S σ ρ H ∧ FinS K E EW F D (m ρ S)
section
variable {K : PySem.W.Frag} {E : XT} {EW : WX} {F : Fx} {D : Ends} {σ : L2.St} {ρ : List Cell} {μ : List Addr} {S : Store} {H : Hp}
theorem tX.bindS {k : Nat} {m : List Cell → Store → Res RH.D} {f : RH.D → Store → Out} {R : VK} (B : Bd K F μ S σ ρ H) (h : FinS K E EW F D ((m ρ S).bind f))
    (hR : ∀ d S1 v H1 μ1, Ext μ H H1 → Gr μ H μ1 → Bd K F μ1 S1 σ ρ H1 → RK k K μ1 F.W H H1 S1 d v → FinS K E EW F D (f d S1) → R v H1) : tX K E EW k m σ H R := by
  refine ⟨F, μ, S, ρ, B, ?_⟩
  cases e : m ρ S with
  | ok d S1 =>
    rw [e] at h
    exact fun v H1 μ1 x g B1 r => hR d S1 v H1 μ1 x g B1 r h
  | err y S1 => rw [e] at h; exact fun c dd H' μ' _ _ b r => h c dd σ H' μ' ρ b r
  | bad => rw [e] at h; exact h
theorem tT.bindS {m : List Cell → Store → Res Bool} {f : Bool → Store → Out} {R : Bool → Hp → Prop} (B : Bd K F μ S σ ρ H) (h : FinS K E EW F D ((m ρ S).bind f))
    (hR : ∀ b S1 H1 μ1, Ext μ H H1 → Gr μ H μ1 → Bd K F μ1 S1 σ ρ H1 → FinS K E EW F D (f b S1) → R b H1) : tT K E EW m σ H R := by
  refine ⟨F, μ, S, ρ, B, ?_⟩
  cases e : m ρ S with
  | ok d S1 =>
    rw [e] at h
    exact fun H1 μ1 x g B1 => hR d S1 H1 μ1 x g B1 h
  | err y S1 => rw [e] at h; exact fun c dd H' μ' _ _ b r => h c dd σ H' μ' ρ b r
  | bad => rw [e] at h; exact h
theorem tL.bindS {m : List Cell → Store → Res (List RH.D)} {f : List RH.D → Store → Out} {R : List V → Hp → Prop} (B : Bd K F μ S σ ρ H) (h : FinS K E EW F D ((m ρ S).bind f))
    (hR : ∀ ds S1 vs H1 μ1, Ext μ H H1 → Gr μ H μ1 → Bd K F μ1 S1 σ ρ H1 → Rps K μ1 F.W H1 ds vs → FinS K E EW F D (f ds S1) → R vs H1) : tL K E EW m σ H R := by
  refine ⟨F, μ, S, ρ, B, ?_⟩
  cases e : m ρ S with
  | ok d S1 =>
    rw [e] at h
    exact fun v H1 μ1 x g B1 r => hR d S1 v H1 μ1 x g B1 r h
  | err y S1 => rw [e] at h; exact fun c dd H' μ' _ _ b r => h c dd σ H' μ' ρ b r
  | bad => rw [e] at h; exact h
theorem tIt.bindS {m : List Cell → Store → Res Wlk} {f : Wlk → Store → Out} {R : It → Hp → Prop} (B : Bd K F μ S σ ρ H) (h : FinS K E EW F D ((m ρ S).bind f))
    (hR : ∀ w S1 J (src : Src) H1 μ1, Bd K F μ1 S1 σ ρ H1 → (∀ p, p ∈ src → Rp K μ1 F.W H1 p.1 p.2.2) → (∀ S2, okG S2 w.g → ∀ p, p ∈ src → drf S2 p.1 = some p.2.1) → Wk K J (src.map (·.2)) w.ds → FinS K E EW F D (f w S1) → R J H1) : tIt K E EW m σ H R := by
  refine ⟨F, μ, S, ρ, B, ?_⟩
  cases e : m ρ S with
  | ok d S1 =>
    rw [e] at h
    exact fun J src H1 μ1 x g B1 r s w => hR d S1 J src H1 μ1 B1 r s w h
  | err y S1 => rw [e] at h; exact fun c dd H' μ' _ _ b r => h c dd σ H' μ' ρ b r
  | bad => rw [e] at h; exact h
end
section
variable {X : Cx} {E : XT} {EW : WX} {Φ : Nat → Fn} {pos : Pos} {st : Stmt}
theorem t_set {i : Nat} {e : CE} {k : Nat} (h : PS X st (tAsg (tX X.K E EW k (evE Φ e)) (gName i))) : PS X st (tSt X.K E EW (evS Φ (.set i e))) := by
  refine h.imp fun D σ H h => ?_
  obtain ⟨F, μ, S, ρ, B, h⟩ := h
  simp only [evS] at h
  refine tX.bindS B h fun d S1 v H1 μ1 x1 g1 B1 r1 h => ?_
  exact h _ _ _ (B1.set i r1.1)
theorem t_setT {t : Tg} {tg e : Expr} {c : CE} {k : Nat} (he : PE X e (tX X.K E EW k (evE Φ c))) (hg : PG X tg (tG X.K t)) (hs : swapsWithSole [tg] e pos.line X.env = pure false) (hw : swappedStores [tg] e X.env = pure none) (h1 : (assignEach [tg] X.env).map (·.2) = [assign tg X.env]) : PS X (.Assign [tg] e pos) (tSt X.K E EW (evS Φ (.setT t c))) := by
  refine (ps_asg he hg hs hw h1).imp fun D σ H h => ?_
  obtain ⟨F, μ, S, ρ, B, h⟩ := h
  simp only [evS] at h
  refine tX.bindS B h fun d S1 v H1 μ1 x1 g1 B1 r1 h => ?_
  unfold setTF at h
  split at h
  · rename_i ρ' e
    exact ⟨F, μ1, S1, ρ, d, ρ', B1, r1.1, e, fun σ' B2 _ => h _ _ _ B2⟩
  · exact h.elim
theorem t_exp {e : Expr} {c : CE} {k : Nat} (he : PE X e (tX X.K E EW k (evE Φ c))) (hs : swapsWith e none pos.line X.env = pure false) : PS X (.Expr e pos) (tSt X.K E EW (evS Φ (.exp c))) := by
  refine (ps_expr he hs).imp fun D σ H h => ?_
  obtain ⟨F, μ, S, ρ, B, h⟩ := h
  simp only [evS] at h
  refine tX.bindS B h fun d S1 v H1 μ1 x1 g1 B1 r1 h => ?_
  exact h _ _ _ B1
theorem ltOf_some {S : Store} {d : D} {p : Nat} (h : ltOf S d = some p) : d = .ptr p ∧ ∃ ds, S[p]? = some (.lst ds) := by
  unfold ltOf at h
  split at h
  · split at h
    · rename_i ds hd
      cases h
      exact ⟨rfl, ds, hd⟩
    · cases h
  · cases h
theorem t_app {o e : Expr} {co c : CE} {ko k : Nat} {ap cp : Pos} (ho : PE X o (tX X.K E EW ko (evE Φ co))) (he : PE X e (tX X.K E EW k (evE Φ c))) (hs : starEach [e] X.env = [(false, eval e X.env)]) (hbase : attributeBase o "append" X.env (eval o X.env) = eval o X.env) (hline : (ap.endLine == cp.line) = true) :
    PS X (.Expr (.Call (.Attribute o "append" ap) [e] [] cp) pos) (tSt X.K E EW (evS Φ (.app co c))) := by
  refine (ps_expr (pe_bm PySem.F.plainAttrs_list PySem.F.slot_list_append PySem.F.type_list_append mt_append ho (pa_cons he pa_nil hs) hbase (by rw [hs]; rfl) hline hs rfl) rfl).imp fun D σ H h => ?_
  obtain ⟨F, μ, S, ρ, B, h⟩ := h
  simp only [evS] at h
  refine tX.bindS B h fun d0 S0 v0 H0 μ0 x0 g0 B0 r0 h => ?_
  cases hl : ltOf S0 d0 with
  | none => rw [hl] at h; exact h.elim
  | some p =>
    rw [hl] at h
    obtain ⟨rfl, ds0, hd0⟩ := ltOf_some hl
    obtain ⟨a, rfl, hp⟩ := r0.w.ptr
    have h : FinS X.K E EW F D ((evE Φ c ρ S0).bind fun d S => appF ρ p d S) := h
    obtain ⟨_, us0, e1, rfl, _⟩ := B0.st.at_ p a _ hp hd0
    refine ⟨.inl ⟨rfl, us0, .of e1⟩, ?_⟩
    refine tX.bindS B0 h fun d S1 v H1 μ1 x1 g1 B1 r1 h => ?_
    obtain ⟨a', ea, hp'⟩ := (r0.1.ext' x1 g1).w.ptr
    cases ea
    unfold appF at h
    split at h
    · rename_i ds hds
      split at h
      · rename_i hc
        obtain ⟨_, us, e2, rfl, e3⟩ := B1.st.at_ p a _ hp' hds
        have e3 : Rps X.K μ1 F.W H1 ds us := e3
        exact ⟨a, us, v, rfl, rfl, e2, by rw [sizeLine_eq, ← e3.length]; exact hc, h _ _ _ (B1.stm (ob' := .lst _) hp' hds (fun _ z => nomatch z) rfl (e3.append (.cons r1.1 .nil)))⟩
      · exact h.elim
    · exact h.elim
theorem t_sip {o e j : Expr} {co c cj : CE} {ko k kj : Nat} {sp : Pos} (ho : PE X o (tX X.K E EW ko (evE Φ co))) (he : PE X e (tX X.K E EW k (evE Φ c))) (hj : PE X j (tX X.K E EW kj (evE Φ cj))) (hs : swapsWithSole [.Subscript o j sp] e pos.line X.env = pure false) (hw : swappedStores [.Subscript o j sp] e X.env = pure none) (ha : ∀ v, assign (.Subscript o j sp) X.env v = (do
      let ov ← holding [v] (eval o X.env)
      let iv ← holding [v, ov] (eval j X.env)
      standAt sp
      holding [v, ov, iv] (setItem ov iv v)
      release [v, ov, iv] [])) :
    PS X (.Assign [.Subscript o j sp] e pos) (tSt X.K E EW (evS Φ (.sip co cj c))) := by
  refine (ps_asg he (pg_sub ho hj set_list ha) hs hw).imp fun D σ H h => ?_
  obtain ⟨F, μ, S, ρ, B, h⟩ := h
  simp only [evS] at h
  refine tX.bindS B h fun d S1 v H1 μ1 x1 g1 B1 r1 ha' => ?_
  refine tX.bindS B1 ha' fun d2 S2 v2 H2 μ2 x2 g2 B2 r2 hb' => ?_
  refine tX.bindS B2 hb' fun dj S3 u H3 μ3 x3 g3 B3 r3 hc' => ?_
  clear h ha' hb'
  unfold sipF at hc'
  cases hl : ltOf S3 d2 with
  | none => rw [hl] at hc'; exact hc'.elim
  | some p =>
    rw [hl] at hc'
    obtain ⟨rfl, ds0, hd0⟩ := ltOf_some hl
    obtain ⟨a, rfl, hp⟩ := (r2.1.ext' x3 g3).w.ptr
    simp only at hc'
    split at hc'
    · rename_i k' ds hds
      split at hc'
      · rename_i n hn
        obtain ⟨_, us, e2, rfl, e3⟩ := B3.st.at_ p a _ hp hds
        have e3 : Rps X.K μ3 F.W H3 ds us := e3
        cases r3.w.int
        exact ⟨a, us, _, n, rfl, rfl, e2, by rw [← e3.length]; exact hn, hc' _ _ _ (B3.stm (ob' := .lst _) hp hds (fun _ z => nomatch z) rfl (e3.set n ((r1.1.ext' x2 g2).ext' x3 g3)))⟩
      · exact hc'.elim
    · exact hc'.elim
theorem Ext.stm {μ : List Addr} {H : Hp} {a : Addr} {o u : HO} (am : a ∈ μ) (e : H a = some o) (ni : ¬ Im o) : Ext μ H (upd H a u) := fun b x hb q => by
  by_cases hba : b = a
  · subst hba
    rw [e] at hb; cases hb
    rcases q with q | q
    · exact absurd am q
    · exact absurd q ni
  · rw [upd_ne hba]; exact hb
theorem ppop_fin {F : Fx} {μ : List Addr} {S : Store} {σ : L2.St} {ρ : List Cell} {H : Hp} {k p : Nat} {f : List RH.D → Option (RH.D × List RH.D)} {a : Addr} {Q : VK} (hk : k < 2) (B : Bd X.K F μ S σ ρ H) (hp : μ[p]? = some a) (h : Fin X.K E EW F σ ρ (PE1 X.K F σ ρ k Q) μ H (ppopF p f S)) :
    ∃ ds us d es, S[p]? = some (.lst ds) ∧ H a = some (.lst us) ∧ Rps X.K μ F.W H ds us ∧ f ds = some (d, es) ∧ ∀ v us', Rp X.K μ F.W H d v → Rps X.K μ F.W H es us' → Q v (upd H a (.lst us')) := by
  unfold ppopF at h
  split at h
  · rename_i ds hds
    split at h
    · rename_i d es hf
      obtain ⟨_, us, e2, rfl, e3⟩ := B.st.at_ p a _ hp hds
      refine ⟨ds, us, d, es, hds, e2, e3, hf, fun v us' rd re => ?_⟩
      have am : a ∈ μ := List.mem_of_getElem? hp
      have xx : Ext μ H (upd H a (.lst us')) := Ext.stm am e2 id
      have B2 := B.stm (ob' := .lst es) (u := .lst us') (us := us') hp hds (fun _ z => nomatch z) rfl re
      exact h v _ μ xx .refl B2 ⟨rd.ext' xx .refl, fun z => by omega⟩
    · exact h.elim
  · exact h.elim
theorem Rps.eraseIdx {K : PySem.W.Frag} {μ : List Addr} {W : Addr → Prop} {H : Hp} : ∀ {ds : List D} {vs : List V} (i : Nat), Rps K μ W H ds vs → Rps K μ W H (ds.eraseIdx i) (vs.eraseIdx i)
  | _, _, _, .nil => .nil
  | _, _, 0, .cons _ r => r
  | _, _, i + 1, .cons h r => .cons h (Rps.eraseIdx i r)
theorem Rps.dropLast {K : PySem.W.Frag} {μ : List Addr} {W : Addr → Prop} {H : Hp} {ds : List D} {vs : List V} (r : Rps K μ W H ds vs) : Rps K μ W H ds.dropLast vs.dropLast := by
  rw [List.dropLast_eq_take, List.dropLast_eq_take, r.length]
  exact r.take _
theorem s_pop0 {k ko : Nat} (hk : k < 2) {o : Expr} {co : CE} {ap cp : Pos} (ho : PE X o (tX X.K E EW ko (evE Φ co))) (hbase : attributeBase o "pop" X.env (eval o X.env) = eval o X.env) (hline : (ap.endLine == cp.line) = true) :
    PE X (.Call (.Attribute o "pop" ap) [] [] cp) (tX X.K E EW k (evE Φ (.pop0 co))) := by
  refine (pe_bm0 PySem.F.plainAttrs_list PySem.F.slot_list_pop PySem.F.type_list_pop mt_pop ho hbase hline).imp fun σ H Q h => ?_
  obtain ⟨F, μ, S, ρ, B, h⟩ := h
  simp only [evE] at h
  refine tX.bind PE1.tr B h fun d0 S0 v0 H0 μ0 x0 g0 B0 r0 h => ?_
  cases hl : ltOf S0 d0 with
  | none => rw [hl] at h; exact h.elim
  | some p =>
    rw [hl] at h
    obtain ⟨rfl, ds0, hd0⟩ := ltOf_some hl
    obtain ⟨a, rfl, hp'⟩ := r0.w.ptr
    obtain ⟨ds, us, d, es, q1, q2, q3, q4, q5⟩ := ppop_fin hk B0 hp' h
    refine ⟨.inl ⟨rfl, us, .of q2⟩, ?_⟩
    unfold pop0V at q4
    split at q4
    · rename_i d' hd
      cases q4
      rw [q3.length] at hd
      obtain ⟨v, r1, r2⟩ := q3.get hd
      exact ⟨a, us, v, rfl, rfl, q2, r1, q5 v _ r2 q3.dropLast⟩
    · cases q4
theorem s_pop1 {k ka ko : Nat} (hk : k < 2) {o e : Expr} {co c : CE} {ap cp : Pos} (ho : PE X o (tX X.K E EW ko (evE Φ co))) (he : PE X e (tX X.K E EW ka (evE Φ c))) (hs : starEach [e] X.env = [(false, eval e X.env)]) (hbase : attributeBase o "pop" X.env (eval o X.env) = eval o X.env) (hline : (ap.endLine == cp.line) = true) :
    PE X (.Call (.Attribute o "pop" ap) [e] [] cp) (tX X.K E EW k (evE Φ (.pop1 co c))) := by
  refine (pe_bm PySem.F.plainAttrs_list PySem.F.slot_list_pop PySem.F.type_list_pop mt_popAt ho (pa_cons he pa_nil hs) hbase (by rw [hs]; rfl) hline hs rfl).imp fun σ H Q h => ?_
  obtain ⟨F, μ, S, ρ, B, h⟩ := h
  simp only [evE] at h
  refine tX.bind PE1.tr B h fun d0 S0 v0 H0 μ0 x0 g0 B0 r0 h => ?_
  cases hl : ltOf S0 d0 with
  | none => rw [hl] at h; exact h.elim
  | some p =>
    rw [hl] at h
    obtain ⟨rfl, ds0, hd0⟩ := ltOf_some hl
    obtain ⟨a, rfl, hp'⟩ := r0.w.ptr
    obtain ⟨_, us0, e1, rfl, _⟩ := B0.st.at_ p a _ hp' hd0
    refine ⟨.inl ⟨rfl, us0, .of e1⟩, ?_⟩
    have h : Fin X.K E EW F σ ρ (PE1 X.K F σ ρ k Q) μ0 H0 ((evE Φ c ρ S0).bind fun x S => ppopF p (fun ds => pop1V ds x) S) := h
    refine tX.bind PE1.tr B0 h fun dj S1 u H1 μ1 x1 g1 B1 r1 h => ?_
    obtain ⟨a', ea, hp2⟩ := (r0.1.ext' x1 g1).w.ptr
    cases ea
    obtain ⟨ds, us, d, es, q1, q2, q3, q4, q5⟩ := ppop_fin hk B1 hp2 h
    unfold pop1V at q4
    split at q4
    · split at q4
      · rename_i hw
        split at q4
        · rename_i n hn
          split at q4
          · rename_i d' hd
            cases q4
            cases r1.w.int
            rw [q3.length] at hn
            obtain ⟨s1, s2, s3, s4⟩ := ixN_seq hn
            have w := w62_ok hw
            obtain ⟨v, t1, t2⟩ := q3.get hd
            exact ⟨a, us, _, n, v, rfl, rfl, q2, by omega, by omega, s1, t1, q5 v _ t2 (q3.eraseIdx n)⟩
          · cases q4
        · cases q4
      · cases q4
    · cases q4
theorem new_fin {F : Fx} {μ : List Addr} {S : Store} {σ : L2.St} {ρ : List Cell} {H : Hp} {k ka : Nat} {ca : CE} {Q : VK} (hk : k < 2) (h2 : 2 ≤ ka) (B : Bd X.K F μ S σ ρ H) (h : Fin X.K E EW F σ ρ (PE1 X.K F σ ρ k Q) μ H (evE Φ (.new ca) ρ S)) : Fin X.K E EW F σ ρ (PE1 X.K F σ ρ ka Q) μ H (evE Φ ca ρ S) := by
  simp only [evE] at h
  cases e : evE Φ ca ρ S with
  | err y S1 => rw [e] at h; exact h
  | bad => rw [e] at h; exact h
  | ok d S1 =>
    rw [e] at h
    have h : Fin X.K E EW F σ ρ (PE1 X.K F σ ρ k Q) μ H (newF d S1) := h
    intro v H1 μ1 x1 g1 B1 r1
    cases d with
    | lst ds =>
      obtain ⟨f, n⟩ := r1.2 h2
      obtain ⟨p, vs, rfl, h1, h3, h4, h5⟩ := f ds rfl
      obtain ⟨a1, a2, a3, a4⟩ := B.adopt x1 g1 h1 h3 h4 h5 (n ds p rfl rfl)
      exact h _ _ _ a1 a2 a3 ⟨a4, fun z => by omega⟩
    | _ => exact h v H1 μ1 x1 g1 B1 ⟨r1.1, fun z => by omega⟩
theorem s_new {k ka : Nat} (hk : k < 2) {a : Expr} {ca : CE} (h2 : 2 ≤ ka) (ha : PE X a (tX X.K E EW ka (evE Φ ca))) : PE X a (tX X.K E EW k (evE Φ (.new ca))) := by
  refine ha.imp fun σ H Q h => ?_
  obtain ⟨F, μ, S, ρ, B, h⟩ := h
  exact ⟨F, μ, S, ρ, B, new_fin hk h2 B h⟩
/-! ### methods that change a list -/
def Lm.name : Lm → Str
  | .insert => "insert" | .reverse => "reverse" | .pop => "pop" | .popAt => "pop" | .clear => "clear" | .extend => "extend"
/-- a method's arguments -/
def RA (m : Lm) (K : PySem.W.Frag) (μ : List Addr) (W : Addr → Prop) (H : Hp) (as : List D) (vs : List V) : Prop := Rws K μ W H as vs ∧ (m ≠ .extend → Rps K μ W H as vs)
def LmOk (X : Cx) (m : Lm) (r : V → List V → Hp → VK → Prop) : Prop := ∀ (μ : List Addr) (W : Addr → Prop) (H : Hp) (a : Addr) (us : List V) (ds as es : List D) (vs : List V) (Q : VK), H a = some (.lst us) → Rps X.K μ W H ds us → RA m X.K μ W H as vs → lmD m ds as = some es → (∀ v us', Rps X.K μ W H es us' → Q v (upd H a (.lst us'))) → r (.ref a) vs H Q
theorem lm_cases {m : Lm} {ds as es : List D} (h : lmD m ds as = some es) : (m = .insert ∧ ∃ i d, as = [.int i, d] ∧ ds.length < 16777216 ∧ 0 ≤ i ∧ i < 9223372036854775808 ∧ es = ds.take i.toNat ++ [d] ++ ds.drop i.toNat) ∨ (m = .reverse ∧ as = [] ∧ es = ds.reverse) ∨ (m = .clear ∧ as = [] ∧ es = []) ∨
    (m = .pop ∧ as = [] ∧ ds ≠ [] ∧ es = ds.dropLast) ∨ (m = .popAt ∧ ∃ i n, as = [.int i] ∧ w62 i = true ∧ ixN ds.length i = some n ∧ es = ds.eraseIdx n) ∨ (m = .extend ∧ ∃ fs, as = [.lst fs] ∧ ds.length + fs.length ≤ 16777216 ∧ es = ds ++ fs) := by
  unfold lmD at h
  split at h
  · split at h
    · rename_i q; cases h; exact .inl ⟨rfl, _, _, rfl, q.1, q.2.1, q.2.2, rfl⟩
    · cases h
  · cases h; exact .inr (.inl ⟨rfl, rfl, rfl⟩)
  · cases h; exact .inr (.inr (.inl ⟨rfl, rfl, rfl⟩))
  · split at h
    · cases h
    · rename_i q; cases h; exact .inr (.inr (.inr (.inl ⟨rfl, rfl, fun e => q (by rw [e]; rfl), rfl⟩)))
  · split at h
    · rename_i w
      split at h
      · rename_i q; cases h; exact .inr (.inr (.inr (.inr (.inl ⟨rfl, _, _, rfl, w, q, rfl⟩))))
      · cases h
    · cases h
  · split at h
    · rename_i q; cases h; exact .inr (.inr (.inr (.inr (.inr ⟨rfl, _, rfl, q, rfl⟩))))
    · cases h
  · cases h
theorem lm_insert : ∃ r, MtR X "list.insert" r ∧ LmOk X .insert r := by
  refine ⟨_, mt_insert, fun μ W H a us ds as es vs Q ha rd rs h q => ?_⟩
  rcases lm_cases h with ⟨_, i, d, rfl, h1, h2, h3, rfl⟩ | ⟨z, _⟩ | ⟨z, _⟩ | ⟨z, _⟩ | ⟨z, _⟩ | ⟨z, _⟩ <;> first | (cases z; done) | skip
  cases rs.2 (by decide) with | cons q1 r => cases r with | cons q2 r => cases r with | nil =>
  cases q1.w.int
  exact ⟨a, us, i, _, rfl, rfl, ha, by rw [sizeLine_eq, ← rd.length]; exact h1, h2, by omega, q _ _ (((rd.take _).append (.cons q2 .nil)).append (rd.drop _))⟩
theorem lm_reverse : ∃ r, MtR X "list.reverse" r ∧ LmOk X .reverse r := by
  refine ⟨_, mt_reverse, fun μ W H a us ds as es vs Q ha rd rs h q => ?_⟩
  rcases lm_cases h with ⟨z, _⟩ | ⟨_, rfl, rfl⟩ | ⟨z, _⟩ | ⟨z, _⟩ | ⟨z, _⟩ | ⟨z, _⟩ <;> first | (cases z; done) | skip
  cases rs.1
  exact ⟨a, us, rfl, rfl, ha, q _ _ rd.reverse⟩
theorem lm_clear : ∃ r, MtR X "list.clear" r ∧ LmOk X .clear r := by
  refine ⟨_, mt_clear, fun μ W H a us ds as es vs Q ha rd rs h q => ?_⟩
  rcases lm_cases h with ⟨z, _⟩ | ⟨z, _⟩ | ⟨_, rfl, rfl⟩ | ⟨z, _⟩ | ⟨z, _⟩ | ⟨z, _⟩ <;> first | (cases z; done) | skip
  cases rs.1
  exact ⟨a, us, rfl, rfl, ha, q _ _ .nil⟩
theorem lm_pop : ∃ r, MtR X "list.pop" r ∧ LmOk X .pop r := by
  refine ⟨_, mt_pop, fun μ W H a us ds as es vs Q ha rd rs h q => ?_⟩
  rcases lm_cases h with ⟨z, _⟩ | ⟨z, _⟩ | ⟨z, _⟩ | ⟨_, rfl, hn, rfl⟩ | ⟨z, _⟩ | ⟨z, _⟩ <;> first | (cases z; done) | skip
  cases rs.1
  have hl : us.length - 1 < us.length := by
    have := rd.length
    have : ds.length ≠ 0 := fun e => hn (List.eq_nil_of_length_eq_zero e)
    omega
  exact ⟨a, us, _, rfl, rfl, ha, List.getElem?_eq_getElem hl, q _ _ rd.dropLast⟩
theorem lm_popAt : ∃ r, MtR X "list.pop" r ∧ LmOk X .popAt r := by
  refine ⟨_, mt_popAt, fun μ W H a us ds as es vs Q ha rd rs h q => ?_⟩
  rcases lm_cases h with ⟨z, _⟩ | ⟨z, _⟩ | ⟨z, _⟩ | ⟨z, _⟩ | ⟨_, i, n, rfl, hw, hi, rfl⟩ | ⟨z, _⟩ <;> first | (cases z; done) | skip
  obtain ⟨v, rfl, q1⟩ := rs.1.c1
  cases q1.int
  rw [rd.length] at hi
  obtain ⟨s1, s2, s3, s4⟩ := ixN_seq hi
  have w := w62_ok hw
  exact ⟨a, us, i, n, us[n], rfl, rfl, ha, by omega, by omega, s1, List.getElem?_eq_getElem s2, q _ _ (rd.eraseIdx n)⟩
theorem lm_extend : ∃ r, MtR X "list.extend" r ∧ LmOk X .extend r := by
  refine ⟨_, mt_extend, fun μ W H a us ds as es vs Q ha rd rs h q => ?_⟩
  rcases lm_cases h with ⟨z, _⟩ | ⟨z, _⟩ | ⟨z, _⟩ | ⟨z, _⟩ | ⟨z, _⟩ | ⟨_, fs, rfl, hl, rfl⟩ <;> first | (cases z; done) | skip
  obtain ⟨v, rfl, q1⟩ := rs.1.c1
  obtain ⟨b, ws, rfl, h1, h2⟩ := q1.lst
  exact ⟨a, b, us, ws, rfl, rfl, ha, h1, by rw [sizeLine_eq, ← rd.length, ← h2.length]; exact hl, q _ _ (rd.append h2)⟩
theorem Rps.ws {K : PySem.W.Frag} {μ : List Addr} {W : Addr → Prop} {H : Hp} : ∀ {ds : List D} {vs : List V}, Rps K μ W H ds vs → Rws K μ W H ds vs
  | _, _, .nil => .nil
  | _, _, .cons h r => .cons h.w r.ws
theorem t_mthR {m : Lm} {l : CL} {o : Expr} {co : CE} {ko : Nat} {ap cp : Pos} {es : List Expr} {r : V → List V → Hp → VK → Prop} (hr : LmOk X m r) (t : TE) (ht : ∀ σ H Q, tX X.K E EW ko (evE Φ co) σ H (fun v H1 => tyV X.K "list" v H1 ∧ tL X.K E EW (evL Φ l) σ H1 fun vs H2 => r v vs H2 Q) → t σ H Q) (hp : PE X (.Call (.Attribute o m.name ap) es [] cp) t) :
    PS X (.Expr (.Call (.Attribute o m.name ap) es [] cp) pos) (tSt X.K E EW (evS Φ (.mth m co l))) := by
  refine (ps_expr hp rfl).imp fun D σ H h => ht σ H _ ?_
  obtain ⟨F, μ, S, ρ, B, h⟩ := h
  simp only [evS] at h
  refine tX.bindS B h fun d0 S0 v0 H0 μ0 x0 g0 B0 r0 h => ?_
  cases hl : ltOf S0 d0 with
  | none => rw [hl] at h; exact h.elim
  | some p =>
    rw [hl] at h
    obtain ⟨rfl, ds0, hd0⟩ := ltOf_some hl
    obtain ⟨a, rfl, hp⟩ := r0.w.ptr
    obtain ⟨_, us0, e1, rfl, _⟩ := B0.st.at_ p a _ hp hd0
    refine ⟨.inl ⟨rfl, us0, .of e1⟩, ?_⟩
    have h : FinS X.K E EW F D ((evL Φ l ρ S0).bind fun as S => mthF m ρ p as S) := h
    refine tL.bindS B0 h fun as S1 ws H1 μ1 x1 g1 B1 r1 h => ?_
    obtain ⟨a', ea, hp'⟩ := (r0.1.ext' x1 g1).w.ptr
    cases ea
    unfold mthF at h
    split at h
    · rename_i ds hds
      split at h
      · rename_i as' has
        split at h
        · rename_i es hm
          obtain ⟨_, us, e2, rfl, e3⟩ := B1.st.at_ p a _ hp' hds
          have e3 : Rps X.K μ1 F.W H1 ds us := e3
          have ra : RA m X.K μ1 F.W H1 as' ws := by
            by_cases hme : m = .extend
            · subst hme
              exact ⟨(drfs_w B1.st r1 has).1, fun z => absurd rfl z⟩
            · have : as' = as := by
                unfold lmA at has
                split at has
                · exact absurd rfl hme
                · cases has; rfl
              subst this
              exact ⟨r1.ws, fun _ => r1⟩
          exact hr μ1 F.W H1 a us ds as' es ws _ e2 e3 ra hm fun v us' ru => h _ _ _ (B1.stm (ob' := .lst _) hp' hds (fun _ z => nomatch z) rfl ru)
        · exact h.elim
      · exact h.elim
    · exact h.elim
theorem t_mth {m : Lm} {l : CL} {o : Expr} {co : CE} {ko : Nat} {ap cp : Pos} {e : Expr} {es : List Expr} (ho : PE X o (tX X.K E EW ko (evE Φ co))) (ha : PA X (e :: es) (tL X.K E EW (evL Φ l))) (hbase : attributeBase o m.name X.env (eval o X.env) = eval o X.env) (hfew : ((backTo cp (starEach (e :: es) X.env)).all (fun x => !x.1) && (backToKw cp (keywordEach [] X.env)).all (fun x => x.1.isSome)
      && decide ((e :: es).length + ([] : List Keyword).length + (if ([] : List Keyword).isEmpty then 0 else 1) < 30)) = true) (hs : starEach (e :: es) X.env = (false, eval e X.env) :: starEach es X.env) (hpl : (backTo cp (starEach es X.env)).any (·.1) = false) (hline : (ap.endLine == cp.line) = true) :
    PS X (.Expr (.Call (.Attribute o m.name ap) (e :: es) [] cp) pos) (tSt X.K E EW (evS Φ (.mth m co l))) := by
  have go : ∀ {r : V → List V → Hp → VK → Prop}, LmOk X m r → PE X (.Call (.Attribute o m.name ap) (e :: es) [] cp) (tBM X.K "list" r (tX X.K E EW ko (evE Φ co)) (tL X.K E EW (evL Φ l))) → PS X (.Expr (.Call (.Attribute o m.name ap) (e :: es) [] cp) pos) (tSt X.K E EW (evS Φ (.mth m co l))) := fun hr hp =>
    t_mthR hr _ (fun σ H Q h => h) hp
  cases m with
  | insert => obtain ⟨r, h1, h2⟩ := lm_insert (X := X); exact go h2 (pe_bm PySem.F.plainAttrs_list PySem.F.slot_list_insert PySem.F.type_list_insert h1 ho ha hbase hfew hline hs hpl)
  | reverse => obtain ⟨r, h1, h2⟩ := lm_reverse (X := X); exact go h2 (pe_bm PySem.F.plainAttrs_list PySem.F.slot_list_reverse PySem.F.type_list_reverse h1 ho ha hbase hfew hline hs hpl)
  | clear => obtain ⟨r, h1, h2⟩ := lm_clear (X := X); exact go h2 (pe_bm PySem.F.plainAttrs_list PySem.F.slot_list_clear PySem.F.type_list_clear h1 ho ha hbase hfew hline hs hpl)
  | pop => obtain ⟨r, h1, h2⟩ := lm_pop (X := X); exact go h2 (pe_bm PySem.F.plainAttrs_list PySem.F.slot_list_pop PySem.F.type_list_pop h1 ho ha hbase hfew hline hs hpl)
  | popAt => obtain ⟨r, h1, h2⟩ := lm_popAt (X := X); exact go h2 (pe_bm PySem.F.plainAttrs_list PySem.F.slot_list_pop PySem.F.type_list_pop h1 ho ha hbase hfew hline hs hpl)
  | extend => obtain ⟨r, h1, h2⟩ := lm_extend (X := X); exact go h2 (pe_bm PySem.F.plainAttrs_list PySem.F.slot_list_extend PySem.F.type_list_extend h1 ho ha hbase hfew hline hs hpl)
theorem t_mth0 {m : Lm} {o : Expr} {co : CE} {ko : Nat} {ap cp : Pos} (ho : PE X o (tX X.K E EW ko (evE Φ co))) (hbase : attributeBase o m.name X.env (eval o X.env) = eval o X.env) (hline : (ap.endLine == cp.line) = true) :
    PS X (.Expr (.Call (.Attribute o m.name ap) [] [] cp) pos) (tSt X.K E EW (evS Φ (.mth m co .nil))) := by
  have go : ∀ {r : V → List V → Hp → VK → Prop}, LmOk X m r → PE X (.Call (.Attribute o m.name ap) [] [] cp) (tBM0 X.K "list" r (tX X.K E EW ko (evE Φ co))) → PS X (.Expr (.Call (.Attribute o m.name ap) [] [] cp) pos) (tSt X.K E EW (evS Φ (.mth m co .nil))) := fun hr hp =>
    t_mthR hr _ (fun σ H Q h => by
      obtain ⟨F, μ, S, ρ, B, h⟩ := h
      refine ⟨F, μ, S, ρ, B, ?_⟩
      cases e : evE Φ co ρ S with
      | ok d S1 =>
        rw [e] at h
        intro v H1 μ1 x g B1 r
        obtain ⟨q1, F', μ', S', ρ', B', q2⟩ := h v H1 μ1 x g B1 r
        exact ⟨q1, q2 _ _ _ .refl .refl B' .nil⟩
      | err y S1 => rw [e] at h; exact h
      | bad => rw [e] at h; exact h) hp
  cases m with
  | insert => obtain ⟨r, h1, h2⟩ := lm_insert (X := X); exact go h2 (pe_bm0 PySem.F.plainAttrs_list PySem.F.slot_list_insert PySem.F.type_list_insert h1 ho hbase hline)
  | reverse => obtain ⟨r, h1, h2⟩ := lm_reverse (X := X); exact go h2 (pe_bm0 PySem.F.plainAttrs_list PySem.F.slot_list_reverse PySem.F.type_list_reverse h1 ho hbase hline)
  | clear => obtain ⟨r, h1, h2⟩ := lm_clear (X := X); exact go h2 (pe_bm0 PySem.F.plainAttrs_list PySem.F.slot_list_clear PySem.F.type_list_clear h1 ho hbase hline)
  | pop => obtain ⟨r, h1, h2⟩ := lm_pop (X := X); exact go h2 (pe_bm0 PySem.F.plainAttrs_list PySem.F.slot_list_pop PySem.F.type_list_pop h1 ho hbase hline)
  | popAt => obtain ⟨r, h1, h2⟩ := lm_popAt (X := X); exact go h2 (pe_bm0 PySem.F.plainAttrs_list PySem.F.slot_list_pop PySem.F.type_list_pop h1 ho hbase hline)
  | extend => obtain ⟨r, h1, h2⟩ := lm_extend (X := X); exact go h2 (pe_bm0 PySem.F.plainAttrs_list PySem.F.slot_list_extend PySem.F.type_list_extend h1 ho hbase hline)
theorem t_ret {e : Expr} {c : CE} {k : Nat} (hkc : k = kE Φ c) (he : PE X e (tX X.K E EW k (evE Φ c))) : PS X (.Return (some e) pos) (tSt X.K E EW (evS Φ (.ret c))) := by
  refine (ps_ret he).imp fun D σ H h => ?_
  obtain ⟨F, μ, S, ρ, B, h⟩ := h
  simp only [evS] at h
  refine tX.bindS B h fun d S1 v H1 μ1 x1 g1 B1 r1 h => ?_
  refine h v H1 μ1 B1.ext B1.gr B1.st ⟨r1.1, fun q => ?_⟩
  rw [decide_eq_true_eq, ← hkc] at q
  obtain ⟨f, n⟩ := r1.2 q
  refine ⟨fun ds e => ?_, n⟩
  obtain ⟨a, vs, h1, h2, h3, h4, h5⟩ := f ds e
  exact ⟨a, vs, h1, B.ext.free (fun z => h4 (g1.sub _ (B.gr.sub _ z))) h2, h3, h4, h5⟩
theorem t_retN : PS X (.Return none pos) (tSt X.K E EW (evS Φ .retN)) := by
  refine ps_retN.imp fun D σ H h => ?_
  obtain ⟨F, μ, S, ρ, B, h⟩ := h
  exact h _ _ _ B.ext B.gr B.st ⟨.non, fun _ => ⟨.triv (by intro _ z; cases z), fun _ _ z => nomatch z⟩⟩
theorem t_pas : PS X (.Pass pos) (tSt X.K E EW (evS Φ .pas)) := ps_pass.imp fun D σ H ⟨F, μ, S, ρ, B, h⟩ => h _ _ _ B
theorem t_brk : PS X (.Break pos) (tSt X.K E EW (evS Φ .brk)) := ps_break.imp fun D σ H ⟨F, μ, S, ρ, B, h⟩ => h _ _ _ B
theorem t_cnt : PS X (.Continue pos) (tSt X.K E EW (evS Φ .cnt)) := ps_continue.imp fun D σ H ⟨F, μ, S, ρ, B, h⟩ => h _ _ _ B
theorem t_ife {c : Expr} {a b : List Stmt} {cc : CE} {ca cb : CB} (hc : PT X c (tT X.K E EW (evT Φ cc))) (ha : PSs X a (tSt X.K E EW (evBk Φ ca))) (hb : PSs X b (tSt X.K E EW (evBk Φ cb))) : PS X (.If c a b pos) (tSt X.K E EW (evS Φ (.ife cc ca cb))) := by
  refine (ps_if hc ha hb).imp fun D σ H h => ?_
  obtain ⟨F, μ, S, ρ, B, h⟩ := h
  have e : evS Φ (.ife cc ca cb) ρ S = (evT Φ cc ρ S).bind fun k S => if k then evBk Φ ca ρ S else evBk Φ cb ρ S := by rw [evS, evT, Res.bind_assoc]
  rw [e] at h
  refine tT.bindS B h fun k S1 H1 μ1 x1 g1 B1 h => ?_
  cases k with
  | true => rw [if_pos rfl]; exact ⟨F, μ1, S1, ρ, B1, h⟩
  | false => rw [if_neg (by decide)]; exact ⟨F, μ1, S1, ρ, B1, h⟩
theorem t_nil : PSs X [] (tSt X.K E EW (evBk Φ .nil)) := pss_nil.imp fun D σ H ⟨F, μ, S, ρ, B, h⟩ => by rw [evBk] at h; exact h _ _ _ B
theorem t_cons {s : Stmt} {r : List Stmt} {cs : CS} {cr : CB} (hs : PS X s (tSt X.K E EW (evS Φ cs))) (hr : PSs X r (tSt X.K E EW (evBk Φ cr))) : PSs X (s :: r) (tSt X.K E EW (evBk Φ (.cons cs cr))) := by
  refine (pss_cons hs hr).imp fun D σ H h => ?_
  obtain ⟨F, μ, S, ρ, B, h⟩ := h
  rw [evBk] at h
  refine ⟨F, μ, S, ρ, B, ?_⟩
  cases e : evS Φ cs ρ S with
  | bad => rw [e] at h; exact h.elim
  | err x S1 => rw [e] at h; exact h
  | ok f S1 =>
    rw [e] at h
    cases f with
    | nx ρ' => exact fun σ' H' μ' B' => ⟨F, μ', S1, ρ', B', h⟩
    | rt fr d => exact h
    | bk ρ' => exact h
    | ct ρ' => exact h
/-! ### loops -/
theorem after_fin {K : PySem.W.Frag} {F F' : Fx} {D : Ends} {N : L2.St → Hp → Prop} {r : Out} {go : List Cell → Store → Out} (up : ∀ {μ S σ ρ H}, Bd K F' μ S σ ρ H → Bd K F μ S σ ρ H) (eW : F'.W = F.W) (eμ : F'.μ0 = F.μ0) (eH : F'.H0 = F.H0) (h : FinS K E EW F D (after r go))
    (hN : ∀ σ H μ S ρ, Bd K F' μ S σ ρ H → FinS K E EW F D (go ρ S) → N σ H) : FinS K E EW F' { D with nx := N, ct := N, bk := D.nx } r := by
  cases r with
  | bad => exact h
  | err x S =>
    intro c dd σ H μ ρ B xr
    exact h c dd σ H μ ρ (up B) (by rw [eW] at xr; exact xr)
  | ok f S =>
    cases f with
    | nx ρ => exact fun σ H μ B => hN σ H μ S ρ B h
    | ct ρ => exact fun σ H μ B => hN σ H μ S ρ B h
    | bk ρ => exact fun σ H μ B => h σ H μ (up B)
    | rt fr d => intro v H μ x g s rr; rw [eH, eμ] at x g; rw [eW] at s; rw [eW, eH] at rr; exact h v H μ x g s rr
theorem t_whl {c : Expr} {body : List Stmt} {cc : CE} {cb : CB} {n : Nat} (hp : PassesOwn (model X.prog X.w) X.A X.env X.xe) (hc : PT X c (tT X.K E EW (evT Φ cc))) (hb : PSs X body (tSt X.K E EW (evBk Φ cb))) : PS X (.While c body [] pos) (tSt X.K E EW (evS Φ (.whl n cc cb))) := by
  refine (ps_while hp hc hb).imp fun D σ H h => ?_
  obtain ⟨F, μ, S, ρ, B, h⟩ := h
  rw [evS] at h
  refine ⟨fun m σ H => ∃ μ S ρ, Bd X.K F μ S σ ρ H ∧ FinS X.K E EW F D (loopW (evT Φ cc) (evBk Φ cb) m ρ S), ⟨n, μ, S, ρ, B, h⟩, ?_⟩
  rintro m σ H ⟨μ, S, ρ, B, h⟩
  cases m with
  | zero => exact h.elim
  | succ m =>
    rw [loopW] at h
    refine tT.bindS B h fun k S1 H1 μ1 x1 g1 B1 h => ?_
    cases k with
    | false => rw [if_neg (by decide)]; exact h _ _ _ B1
    | true =>
      rw [if_pos rfl]
      refine ⟨fun σ' H' => ∃ μ S ρ, Bd X.K F μ S σ' ρ H' ∧ FinS X.K E EW F D (loopW (evT Φ cc) (evBk Φ cb) m ρ S), fun σ' H' q => ⟨m, Nat.lt_succ_self m, q⟩, F, μ1, S1, ρ, B1, ?_⟩
      exact after_fin id rfl rfl rfl h fun σ' H' μ' S' ρ' B' h' => ⟨μ', S', ρ', B', h'⟩
/-- more data that stays -/
def Fx.pin (F : Fx) (src : List (D × V)) : Fx := { F with pn := src ++ F.pn }
theorem Bd.pinned {K : PySem.W.Frag} {F : Fx} {σ : L2.St} {ρ : List Cell} {μ : List Addr} {S : Store} {H : Hp} {src : List (RH.D × V)} (B : Bd K F μ S σ ρ H) (h : ∀ p, p ∈ src → Rp K μ F.W H p.1 p.2) : Bd K (F.pin src) μ S σ ρ H :=
  ⟨B.dom, B.st, B.len, B.ext, B.gr, fun p hp => (List.mem_append.mp hp).elim (h p) (B.pin p), B.slot⟩
theorem Bd.unpin {K : PySem.W.Frag} {F : Fx} {σ : L2.St} {ρ : List Cell} {μ : List Addr} {S : Store} {H : Hp} {src : List (RH.D × V)} (B : Bd K (F.pin src) μ S σ ρ H) : Bd K F μ S σ ρ H :=
  ⟨B.dom, B.st, B.len, B.ext, B.gr, fun p hp => B.pin p (List.mem_append_right _ hp), B.slot⟩
theorem t_for {tg iter : Expr} {body : List Stmt} {t : Tg} {it : CI} {cb : CB} (hp : PassesOwn (model X.prog X.w) X.A X.env X.xe) (hc : X.calm = true) (hi : PI X tg iter (tIt X.K E EW (evI Φ it))) (hg : PG X tg (tG X.K t)) (hb : PSs X body (tSt X.K E EW (evBk Φ cb))) (hs : ∀ x, foldedSetIterable iter X.env x = pure x) :
    PS X (.For tg iter body [] pos) (tSt X.K E EW (evS Φ (.forr t it cb))) := by
  refine (ps_for hp hc hi hg hb hs).imp fun D σ H h => ?_
  obtain ⟨F, μ, S, ρ, B, h⟩ := h
  rw [evS] at h
  refine tIt.bindS B h fun w S1 J src H1 μ1 B1 hsrc hgd wk h => ?_
  let items := w.ds
  let pins : List (RH.D × V) := src.map fun p => (p.1, p.2.2)
  let Iv : Nat → Nat → L2.St → Hp → Prop := fun i m σ H => m = items.length - i ∧ i ≤ items.length ∧ ∃ μ S ρ, Bd X.K (F.pin pins) μ S σ ρ H ∧ FinS X.K E EW F D (loopF w.g (fun d ρ S => seqB (setTF ρ t d S) (evBk Φ cb)) (items.drop i) ρ S)
  refine ⟨Iv, ⟨items.length, rfl, Nat.zero_le _, μ1, S1, ρ, B1.pinned fun p hp => ?_, h⟩, ?_⟩
  · obtain ⟨q, hq, rfl⟩ := List.mem_map.mp hp
    exact hsrc q hq
  rintro i m σ H ⟨rfl, hi, μ, S, ρ, B, h⟩
  have srcI : okG S w.g → ∀ p, p ∈ src.map (·.2) → Rw X.K μ F.W H p.1 p.2 := fun og p hp => by
    obtain ⟨q, hq, rfl⟩ := List.mem_map.mp hp
    exact drf_w B.st (B.pin (q.1, q.2.2) (List.mem_append_left _ (List.mem_map.mpr ⟨q, hq, rfl⟩))) (hgd S og q hq)
  by_cases hlt : i < items.length
  · obtain ⟨d, hd⟩ : ∃ d, items[i]? = some d := ⟨_, List.getElem?_eq_getElem hlt⟩
    have ed : items.drop i = d :: items.drop (i + 1) := by
      obtain ⟨h1, h2⟩ := List.getElem?_eq_some_iff.mp hd
      rw [← h2]; exact List.drop_eq_getElem_cons h1
    rw [ed, loopF] at h
    split at h
    case isFalse => exact h.elim
    rename_i og
    obtain ⟨go, yl⟩ := (wk μ _ H (srcI og) i).1 d hd
    refine .inr ⟨go, fun σ' H' => Iv (i + 1) (items.length - (i + 1)) σ' H', fun σ' H' hN => ⟨items.length - (i + 1), by omega, hN⟩, fun xv H2 y => ?_⟩
    obtain ⟨sm, rx⟩ := yl xv H2 y
    have B2 := B.same sm
    cases eb : bindT t d ρ with
    | none => simp only [setTF, eb, seqB, after] at h; exact h.elim
    | some ρ' =>
      simp only [setTF, eb, seqB] at h
      refine ⟨F.pin pins, μ, S, ρ, d, ρ', B2, rx, eb, fun σ' B3 _ => ⟨F.pin pins, μ, S, ρ', B3, ?_⟩⟩
      exact after_fin (fun B => B.unpin) rfl rfl rfl h fun σ' H' μ' S' ρ' B' h' => ⟨rfl, hlt, μ', S', ρ', B', h'⟩
  · have e : i = items.length := by omega
    subst e
    rw [List.drop_length, loopF] at h
    split at h
    case isFalse => exact h.elim
    rename_i og
    exact .inl ⟨(wk μ _ H (srcI og) _).2 (Nat.le_refl _), h _ _ _ B.unpin⟩
end
end RH

set_option Elab.async false
set_option linter.all false
set_option maxRecDepth 100000
/-! RFDict: dicts. -/
namespace RH
open PySem PySem.Spec PyProof.Rows L2
theorem kOf_inj {d e : D} {k : Key} (h : kOf d = some k) (h' : kOf e = some k) : d = e := by
  cases d <;> simp [kOf] at h <;> cases e <;> simp [kOf] at h' <;> subst h <;> simp at h'
  · rw [h']
  · rename_i a b
    rw [h']
theorem ksOf_inj : ∀ {ds es : List D} {ks : List Key}, ksOf ds = some ks → ksOf es = some ks → ds = es
  | [], [], _, _, _ => rfl
  | [], e :: es, ks, h, h' => by
    simp [ksOf] at h; subst h
    simp only [ksOf] at h'
    split at h' <;> simp at h'
  | d :: ds, [], ks, h, h' => by
    simp [ksOf] at h'; subst h'
    simp only [ksOf] at h
    split at h <;> simp at h
  | d :: ds, e :: es, ks, h, h' => by
    simp only [ksOf] at h h'
    split at h
    · rename_i k1 ks1 a1 a2
      split at h'
      · rename_i k2 ks2 b1 b2
        simp at h h'
        subst h
        simp at h'
        obtain ⟨rfl, rfl⟩ := h'
        rw [kOf_inj a1 b1, ksOf_inj a2 b2]
      · cases h'
    · cases h
theorem tOf_inj {d e : D} {k : List Key} (h : tOf d = some k) (h' : tOf e = some k) : d = e := by
  cases d <;> simp [tOf] at h
  cases e <;> simp [tOf] at h'
  rw [ksOf_inj h h']
section
variable {K : PySem.W.Frag} {μ : List Addr} {W : Addr → Prop} {H : Hp}
theorem kOf_v {d : D} {v : V} {k : Key} (r : Rp K μ W H d v) (h : kOf d = some k) : v = kV k := by
  cases r <;> simp [kOf] at h <;> subst h <;> rfl
theorem ksOf_v : ∀ {ds : List D} {vs : List V} {ks : List Key}, Rps K μ W H ds vs → ksOf ds = some ks → vs = ks.map kV
  | _, _, _, .nil, h => by cases h; rfl
  | _, _, ks, .cons r rs, h => by
    simp only [ksOf] at h
    split at h
    · rename_i k1 ks1 a1 a2
      cases h
      rw [kOf_v r a1, ksOf_v rs a2]; rfl
    · cases h
theorem tOf_v {d : D} {v : V} {k : List Key} (r : Rp K μ W H d v) (h : tOf d = some k) : ∃ b, v = .ref b ∧ H b = some (.tup (k.map kV)) := by
  cases r with
  | tup ha rs => exact ⟨_, rfl, by rw [ha, ksOf_v rs h]⟩
  | _ => simp [tOf] at h
/-- what the heap's dict has for the key -/
theorem val_ok {α : Type} [DecidableEq α] {f : D → Option α} (inj : ∀ {d e k}, f d = some k → f e = some k → d = e) {k : D} {x : α} (hx : f k = some x) : ∀ {kvs : List (D × D)} {ks : List α} {vs : List V}, Keys f (kvs.map (·.1)) ks → Rps K μ W H (kvs.map (·.2)) vs →
    match valD kvs k with | some e => ∃ v, valV (ks.zip vs) x = some v ∧ Rp K μ W H e v | none => valV (ks.zip vs) x = none
  | [], _, _, .nil, .nil => by simp [valD, valV]
  | (a, b) :: r, _, _, .cons (k := y) h1 _ h2, .cons (v := v) r1 r2 => by
    simp only [valD]
    by_cases e : a = k
    · subst e
      rw [h1] at hx; cases hx
      rw [if_pos rfl]
      exact ⟨v, by rw [List.zip_cons_cons]; exact valV_pos rfl, r1⟩
    · rw [if_neg e]
      have ne : ¬ y = x := fun z => e (inj h1 (by rw [z]; exact hx))
      have ih := val_ok (k := k) inj hx h2 r2
      rw [List.zip_cons_cons, valV_neg (by exact ne)]
      exact ih
theorem keys_len {α : Type} {f : D → Option α} : ∀ {ds : List D} {ks : List α}, Keys f ds ks → ds.length = ks.length
  | _, _, .nil => rfl
  | _, _, .cons _ _ h => congrArg (· + 1) (keys_len h)
theorem any_ok {α : Type} [DecidableEq α] {f : D → Option α} (inj : ∀ {d e k}, f d = some k → f e = some k → d = e) {k : D} {x : α} (hx : f k = some x) : ∀ {kvs : List (D × D)} {ks : List α} {vs : List V}, Keys f (kvs.map (·.1)) ks → vs.length = kvs.length →
    (((ks.zip vs).any fun kv => decide (kv.1 = x)) = true ↔ ∃ b, (k, b) ∈ kvs)
  | [], _, _, .nil, _ => by simp
  | (a, b) :: r, _, [], .cons _ _ _, hl => by simp at hl
  | (a, b) :: r, _, v :: vs, .cons (k := y) h1 _ h2, hl => by
    have ih := any_ok (k := k) inj hx h2 (vs := vs) (by simpa using hl)
    rw [List.zip_cons_cons, List.any_cons, Bool.or_eq_true, ih]
    constructor
    · rintro (z | ⟨c, z⟩)
      · have e : a = k := inj h1 (by rw [show y = x from of_decide_eq_true z]; exact hx)
        subst e
        exact ⟨b, by simp⟩
      · exact ⟨c, List.mem_cons_of_mem _ z⟩
    · rintro ⟨c, z⟩
      rcases List.mem_cons.mp z with z | z
      · cases z
        rw [h1] at hx; cases hx
        exact .inl (by simp)
      · exact .inr ⟨c, z⟩
theorem repl_ok {α : Type} [DecidableEq α] {f : D → Option α} (inj : ∀ {d e k}, f d = some k → f e = some k → d = e) {k e : D} {x : α} {u : V} (hx : f k = some x) (he : Rp K μ W H e u) : ∀ {kvs : List (D × D)} {ks : List α} {vs : List V}, Keys f (kvs.map (·.1)) ks → Rps K μ W H (kvs.map (·.2)) vs →
    ∃ vs', (ks.zip vs).map (fun kv => if kv.1 = x then (kv.1, u) else kv) = ks.zip vs' ∧ Keys f ((kvs.map (rep1 k e)).map (·.1)) ks ∧ Rps K μ W H ((kvs.map (rep1 k e)).map (·.2)) vs'
  | [], _, _, .nil, .nil => ⟨[], rfl, .nil, .nil⟩
  | (a, b) :: r, _, _, .cons (k := y) (ks := ks) h1 ka h2, .cons (v := v) r1 r2 => by
    obtain ⟨vs', q1, q2, q3⟩ := repl_ok (k := k) (e := e) inj hx he h2 r2
    by_cases ea : a = k
    · subst ea
      rw [h1] at hx; cases hx
      refine ⟨u :: vs', ?_, ?_, ?_⟩
      · rw [List.zip_cons_cons, List.map_cons, q1]; simp
      · rw [List.map_cons, rep1, if_pos rfl]; exact .cons h1 ka q2
      · rw [List.map_cons, rep1, if_pos rfl]; exact .cons he q3
    · have ne : ¬ y = x := fun z => ea (inj h1 (by rw [z]; exact hx))
      refine ⟨v :: vs', ?_, ?_, ?_⟩
      · rw [List.zip_cons_cons, List.map_cons, q1]; simp [ne]
      · rw [List.map_cons, rep1, if_neg ea]; exact .cons h1 ka q2
      · rw [List.map_cons, rep1, if_neg ea]; exact .cons r1 q3
theorem Keys.snoc {α : Type} {f : D → Option α} {d : D} {k : α} (h : f d = some k) (ka : KAsc d) : ∀ {ds : List D} {ks : List α}, Keys f ds ks → Keys f (ds ++ [d]) (ks ++ [k])
  | _, _, .nil => .cons h ka .nil
  | _, _, .cons h' ka' r => .cons h' ka' (Keys.snoc h ka r)
/-- .. for it is data -/
theorem Rps.kasc : ∀ {ds : List D} {vs : List V}, Rps K μ W H ds vs → ∀ l, D.str l ∈ ds → Asc l
  | _, _, .nil, l, h => by cases h
  | _, _, .cons r rs, l, h => by
    rcases List.mem_cons.mp h with z | z
    · subst z; cases r; assumption
    · exact Rps.kasc rs l z
theorem Rp.kasc {d : D} {v : V} (r : Rp K μ W H d v) : KAsc d := by
  cases r with
  | str h => exact h
  | tup _ rs => exact rs.kasc
  | _ => trivial
theorem put_ok {α : Type} [DecidableEq α] {f : D → Option α} (inj : ∀ {d e k}, f d = some k → f e = some k → d = e) {k e : D} {x : α} {u : V} (hx : f k = some x) (ka : KAsc k) (he : Rp K μ W H e u) {kvs : List (D × D)} {ks : List α} {vs : List V} (hk : Keys f (kvs.map (·.1)) ks) (hv : Rps K μ W H (kvs.map (·.2)) vs) :
    ∃ ks' vs', putK (ks.zip vs) x u = ks'.zip vs' ∧ Keys f ((putD kvs k e).map (·.1)) ks' ∧ Rps K μ W H ((putD kvs k e).map (·.2)) vs' := by
  have hl : vs.length = kvs.length := by have := hv.length; simpa using this.symm
  have hkl : ks.length = kvs.length := by have := keys_len hk; simpa using this.symm
  have ha := any_ok inj hx hk hl
  unfold putK putD
  by_cases q : ∃ b, (k, b) ∈ kvs
  · rw [if_pos q, if_pos (ha.mpr q)]
    obtain ⟨vs', q1, q2, q3⟩ := repl_ok inj hx he hk hv
    refine ⟨ks, vs', q1, ?_, ?_⟩
    · exact q2
    · exact q3
  · rw [if_neg q, if_neg (fun z => q (ha.mp z))]
    refine ⟨ks ++ [x], vs ++ [u], ?_, ?_, ?_⟩
    · rw [List.zip_append (by omega)]; rfl
    · rw [List.map_append]; exact hk.snoc hx ka
    · rw [List.map_append]; exact hv.append (.cons he .nil)
end
/-! ### rules -/
theorem dctOf_some {S : Store} {d : D} {p n : Nat} {kvs : List (D × D)} (h : dctOf S d = some (p, n, kvs)) : d = .ptr p ∧ S[p]? = some (.dct n kvs) := by
  unfold dctOf at h
  split at h
  · split at h
    · rename_i e; cases h; exact ⟨rfl, e⟩
    · cases h
  · cases h
theorem lookS_some {S : Store} {d k : D} {o : Option D} (h : lookS S d k = some o) : ∃ p n kvs, d = .ptr p ∧ S[p]? = some (.dct n kvs) ∧ keyR n k = true ∧ o = valD kvs k := by
  unfold lookS at h
  split at h
  · rename_i p n kvs e
    obtain ⟨h1, h2⟩ := dctOf_some e
    split at h
    · rename_i hk
      cases h
      exact ⟨p, n, kvs, h1, h2, hk, rfl⟩
    · cases h
  · cases h
section
variable {K : PySem.W.Frag} {F : Fx} {μ : List Addr} {S : Store} {σ : L2.St} {ρ : List Cell} {H : Hp}
theorem isD_of (st : SOk K μ F.W H S) {p n : Nat} {kvs : List (D × D)} {a : Addr} (hp : μ[p]? = some a) (hS : S[p]? = some (.dct n kvs)) : IsD H a := by
  obtain ⟨o, vs, e1, sh, r⟩ := st.at_ p a _ hp hS
  unfold ObSh at sh
  split at sh
  · rename_i h0; cases h0
  · obtain ⟨ks, _, rfl⟩ := sh; exact .inl ⟨_, .inl e1⟩
  · obtain ⟨ks, _, rfl⟩ := sh; exact .inr ⟨_, .inl e1⟩
  · obtain ⟨ks, od, _, rfl⟩ := sh; exact .inl ⟨_, .inr ⟨od, e1⟩⟩
  · obtain ⟨ks, od, _, rfl⟩ := sh; exact .inr ⟨_, .inr ⟨od, e1⟩⟩
  · exact sh.elim
  · rename_i h0; cases h0
/-- the layer's look into a dict -/
theorem get_of (st : SOk K μ F.W H S) {p n : Nat} {kvs : List (D × D)} {a : Addr} {k : D} {y : V} (hp : μ[p]? = some a) (hS : S[p]? = some (.dct n kvs)) (hk : keyR n k = true) (ry : Rp K μ F.W H k y) :
    match valD kvs k with | some e => ∃ v, DGet H a y (some v) ∧ Rp K μ F.W H e v | none => DGet H a y none := by
  obtain ⟨o, vs, e1, sh, r⟩ := st.at_ p a _ hp hS
  unfold ObSh at sh
  split at sh
  · rename_i h0; cases h0
  · rename_i kvs' h0
    cases h0
    obtain ⟨ks, hks, rfl⟩ := sh
    obtain ⟨x, hx⟩ := Option.isSome_iff_exists.mp (show (kOf k).isSome = true from hk)
    have := val_ok (fun {d e k} => kOf_inj) hx hks r
    rw [kOf_v ry hx]
    revert this
    cases valD kvs k with
    | none => intro z; rw [← z]; exact .k e1
    | some e => rintro ⟨v, z, q⟩; exact ⟨v, by rw [← z]; exact .k e1, q⟩
  · rename_i kvs' h0
    cases h0
    obtain ⟨ks, hks, rfl⟩ := sh
    obtain ⟨x, hx⟩ := Option.isSome_iff_exists.mp (show (tOf k).isSome = true from hk)
    have := val_ok (fun {d e k} => tOf_inj) hx hks r
    obtain ⟨b, rfl, hb⟩ := tOf_v ry hx
    revert this
    cases valD kvs k with
    | none => intro z; rw [← z]; exact .t e1 hb
    | some e => rintro ⟨v, z, q⟩; exact ⟨v, by rw [← z]; exact .t e1 hb, q⟩
  · rename_i kvs' h0
    cases h0
    obtain ⟨ks, od, hks, rfl⟩ := sh
    obtain ⟨x, hx⟩ := Option.isSome_iff_exists.mp (show (kOf k).isSome = true from hk)
    have := val_ok (fun {d e k} => kOf_inj) hx hks r
    rw [kOf_v ry hx]
    revert this
    cases valD kvs k with
    | none => intro z; rw [← z]; exact .inl ⟨_, x, .inr ⟨od, e1⟩, rfl, rfl⟩
    | some e => rintro ⟨v, z, q⟩; exact ⟨v, by rw [← z]; exact .inl ⟨_, x, .inr ⟨od, e1⟩, rfl, rfl⟩, q⟩
  · rename_i kvs' h0
    cases h0
    obtain ⟨ks, od, hks, rfl⟩ := sh
    obtain ⟨x, hx⟩ := Option.isSome_iff_exists.mp (show (tOf k).isSome = true from hk)
    have := val_ok (fun {d e k} => tOf_inj) hx hks r
    obtain ⟨b, rfl, hb⟩ := tOf_v ry hx
    revert this
    cases valD kvs k with
    | none => intro z; rw [← z]; exact .inr ⟨_, x, b, .inr ⟨od, e1⟩, rfl, hb, rfl⟩
    | some e => rintro ⟨v, z, q⟩; exact ⟨v, by rw [← z]; exact .inr ⟨_, x, b, .inr ⟨od, e1⟩, rfl, hb, rfl⟩, q⟩
  · exact sh.elim
  · rename_i h0; cases h0
/-- a new object goes into the store -/
theorem Bd.newOb (B : Bd K F μ S σ ρ H) {p : Addr} {o : HO} {ob : Ob} (hp : H p = none) (nx : ∀ fs, o ≠ .xd fs) (no : ∀ b, o ≠ .own b) (ha : ObAt K (μ ++ [p]) F.W (upd H p o) p ob) : Ext μ H (upd H p o) ∧ Gr μ H (μ ++ [p]) ∧ Bd K F (μ ++ [p]) (S ++ [ob]) σ ρ (upd H p o) ∧ Rp K (μ ++ [p]) F.W (upd H p o) (.ptr S.length) (.ref p) := by
  have nm : p ∉ μ := fun z => B.dm.2 p z hp
  have x : Ext μ H (upd H p o) := Ext.new hp
  have g : Gr μ H (μ ++ [p]) := ⟨⟨[p], rfl⟩, fun b hb hn => by
    rcases List.mem_append.mp hb with z | z
    · exact absurd z hn
    · rw [List.mem_singleton.mp z]; exact hp⟩
  have s1 : SOk K μ (fun b => F.W b ∨ b = p) (upd H p o) S := B.st.keep (fun b o' h _ => same_new hp b o' h) x fun b hb z => by
    rcases z with z | z
    · exact z
    · subst z; exact absurd hp hb
  have s2 := s1.adopt (fun z => B.dom p z hp) nm (ob := ob) (fun fs z => by rw [upd_same] at z; cases z; exact nx _ rfl) (fun b z => by rw [upd_same] at z; cases z; exact no _ rfl) ha
  exact ⟨x, g, B.step x g s2, .ptr (by rw [← B.st.len]; simp)⟩
end
section
variable {X : Cx} {E : XT} {EW : WX} {Φ : Nat → Fn} {pos : Pos}
theorem s_dnew {k n : Nat} (hk : k < 2) : PE X (.Dict [] [] pos) (tX X.K E EW k (evE Φ (.dnew n))) := by
  by_cases hn : n ≤ 1
  · have : n = 0 ∨ n = 1 := by omega
    rcases this with rfl | rfl
    · refine pe_dnewK.imp fun σ H Q h p hp => ?_
      obtain ⟨F, μ, S, ρ, B, h⟩ := h
      simp only [evE, dnewF] at h
      obtain ⟨a1, a2, a3, a4⟩ := B.newOb (ob := .dct 0 []) hp (fun _ z => by cases z) (fun _ z => by cases z) ⟨_, [], upd_same, ⟨[], .nil, rfl⟩, .nil⟩
      exact h _ _ _ a1 a2 a3 ⟨a4, fun z => by omega⟩
    · refine pe_dnewT.imp fun σ H Q h p hp => ?_
      obtain ⟨F, μ, S, ρ, B, h⟩ := h
      simp only [evE, dnewF] at h
      obtain ⟨a1, a2, a3, a4⟩ := B.newOb (ob := .dct 1 []) hp (fun _ z => by cases z) (fun _ z => by cases z) ⟨_, [], upd_same, ⟨[], .nil, rfl⟩, .nil⟩
      exact h _ _ _ a1 a2 a3 ⟨a4, fun z => by omega⟩
  · refine pe_dnewK.imp fun σ H Q h p hp => ?_
    obtain ⟨F, μ, S, ρ, B, h⟩ := h
    simp only [evE, dnewF, if_neg hn] at h
    exact h.elim
theorem s_didx (hu : X.A.units + 65 < cLine) {d i : Expr} {cd ci : CE} {kd ki k : Nat} (hk : k < 2) (hd : PE X d (tX X.K E EW kd (evE Φ cd))) (hi : PE X i (tX X.K E EW ki (evE Φ ci))) (hs : NoSl i) : PE X (.Subscript d i pos) (tX X.K E EW k (evE Φ (.didx cd ci))) := by
  refine (pe_dget (by omega) hd hi hs).imp fun σ H Q h => ?_
  obtain ⟨F, μ, S, ρ, B, h⟩ := h
  simp only [evE] at h
  refine tX.bind PE1.tr B h fun x S1 v H1 μ1 x1 g1 B1 r1 h => ?_
  refine tX.bind PE1.tr B1 h fun y S2 u H2 μ2 x2 g2 B2 r2 h => ?_
  cases hl : lookS S2 x y with
  | none => rw [hl] at h; exact h.elim
  | some o =>
    rw [hl] at h
    obtain ⟨p, n, kvs, rfl, hS, hk', rfl⟩ := lookS_some hl
    obtain ⟨a, rfl, hp⟩ := (r1.1.ext' x2 g2).w.ptr
    have h : Fin X.K E EW F σ ρ (PE1 X.K F σ ρ k Q) μ2 H2 (ofO (valD kvs y) S2) := h
    have := get_of B2.st hp hS hk' r2.1
    cases hv : valD kvs y with
    | none => rw [hv] at h; exact h.elim
    | some e =>
      rw [hv] at this h
      obtain ⟨w, q1, q2⟩ := this
      exact ⟨a, w, rfl, q1, PE1.rp B2 h hk q2⟩
theorem s_din (hu : X.A.units + 65 < cLine) {d i : Expr} {cd ci : CE} {kd ki k : Nat} {n : Bool} (hd : PE X d (tX X.K E EW kd (evE Φ cd))) (hi : PE X i (tX X.K E EW ki (evE Φ ci))) (hm : behindInMarks (if n then CmpOp.NotIn else .In) d = false) : PE X (.Compare i [if n then CmpOp.NotIn else .In] [d] pos) (tX X.K E EW k (evE Φ (.din n ci cd))) := by
  have go : ∀ σ H Q, tX X.K E EW k (evE Φ (.din n ci cd)) σ H Q → tX X.K E EW ki (evE Φ ci) σ H fun y H1 => tX X.K E EW kd (evE Φ cd) σ H1 fun x H2 => ∃ a o, x = .ref a ∧ DGet H2 a y o ∧ Q (.bl (o.isSome != n)) H2 := fun σ H Q h => by
    obtain ⟨F, μ, S, ρ, B, h⟩ := h
    simp only [evE] at h
    refine tX.bind PE1.tr B h fun y S1 u H1 μ1 x1 g1 B1 r1 h => ?_
    refine tX.bind PE1.tr B1 h fun x S2 v H2 μ2 x2 g2 B2 r2 h => ?_
    cases hl : lookS S2 x y with
    | none => rw [hl] at h; exact h.elim
    | some o =>
      rw [hl] at h
      obtain ⟨p, n', kvs, rfl, hS, hk', rfl⟩ := lookS_some hl
      obtain ⟨a, rfl, hp⟩ := r2.w.ptr
      have h : PE1 X.K F σ ρ k Q (.bl ((valD kvs y).isSome != n)) S2 μ2 H2 := h
      have := get_of B2.st hp hS hk' (r1.1.ext' x2 g2)
      cases hv : valD kvs y with
      | none => rw [hv] at this h; exact ⟨a, none, rfl, this, (h.po B2).val (.bl _)⟩
      | some e =>
        rw [hv] at this h
        obtain ⟨w, q1, q2⟩ := this
        exact ⟨a, some w, rfl, q1, (h.po B2).val (.bl _)⟩
  cases n with
  | false =>
    refine (pe_cmp (pc_din (by omega) hi hd) hm).imp fun σ H Q h => ?_
    have := go σ H Q h
    simpa [tDIn] using this
  | true =>
    refine (pe_cmp (pc_dnotin (by omega) hi hd) hm).imp fun σ H Q h => ?_
    have := go σ H Q h
    simpa [tDNotIn] using this
theorem s_dinT (hu : X.A.units + 65 < cLine) {d i : Expr} {cd ci : CE} {kd ki : Nat} {n : Bool} (hd : PE X d (tX X.K E EW kd (evE Φ cd))) (hi : PE X i (tX X.K E EW ki (evE Φ ci))) (hm : behindInMarks (if n then CmpOp.NotIn else .In) d = false) : PT X (.Compare i [if n then CmpOp.NotIn else .In] [d] pos) (tT X.K E EW (evT Φ (.din n ci cd))) := by
  have go : ∀ σ H Q, tT X.K E EW (evT Φ (.din n ci cd)) σ H Q → tX X.K E EW ki (evE Φ ci) σ H fun y H1 => tX X.K E EW kd (evE Φ cd) σ H1 fun x H2 => ∃ a o, x = .ref a ∧ DGet H2 a y o ∧ ∃ c, V.bl (o.isSome != n) = .bl c ∧ Q c H2 := fun σ H Q h => by
    obtain ⟨F, μ, S, ρ, B, h⟩ := h
    simp only [evT, evE, Res.bind_assoc] at h
    refine tX.bind PT1.tr B h fun y S1 u H1 μ1 x1 g1 B1 r1 h => ?_
    refine tX.bind PT1.tr B1 h fun x S2 v H2 μ2 x2 g2 B2 r2 h => ?_
    cases hl : lookS S2 x y with
    | none => rw [hl] at h; exact h.elim
    | some o =>
      rw [hl] at h
      obtain ⟨p, n', kvs, rfl, hS, hk', rfl⟩ := lookS_some hl
      obtain ⟨a, rfl, hp⟩ := r2.w.ptr
      have h : PT1 X.K F σ ρ Q ((valD kvs y).isSome != n) S2 μ2 H2 := h
      have := get_of B2.st hp hS hk' (r1.1.ext' x2 g2)
      cases hv : valD kvs y with
      | none => rw [hv] at this h; exact ⟨a, none, rfl, this, _, rfl, h _ _ .refl .refl B2⟩
      | some e =>
        rw [hv] at this h
        obtain ⟨w, q1, q2⟩ := this
        exact ⟨a, some w, rfl, q1, _, rfl, h _ _ .refl .refl B2⟩
  cases n with
  | false =>
    refine (pt_cmp (pc_din (by omega) hi hd) hm).imp fun σ H Q h => ?_
    have := go σ H Q h
    simpa [tB, tDIn] using this
  | true =>
    refine (pt_cmp (pc_dnotin (by omega) hi hd) hm).imp fun σ H Q h => ?_
    have := go σ H Q h
    simpa [tB, tDNotIn] using this
theorem s_dget (hu : X.A.units + 65 < cLine) {d i x : Expr} {cd ci cx : CE} {kd ki kx k : Nat} {ap cp : Pos} (hk : k < 2) (hd : PE X d (tX X.K E EW kd (evE Φ cd))) (hi : PE X i (tX X.K E EW ki (evE Φ ci))) (hx : PE X x (tX X.K E EW kx (evE Φ cx))) (m : L2.M2 X d "get" ap i x cp) : PE X (.Call (.Attribute d "get" ap) [i, x] [] cp) (tX X.K E EW k (evE Φ (.dget cd ci cx))) := by
  refine (pe_dget2 (by omega) hd hi hx m).imp fun σ H Q h => ?_
  obtain ⟨F, μ, S, ρ, B, h⟩ := h
  simp only [evE] at h
  refine tX.bind PE1.tr B h fun x S1 v H1 μ1 x1 g1 B1 r1 h => ?_
  cases hl : dctOf S1 x with
  | none => rw [hl] at h; exact h.elim
  | some t =>
    rw [hl] at h
    obtain ⟨p, n, kvs⟩ := t
    obtain ⟨rfl, hS⟩ := dctOf_some hl
    obtain ⟨a, rfl, hp⟩ := r1.w.ptr
    refine ⟨a, rfl, isD_of B1.st hp hS, ?_⟩
    refine tX.bind PE1.tr B1 h fun y S2 u H2 μ2 x2 g2 B2 r2 h => ?_
    refine tX.bind PE1.tr B2 h fun z S3 w H3 μ3 x3 g3 B3 r3 h => ?_
    cases hl : lookS S3 (.ptr p) y with
    | none => rw [hl] at h; exact h.elim
    | some o =>
      rw [hl] at h
      obtain ⟨p', n', kvs', e, hS, hk', rfl⟩ := lookS_some hl
      cases e
      obtain ⟨a', ea, hp⟩ := ((r1.1.ext' x2 g2).ext' x3 g3).w.ptr
      cases ea
      have h : PE1 X.K F σ ρ k Q ((valD kvs' y).getD z) S3 μ3 H3 := h
      have := get_of B3.st hp hS hk' (r2.1.ext' x3 g3)
      cases hv : valD kvs' y with
      | none => rw [hv] at this h; exact ⟨none, this, PE1.rp B3 h hk r3.1⟩
      | some e =>
        rw [hv] at this h
        obtain ⟨w', q1, q2⟩ := this
        exact ⟨some w', q1, PE1.rp B3 h hk q2⟩
theorem s_dlen {d : Expr} {cd : CE} {kd k : Nat} {p : Pos} (hg : Gl X "len") (hm : X.mg "len" = none) (hd : PE X d (tX X.K E EW kd (evE Φ cd))) (hs : starEach [d] X.env = [(false, eval d X.env)]) : PE X (.Call (.Name "len" p) [d] [] pos) (tX X.K E EW k (evE Φ (.dlen cd))) := by
  refine (pe_callB (call_lenD.or call_len_dT) hg hm PySem.boot_len (pa_cons hd pa_nil hs) (by decide) (by decide) hs rfl).imp fun σ H Q h => ?_
  obtain ⟨F, μ, S, ρ, B, h⟩ := h
  simp only [evE] at h
  refine tX.bind PE1.tr B h fun x S1 v H1 μ1 x1 g1 B1 r1 h => ?_
  cases hl : dctOf S1 x with
  | none => rw [hl] at h; exact h.elim
  | some t =>
    rw [hl] at h
    obtain ⟨q, n, kvs⟩ := t
    obtain ⟨rfl, hS⟩ := dctOf_some hl
    obtain ⟨a, rfl, hp⟩ := r1.w.ptr
    have h : Fin X.K E EW F σ ρ (PE1 X.K F σ ρ k Q) μ1 H1 (if n < 2 then .ok (.int (kvs.length : Nat)) S1 else .bad) := h
    split at h
    case isFalse => exact h.elim
    rename_i hn2
    have h : PE1 X.K F σ ρ k Q (.int (kvs.length : Nat)) S1 μ1 H1 := h
    obtain ⟨o, vs, e1, sh, r⟩ := B1.st.at_ q a _ hp hS
    have hvl : vs.length = kvs.length := by have := r.length; simpa [Ob.vals] using this.symm
    unfold ObSh at sh
    split at sh
    · rename_i h0; cases h0
    · rename_i h0
      cases h0
      obtain ⟨ks, hks, rfl⟩ := sh
      have hkl : ks.length = kvs.length := by have := keys_len hks; simpa using this.symm
      refine .inl ⟨a, _, rfl, e1, ?_⟩
      rw [List.length_zip, hkl, hvl, Nat.min_self]
      exact (h.po B1).val (.int _)
    · rename_i h0
      cases h0
      obtain ⟨ks, hks, rfl⟩ := sh
      have hkl : ks.length = kvs.length := by have := keys_len hks; simpa using this.symm
      refine .inr ⟨a, _, rfl, e1, ?_⟩
      rw [List.length_zip, hkl, hvl, Nat.min_self]
      exact (h.po B1).val (.int _)
    · rename_i h0; cases h0; omega
    · rename_i h0; cases h0; omega
    · exact sh.elim
    · rename_i h0; cases h0
theorem t_dput (hu : X.A.units + 65 < cLine) {d i e : Expr} {cd ci ce : CE} {kd ki ke : Nat} {sp : Pos} (hd : PE X d (tX X.K E EW kd (evE Φ cd))) (hi : PE X i (tX X.K E EW ki (evE Φ ci))) (he : PE X e (tX X.K E EW ke (evE Φ ce))) (hs : swapsWith e (some (.Subscript d i sp)) pos.line X.env = pure false) :
    PS X (.Assign [.Subscript d i sp] e pos) (tSt X.K E EW (evS Φ (.dput cd ci ce))) := by
  refine (ps_dput (by omega) hd hi he hs).imp fun D σ H h => ?_
  obtain ⟨F, μ, S, ρ, B, h⟩ := h
  simp only [evS] at h
  refine tX.bindS B h fun dv S1 v H1 μ1 x1 g1 B1 r1 ha => ?_
  refine tX.bindS B1 ha fun x S2 v2 H2 μ2 x2 g2 B2 r2 hb => ?_
  refine tX.bindS B2 hb fun y S3 u H3 μ3 x3 g3 B3 r3 hc => ?_
  clear h ha hb
  unfold dputF at hc
  cases hl : dctOf S3 x with
  | none => rw [hl] at hc; exact hc.elim
  | some t =>
    obtain ⟨p, n, kvs⟩ := t
    rw [hl] at hc
    obtain ⟨rfl, hS⟩ := dctOf_some hl
    obtain ⟨a, rfl, hp⟩ := (r2.1.ext' x3 g3).w.ptr
    have rv := (r1.1.ext' x2 g2).ext' x3 g3
    simp only at hc
    split at hc
    · rename_i hk
      obtain ⟨hk, hlen⟩ := hk
      obtain ⟨o, vs, e1, sh, r⟩ := B3.st.at_ p a _ hp hS
      have hvl : vs.length = kvs.length := by have := r.length; simpa [Ob.vals] using this.symm
      unfold ObSh at sh
      split at sh
      · rename_i h0; cases h0
      · rename_i h0
        cases h0
        obtain ⟨ks, hks, rfl⟩ := sh
        obtain ⟨k', hk'⟩ := Option.isSome_iff_exists.mp (show (kOf y).isSome = true from hk)
        obtain ⟨ks', vs', q1, q2, q3⟩ := put_ok (fun {d e k} => kOf_inj) hk' r3.1.kasc rv hks r
        rw [kOf_v r3.1 hk']
        refine ⟨a, _, rfl, .k e1 ?_, hc _ _ _ (B3.stm (ob' := .dct 0 (putD kvs y dv)) hp hS (fun _ z => nomatch z) ⟨ks', q2, by rw [q1]⟩ q3)⟩
        rw [List.length_zip, hvl, sizeLine_eq]; omega
      · rename_i h0
        cases h0
        obtain ⟨ks, hks, rfl⟩ := sh
        obtain ⟨k', hk'⟩ := Option.isSome_iff_exists.mp (show (tOf y).isSome = true from hk)
        obtain ⟨ks', vs', q1, q2, q3⟩ := put_ok (fun {d e k} => tOf_inj) hk' r3.1.kasc rv hks r
        obtain ⟨b, rfl, hb⟩ := tOf_v r3.1 hk'
        refine ⟨a, _, rfl, .t e1 hb ?_, hc _ _ _ (B3.stm (ob' := .dct 1 (putD kvs y dv)) hp hS (fun _ z => nomatch z) ⟨ks', q2, by rw [q1]⟩ q3)⟩
        rw [List.length_zip, hvl, sizeLine_eq]; omega
      · rename_i h0; cases h0; cases hk
      · rename_i h0; cases h0; cases hk
      · exact sh.elim
      · rename_i h0; cases h0
    · exact hc.elim
end
end RH

set_option Elab.async false
set_option linter.all false
set_option maxRecDepth 100000
/-! RFNew: list(range(..)), xs.index(y), {k: True}, walks over a dict's keys. -/
namespace RH
open PySem PySem.Spec PyProof.Rows L2
section
variable {X : Cx} {E : XT} {EW : WX} {Φ : Nat → Fn} {pos : Pos}
theorem rps_intsF {K : PySem.W.Frag} {μ : List Addr} {W : Addr → Prop} {H : Hp} (f g : Nat → Int) (h : ∀ i, f i = g i) : ∀ l : List Nat, Rps K μ W H (l.map fun i => .int (f i)) (l.map fun i => V.int (g i))
  | [] => .nil
  | a :: l => .cons (by show Rp K μ W H (.int (f a)) (.int (g a)); rw [h a]; exact .int _) (rps_intsF f g h l)
theorem s_lrg1 {a : Expr} {ca : CE} {ka k : Nat} {p p2 q : Pos} (hc : X.calm = true) (hl : Gl X "list") (hml : X.mg "list" = none) (hr : Gl X "range") (hmr : X.mg "range" = none) (ha : PE X a (tX X.K E EW ka (evE Φ ca))) (na : starEach [a] X.env = (false, eval a X.env) :: starEach [] X.env) :
    PE X (.Call (.Name "list" p) [.Call (.Name "range" p2) [a] [] q] [] pos) (tX X.K E EW k (evE Φ (.lrg (.cons ca .nil)))) := by
  refine (pe_listRg hc hl hml (prg_1 hr hmr ha na)).imp fun σ H Q h => ?_
  obtain ⟨F, μ, S, ρ, B, h⟩ := h
  simp only [evE, evL, Res.bind_assoc] at h
  refine tX.bind PE1.tr B h fun d S1 v H1 μ1 x1 g1 B1 r1 h => ?_
  obtain ⟨z, hz, h⟩ := Fin.ofO (show Fin X.K E EW F σ ρ (PE1 X.K F σ ρ k Q) μ1 H1 (ofO (lrgD [d]) S1) from h)
  unfold lrgD at hz
  split at hz
  · rename_i n e
    cases e
    split at hz
    · rename_i hb
      cases hz
      cases r1.w.int
      refine ⟨n, rfl, RgOk.of_le (by omega) hb.2 (by omega) hb.1, (PE1.po B1 h).newL B1.dm ?_⟩
      unfold rgV
      rw [Int.sub_zero]
      exact rps_intsF _ _ (fun i => by omega) _
    · cases hz
  · rename_i e
    cases e
  · cases hz
theorem s_lrg2 {a b : Expr} {ca cb : CE} {ka kb k : Nat} {p p2 q : Pos} (hc : X.calm = true) (hl : Gl X "list") (hml : X.mg "list" = none) (hr : Gl X "range") (hmr : X.mg "range" = none) (ha : PE X a (tX X.K E EW ka (evE Φ ca))) (hb : PE X b (tX X.K E EW kb (evE Φ cb))) (na : starEach [a, b] X.env = (false, eval a X.env) :: starEach [b] X.env) (nb : starEach [b] X.env = (false, eval b X.env) :: starEach [] X.env) (hp : (backTo q (starEach [b] X.env)).any (·.1) = false) :
    PE X (.Call (.Name "list" p) [.Call (.Name "range" p2) [a, b] [] q] [] pos) (tX X.K E EW k (evE Φ (.lrg (.cons ca (.cons cb .nil))))) := by
  refine (pe_listRg hc hl hml (prg_2 hr hmr ha hb na nb hp)).imp fun σ H Q h => ?_
  obtain ⟨F, μ, S, ρ, B, h⟩ := h
  simp only [evE, evL, Res.bind_assoc] at h
  refine tX.bind PE1.tr B h fun d S1 v H1 μ1 x1 g1 B1 r1 h => ?_
  refine tX.bind PE1.tr B1 h fun e S2 u H2 μ2 x2 g2 B2 r2 h => ?_
  obtain ⟨z, hz, h⟩ := Fin.ofO (show Fin X.K E EW F σ ρ (PE1 X.K F σ ρ k Q) μ2 H2 (ofO (lrgD [d, e]) S2) from h)
  unfold lrgD at hz
  split at hz
  · rename_i n e
    cases e
  · rename_i i j e
    cases e
    split at hz
    · rename_i hb
      cases hz
      cases (r1.1.ext' x2 g2).w.int
      cases r2.w.int
      refine ⟨i, j, rfl, rfl, RgOk.of_le hb.1 hb.2.2.2 hb.2.1 hb.2.2.1, (PE1.po B2 h).newL B2.dm ?_⟩
      unfold rgV
      exact rps_intsF _ _ (fun i => rfl) _
    · cases hz
  · cases hz
theorem lsD_rw {K : PySem.W.Frag} {F : Fx} {μ : List Addr} {S : Store} {σ : L2.St} {ρ : List Cell} {H : Hp} {d : D} {v : V} {ds : List D} (B : Bd K F μ S σ ρ H) (rd : Rp K μ F.W H d v) (h : lsD S d = some ds) : ∃ a vs, v = .ref a ∧ H a = some (.lst vs) ∧ Rps K μ F.W H ds vs := by
  unfold lsD at h
  split at h
  · rename_i ds' e
    cases h
    exact (drf_rw B rd e).lst
  · cases h
theorem s_lix {k ka ko : Nat} {o e : Expr} {co c : CE} {ap cp : Pos} (ho : PE X o (tX X.K E EW ko (evE Φ co))) (he : PE X e (tX X.K E EW ka (evE Φ c))) (hs : starEach [e] X.env = [(false, eval e X.env)]) (hbase : attributeBase o "index" X.env (eval o X.env) = eval o X.env) (hline : (ap.endLine == cp.line) = true) :
    PE X (.Call (.Attribute o "index" ap) [e] [] cp) (tX X.K E EW k (evE Φ (.lix co c))) := by
  refine (pe_bm PySem.F.plainAttrs_list PySem.F.slot_list_index PySem.F.type_list_index mt_index ho (pa_cons he pa_nil hs) hbase (by rw [hs]; rfl) hline hs rfl).imp fun σ H Q h => ?_
  obtain ⟨F, μ, S, ρ, B, h⟩ := h
  simp only [evE] at h
  refine tX.bind PE1.tr B h fun d0 S0 v0 H0 μ0 x0 g0 B0 r0 h => ?_
  cases hl : lsD S0 d0 with
  | none => rw [hl] at h; exact h.elim
  | some ds0 =>
    rw [hl] at h
    obtain ⟨a, us0, rfl, e1, _⟩ := lsD_rw B0 r0.1 hl
    refine ⟨.inl ⟨rfl, us0, .of e1⟩, ?_⟩
    have h : Fin X.K E EW F σ ρ (PE1 X.K F σ ρ k Q) μ0 H0 ((evE Φ c ρ S0).bind fun y S => (ofO (lsD S d0) S).bind fun ds S => ofO (lixD ds y) S) := h
    refine tX.bind PE1.tr B0 h fun dj S1 u H1 μ1 x1 g1 B1 r1 h => ?_
    cases hl1 : lsD S1 d0 with
    | none => rw [hl1] at h; exact h.elim
    | some ds =>
      rw [hl1] at h
      obtain ⟨a', vs, ea, e2, rs⟩ := lsD_rw B1 (r0.1.ext' x1 g1) hl1
      cases ea
      obtain ⟨z, hz, h⟩ := Fin.ofO (show Fin X.K E EW F σ ρ (PE1 X.K F σ ρ k Q) μ1 H1 (ofO (lixD ds dj) S1) from h)
      unfold lixD at hz
      split at hz
      · rename_i hf
        simp only [Bool.and_eq_true] at hf
        obtain ⟨j, hj, rfl⟩ := Option.map_eq_some_iff.mp hz
        rw [List.findIdx?_eq_some_iff_getElem] at hj
        obtain ⟨hlt, hj1, hj2⟩ := hj
        obtain ⟨w, hw1, hw2⟩ := rs.get (List.getElem?_eq_getElem hlt)
        have fl : ∀ (m : Nat) (hm : m < ds.length), flatD ds[m] = true := fun m hm => List.all_eq_true.mp hf.2 _ (List.getElem_mem _)
        refine ⟨a, vs, u, j, w, rfl, rfl, .of e2, flat_rp r1.1 hf.1, flat_all rs hf.2, hw1, by rw [flat_eq hw2 r1.1 (fl j hlt) hf.1]; exact hj1, fun m z' hm hz' => ?_, (h.po B1).val (.int _)⟩
        have hm' : m < ds.length := by omega
        obtain ⟨w', q1, q2⟩ := rs.get (List.getElem?_eq_getElem hm')
        rw [q1] at hz'; cases hz'
        rw [flat_eq q2 r1.1 (fl m hm') hf.1]
        simpa using hj2 m hm
      · cases hz
theorem kOf_rp {K : PySem.W.Frag} {μ : List Addr} {W : Addr → Prop} {H : Hp} {d : D} {v : V} {k : Key} (r : Rp K μ W H d v) (h : kOf d = some k) : v = kV k := by
  cases r <;> simp [kOf] at h <;> subst h <;> rfl
theorem upd_twice {H : Hp} {a : Addr} {o u : HO} : upd (upd H a o) a u = upd H a u := by
  funext b; unfold upd; split <;> rfl
theorem s_ddp {ek : Expr} {j : Nat} {p1 : Pos} {c : CE} {k : Nat} (hk : k < 2) {tk : TE} (he : PE X ek tk)
    (hr : ∀ F μ S σ ρ H, Bd X.K F μ S σ ρ H → (∃ d v, evE Φ c ρ S = ddpF d (.bl true) S ∧ Rp X.K μ F.W H d v ∧ ∀ H' (Q : VK), Q v H' → tk σ H' Q) ∨ evE Φ c ρ S = .bad) :
    PE X (.Dict [some ek] [.Constant (.bool true) j p1] pos) (tX X.K E EW k (evE Φ c)) := by
  refine (pe_disp (pps_cons he pe_bl pps_nil) rfl rfl (by simp) (by simp)).imp fun σ H Q h => ?_
  obtain ⟨F, μ, S, ρ, B, h⟩ := h
  rcases hr F μ S σ ρ H B with ⟨d, v, e, r, ht⟩ | e
  · rw [e] at h
    unfold ddpF at h
    cases hk' : kOf d with
    | none => rw [hk'] at h; exact h.elim
    | some key =>
      rw [hk'] at h
      have ev := kOf_rp r hk'
      subst ev
      intro p hp
      refine ht _ _ ?_
      refine ⟨upd_same, [(key, .bl true)], rfl, by simp, ?_⟩
      rw [upd_twice]
      obtain ⟨a1, a2, a3, a4⟩ := B.newOb (ob := .dct 0 [(d, .bl true)]) (o := .dK (mergeK [] [(key, .bl true)])) hp (fun _ z => by cases z) (fun _ z => by cases z) ⟨_, [.bl true], upd_same, ⟨[key], .cons hk' r.kasc .nil, rfl⟩, .cons (.bl _) .nil⟩
      exact h _ _ _ a1 a2 a3 ⟨a4, fun z => by omega⟩
  · rw [e] at h; exact h.elim
theorem s_ddpV {i j : Nat} {x : Str} {p1 p2 : Pos} {k : Nat} (hk : k < 2) (hN : X.N[i]? = some x) (hv : Vis X.env.scope x) (hd : (x == ("__debug__" : Str)) = false) (hcd : (x == ("__classdict__" : Str)) = false) :
    PE X (.Dict [some (.Name x p2)] [.Constant (.bool true) j p1] pos) (tX X.K E EW k (evE Φ (.ddpV i))) := by
  refine s_ddp hk (pe_var hN hv hd hcd) fun F μ S σ ρ H B => ?_
  rw [evE]
  split
  · rename_i d e
    obtain ⟨v, h1, h2⟩ := B.slot i _ e
    exact .inl ⟨d, v, rfl, h2, fun H' Q q => ⟨v, h1, q⟩⟩
  · exact .inr rfl
theorem s_ddpI {n : Int} {i j : Nat} {p1 p2 : Pos} {k : Nat} (hk : k < 2) :
    PE X (.Dict [some (.Constant (.int n) i p2)] [.Constant (.bool true) j p1] pos) (tX X.K E EW k (evE Φ (.ddpI n))) := by
  refine s_ddp hk pe_int fun F μ S σ ρ H B => ?_
  rw [evE]
  exact .inl ⟨.int n, .int n, rfl, .int n, fun H' Q q => q⟩
/-! ### a walk over keys -/
theorem lckF_some {S : Store} {r : Res RH.D} {n k : Nat} {kvs : List (RH.D × RH.D)} (h : lckF S r = some (n, k, kvs)) : S[n]? = some (.dct k kvs) ∧ k < 2 := by
  unfold lckF at h
  split at h
  · split at h
    · rename_i n' k' kvs' e
      split at h
      · rename_i hk
        cases h
        exact ⟨(dctOf_some e).2, hk⟩
      · cases h
    · cases h
  · cases h
theorem unl_bind {K : PySem.W.Frag} {F : Fx} {D : Ends} {n k : Nat} {kvs : List (RH.D × RH.D)} {r : Res RH.D} {f : RH.D → Store → Out} (h : FinS K E EW F D (unlF n k kvs (r.bind f))) : FinS K E EW F D (r.bind fun d S => unlF n k kvs (f d S)) := by
  cases r with
  | ok d S => exact h
  | err x S => exact h.elim
  | bad => exact h.elim
theorem keys_get {α : Type} {f : RH.D → Option α} : ∀ {ds : List RH.D} {ks : List α} {i : Nat} {d : RH.D}, Keys f ds ks → ds[i]? = some d → ∃ k, ks[i]? = some k ∧ f d = some k ∧ KAsc d
  | _, _, _, _, .nil, h => by simp at h
  | _, _, 0, _, .cons h1 h2 _, h => by simp at h; subst h; exact ⟨_, rfl, h1, h2⟩
  | _, _, i + 1, _, .cons _ _ r, h => by simpa using keys_get (i := i) r (by simpa using h)
theorem kOf_key {K : PySem.W.Frag} {μ : List Addr} {W : Addr → Prop} {H : Hp} {d : RH.D} {k : Key} (h : kOf d = some k) (a : KAsc d) : Rp K μ W H d (kV k) := by
  cases d <;> simp [kOf] at h
  · subst h; exact .int _
  · subst h; exact .str a
theorem ksOf_keys {K : PySem.W.Frag} {μ : List Addr} {W : Addr → Prop} {H : Hp} : ∀ {ds : List RH.D} {ks : List Key}, ksOf ds = some ks → (∀ l, RH.D.str l ∈ ds → Asc l) → Rps K μ W H ds (ks.map kV)
  | [], ks, h, _ => by simp [ksOf] at h; subst h; exact .nil
  | d :: ds, ks, h, a => by
    unfold ksOf at h
    split at h
    · rename_i k ks' e1 e2
      cases h
      refine .cons (kOf_key e1 ?_) (ksOf_keys e2 fun l hl => a l (List.mem_cons_of_mem _ hl))
      cases d with
      | str l => exact a l (by simp)
      | _ => first | trivial | (simp [kOf] at e1)
    · cases h
theorem Bd.unlock {K : PySem.W.Frag} {F : Fx} {μ : List Addr} {S : Store} {σ : L2.St} {ρ : List Cell} {H : Hp} (B : Bd K F μ S σ ρ H) {n k : Nat} {a : Addr} {kvs : List (RH.D × RH.D)} {od : Obj} {u : HO} (hk : k < 2) (ha : μ[n]? = some a) (hS : S[n]? = some (.dct (k + 2) kvs)) (hH : H a = some (.frz od u)) (hi : ∀ o, F.H0 a = some o → Im o → False) : Bd K F μ (S.set n (.dct k kvs)) σ ρ (upd H a u) := by
  obtain ⟨o, vs, e, sh, r⟩ := B.st.at_ n a _ ha hS
  rw [hH] at e; cases e
  have : k = 0 ∨ k = 1 := by omega
  rcases this with rfl | rfl
  · obtain ⟨ks, od', hks, e⟩ := sh
    cases e
    exact B.stm' (ob' := .dct 0 kvs) (us := vs) ha hS hi ⟨ks, hks, rfl⟩ r
  · obtain ⟨ks, od', hks, e⟩ := sh
    cases e
    exact B.stm' (ob' := .dct 1 kvs) (us := vs) ha hS hi ⟨ks, hks, rfl⟩ r
/-- .. seen from a later state -/
def Fx.at (F : Fx) (μ : List Addr) (H : Hp) : Fx := { F with μ0 := μ, H0 := H }
def lkE (a : Addr) (od : Obj) (u : HO) (D : Ends) : Ends := ⟨fun σ' H' => H' a = some (.frz od u) ∧ D.nx σ' (upd H' a u), fun v H' => H' a = some (.frz od u) ∧ D.rt v (upd H' a u), fun σ' H' => H' a = some (.frz od u) ∧ D.bk σ' (upd H' a u), fun σ' H' => H' a = some (.frz od u) ∧ D.ct σ' (upd H' a u)⟩
/-- the dict at a is locked from here on -/
structure Lk (K : PySem.W.Frag) (F : Fx) (μ1 : List Addr) (H1 : Hp) (n k : Nat) (kvs : List (RH.D × RH.D)) (a : Addr) (od : Obj) (u : HO) : Prop where
  hk : k < 2
  ha : μ1[n]? = some a
  hH : H1 a = some (.frz od u)
  hi : ∀ o, F.H0 a = some o → Im o → False
  ext : Ext F.μ0 F.H0 H1
  gr : Gr F.μ0 F.H0 μ1
  dom : ∀ b, F.W b → H1 b ≠ none
  nw : ∀ b, b ∈ μ1 → ¬ F.W b
section
variable {K : PySem.W.Frag} {F : Fx} {μ1 : List Addr} {H1 : Hp} {n k : Nat} {kvs : List (RH.D × RH.D)} {a : Addr} {od : Obj} {u : HO} {D : Ends} {μ : List Addr} {S : Store} {σ : L2.St} {ρ : List Cell} {H : Hp}
theorem Lk.up (L : Lk K F μ1 H1 n k kvs a od u) (B : Bd K (F.at μ1 H1) μ S σ ρ H) : Bd K F μ S σ ρ H := ⟨B.dom, B.st, B.len, L.ext.trans L.gr B.ext, L.gr.trans L.ext B.gr, B.pin, B.slot⟩
theorem Lk.locked (L : Lk K F μ1 H1 n k kvs a od u) (x : Ext μ1 H1 H) : H a = some (.frz od u) := x a _ L.hH (.inr trivial)
theorem Lk.mu (L : Lk K F μ1 H1 n k kvs a od u) (g : Gr μ1 H1 μ) : μ[n]? = some a := by
  obtain ⟨⟨m, rfl⟩, _⟩ := g
  rw [List.getElem?_append_left (List.getElem?_eq_some_iff.mp L.ha).1]
  exact L.ha
theorem Lk.pf (L : Lk K F μ1 H1 n k kvs a od u) {f : Flw} (h : FinS K E EW F D (unlF n k kvs (.ok f S))) : PF K (F.at μ1 H1) (lkE a od u D) f S := by
  by_cases hq : S[n]? = some (.dct (k + 2) kvs) ∧ noLst f = true
  · simp only [unlF, if_pos hq] at h
    obtain ⟨hS, hf⟩ := hq
    have h : PF K F D f (S.set n (.dct k kvs)) := h
    cases f with
    | nx ρ => exact fun σ H μ B => ⟨L.locked B.ext, h σ _ μ ((L.up B).unlock L.hk (L.mu B.gr) hS (L.locked B.ext) L.hi)⟩
    | bk ρ => exact fun σ H μ B => ⟨L.locked B.ext, h σ _ μ ((L.up B).unlock L.hk (L.mu B.gr) hS (L.locked B.ext) L.hi)⟩
    | ct ρ => exact fun σ H μ B => ⟨L.locked B.ext, h σ _ μ ((L.up B).unlock L.hk (L.mu B.gr) hS (L.locked B.ext) L.hi)⟩
    | rt fr d =>
      intro v H μ x g st rr
      have x : Ext μ1 H1 H := x
      have g : Gr μ1 H1 μ := g
      have dom : ∀ b, F.W b → H b ≠ none := fun b hb => by
        have h1 := L.dom b hb
        cases e : H1 b with
        | none => exact absurd e h1
        | some o => rw [x b o e (.inl fun z => L.nw b z hb)]; intro z; cases z
      have B0 : Bd K { F with pn := [(d, v)] } μ S [] [] H := ⟨dom, st, rfl, L.ext.trans L.gr x, L.gr.trans L.ext g, fun p hp => by
        have : p = (d, v) := by simpa using hp
        subst this
        exact rr.1, fun i c h => by simp at h⟩
      have B1 := B0.unlock L.hk (L.mu g) hS (L.locked x) L.hi
      have nl : ∀ ds, d ≠ .lst ds := fun ds e => by subst e; cases hf
      exact ⟨L.locked x, h v _ μ B1.ext B1.gr B1.st ⟨B1.pin (d, v) (by simp), fun _ => ⟨.triv nl, fun ds a' e => absurd e (nl ds)⟩⟩⟩
  · simp only [unlF, if_neg hq] at h
    exact h.elim
theorem Lk.after (L : Lk K F μ1 H1 n k kvs a od u) {r : Out} {go : List Cell → Store → Out} {N : L2.St → Hp → Prop} (h : FinS K E EW F D (unlF n k kvs (RH.after r go)))
    (hN : ∀ σ H μ S ρ, Bd K (F.at μ1 H1) μ S σ ρ H → FinS K E EW F D (unlF n k kvs (go ρ S)) → N σ H) : FinS K E EW (F.at μ1 H1) { lkE a od u D with nx := N, ct := N, bk := (lkE a od u D).nx } r := by
  cases r with
  | bad => exact h.elim
  | err x S => exact h.elim
  | ok f S =>
    cases f with
    | nx ρ => exact fun σ H μ B => hN σ H μ S ρ B h
    | ct ρ => exact fun σ H μ B => hN σ H μ S ρ B h
    | bk ρ => exact L.pf (f := .nx ρ) h
    | rt fr d => exact L.pf (f := .rt fr d) h
/-- the turns -/
theorem Lk.turns (L : Lk X.K F μ1 H1 n k kvs a od u) {t : Tg} {cb : CB} {J : It} (B1 : Bd X.K (F.at μ1 H1) μ1 S σ ρ H1)
    (hJ : ∀ H', H' a = some (.frz od u) → ∀ i, (∀ d, (kvs.map (·.1))[i]? = some d → J.go i H' ∧ ∀ x H2, J.yld i H' x H2 → H2 = H' ∧ ∀ μ' W', Rp X.K μ' W' H' d x) ∧ (kvs.length ≤ i → J.stop i H'))
    (h : FinS X.K E EW F D (unlF n k kvs (loopF [] (fun d ρ S => seqB (setTF ρ t d S) (evBk Φ cb)) (kvs.map (·.1)) ρ S))) :
    ∃ W : Nat → Nat → L2.St → Hp → Prop, (∃ m, W 0 m σ H1) ∧ ∀ i m σ H, W i m σ H → (J.stop i H ∧ (lkE a od u D).nx σ H) ∨ (J.go i H ∧ ∃ N : L2.St → Hp → Prop, (∀ σ' H', N σ' H' → ∃ m', m' < m ∧ W (i + 1) m' σ' H') ∧ ∀ v H', J.yld i H v H' → tG X.K t v σ H' fun σ2 H2 => tSt X.K E EW (evBk Φ cb) { lkE a od u D with nx := N, ct := N, bk := (lkE a od u D).nx } σ2 H2) := by
  let items := kvs.map (·.1)
  have hil : items.length = kvs.length := List.length_map _
  let Iv : Nat → Nat → L2.St → Hp → Prop := fun i m σ H => m = items.length - i ∧ i ≤ items.length ∧ ∃ μ S ρ, Bd X.K (F.at μ1 H1) μ S σ ρ H ∧ FinS X.K E EW F D (unlF n k kvs (loopF [] (fun d ρ S => seqB (setTF ρ t d S) (evBk Φ cb)) (items.drop i) ρ S))
  refine ⟨Iv, ⟨items.length, rfl, Nat.zero_le _, μ1, S, ρ, B1, h⟩, ?_⟩
  rintro i m σ H ⟨rfl, hi, μ, S, ρ, B, h⟩
  have hH := L.locked B.ext
  by_cases hlt : i < items.length
  · obtain ⟨d, hd⟩ : ∃ d, items[i]? = some d := ⟨_, List.getElem?_eq_getElem hlt⟩
    have ed : items.drop i = d :: items.drop (i + 1) := by
      obtain ⟨h1, h2⟩ := List.getElem?_eq_some_iff.mp hd
      rw [← h2]; exact List.drop_eq_getElem_cons h1
    rw [ed, loopF, if_pos (by trivial)] at h
    obtain ⟨go, yl⟩ := (hJ H hH i).1 d hd
    refine .inr ⟨go, fun σ' H' => Iv (i + 1) (items.length - (i + 1)) σ' H', fun σ' H' hN => ⟨items.length - (i + 1), by omega, hN⟩, fun xv H2 y => ?_⟩
    obtain ⟨rfl, rx⟩ := yl xv H2 y
    cases eb : bindT t d ρ with
    | none => simp only [setTF, eb, seqB, RH.after, unlF] at h; exact h.elim
    | some ρ' =>
      simp only [setTF, eb, seqB] at h
      refine ⟨F.at μ1 H1, μ, S, ρ, d, ρ', B, rx _ _, eb, fun σ' B3 _ => ⟨F.at μ1 H1, μ, S, ρ', B3, ?_⟩⟩
      exact L.after h fun σ' H' μ' S' ρ' B' h' => ⟨rfl, hlt, μ', S', ρ', B', h'⟩
  · have e : i = items.length := by omega
    subst e
    rw [List.drop_length, loopF, if_pos (by trivial)] at h
    exact .inl ⟨(hJ H hH _).2 (by omega), L.pf (f := .nx ρ) h _ _ _ B⟩
end
theorem t_forK {tg iter : Expr} {body : List Stmt} {t : Tg} {ce : CE} {cb : CB} {ke : Nat} (hp : PassesOwn (model X.prog X.w) X.A X.env X.xe) (hc : X.calm = true) (he : PE X iter (tX X.K E EW ke (evE Φ ce))) (hg : PG X tg (tG X.K t)) (hb : PSs X body (tSt X.K E EW (evBk Φ cb))) (hs : ∀ x, foldedSetIterable iter X.env x = pure x) :
    PS X (.For tg iter body [] pos) (tSt X.K E EW (evS Φ (.forK t ce cb))) := by
  refine (ps_lock (ps_for hp hc (pi_keys he) hg hb hs)).imp fun D σ H h => ?_
  obtain ⟨F, μ, S, ρ, B, h⟩ := h
  rw [evS] at h
  cases hl : lckF S (evE Φ ce ρ S) with
  | none => rw [hl] at h; exact h.elim
  | some q =>
    obtain ⟨n, k, kvs⟩ := q
    rw [hl] at h
    obtain ⟨hS, hk⟩ := lckF_some hl
    have hn : n < μ.length := by rw [B.st.len]; exact (List.getElem?_eq_some_iff.mp hS).1
    obtain ⟨a, ha⟩ : ∃ a, μ[n]? = some a := ⟨_, List.getElem?_eq_getElem hn⟩
    obtain ⟨o, vs, e, sh, r⟩ := B.st.at_ n a _ ha hS
    have him : ∀ o', F.H0 a = some o' → Im o' → False := fun o' h0 im => by
      have h1 := B.ext a o' h0 (.inr im)
      rw [e] at h1; cases h1
      exact sh.im (by simp [Ob.unl, hk]) im
    have rl : kvs.length = vs.length := by have := r.length; simpa [Ob.vals] using this
    have mid : ∀ (od : Obj) {R : It → Hp → Prop} (B2 : Bd X.K F μ (S.set n (.dct (k + 2) kvs)) σ ρ (upd H a (.frz od o)))
        (hR : ∀ S1 μ1 H1, Lk X.K F μ1 H1 n k kvs a od o → Bd X.K (F.at μ1 H1) μ1 S1 σ ρ H1 → FinS X.K E EW F D (unlF n k kvs (loopF [] (fun d ρ S => seqB (setTF ρ t d S) (evBk Φ cb)) (kvs.map (·.1)) ρ S1)) → ((∃ kvs, H1 a = some (.frz od (.dK kvs)) ∧ R (Itk a od kvs) H1) ∨ ∃ kvs, H1 a = some (.frz od (.dT kvs)) ∧ R (Itkt a od kvs) H1)),
        iKeys (tX X.K E EW ke (evE Φ ce)) σ (upd H a (.frz od o)) R := fun od R B2 hR => by
      refine tX.bindS B2 (unl_bind h) fun y S1 v H1 μ1 x1 g1 B1 r1 h => ?_
      cases y with
      | ptr m =>
        by_cases hm : m = n
        · subst hm
          have h : FinS X.K E EW F D (unlF m k kvs (if m = m then loopF [] (fun d ρ S => seqB (setTF ρ t d S) (evBk Φ cb)) (kvs.map (·.1)) ρ S1 else .bad)) := h
          rw [if_pos rfl] at h
          obtain ⟨a', rfl, hp'⟩ := r1.w.ptr
          have ea : a' = a := by
            obtain ⟨⟨mo, rfl⟩, _⟩ := g1
            rw [List.getElem?_append_left hn, ha] at hp'
            exact (Option.some.inj hp').symm
          subst ea
          exact ⟨a', od, rfl, hR S1 μ1 H1 ⟨hk, hp', x1 _ _ upd_same (.inr trivial), him, B1.ext, B1.gr, B1.dom, B1.st.nw⟩ ⟨B1.dom, B1.st, B1.len, .refl, .refl, B1.pin, B1.slot⟩ h⟩
        · have h : FinS X.K E EW F D (unlF n k kvs (if m = n then loopF [] (fun d ρ S => seqB (setTF ρ t d S) (evBk Φ cb)) (kvs.map (·.1)) ρ S1 else .bad)) := h
          rw [if_neg hm] at h
          exact h.elim
      | _ => exact h.elim
    have : k = 0 ∨ k = 1 := by omega
    rcases this with rfl | rfl
    · obtain ⟨ks, hks, rfl⟩ := sh
      have kl : kvs.length = ks.length := by have := keys_len hks; simpa using this
      refine ⟨a, _, e, trivial, fun od => mid od (B.stm (ob' := .dct 2 kvs) (us := vs) ha hS (fun _ z => by cases z) ⟨ks, od, hks, rfl⟩ r) fun S1 μ1 H1 L B1 h => .inl ⟨ks.zip vs, L.hH, ?_⟩⟩
      refine L.turns B1 (fun H' hH i => ⟨fun d hd => ?_, fun hi => ⟨hH, by rw [List.length_zip]; omega⟩⟩) h
      obtain ⟨key, k1, k2, k3⟩ := keys_get hks hd
      have hil : i < ks.length := (List.getElem?_eq_some_iff.mp k1).1
      refine ⟨⟨hH, by rw [List.length_zip]; omega⟩, fun x H2 y => ?_⟩
      obtain ⟨e2, k', v', q1, rfl⟩ := y
      refine ⟨e2, fun μ' W' => ?_⟩
      have : k' = key := by
        rw [List.getElem?_zip_eq_some] at q1
        rw [k1] at q1
        exact (Option.some.inj q1.1).symm
      subst this
      exact kOf_key k2 k3
    · obtain ⟨ks, hks, rfl⟩ := sh
      have kl : kvs.length = ks.length := by have := keys_len hks; simpa using this
      refine ⟨a, _, e, trivial, fun od => mid od (B.stm (ob' := .dct 3 kvs) (us := vs) ha hS (fun _ z => by cases z) ⟨ks, od, hks, rfl⟩ r) fun S1 μ1 H1 L B1 h => .inr ⟨ks.zip vs, L.hH, ?_⟩⟩
      refine L.turns B1 (fun H' hH i => ⟨fun d hd => ?_, fun hi => ⟨hH, by rw [List.length_zip]; omega⟩⟩) h
      obtain ⟨key, k1, k2, k3⟩ := keys_get hks hd
      have hil : i < ks.length := (List.getElem?_eq_some_iff.mp k1).1
      refine ⟨⟨hH, by rw [List.length_zip]; omega⟩, fun x H2 y => ?_⟩
      obtain ⟨e2, k', v', q, q1, rfl, hq⟩ := y
      refine ⟨e2, fun μ' W' => ?_⟩
      have : k' = key := by
        rw [List.getElem?_zip_eq_some] at q1
        rw [k1] at q1
        exact (Option.some.inj q1.1).symm
      subst this
      cases d with
      | tup ds => exact .tup hq (ksOf_keys k2 k3)
      | _ => simp [tOf] at k2
end
end RH

set_option Elab.async false
set_option linter.all false
set_option maxRecDepth 100000
/-! RFIns: instances: fields, methods, making. -/
namespace RH
open PySem PySem.Spec PyProof.Rows L2
section
variable {X : Cx} {CX : CXT} {k : Nat} {f C : Addr} {fd : FuncData} {ps : List Str} {sp : Sp} {EX : L2.St → XK} {x m : Str} {p pos apos : Pos} {e o : Expr} {es : List Expr} {ta : TE} {t : TA}
/-- how a method's call is read -/
theorem mc_eq {env : Env} {args : List Expr} (hbase : attributeBase o m env (eval o env) = eval o env) (hform : methodCallForm (args.length + ([] : List Keyword).length) (backTo pos (starEach args env)) (backToKw pos (keywordEach [] env)) = true) (hline : (apos.endLine == pos.line) = true) :
    eval (.Call (.Attribute o m apos) args [] pos) env = (do
      let v ← eval o env
      standAt apos.atName
      let (g, fst) ← holding [v] (getMethod v m (do return (← importBound o env).getD true))
      callWith pos g fst (backTo pos (starEach args env)) (backToKw pos (keywordEach [] env))) := by
  have hpos : methodCallPos true o env apos pos = pure pos := by unfold methodCallPos; simp [hline]
  rw [arm_eval_Call, hbase]
  unfold methodCall calleeOf
  rw [hform]
  simp only [hpos, if_true, pure_bind]
/-- o.m(..), what is raised wished for at the slots -/
def tMthS (C : Addr) (m : Str) (sp : Sp) (EX : L2.St → XK) (ta : TE) (t : TA) : TE := fun σ H Q => ta σ H fun y H1 => ∃ b dx fs, y = .ref b ∧ H1 b = some (.ins C dx fs) ∧ fs.lookup m = none ∧ t σ H1 fun vs H2 => sp (y :: vs) H2 Q (EX σ)
theorem pe_mthS (he : PE X o ta) (c : Cls X.K C) (hm : Meth X.K C m f) (F : FnOk X.prog X.w X.K X.mg X.base CX k f fd ps sp) (hr : Room k X.A) (hb : L2.Binds X.K fd ps []) (hx : ∀ σ, PassesAt CX X σ (EX σ)) (ha : PA X (e :: es) t)
    (hst : starEach (e :: es) X.env = (false, eval e X.env) :: starEach es X.env) (hpl : (backTo pos (starEach es X.env)).any (·.1) = false)
    (hbase : attributeBase o m X.env (eval o X.env) = eval o X.env) (hform : methodCallForm ((e :: es).length + ([] : List Keyword).length) (backTo pos (starEach (e :: es) X.env)) (backToKw pos (keywordEach [] X.env)) = true) (hline : (apos.endLine == pos.line) = true) :
    PE X (.Call (.Attribute o m apos) (e :: es) [] pos) (tMthS C m sp EX ta t) := by
  refine ⟨fun pins s σ H Q I h => ?_⟩
  refine PySem.W.methodCall_KW (thn (he.run pins s σ H _ I h) fun u s1 hh => ?_) (mc_eq hbase hform hline)
  obtain ⟨y, H1, I1, ry, b, dx, fs, ey, eb, l, q⟩ := hh
  subst ey
  obtain rfl : u = Value.ref b := ry
  refine getmeth_ok I1 eb c hm l (PySem.W.callWith_K (first := [.ref b]) (h₀ := X.base) I.ok.mod.kin hm.kp (thn (ha.run pos pins s1 σ H1 _ I1 q) fun us s2 hh => ?_) hst hpl)
  obtain ⟨vs, H2, I2, r, q2⟩ := hh
  refine ⟨I2.kIn, run_fnSD (E := EX) (us := .ref b :: us) (vs := .ref b :: vs) (dvs := []) F hr hb .nil (hx σ) I2 (.cons rfl r) ?_⟩
  rw [List.append_nil]; exact q2
theorem pe_mthS0 (he : PE X o ta) (c : Cls X.K C) (hm : Meth X.K C m f) (F : FnOk X.prog X.w X.K X.mg X.base CX k f fd ps sp) (hr : Room k X.A) (hb : L2.Binds X.K fd ps []) (hx : ∀ σ, PassesAt CX X σ (EX σ))
    (hbase : attributeBase o m X.env (eval o X.env) = eval o X.env) (hform : methodCallForm (([] : List Expr).length + ([] : List Keyword).length) (backTo pos (starEach [] X.env)) (backToKw pos (keywordEach [] X.env)) = true) (hline : (apos.endLine == pos.line) = true) :
    PE X (.Call (.Attribute o m apos) [] [] pos) (tMthS C m sp EX ta tNil) := by
  refine ⟨fun pins s σ H Q I h => ?_⟩
  refine PySem.W.methodCall_KW (thn (he.run pins s σ H _ I h) fun u s1 hh => ?_) (mc_eq hbase hform hline)
  obtain ⟨y, H1, I1, ry, b, dx, fs, ey, eb, l, q⟩ := hh
  subst ey
  obtain rfl : u = Value.ref b := ry
  refine getmeth_ok I1 eb c hm l (PySem.W.callWith_K0 (first := [.ref b]) I1.kIn hm.kp ?_)
  refine run_fnSD (E := EX) (us := [.ref b]) (vs := [.ref b]) (dvs := []) F hr hb .nil (hx σ) I1 (.cons rfl .nil) ?_
  rw [List.append_nil]; exact q
/-- C(..), what is raised wished for at the slots -/
def tMkS (C : Addr) (sp : Sp) (dvs : List V) (EX : L2.St → XK) (t : TA) : TE := fun σ H Q => t σ H fun vs H1 => ∀ y dx, H1 y = none → H1 dx = none → dx ≠ y → sp (.ref y :: (vs ++ dvs)) (upd (upd H1 dx (.own y)) y (.ins C dx [])) (fun v H2 => v = .non ∧ Q (.ref y) H2) (EX σ)
variable {dvs : List V} {dfs : List Value}
theorem run_mkS {pins : List (Addr × Obj)} {σ : L2.St} {H : Hp} {s : Shared} {Q : VK} {us : List Value} {vs : List V} (M : Mk X.K C f) (F : FnOk X.prog X.w X.K X.mg X.base CX k f fd ps sp) (hr : Room (k + 1) X.A) (hb : L2.Binds X.K fd ps dfs) (hd : Vals dvs dfs) (hx : PassesAt CX X σ (EX σ)) (I : Inv X pins σ H s) (r : Vals vs us)
    (h : ∀ y dx, H y = none → H dx = none → dx ≠ y → sp (.ref y :: (vs ++ dvs)) (upd (upd H dx (.own y)) y (.ins C dx [])) (fun v H2 => v = .non ∧ Q (.ref y) H2) (EX σ)) :
    wpAny (model X.prog X.w) X.A (call (.ref C) us) (EP X pins σ Q) X.xe s := by
  have nsz : s.heap.objs.size ≠ s.heap.objs.size + 1 := by omega
  have want := h (s.heap.objs.size + 1) s.heap.objs.size (I.hok.fresh (Nat.le_succ _)) (I.hok.fresh (Nat.le_refl _)) nsz
  have J := Inv.made (C := C) I
  have rr : Vals (V.ref (s.heap.objs.size + 1) :: (vs ++ dvs)) (Value.ref (s.heap.objs.size + 1) :: (us ++ dfs)) := .cons rfl (r.append hd)
  have ln : (Value.ref (s.heap.objs.size + 1) :: us ++ dfs).length = ps.length := by
    have z := rr.length
    rw [F.len _ _ _ _ want] at z
    exact z.symm
  have B1 := hb _ (Value.ref (s.heap.objs.size + 1) :: us) J.kIn ln
  refine wpAny_call (make_map (f := f) I.kIn M.makes M.init (beq_iff_eq.mp M.fn) ?_)
  refine codeAny_mono (F.run _ X.stack _ _ ⟨Value.ref (s.heap.objs.size + 1) :: us, []⟩ (Value.ref (s.heap.objs.size + 1) :: (us ++ dfs)) _ _ (EX σ) (hr.make C us []) (J.env0.make C us []) B1 rr want) fun g s' hq => ?_
  cases g with
  | error er => exact hx pins _ _ er s' J hq
  | ok fl =>
    cases fl with
    | ret u =>
      obtain ⟨v, H', J3, rv, ev, q3⟩ := J.after hq
      subst ev
      exact ⟨rv, V.ref (s.heap.objs.size + 1), H', J3, rfl, q3⟩
    | next => exact hq.elim
    | brk => exact hq.elim
    | cont => exact hq.elim
theorem pe_mkS (M : Mk X.K C f) (F : FnOk X.prog X.w X.K X.mg X.base CX k f fd ps sp) (hr : Room (k + 1) X.A) (hg : Gl X x) (hm : X.mg x = some (.ref C)) (hb : L2.Binds X.K fd ps dfs) (hd : Vals dvs dfs) (hx : ∀ σ, PassesAt CX X σ (EX σ)) (ha : PA X (e :: es) t) (hdb : (x == ("__debug__" : Str)) = false) (he : starEach (e :: es) X.env = (false, eval e X.env) :: starEach es X.env) (hpl : (backTo pos (starEach es X.env)).any (·.1) = false) :
    PE X (.Call (.Name x p) (e :: es) [] pos) (tMkS C sp dvs EX t) := by
  refine ⟨fun pins s σ H Q I h => ?_⟩
  refine wpAny_Call_Name_kw (ld_glob I hg hm ?_ hdb)
  refine PySem.W.callWith_K (h₀ := X.base) I.ok.mod.kin M.kp (thn (ha.run pos pins s σ H _ I h) fun us s1 hh => ?_) he hpl
  obtain ⟨vs, H1, I1, r, q⟩ := hh
  exact ⟨I1.kIn, run_mkS M F hr hb hd (hx σ) I1 r q⟩
end
section
variable {K : PySem.W.Frag} {μ : List Addr} {W : Addr → Prop} {H : Hp}
theorem lkp_zip {f : Str} : ∀ {fs : List (Str × D)} {vs : List V} {d : D}, Rps K μ W H (fs.map (·.2)) vs → fs.lookup f = some d → ∃ v, ((fs.map (·.1)).zip vs).lookup f = some v ∧ Rp K μ W H d v
  | [], _, _, _, h => by cases h
  | (g, x) :: r, _, d, .cons (v := v) h1 h2, h => by
    rw [List.map_cons, List.zip_cons_cons]
    rw [List.lookup_cons] at h ⊢
    cases hb : f == g with
    | true => rw [hb] at h; simp only at h; cases h; exact ⟨v, rfl, h1⟩
    | false => rw [hb] at h; exact lkp_zip h2 h
theorem lkp_zipN {f : Str} : ∀ {fs : List (Str × D)} {vs : List V}, vs.length = fs.length → fs.lookup f = none → ((fs.map (·.1)).zip vs).lookup f = none
  | [], _, _, _ => rfl
  | (g, x) :: r, [], h, _ => by simp at h
  | (g, x) :: r, v :: vs, hl, h => by
    rw [List.map_cons, List.zip_cons_cons]
    rw [List.lookup_cons] at h ⊢
    cases hb : f == g with
    | true => rw [hb] at h; cases h
    | false => rw [hb] at h; exact lkp_zipN (by simpa using hl) h
theorem put_zip {f : Str} {d : D} {v : V} (hd : Rp K μ W H d v) : ∀ {fs : List (Str × D)} {vs : List V}, Rps K μ W H (fs.map (·.2)) vs → ∃ vs', putF f v ((fs.map (·.1)).zip vs) = ((putS f d fs).map (·.1)).zip vs' ∧ Rps K μ W H ((putS f d fs).map (·.2)) vs'
  | [], _, _ => ⟨[v], rfl, .cons hd .nil⟩
  | (g, x) :: r, _, .cons (v := u) (vs := us) h1 h2 => by
    by_cases hg : g = f
    · refine ⟨v :: us, ?_, ?_⟩
      · simp only [List.map_cons, List.zip_cons_cons, putF, putS, if_pos hg]
      · simp only [List.map_cons, putS, if_pos hg]; exact .cons hd h2
    · obtain ⟨vs', q1, q2⟩ := put_zip hd h2
      refine ⟨u :: vs', ?_, ?_⟩
      · simp only [List.map_cons, List.zip_cons_cons, putF, putS, if_neg hg]
        rw [q1]
      · simp only [List.map_cons, putS, if_neg hg]; exact .cons h1 q2
end
theorem fldD_some {S : Store} {f : Str} {cs : List Str} {x d : D} (h : fldD S f cs x = some d) : ∃ p c fs, x = .ptr p ∧ S[p]? = some (.ins c fs) ∧ c ∈ cs ∧ fs.lookup f = some d := by
  unfold fldD at h
  split at h
  · split at h
    · rename_i c fs e
      split at h
      · rename_i hc; exact ⟨_, c, fs, rfl, e, hc, h⟩
      · cases h
    · cases h
  · cases h
theorem insD_some {S : Store} {c m : Str} {x : D} {p : Nat} (h : insD S c m x = some p) : ∃ fs, x = .ptr p ∧ S[p]? = some (.ins c fs) ∧ fs.lookup m = none := by
  unfold insD at h
  split at h
  · split at h
    · rename_i c' fs e
      split at h
      · rename_i hc; cases h; exact ⟨fs, rfl, by rw [e, hc.1], hc.2⟩
      · cases h
    · cases h
  · cases h
section
variable {X : Cx} {E : XT} {EW : WX} {Φ : Nat → Fn} {pos : Pos}
theorem ins_at {K : PySem.W.Frag} {μ : List Addr} {W : Addr → Prop} {H : Hp} {S : Store} (st : SOk K μ W H S) {p : Nat} {a : Addr} {c : Str} {fs : List (Str × D)} (hp : μ[p]? = some a) (hS : S[p]? = some (.ins c fs)) : ∃ dx vs, H a = some (.ins (He.ga K c) dx ((fs.map (·.1)).zip vs)) ∧ H dx = some (.own a) ∧ dx ∉ μ ∧ Rps K μ W H (fs.map (·.2)) vs := by
  obtain ⟨o, vs, e, sh, r⟩ := st.at_ p a _ hp hS
  obtain ⟨dx, rfl, h1, h2⟩ := sh
  exact ⟨dx, vs, e, h1, h2, r⟩
theorem s_fld {o : Expr} {co : CE} {f : Str} {cs : List Str} {ko k : Nat} (hk : k < 2) (ho : PE X o (tX X.K E EW ko (evE Φ co))) (hb : attributeBase o f X.env (eval o X.env) = eval o X.env) (hcs : ∀ c, c ∈ cs → Cls X.K (He.ga X.K c) ∧ NoAttr X.K (He.ga X.K c) f) : PE X (.Attribute o f pos) (tX X.K E EW k (evE Φ (.fld co f cs))) := by
  refine (pe_fld ho hb).imp fun σ H Q h => ?_
  obtain ⟨F, μ, S, ρ, B, h⟩ := h
  simp only [evE] at h
  refine tX.bind PE1.tr B h fun x S1 v H1 μ1 x1 g1 B1 r1 h => ?_
  obtain ⟨z, hz, h2⟩ := Fin.ofO h
  obtain ⟨p, c, fs, rfl, hS, hc, hl⟩ := fldD_some hz
  obtain ⟨a, rfl, hp⟩ := r1.w.ptr
  obtain ⟨dx, vs, e1, _, _, r⟩ := ins_at B1.st hp hS
  obtain ⟨u, hu, ru⟩ := lkp_zip r hl
  exact ⟨a, _, dx, _, u, rfl, e1, (hcs c hc).1, (hcs c hc).2, hu, PE1.rp B1 h2 hk ru⟩
theorem t_fst {o e : Expr} {co ce : CE} {f : Str} {cs : List Str} {ko ke : Nat} {sp : Pos} (ho : PE X o (tX X.K E EW ko (evE Φ co))) (he : PE X e (tX X.K E EW ke (evE Φ ce))) (hs : swapsWith e (some (.Attribute o f sp)) pos.line X.env = pure false) (hcs : ∀ c, c ∈ cs → Cls X.K (He.ga X.K c) ∧ NoAttr X.K (He.ga X.K c) f) :
    PS X (.Assign [.Attribute o f sp] e pos) (tSt X.K E EW (evS Φ (.fst co f cs ce))) := by
  refine (ps_fld ho he hs).imp fun D σ H h => ?_
  obtain ⟨F, μ, S, ρ, B, h⟩ := h
  simp only [evS] at h
  refine tX.bindS B h fun dv S1 v H1 μ1 x1 g1 B1 r1 ha => ?_
  refine tX.bindS B1 ha fun x S2 v2 H2 μ2 x2 g2 B2 r2 hb => ?_
  clear h ha
  unfold fstF at hb
  split at hb
  · rename_i p
    split at hb
    · rename_i c fs hS
      split at hb
      · rename_i hc
        obtain ⟨a, rfl, hp⟩ := r2.w.ptr
        obtain ⟨dx, vs, e1, ho, hm, r⟩ := ins_at B2.st hp hS
        obtain ⟨vs', q1, q2⟩ := put_zip (f := f) (r1.1.ext' x2 g2) r
        have hl := r.length
        refine ⟨a, _, dx, _, rfl, e1, (hcs c hc.1).1, (hcs c hc.1).2, ?_, hb _ _ _ (B2.stm (ob' := .ins c (putS f dv fs)) hp hS (fun _ z => nomatch z) ⟨dx, by rw [q1], ho, hm⟩ q2)⟩
        rw [List.length_zip, List.length_map]
        have := hc.2
        omega
      · exact hb.elim
    · exact hb.elim
  · exact hb.elim
theorem fin_call {F : Fx} {σ : L2.St} {ρ : List Cell} {μ1 : List Addr} {S1 : Store} {H1 : Hp} {fn : Fn} {ds : List D} {vs : List V} {kk : Nat} {Q : VK} (B1 : Bd X.K F μ1 S1 σ ρ H1) (r1 : Rps X.K μ1 F.W H1 ds vs) (hkk : kk ≤ if fn.fr then 2 else 1) (h : Fin X.K E EW F σ ρ (PE1 X.K F σ ρ kk Q) μ1 H1 (fn.m ds S1)) : spD E X.K fn vs H1 Q (WE EW σ) := by
  refine ⟨F.W, μ1, S1, ds, B1.dom, B1.st, r1, ?_⟩
  cases hm : fn.m ds S1 with
  | ok d S' =>
    rw [hm] at h
    exact fun v H' μ' x g s rr => h v H' μ' x g (B1.step x g s) ⟨rr.1, fun hk => rr.2 (by
      cases q : fn.fr with
      | true => rfl
      | false => rw [q] at hkk; simp at hkk; omega)⟩
  | err y S' =>
    rw [hm] at h
    exact fun cc dd H' μ' x g s xr => h cc dd H' μ' x g (B1.step x g s) xr
  | bad => rw [hm] at h; exact h.elim
theorem s_mcl {k kk fn ko : Nat} {f : Addr} {fd : FuncData} {ps : List Str} {c m : Str} {o e : Expr} {es : List Expr} {co : CE} {l : CL} {ap : Pos} (ho : PE X o (tX X.K E EW ko (evE Φ co))) (hc : Cls X.K (He.ga X.K c)) (hm : Meth X.K (He.ga X.K c) m f) (G : FnOk X.prog X.w X.K X.mg X.base (L2.CX X.prog X.w) k f fd ps (spD E X.K (Φ fn))) (hr : Room k X.A) (hb : L2.Binds X.K fd ps []) (tk : Takes X EW) (ha : PA X (e :: es) (tL X.K E EW (evL Φ l)))
    (hst : starEach (e :: es) X.env = (false, eval e X.env) :: starEach es X.env) (hpl : (backTo pos (starEach es X.env)).any (·.1) = false) (hbase : attributeBase o m X.env (eval o X.env) = eval o X.env) (hform : methodCallForm ((e :: es).length + ([] : List Keyword).length) (backTo pos (starEach (e :: es) X.env)) (backToKw pos (keywordEach [] X.env)) = true) (hline : (ap.endLine == pos.line) = true) (hkk : kk ≤ if (Φ fn).fr then 2 else 1) :
    PE X (.Call (.Attribute o m ap) (e :: es) [] pos) (tX X.K E EW kk (evE Φ (.mcl co c m fn l))) := by
  refine (pe_mthS ho hc hm G hr hb (fun σ => passAt tk σ) ha hst hpl hbase hform hline).imp fun σ H Q h => ?_
  obtain ⟨F, μ, S, ρ, B, h⟩ := h
  rw [evE] at h
  refine tX.bind PE1.tr B h fun x S1 v H1 μ1 x1 g1 B1 r1 h => ?_
  cases hi : insD S1 c m x with
  | none => rw [hi] at h; exact h.elim
  | some p =>
    rw [hi] at h
    obtain ⟨fs, rfl, hS, hl⟩ := insD_some hi
    obtain ⟨a, rfl, hp⟩ := r1.w.ptr
    obtain ⟨dx, vs, e1, _, _, r⟩ := ins_at B1.st hp hS
    refine ⟨a, dx, _, rfl, e1, lkp_zipN (by have := r.length; simpa using this.symm) hl, ?_⟩
    refine tL.bind PE1.tr B1 h fun ds S2 us H2 μ2 x2 g2 B2 r2 h => ?_
    exact fin_call B2 (.cons (r1.1.ext' x2 g2) r2) hkk h
theorem s_mcl0 {k kk fn ko : Nat} {f : Addr} {fd : FuncData} {ps : List Str} {c m : Str} {o : Expr} {co : CE} {ap : Pos} (ho : PE X o (tX X.K E EW ko (evE Φ co))) (hc : Cls X.K (He.ga X.K c)) (hm : Meth X.K (He.ga X.K c) m f) (G : FnOk X.prog X.w X.K X.mg X.base (L2.CX X.prog X.w) k f fd ps (spD E X.K (Φ fn))) (hr : Room k X.A) (hb : L2.Binds X.K fd ps []) (tk : Takes X EW)
    (hbase : attributeBase o m X.env (eval o X.env) = eval o X.env) (hline : (ap.endLine == pos.line) = true) (hkk : kk ≤ if (Φ fn).fr then 2 else 1) :
    PE X (.Call (.Attribute o m ap) [] [] pos) (tX X.K E EW kk (evE Φ (.mcl co c m fn .nil))) := by
  refine (pe_mthS0 ho hc hm G hr hb (fun σ => passAt tk σ) hbase rfl hline).imp fun σ H Q h => ?_
  obtain ⟨F, μ, S, ρ, B, h⟩ := h
  rw [evE] at h
  refine tX.bind PE1.tr B h fun x S1 v H1 μ1 x1 g1 B1 r1 h => ?_
  cases hi : insD S1 c m x with
  | none => rw [hi] at h; exact h.elim
  | some p =>
    rw [hi] at h
    obtain ⟨fs, rfl, hS, hl⟩ := insD_some hi
    obtain ⟨a, rfl, hp⟩ := r1.w.ptr
    obtain ⟨dx, vs, e1, _, _, r⟩ := ins_at B1.st hp hS
    refine ⟨a, dx, _, rfl, e1, lkp_zipN (by have := r.length; simpa using this.symm) hl, ?_⟩
    have h : Fin X.K E EW F σ ρ (PE1 X.K F σ ρ kk Q) μ1 H1 ((evL Φ .nil ρ S1).bind fun ds S => (Φ fn).m (.ptr p :: ds) S) := h
    simp only [evL] at h
    exact fin_call B1 (.cons r1.1 .nil) hkk h
/-- defaults that are data wherever they are looked at -/
theorem s_mkI {k kk fn : Nat} {f : Addr} {fd : FuncData} {ps : List Str} {c : Str} {p : Pos} {e : Expr} {es : List Expr} {l : CL} {df : List D} {dvs : List V} {dfs : List Value} (hkk : kk < 2) (M : Mk X.K (He.ga X.K c) f) (G : FnOk X.prog X.w X.K X.mg X.base (L2.CX X.prog X.w) k f fd ps (spD E X.K (Φ fn))) (hr : Room (k + 1) X.A) (hg : Gl X c) (hm : X.mg c = some (.ref (He.ga X.K c))) (hb : L2.Binds X.K fd ps dfs) (hd : Vals dvs dfs) (hdf : ∀ μ W H, Rps X.K μ W H df dvs) (tk : Takes X EW) (ha : PA X (e :: es) (tL X.K E EW (evL Φ l)))
    (hdb : (c == ("__debug__" : Str)) = false) (he : starEach (e :: es) X.env = (false, eval e X.env) :: starEach es X.env) (hpl : (backTo pos (starEach es X.env)).any (·.1) = false) :
    PE X (.Call (.Name c p) (e :: es) [] pos) (tX X.K E EW kk (evE Φ (.mkI c fn l df))) := by
  refine (pe_mkS M G hr hg hm hb hd (fun σ => passAt tk σ) ha hdb he hpl).imp fun σ H Q h => ?_
  obtain ⟨F, μ, S, ρ, B, h⟩ := h
  rw [evE] at h
  refine tL.bind PE1.tr B h fun ds S1 vs H1 μ1 x1 g1 B1 r1 h y dx hy hdx ne => ?_
  have hdx' : dx ∉ μ1 := fun z => B1.dm.2 dx z hdx
  have s1 : Same H1 (upd H1 dx (.own y)) := same_new hdx
  have B2 := B1.same s1
  have hy2 : upd H1 dx (.own y) y = none := by rw [upd_ne (Ne.symm ne)]; exact hy
  have hown : upd (upd H1 dx (.own y)) y (.ins (He.ga X.K c) dx []) dx = some (.own y) := by rw [upd_ne ne, upd_same]
  obtain ⟨a1, a2, a3, a4⟩ := B2.newOb (ob := .ins c []) (o := .ins (He.ga X.K c) dx []) hy2 (fun _ z => by cases z) (fun _ z => by cases z) ⟨_, [], upd_same, ⟨dx, rfl, hown, fun z => by
    rcases List.mem_append.mp z with z | z
    · exact hdx' z
    · exact ne (List.mem_singleton.mp z)⟩, .nil⟩
  have x3 : Ext μ1 H1 (upd (upd H1 dx (.own y)) y (.ins (He.ga X.K c) dx [])) := (Ext.of_same (μ := μ1) s1).trans .refl a1
  have g3 : Gr μ1 H1 (μ1 ++ [y]) := ⟨⟨[y], rfl⟩, fun b hb hn => by
    rcases List.mem_append.mp hb with z | z
    · exact absurd z hn
    · rw [List.mem_singleton.mp z]; exact hy⟩
  refine ⟨F.W, μ1 ++ [y], S1 ++ [.ins c []], .ptr S1.length :: (ds ++ df), a3.dom, a3.st, .cons a4 ((r1.ext' x3 g3).append (hdf _ _ _)), ?_⟩
  cases hmm : (Φ fn).m (.ptr S1.length :: (ds ++ df)) (S1 ++ [.ins c []]) with
  | bad => rw [hmm] at h; exact h.elim
  | err z S' =>
    rw [hmm] at h
    exact fun cc dd H' μ' x g s xr => h cc dd H' μ' (x3.trans g3 x) (g3.trans x3 g) (a3.step x g s) xr
  | ok d S' =>
    rw [hmm] at h
    cases d with
    | non =>
      intro v H' μ' x g s rr
      cases rr.1
      refine ⟨rfl, h _ H' μ' (x3.trans g3 x) (g3.trans x3 g) (a3.step x g s) ⟨a4.ext' x g, fun z => by omega⟩⟩
    | _ => exact h.elim
end
end RH

set_option Elab.async false
set_option linter.all false
set_option maxRecDepth 100000
/-! RFSort: sorted(..) of a list, of a dict's keys. -/
namespace RH
open PySem PySem.Spec PyProof.Rows L2
abbrev Each := @PySem.W.EachIs
theorem toPys_map : ∀ ds : List D, toPys ds = ds.map toPy
  | [] => rfl
  | d :: ds => by simp only [toPys, List.map_cons, toPys_map ds]
/-- sorted values as the heap has them -/
theorem each_vals {R' : V → D → Prop} : ∀ {us : List Value} {ds : List D}, PySem.W.EachIs (fun u d => ∃ v, RelV v u ∧ R' v d) us ds → ∃ vs, Vals vs us ∧ PySem.W.EachIs R' vs ds
  | _, _, .nil => ⟨[], .nil, .nil⟩
  | _, _, .cons ⟨v, h1, h2⟩ r => by
    obtain ⟨vs, q1, q2⟩ := each_vals r
    exact ⟨v :: vs, .cons h1 q1, .cons h2 q2⟩
theorem vals_each {R' : V → D → Prop} : ∀ {vs : List V} {us : List Value} {ds : List D}, Vals vs us → PySem.W.EachIs R' vs ds → PySem.W.EachIs (fun u d => ∃ v, RelV v u ∧ R' v d) us ds
  | _, _, _, .nil, .nil => .nil
  | _, _, _, .cons h r, .cons h' r' => .cons ⟨_, h, h'⟩ (vals_each r r')
mutual
/-- what is read off stands -/
theorem reads_lt {h : Heap} : ∀ (d : D) (v : Value) (as : List Addr), Reads h v (toPy d) as → ∀ b, b ∈ as → b < h.objs.size
  | .non, _, _, r, b, hb => by simp only [toPy] at r; cases r; cases hb
  | .bl _, _, _, r, b, hb => by simp only [toPy] at r; cases r; cases hb
  | .int _, _, _, r, b, hb => by simp only [toPy] at r; cases r; cases hb
  | .str _, _, _, r, b, hb => by simp only [toPy] at r; cases r; cases hb
  | .ptr _, _, _, r, b, hb => by simp only [toPy] at r; cases r; cases hb
  | .scr _, _, _, r, b, hb => by simp only [toPy] at r; cases r; cases hb
  | .exn _ _ _, _, _, r, b, hb => by simp only [toPy] at r; cases r; cases hb
  | .lst xs, _, _, r, b, hb => by
    simp only [toPy] at r
    cases r with
    | list h1 h2 h3 h4 =>
      rcases List.mem_cons.mp hb with z | z
      · rw [z]; exact Heap.lt_size h1
      · exact readsA_lt xs _ _ h4 b z
  | .tup xs, _, _, r, b, hb => by
    simp only [toPy] at r
    cases r with
    | tuple h1 h2 h3 h4 => exact readsA_lt xs _ _ h4 b hb
theorem readsA_lt {h : Heap} : ∀ (ds : List D) (vs : List Value) (as : List Addr), ReadsAll h vs (toPys ds) as → ∀ b, b ∈ as → b < h.objs.size
  | [], _, _, r, b, hb => by simp only [toPys] at r; cases r; cases hb
  | d :: ds, _, _, r, b, hb => by
    simp only [toPys] at r
    cases r with
    | cons h1 h2 =>
      rcases List.mem_append.mp hb with z | z
      · exact reads_lt d _ _ h1 b z
      · exact readsA_lt ds _ _ h2 b z
end
/-- what may be sorted -/
structure SrtOk (ds : List D) : Prop where
  al : PySem.W.AllAlike (ds.map toPy)
  so : PySem.W.Sortable (ds.map toPy)
  ln : ds.length ≤ sizeLine
  dp : ∀ d, d ∈ ds → (toPy d).depth ≤ 60
theorem srtD_some {ds : List D} {z : D} (h : srtD ds = some z) : z = .lst (ds.mergeSort (PySem.W.dataLe false toPy)) ∧ SrtOk ds ∧ ∀ d, d ∈ ds → pln d = true := by
  unfold srtD at h
  split at h
  · rename_i hc
    cases h
    simp only [Bool.and_eq_true, Bool.or_eq_true, decide_eq_true_eq] at hc
    obtain ⟨⟨⟨h1, h2⟩, h3⟩, h4⟩ := hc
    refine ⟨rfl, ⟨?_, ?_, by rw [sizeLine_eq]; exact h4, fun d hd => ?_⟩, fun d hd => okD_pln (List.all_eq_true.mp h1 d hd)⟩
    · intro d hd e he
      obtain ⟨d, md, rfl⟩ := List.mem_map.mp hd
      obtain ⟨e, me, rfl⟩ := List.mem_map.mp he
      exact List.all_eq_true.mp (List.all_eq_true.mp h2 d md) e me
    · rcases h3 with h3 | h3
      · refine .inl fun d hd => ?_
        obtain ⟨d, md, rfl⟩ := List.mem_map.mp hd
        have := List.all_eq_true.mp h3 d md
        unfold headT at this
        split at this
        · rename_i x r
          exact ⟨toPy x, toPys r, by simp only [toPy, toPys]⟩
        · cases this
      · refine .inr fun d hd => ?_
        obtain ⟨d, md, rfl⟩ := List.mem_map.mp hd
        have h5 := List.all_eq_true.mp h3 d md
        have h6 := okD_pln (List.all_eq_true.mp h1 d md)
        cases d <;> simp [notTN, pln] at h5 h6 <;> simp [toPy]
    · have := List.all_eq_true.mp h1 d hd
      simp only [okD, Bool.and_eq_true, decide_eq_true_eq] at this
      rw [dep_toPy]; exact this.2
  · cases h
section
variable {X : Cx}
/-- sorted(xs) -/
theorem call_srtL (hu : X.A.units + 65 < cLine) : CallR X (.builtin "sorted") (fun xs H Q => ∃ (a : Addr) (vs : List V) (ds : List D) (R' : V → D → Prop), xs = [.ref a] ∧ SqL X.K H a vs ∧ PySem.W.EachIs R' vs ds ∧ (∀ v d, R' v d → Dp X.K H v (toPy d)) ∧ SrtOk ds ∧
    ∀ p out, H p = none → PySem.W.EachIs R' out (ds.mergeSort (PySem.W.dataLe false toPy)) → Q (.ref p) (upd H p (.lst out))) := by
  intro pins s σ H xs us Q I r q
  obtain ⟨a, vs, ds, R', rfl, hq, he, hdp, ok, q⟩ := q
  obtain ⟨u, rfl, rx⟩ := r.one
  cases rx
  obtain ⟨its, rv, pl, hz⟩ := I.list hq
  obtain ⟨o, n, ho, hc, hd, hdat⟩ := pl
  have eu := vals_each rv he
  refine PySem.W.sorted_data (enc := toPy) (R := fun u d => ∃ v, RelV v u ∧ R' v d) (vs := its) (bs := ds) ⟨o, ho, hc, n, hdat⟩ eu (eu.mono fun u d ⟨v, h1, h2⟩ => Dp.reads I _ v u (hdp v d h2) h1) ok.al ok.so ok.ln (fun d hd => by have := ok.dp d hd; omega) fun out hl ho => ?_
  obtain ⟨outV, q1, q2⟩ := each_vals ho
  obtain ⟨e', he'⟩ := sortedAll_at s.heap its out.toArray
  have hln : outV.length ≤ sizeLine := by rw [q1.length, hl]; exact ok.ln
  exact ⟨.ref (s.heap.objs.size + 1), _, I.laid (t' := s.toks) (o := .lst outV) (fun b o e => sortedAll_old e) (Nat.le_succ _) (show ObjOk X.prog X.w _ _ _ (.lst outV) from ⟨hln, out, e', q1, he'⟩), rfl, q _ _ (I.hok.fresh (Nat.le_succ _)) q2⟩
/-- what is collected of a dict is sorted -/
theorem srt_go {pins : List (Addr × Obj)} {σ : L2.St} {H : Hp} {s : Shared} {T : String} {d : Addr} {n : Nat} {P : Nat → Value → Prop} {OK : Heap → Prop} {ds : List D} {R' : V → D → Prop} {Q : VK} (hu : X.A.units + 65 < cLine) (I : Inv X pins σ H s) (hh : X.A.handled = none) (KS : PySem.W.KdlSrc X.prog X.w T d d n P OK) (hok : OK s.heap) (hn : n = ds.length) (ok : SrtOk ds)
    (hP : ∀ (j : Nat) (u : Value), P j u → ∀ x, ds[j]? = some x → ∃ v, RelV v u ∧ R' v x) (hdp : ∀ v d, R' v d → Dp X.K H v (toPy d)) (q : ∀ p out, H p = none → PySem.W.EachIs R' out (ds.mergeSort (PySem.W.dataLe false toPy)) → Q (.ref p) (upd H p (.lst out))) :
    wpAny (model X.prog X.w) X.A (call (.builtin "sorted") [.ref d]) (EP X pins σ Q) X.xe s := by
  refine Calls.call_function_entry PyProof.Rows.kind_sorted PyProof.Rows.plain_sorted PyProof.Rows.entry_sorted (PyProof.Rows.args_sorted1 _) ?_
  unfold Builtin.«sorted»
  refine wpAny_bind (m := checkCount "sorted" 1 1 _) (wpAny_pure ?_)
  refine wpAny_bind (PySem.W.kdu_collect (A := X.A.in1) KS hh hok (by rw [hn]; exact ok.ln) fun h' tk acc hk hacc => ?_)
  have hal : acc.toList.length = ds.length := by rw [Array.length_toList, hacc.1, hn]
  have I1 : Inv X pins σ H { s with heap := h', toks := tk } := I.kept hk
  have each : ∀ (us : List Value) (xs : List D), us.length = xs.length → (∀ (j : Nat) (u : Value), us[j]? = some u → ∀ x, xs[j]? = some x → ∃ v, RelV v u ∧ R' v x) → PySem.W.EachIs (fun u d => ∃ v, RelV v u ∧ R' v d) us xs := by
    intro us
    induction us with
    | nil => intro xs hl _; cases xs with
      | nil => exact .nil
      | cons _ _ => simp at hl
    | cons u us ih => intro xs hl hq; cases xs with
      | nil => simp at hl
      | cons x xs => exact .cons (hq 0 u rfl x rfl) (ih xs (by simpa using hl) fun j u' e x' e' => hq (j + 1) u' (by simpa using e) x' (by simpa using e'))
  have eu := each acc.toList ds hal fun j u e x ex => hP j u (hacc.2 j u (by rw [← Array.getElem?_toList]; exact e)) x ex
  refine wpAny_bind (wpAny_newList ?_ (by rw [hal]; exact ok.ln))
  have hoL : (h'.push (seqObj "list" acc.toList.toArray 0)).get? h'.objs.size = some (seqObj "list" acc.toList.toArray 0) := Heap.get?_push_size _ rfl
  have er : PySem.W.EachIs (fun u d => ∃ as, Reads (h'.push (seqObj "list" acc.toList.toArray 0)) u (toPy d) as ∧ h'.objs.size ∉ as) acc.toList ds := eu.mono fun u d ⟨v, h1, h2⟩ => by
    obtain ⟨as, hr⟩ := Dp.reads I1 _ v u (hdp v d h2) h1
    exact ⟨as, PyProof.Rows.Reads.keeps (fun b o e => Heap.get?_push_of_some _ e) hr, fun z => absurd (reads_lt d _ _ hr _ z) (Nat.lt_irrefl _)⟩
  refine wpAny_bind (wpAny_holding (PySem.W.list_sort_data (s := { s with heap := h'.push (seqObj "list" acc.toList.toArray 0), toks := tk }) (enc := toPy) (R := fun u d => ∃ v, RelV v u ∧ R' v d) hoL eu er ok.al ok.so ok.ln (fun d hd => by have := ok.dp d hd; show X.A.units + 1 + 1 + _ < _; omega) fun out hl ho => ?_))
  obtain ⟨outV, q1, q2⟩ := each_vals ho
  obtain ⟨e', he'⟩ := PyProof.Rows.sortedHeap_at (vs := acc.toList) (out := out.toArray) hoL
  have hln : outV.length ≤ sizeLine := by rw [q1.length, hl]; exact ok.ln
  refine wpAny_pure ⟨_, rfl, .ref h'.objs.size, _, I1.laid (t' := tk) (o := .lst outV) (fun b u e => ?_) (Nat.le_refl _) (show ObjOk X.prog X.w _ _ _ (.lst outV) from ⟨hln, out, e', q1, he'⟩), rfl, q _ _ (I1.hok.fresh (Nat.le_refl _)) q2⟩
  have hb : b < h'.objs.size := Heap.lt_size e
  rw [PyProof.Rows.sortedHeap_old (Nat.ne_of_lt hb) (by rw [size_push']; exact Nat.lt_succ_of_lt hb)]
  exact Heap.get?_push_of_some _ e
theorem call_srtK (hc : X.calm = true) (hu : X.A.units + 65 < cLine) : CallR X (.builtin "sorted") (fun xs H Q => ∃ (a : Addr) (kvs : List (Key × V)) (ds : List D) (R' : V → D → Prop), xs = [.ref a] ∧ Rd H a (.dK kvs) ∧ kvs.length = ds.length ∧ (∀ (j : Nat) (k : Key) (v : V) (x : D), kvs[j]? = some (k, v) → ds[j]? = some x → R' (kV k) x) ∧ (∀ v d, R' v d → Dp X.K H v (toPy d)) ∧ SrtOk ds ∧
    ∀ p out, H p = none → PySem.W.EachIs R' out (ds.mergeSort (PySem.W.dataLe false toPy)) → Q (.ref p) (upd H p (.lst out))) := by
  intro pins s σ H xs us Q I r q
  obtain ⟨a, kvs, ds, R', rfl, hd, hl, hR, hdp, ok, q⟩ := q
  obtain ⟨u, rfl, rx⟩ := r.one
  cases rx
  obtain ⟨z, lo, vs, rel, dd⟩ := dk_rd I.hok hd
  obtain ⟨ep, hat⟩ := dd.dictAt
  have hvl : kvs.length = vs.length := Paired.length rel
  refine srt_go hu I (I.ok.hd hc) (PySem.W.kdl_dict (knd := mixKind X.prog X.w) (kvs := vs) (ep := ep) lo) hat (hvl.symm.trans hl) ok (fun j u hP x hx => ?_) hdp q
  obtain ⟨k, y, e1, e2⟩ := hP
  have hj : j < kvs.length := by rw [hvl]; exact (List.getElem?_eq_some_iff.mp e1).1
  obtain ⟨⟨k', v'⟩, hkv⟩ : ∃ p, kvs[j]? = some p := ⟨_, List.getElem?_eq_getElem hj⟩
  obtain ⟨b, hb, e3, _⟩ := paired_get rel hkv
  rw [e1] at hb
  cases hb
  have e3 : k' = k := e3
  subst e3
  refine ⟨kV k', ?_, hR j k' v' x hkv hx⟩
  rcases keyIs_shape e2 with ⟨i, t, ek, ev⟩ | ⟨w, t, ek, ev⟩
  · subst ek; exact ⟨t, ev⟩
  · subst ek; exact ⟨t, ev⟩
theorem call_srtT (hc : X.calm = true) (hu : X.A.units + 65 < cLine) : CallR X (.builtin "sorted") (fun xs H Q => ∃ (a : Addr) (kvs : List (List Key × V)) (ds : List D) (R' : V → D → Prop), xs = [.ref a] ∧ Rd H a (.dT kvs) ∧ kvs.length = ds.length ∧ (∀ (j : Nat) (k : List Key) (v : V) (x : D) (b : Addr), kvs[j]? = some (k, v) → ds[j]? = some x → H b = some (.tup (k.map kV)) → R' (.ref b) x) ∧ (∀ v d, R' v d → Dp X.K H v (toPy d)) ∧ SrtOk ds ∧
    ∀ p out, H p = none → PySem.W.EachIs R' out (ds.mergeSort (PySem.W.dataLe false toPy)) → Q (.ref p) (upd H p (.lst out))) := by
  intro pins s σ H xs us Q I r q
  obtain ⟨a, kvs, ds, R', rfl, hd, hl, hR, hdp, ok, q⟩ := q
  obtain ⟨u, rfl, rx⟩ := r.one
  cases rx
  obtain ⟨z, lo, ks, pr, o, es, ep, ho, hx, hdt, he, hn⟩ := (show ObjOk X.prog X.w H s.heap a (.dT kvs) from hd.ok I.hok)
  have l1 : es.size = ks.length := size_of_entries he
  have l2 : kvs.length = ks.length := Paired.length pr
  refine srt_go hu I (I.ok.hd hc) (kdl_raw lo hx hdt) ho (by omega) ok (fun j u hP x hx => ?_) hdp q
  obtain ⟨en, hen, rfl⟩ := hP
  have hj : j < kvs.length := by
    have := (Array.getElem?_eq_some_iff.mp hen).1
    omega
  obtain ⟨⟨k', v'⟩, hkv⟩ : ∃ p, kvs[j]? = some p := ⟨_, List.getElem?_eq_getElem hj⟩
  obtain ⟨b, hb, e3, e4, _⟩ := paired_get pr hkv
  have q := entry_at he j
  rw [hb, hen] at q
  have e2 : en = entryOfKey (tupleKind (mixKind X.prog X.w)) b := Option.some.inj q
  refine ⟨.ref b.2.1, by rw [e2]; rfl, hR j k' v' x b.2.1 hkv hx e4⟩
end
/-- a dict's keys, locked or not -/
theorem sh_rd {K : PySem.W.Frag} {μ : List Addr} {H : Hp} {a : Addr} {n : Nat} {kvs : List (D × D)} {vs : List V} {o : HO} (e1 : H a = some o) (sh : ObSh K μ H a (.dct n kvs) vs o) : (∃ ks, Keys kOf (kvs.map (·.1)) ks ∧ Rd H a (.dK (ks.zip vs))) ∨ ∃ ks, Keys tOf (kvs.map (·.1)) ks ∧ Rd H a (.dT (ks.zip vs)) := by
  unfold ObSh at sh
  split at sh
  · rename_i h0; cases h0
  · rename_i h0; cases h0
    obtain ⟨ks, hks, rfl⟩ := sh
    exact .inl ⟨ks, hks, .inl e1⟩
  · rename_i h0; cases h0
    obtain ⟨ks, hks, rfl⟩ := sh
    exact .inr ⟨ks, hks, .inl e1⟩
  · rename_i h0; cases h0
    obtain ⟨ks, od, hks, rfl⟩ := sh
    exact .inl ⟨ks, hks, .inr ⟨od, e1⟩⟩
  · rename_i h0; cases h0
    obtain ⟨ks, od, hks, rfl⟩ := sh
    exact .inr ⟨ks, hks, .inr ⟨od, e1⟩⟩
  · exact sh.elim
  · rename_i h0; cases h0
theorem each_rps {K : PySem.W.Frag} {μ : List Addr} {W : Addr → Prop} {H : Hp} : ∀ {vs : List V} {ds : List D}, PySem.W.EachIs (fun v d => Rp K μ W H d v) vs ds → Rps K μ W H ds vs
  | _, _, .nil => .nil
  | _, _, .cons h r => .cons h (each_rps r)
theorem rps_each {K : PySem.W.Frag} {μ : List Addr} {W : Addr → Prop} {H : Hp} : ∀ {vs : List V} {ds : List D}, Rps K μ W H ds vs → PySem.W.EachIs (fun v d => Rp K μ W H d v) vs ds
  | _, _, .nil => .nil
  | _, _, .cons h r => .cons h (rps_each r)
theorem each_and {α β : Type} {R : α → β → Prop} {P : β → Prop} : ∀ {as : List α} {bs : List β}, PySem.W.EachIs R as bs → (∀ b, b ∈ bs → P b) → PySem.W.EachIs (fun a b => R a b ∧ P b) as bs
  | _, _, .nil, _ => .nil
  | _, _, .cons h r, hp => .cons ⟨h, hp _ (by simp)⟩ (each_and r fun b hb => hp b (List.mem_cons_of_mem _ hb))
section
variable {X : Cx} {E : XT} {EW : WX} {Φ : Nat → Fn} {pos : Pos}
theorem s_srt {a : Expr} {ca : CE} {ka k : Nat} {p : Pos} (hc : X.calm = true) (hu : X.A.units + 65 < cLine) (hg : Gl X "sorted") (hm : X.mg "sorted" = none) (ha : PE X a (tX X.K E EW ka (evE Φ ca))) (hs : starEach [a] X.env = [(false, eval a X.env)]) :
    PE X (.Call (.Name "sorted" p) [a] [] pos) (tX X.K E EW k (evE Φ (.srt ca))) := by
  refine (pe_callB ((call_srtL hu).or ((call_srtK hc hu).or (call_srtT hc hu))) hg hm (by decide +kernel) (pa_cons ha pa_nil hs) (by decide) (by decide) hs rfl).imp fun σ H Q h => ?_
  obtain ⟨F, μ, S, ρ, B, h⟩ := h
  simp only [evE] at h
  refine tX.bind PE1.tr B h fun x S1 v H1 μ1 x1 g1 B1 r1 h => ?_
  cases hq : srtS S1 x with
  | none => rw [hq] at h; exact h.elim
  | some ds =>
    rw [hq] at h
    obtain ⟨z, hz, h⟩ := Fin.ofO (show Fin X.K E EW F σ ρ (PE1 X.K F σ ρ k Q) μ1 H1 (ofO (srtD ds) S1) from h)
    obtain ⟨rfl, ok, hp⟩ := srtD_some hz
    have fin : ∀ p out, H1 p = none → PySem.W.EachIs (fun v d => Rp X.K μ1 F.W H1 d v ∧ pln d = true) out (ds.mergeSort (PySem.W.dataLe false toPy)) → Q (.ref p) (upd H1 p (.lst out)) := fun p out hn ho => (h.po B1).newL B1.dm (each_rps (ho.mono fun _ _ z => z.1)) p hn
    have hdp : ∀ (v : V) (d : RH.D), (Rp X.K μ1 F.W H1 d v ∧ pln d = true) → Dp X.K H1 v (toPy d) := fun v d z => z.1.dp z.2
    unfold srtS at hq
    split at hq
    · rename_i ds'
      cases hq
      obtain ⟨b, vs, rfl, e1, e2⟩ := r1.w.lst
      exact .inl ⟨b, vs, ds, _, rfl, .of e1, each_and (rps_each e2) hp, hdp, ok, fin⟩
    · rename_i n
      split at hq
      · rename_i ds' hS
        cases hq
        obtain ⟨b, rfl, hb⟩ := r1.w.ptr
        obtain ⟨_, us, e1, rfl, e2⟩ := B1.st.at_ n b _ hb hS
        have e2 : Rps X.K μ1 F.W H1 ds us := e2
        exact .inl ⟨b, us, ds, _, rfl, .of e1, each_and (rps_each e2) hp, hdp, ok, fin⟩
      · rename_i kk kvs hS
        split at hq
        · rename_i hk4
          cases hq
          obtain ⟨b, rfl, hb⟩ := r1.w.ptr
          obtain ⟨o, vs, e1, sh, r⟩ := B1.st.at_ n b _ hb hS
          have hvl : vs.length = kvs.length := by have := r.length; simpa [Ob.vals] using this.symm
          rcases sh_rd e1 sh with ⟨ks, hks, rd⟩ | ⟨ks, hks, rd⟩
          · refine .inr (.inl ⟨b, ks.zip vs, kvs.map (·.1), _, rfl, rd, ?_, fun j key v x e e' => ?_, hdp, ok, fin⟩)
            · rw [List.length_zip, List.length_map]; have := keys_len hks; rw [List.length_map] at this; omega
            · obtain ⟨k', q1, q2, q3⟩ := keys_get hks e'
              rw [List.getElem?_zip_eq_some] at e
              rw [q1] at e
              cases e.1
              exact ⟨kOf_key q2 q3, hp x (List.mem_of_getElem? e')⟩
          · refine .inr (.inr ⟨b, ks.zip vs, kvs.map (·.1), _, rfl, rd, ?_, fun j key v x bb e e' hbb => ?_, hdp, ok, fin⟩)
            · rw [List.length_zip, List.length_map]; have := keys_len hks; rw [List.length_map] at this; omega
            · obtain ⟨k', q1, q2, q3⟩ := keys_get hks e'
              rw [List.getElem?_zip_eq_some] at e
              rw [q1] at e
              cases e.1
              refine ⟨?_, hp x (List.mem_of_getElem? e')⟩
              cases x with
              | tup ds => exact .tup hbb (ksOf_keys q2 q3)
              | _ => simp [tOf] at q2
        · cases hq
      · cases hq
    · cases hq
end
end RH

set_option Elab.async false
set_option linter.all false
set_option maxRecDepth 100000
/-! RFDof: dict(..) of pairs, {(): True}. -/
namespace RH
open PySem PySem.Spec PyProof.Rows L2
/-- pairs put one behind the other -/
def mT {κ : Type} [DecidableEq κ] (acc : List (κ × V)) (l : List (κ × V)) : List (κ × V) := l.foldl (fun acc kv => putK acc kv.1 kv.2) acc
theorem mT_len {κ : Type} [DecidableEq κ] : ∀ (l acc : List (κ × V)), (mT acc l).length ≤ acc.length + l.length
  | [], acc => Nat.le_refl _
  | kv :: r, acc => by
    have h1 := mT_len r (putK acc kv.1 kv.2)
    have h2 := length_putK acc kv.1 kv.2
    show (mT (putK acc kv.1 kv.2) r).length ≤ _
    rw [List.length_cons]; omega
section
variable {X : Cx} {pins : List (Addr × Obj)} {σ : L2.St} {H : Hp} {s : Shared}
/-- pairs of a tuple and a value -/
abbrev PrT (K : PySem.W.Frag) (H : Hp) : List Addr → List (List Key × V) → Prop := Paired fun p kv => ∃ b, SqT K H p [.ref b, kv.2] ∧ H b = some (.tup (kv.1.map kV))
theorem prT_of (I : L2.Inv X pins σ H s) : ∀ {ps : List Addr} {kvs : List (List Key × V)}, PrT X.K H ps kvs → ∃ xs : List (List Key × Addr × Value), KT H kvs xs ∧ xs.length = ps.length ∧ ∀ (j : Nat) (q : List Key × Addr × Value), xs[j]? = some q → ∃ p, ps[j]? = some p ∧ IsTup s.heap p #[.ref q.2.1, q.2.2]
  | _, _, .nil => ⟨[], .nil, rfl, fun j q e => by simp at e⟩
  | _, _, .cons (a := p) (b := kv) ⟨b, h1, h2⟩ t => by
    obtain ⟨xs, r, hl, hp⟩ := prT_of I t
    obtain ⟨its, rv, ht, _⟩ := I.tuple h1
    obtain ⟨u, y, ei, ru, ry⟩ := vals2 rv
    subst ei
    cases (show u = Value.ref b from ru)
    refine ⟨(kv.1, b, y) :: xs, .cons ⟨rfl, h2, ry⟩ r, by rw [List.length_cons, List.length_cons, hl], fun j q e => ?_⟩
    cases j with
    | zero => cases Option.some.inj e; exact ⟨p, rfl, ht⟩
    | succ j =>
      obtain ⟨p', e1, e2⟩ := hp j q (by simpa using e)
      exact ⟨p', by simpa using e1, e2⟩
theorem kt_all {H : Hp} : ∀ {more : List (List Key × V)} {ms : List (List Key × Addr × Value)} {kvs : List (List Key × V)} {xs : List (List Key × Addr × Value)}, KT H more ms → KT H kvs xs → KT H (mT kvs more) (storedAllH xs ms)
  | _, _, _, _, .nil, h => h
  | _, _, kvs, xs, .cons (a := kv) (b := m) (l₁ := more) (l₂ := ms) ⟨h1, h2, h3⟩ r, h => by
    show KT H (mT (putK kvs kv.1 kv.2) more) (storedAllH (storedH xs m.1 m.2.1 m.2.2) ms)
    rw [← h1]
    exact kt_all r (h.put kv.1 h2 h3)
theorem call_dictPT (hc : X.calm = true) (hu : X.A.units + 65 < cLine) : CallR X (.type "dict") (fun xs H Q => ∃ (a : Addr) (ps : List Addr) (kvs : List (List Key × V)), xs = [.ref a] ∧ SqL X.K H a (ps.map V.ref) ∧ PrT X.K H ps kvs ∧ ∀ p, H p = none → Q (.ref p) (upd H p (.dT (mT [] kvs)))) := by
  intro pins s σ H xs us Q I r q
  obtain ⟨a, ps, kvs, rfl, hq, hp, q⟩ := q
  obtain ⟨u, rfl, rx⟩ := r.one
  cases rx
  obtain ⟨its, rv, pl, hz⟩ := I.list hq
  have ei := refs_at rv
  subst ei
  rw [List.length_map] at hz
  obtain ⟨ms, kt, hl, hpr⟩ := prT_of I hp
  obtain ⟨o, n, ho, hcl, hd, hdat⟩ := pl
  have hkl : kvs.length = ms.length := Paired.length kt
  have hkey : ∀ x, x ∈ ms → ∃ k, x.1 = k ∧ H x.2.1 = some (.tup (k.map kV)) := by
    have all : ∀ {l : List (List Key × V)} {m : List (List Key × Addr × Value)}, KT H l m → ∀ x ∈ m, ∃ k, x.1 = k ∧ H x.2.1 = some (.tup (k.map kV)) := by
      intro l m q
      induction q with
      | nil => intro x hx; exact nomatch hx
      | cons hq t ih =>
        intro x hx
        rcases List.mem_cons.mp hx with e | hx
        · subst e; exact ⟨_, hq.1.symm, hq.2.1⟩
        · exact ih x hx
    exact all kt
  refine call_dict_pairsH (knd := tupleKind (mixKind X.prog X.w)) (ps := ms) (PairArg.list a (ps.map Value.ref).toArray (fun j => (ps[j]?).getD 0) (ms.map fun q => (Value.ref q.2.1, q.2.2))) (I.ok.hd hc) (show X.A.units + 1 + 1 < cLine by omega) ⟨⟨o, n, ho, hcl, hd, hdat⟩, by simp [hl], fun j k v e => ?_⟩ ⟨by simp, fun i key v e => ?_⟩ (fun h' hk x hx => ?_) (by rw [List.length_map, hl]; exact hz) fun h' tk hd' k => ?_
  · rw [List.getElem?_map] at e
    obtain ⟨m, em, e2⟩ := Option.map_eq_some_iff.mp e
    cases e2
    obtain ⟨p, e1, e2⟩ := hpr j m em
    refine ⟨by simp [e1], .inl ?_⟩
    show s.heap.IsTuple ((ps[j]?).getD 0) _
    rw [e1]; exact e2
  · have e : (ms.map fun q => (Value.ref q.2.1, q.2.2))[i]? = some (key, v) := e
    rw [List.getElem?_map] at e
    obtain ⟨m, em, e2⟩ := Option.map_eq_some_iff.mp e
    cases e2
    exact ⟨m.1, m.2.1, em, rfl⟩
  · obtain ⟨k, e1, e2⟩ := hkey x hx
    obtain ⟨o', its, n', h1, h2, h3, h4⟩ := key_of I.hok e2
    rw [e1]
    exact ⟨o', its, n', hk _ _ (Nat.ne_of_lt (Heap.lt_size h1)) (fun z => nomatch z) h1, h2, h3, h4⟩
  · have hm : (s.heap.objs.size == sysModules) = false := beq_eq_false_iff_ne.mpr (Nat.ne_of_gt I.big)
    have hlen : (mT [] kvs).length ≤ sizeLine := by
      refine Nat.le_trans (mT_len kvs []) ?_
      rw [List.length_nil, Nat.zero_add, hkl, hl]
      exact hz
    obtain ⟨od, es, ep, hq1, h2, h3, h4, _, h5⟩ := hd'
    have hfr : H s.heap.objs.size = none := I.hok.fresh (Nat.le_refl _)
    exact ⟨.ref s.heap.objs.size, upd H s.heap.objs.size (.dT (mT [] kvs)), I.laid (t' := tk) (fun b u e => k b u (fun z => nomatch z) e) (Nat.le_refl _) (show ObjOk X.prog X.w _ _ _ (.dT (mT [] kvs)) from ⟨hlen, hm, _, (kt_all kt .nil).keeps fun c ys ec => by rw [upd_ne (ne_of_none ec hfr)]; exact ec, od, es, ep, hq1, h2, h3, h4, h5⟩), rfl, q _ hfr⟩
end
theorem prsD_cons {d : D} {ds : List D} {qs : List (D × D)} (h : prsD (d :: ds) = some qs) : ∃ a b r, d = .tup [a, b] ∧ prsD ds = some r ∧ qs = (a, b) :: r := by
  unfold prsD at h
  split at h
  · rename_i h0; cases h0
  · rename_i a b r h0
    cases h0
    obtain ⟨r', e, rfl⟩ := Option.map_eq_some_iff.mp h
    exact ⟨a, b, r', rfl, e, rfl⟩
  · cases h
section
variable {K : PySem.W.Frag} {μ : List Addr} {W : Addr → Prop} {H : Hp}
theorem prs_T : ∀ {ds : List D} {vs : List V} {qs : List (D × D)}, Rps K μ W H ds vs → prsD ds = some qs → qs.all (fun q => keyOk 1 q.1) = true → ∃ (ps : List Addr) (ks : List (List Key)) (us : List V), vs = ps.map V.ref ∧ PrT K H ps (ks.zip us) ∧ Keys tOf (qs.map (·.1)) ks ∧ Rps K μ W H (qs.map (·.2)) us
  | [], _, qs, .nil, h, _ => by
    cases h
    exact ⟨[], [], [], rfl, .nil, .nil, .nil⟩
  | d :: ds, _, qs, .cons r rs, h, hk => by
    obtain ⟨a, b, r', rfl, e, rfl⟩ := prsD_cons h
    rw [List.all_cons, Bool.and_eq_true] at hk
    obtain ⟨ps, ks, us, q1, q2, q3, q4⟩ := prs_T rs e hk.2
    cases r with
    | tup ha hr =>
      rename_i p ws
      cases hr with
      | cons ra hr =>
        cases hr with
        | cons rb hr =>
          cases hr
          rename_i u w
          obtain ⟨k, hk'⟩ := Option.isSome_iff_exists.mp (show (tOf a).isSome = true from hk.1)
          obtain ⟨c, rfl, hc⟩ := tOf_v ra hk'
          exact ⟨p :: ps, k :: ks, w :: us, by rw [q1]; rfl, .cons ⟨c, .inl (.inl ha), hc⟩ q2, .cons hk' ra.kasc q3, .cons rb q4⟩
theorem prs_K : ∀ {ds : List D} {vs : List V} {qs : List (D × D)}, Rps K μ W H ds vs → prsD ds = some qs → qs.all (fun q => keyOk 0 q.1) = true → ∃ (ps : List Addr) (ks : List Key) (us : List V), vs = ps.map V.ref ∧ Paired (fun p (kv : Key × V) => SqT K H p [kV kv.1, kv.2]) ps (ks.zip us) ∧ Keys kOf (qs.map (·.1)) ks ∧ Rps K μ W H (qs.map (·.2)) us
  | [], _, qs, .nil, h, _ => by
    cases h
    exact ⟨[], [], [], rfl, .nil, .nil, .nil⟩
  | d :: ds, _, qs, .cons r rs, h, hk => by
    obtain ⟨a, b, r', rfl, e, rfl⟩ := prsD_cons h
    rw [List.all_cons, Bool.and_eq_true] at hk
    obtain ⟨ps, ks, us, q1, q2, q3, q4⟩ := prs_K rs e hk.2
    cases r with
    | tup ha hr =>
      rename_i p ws
      cases hr with
      | cons ra hr =>
        cases hr with
        | cons rb hr =>
          cases hr
          rename_i u w
          obtain ⟨k, hk'⟩ := Option.isSome_iff_exists.mp (show (kOf a).isSome = true from hk.1)
          cases kOf_v ra hk'
          exact ⟨p :: ps, k :: ks, w :: us, by rw [q1]; rfl, .cons (.inl (.inl ha)) q2, .cons hk' ra.kasc q3, .cons rb q4⟩
theorem merge_ok {α : Type} [DecidableEq α] {f : D → Option α} (inj : ∀ {d e k}, f d = some k → f e = some k → d = e) : ∀ {qs kvs : List (D × D)} {ks ks0 : List α} {us us0 : List V}, Keys f (qs.map (·.1)) ks → Rps K μ W H (qs.map (·.2)) us → Keys f (kvs.map (·.1)) ks0 → Rps K μ W H (kvs.map (·.2)) us0 →
    ∃ ks' us', mT (ks0.zip us0) (ks.zip us) = ks'.zip us' ∧ Keys f ((mergeD kvs qs).map (·.1)) ks' ∧ Rps K μ W H ((mergeD kvs qs).map (·.2)) us'
  | [], kvs, _, ks0, _, us0, .nil, .nil, h1, h2 => ⟨ks0, us0, rfl, h1, h2⟩
  | (a, b) :: qs, kvs, _, ks0, _, us0, .cons (k := k) (ks := ks) e1 e2 e3, .cons (v := u) (vs := us) r1 r2, h1, h2 => by
    obtain ⟨ks', us', q1, q2, q3⟩ := put_ok (k := a) (e := b) inj e1 e2 r1 h1 h2
    obtain ⟨ks'', us'', p1, p2, p3⟩ := merge_ok inj e3 r2 q2 q3
    refine ⟨ks'', us'', ?_, p2, p3⟩
    show mT (putK (ks0.zip us0) k u) (ks.zip us) = _
    rw [q1]; exact p1
end
section
variable {X : Cx} {E : XT} {EW : WX} {Φ : Nat → Fn} {pos : Pos}
theorem dof_some {k : Nat} {x : D} {S : Store} {K : PySem.W.Frag} {F : Fx} {μ : List Addr} {σ : L2.St} {ρ : List Cell} {H : Hp} {EW : WX} {P : D → Store → List Addr → Hp → Prop} (h : Fin K E EW F σ ρ P μ H (dofF k x S)) : k < 2 ∧ ((∃ ds qs, lsD S x = some ds ∧ prsD ds = some qs ∧ qs.all (fun q => keyOk k q.1) = true ∧ P (.ptr S.length) (S ++ [.dct k (mergeD [] qs)]) μ H) ∨ ∃ p k' kvs, x = .ptr p ∧ S[p]? = some (.dct k' kvs) ∧ (k = 0 ∧ (k' = 0 ∨ k' = 2)) ∧ P (.ptr S.length) (S ++ [.dct k kvs]) μ H) := by
  unfold dofF at h
  split at h
  · rename_i p
    split at h
    · rename_i ds hS
      split at h
      · rename_i qs hq
        split at h
        · rename_i hc
          exact ⟨hc.1, .inl ⟨ds, qs, by simp only [lsD, drf, hS], hq, hc.2, h⟩⟩
        · exact h.elim
      · exact h.elim
    · rename_i k' kvs hS
      split at h
      · rename_i hc
        exact ⟨by omega, .inr ⟨p, k', kvs, rfl, hS, hc, h⟩⟩
      · exact h.elim
    · exact h.elim
  · rename_i ds
    split at h
    · rename_i qs hq
      split at h
      · rename_i hc
        exact ⟨hc.1, .inl ⟨ds, qs, rfl, hq, hc.2, h⟩⟩
      · exact h.elim
    · exact h.elim
  · exact h.elim
theorem s_dof {a : Expr} {ca : CE} {ka k kk : Nat} {p : Pos} (hk : kk < 2) (hc : X.calm = true) (hu : X.A.units + 65 < cLine) (hg : Gl X "dict") (hm : X.mg "dict" = none) (ha : PE X a (tX X.K E EW ka (evE Φ ca))) (hs : starEach [a] X.env = [(false, eval a X.env)]) :
    PE X (.Call (.Name "dict" p) [a] [] pos) (tX X.K E EW kk (evE Φ (.dof k ca))) := by
  refine (pe_callTy ((call_dictP hc).or (call_dictD.or (call_dictPT hc hu))) hg hm (by decide +kernel) (pa_cons ha pa_nil hs) (by decide) (by decide) hs rfl).imp fun σ H Q h => ?_
  obtain ⟨F, μ, S, ρ, B, h⟩ := h
  simp only [evE] at h
  refine tX.bind PE1.tr B h fun x S1 v H1 μ1 x1 g1 B1 r1 h => ?_
  obtain ⟨hk2, h⟩ := dof_some h
  rcases h with ⟨ds, qs, hl, hq, ha, h⟩ | ⟨n, k', kvs, rfl, hS, hkk, h⟩
  · obtain ⟨b, vs, rfl, e1, rs⟩ := lsD_rw B1 r1.1 hl
    have : k = 0 ∨ k = 1 := by omega
    rcases this with rfl | rfl
    · obtain ⟨ps, ks, us, rfl, q2, q3, q4⟩ := prs_K rs hq ha
      obtain ⟨ks', us', p1, p2, p3⟩ := merge_ok (f := kOf) (kvs := []) (ks0 := []) (us0 := []) kOf_inj q3 q4 .nil .nil
      refine .inl ⟨b, ps, ks.zip us, rfl, .of e1, q2, fun p hp => ?_⟩
      obtain ⟨a1, a2, a3, a4⟩ := B1.newOb (ob := .dct 0 (mergeD [] qs)) (o := .dK (mergeK [] (ks.zip us))) hp (fun _ z => by cases z) (fun _ z => by cases z) ⟨_, us', upd_same, ⟨ks', p2, by
        show HO.dK (mT ([].zip []) (ks.zip us)) = _
        rw [p1]⟩, Rps.ext (Ext.new hp) ⟨⟨[p], rfl⟩, fun c hc hn => by
          rcases List.mem_append.mp hc with z | z
          · exact absurd z hn
          · rw [List.mem_singleton.mp z]; exact hp⟩ (fun _ _ z => z) p3⟩
      exact h _ _ _ a1 a2 a3 ⟨a4, fun z => by omega⟩
    · obtain ⟨ps, ks, us, rfl, q2, q3, q4⟩ := prs_T rs hq ha
      obtain ⟨ks', us', p1, p2, p3⟩ := merge_ok (f := tOf) (kvs := []) (ks0 := []) (us0 := []) tOf_inj q3 q4 .nil .nil
      refine .inr (.inr ⟨b, ps, ks.zip us, rfl, .of e1, q2, fun p hp => ?_⟩)
      obtain ⟨a1, a2, a3, a4⟩ := B1.newOb (ob := .dct 1 (mergeD [] qs)) (o := .dT (mT [] (ks.zip us))) hp (fun _ z => by cases z) (fun _ z => by cases z) ⟨_, us', upd_same, ⟨ks', p2, by
        show HO.dT (mT ([].zip []) (ks.zip us)) = _
        rw [p1]⟩, Rps.ext (Ext.new hp) ⟨⟨[p], rfl⟩, fun c hc hn => by
          rcases List.mem_append.mp hc with z | z
          · exact absurd z hn
          · rw [List.mem_singleton.mp z]; exact hp⟩ (fun _ _ z => z) p3⟩
      exact h _ _ _ a1 a2 a3 ⟨a4, fun z => by omega⟩
  · obtain ⟨rfl, hk'⟩ := hkk
    obtain ⟨b, rfl, hb⟩ := r1.w.ptr
    obtain ⟨o, vs, e1, sh, r⟩ := B1.st.at_ n b _ hb hS
    have : ∃ ks, Keys kOf (kvs.map (·.1)) ks ∧ Rd H1 b (.dK (ks.zip vs)) := by
      rcases hk' with rfl | rfl
      · obtain ⟨ks, hks, rfl⟩ := sh
        exact ⟨ks, hks, .inl e1⟩
      · obtain ⟨ks, od, hks, rfl⟩ := sh
        exact ⟨ks, hks, .inr ⟨od, e1⟩⟩
    obtain ⟨ks, hks, rd⟩ := this
    refine .inr (.inl ⟨b, _, rfl, rd, fun p hp => ?_⟩)
    obtain ⟨a1, a2, a3, a4⟩ := B1.newOb (ob := .dct 0 kvs) (o := .dK (ks.zip vs)) hp (fun _ z => by cases z) (fun _ z => by cases z) ⟨_, vs, upd_same, ⟨ks, hks, rfl⟩, Rps.ext (Ext.new hp) ⟨⟨[p], rfl⟩, fun c hc hn => by
          rcases List.mem_append.mp hc with z | z
          · exact absurd z hn
          · rw [List.mem_singleton.mp z]; exact hp⟩ (fun _ _ z => z) r⟩
    exact h _ _ _ a1 a2 a3 ⟨a4, fun z => by omega⟩
end
/-- {k: v}, k a tuple -/
def tDispT (tk tv : TE) : TE := fun σ H Q => ∀ p, H p = none → tk σ (upd H p (.dT [])) fun x H1 => tv σ H1 fun y H2 => ∃ b key, x = .ref b ∧ H2 b = some (.tup (key.map kV)) ∧ H2 p = some (.dT []) ∧ Q (.ref p) (upd H2 p (.dT [(key, y)]))
theorem pe_dispT {X : Cx} {pos : Pos} {k v : Expr} {tk tv : TE} (hu : X.A.units + 65 < cLine) (hk : PE X k tk) (hv : PE X v tv) : PE X (.Dict [some k] [v] pos) (tDispT tk tv) := by
  refine ⟨fun pins s σ H Q I q => ?_⟩
  have hn := I.hok.fresh (Nat.le_refl s.heap.objs.size)
  have I1 := I.laid (a := s.heap.objs.size) (o := .dT []) (h' := s.heap.push { cls := .type "dict", data := .dict #[] }) (t' := s.toks) (fun _ _ q => Heap.get?_push_of_some _ q) (Nat.le_refl _) (dt_empty s.heap I.big)
  refine PySem.wpAny_Dict_any rfl rfl (by simp) (by simp) (pairTrees_cons_walk (thn (hk.run pins _ σ _ _ I1 (q _ hn)) fun u s1 hh1 => ?_))
  obtain ⟨x, H1, I2, rx, q1⟩ := hh1
  refine thn (hv.run pins s1 σ H1 _ I2 q1) fun w2 s2 hh2 => ?_
  obtain ⟨y, H2, I3, ry, b, key, rfl, eb, ep, q2⟩ := hh2
  cases (show u = Value.ref b from rx)
  refine pairTrees_nil_walk ?_
  obtain ⟨z, hd, xs, rel, dd⟩ := dt_of I3.hok ep
  cases rel
  unfold storeAll
  rw [List.forIn_cons]
  refine wpAny_bind (wpAny_bind (wpAny_dictSet_heap (knd := tupleKind (mixKind X.prog X.w)) (show X.A.units < cLine by omega) (key_of I3.hok eb) dd (fun h' dd' hs => ?_) (by simp)))
  refine wpAny_pure ?_
  simp only [List.forIn_nil]
  refine wpAny_pure ?_
  obtain ⟨o, es, epo, hq, h2, h3, h4, _, h5⟩ := dd'
  have nk : KT (upd H2 s.heap.objs.size (.dT [(key, y)])) [(key, y)] (storedH [] key b w2) := by
    refine Paired.cons (b := (key, b, w2)) ⟨rfl, ?_, ry⟩ .nil
    rw [upd_ne (ne_of eb ep (fun z => nomatch z))]
    exact eb
  exact ⟨.ref s.heap.objs.size, _, d_write I3 (by rw [ep]; exact True.intro) hs ⟨o, hq⟩ (show ObjOk X.prog X.w _ h' _ (.dT [(key, y)]) from ⟨by rw [sizeLine_eq]; simp, hd, _, nk, o, es, epo, hq, h2, h3, h4, h5⟩), rfl, q2⟩
/-- a thing that nothing holds is changed -/
theorem SOk.chg {K : PySem.W.Frag} {μ : List Addr} {W : Addr → Prop} {H : Hp} {S : Store} {p : Addr} {o u : HO} (s : SOk K μ W H S) (hp : p ∉ μ) (hW : W p) (ho : H p = some o) (ni : ¬ Imd o) (nx : ∀ fs, o ≠ .xd fs) (no : ∀ b, o ≠ .own b) : SOk K μ W (upd H p u) S := by
  have kT : ∀ b o', H b = some o' → Imd o' → upd H p u b = some o' := fun b o' hb im => by
    rw [upd_ne (fun z => by subst z; rw [ho] at hb; cases hb; exact ni im)]; exact hb
  have kL : ∀ b o', H b = some o' → ¬ Im o' → (W b → ∃ fs, o' = .xd fs) → b ∉ μ → upd H p u b = some o' := fun b o' hb _ hw _ => by
    rw [upd_ne (fun z => by
      subst z; rw [ho] at hb; cases hb
      obtain ⟨fs, e⟩ := hw hW
      exact nx fs e)]; exact hb
  refine ⟨s.len, s.nd, s.nw, fun n a ob h1 h2 => ?_⟩
  obtain ⟨o', vs, e, sh, r⟩ := s.at_ n a ob h1 h2
  refine ⟨o', vs, by rw [upd_ne (fun z => hp (by rw [← z]; exact List.mem_of_getElem? h1))]; exact e, sh.keep fun dx e' n' => ⟨by rw [upd_ne (fun z => by subst z; rw [ho] at e'; cases e'; exact no _ rfl)]; exact e', n'⟩, Rps.stay kT kL r⟩
theorem s_ddpT {X : Cx} {E : XT} {EW : WX} {Φ : Nat → Fn} {pos p1 p2 : Pos} {j n k : Nat} (hk : k < 2) (hu : X.A.units + 65 < cLine) : PE X (.Dict [some (.Tuple [] n p2)] [.Constant (.bool true) j p1] pos) (tX X.K E EW k (evE Φ .ddpT)) := by
  refine (pe_dispT hu (s_tup (E := E) (EW := EW) (Φ := Φ) (k := 2) (l := .nil) s_nil) pe_bl).imp fun σ H Q h p hp => ?_
  obtain ⟨F, μ, S, ρ, B, h⟩ := h
  rw [evE] at h
  have hp' : p ∉ μ := fun z => B.dm.2 p z hp
  have sm : Same H (upd H p (.dT [])) := same_new hp
  have w1 : ∀ b, H b ≠ none → (F.more p).W b → F.W b := fun b hb z => by
    rcases z with z | z
    · exact z
    · subst z; exact absurd hp hb
  have B1 : Bd X.K (F.more p) μ S σ ρ (upd H p (.dT [])) := B.inner hp (.of_same sm) .refl (B.st.keep (fun b o hb _ => sm b o hb) (.of_same sm) w1) (by rw [upd_same]; intro z; cases z)
  refine ⟨F.more p, μ, S, ρ, B1, ?_⟩
  have e : evE Φ (.tup .nil) ρ S = .ok (.tup []) S := by
    rw [evE, evL]; simp [Res.bind]
  rw [e]
  intro v H' μ' x g B' r
  obtain ⟨b, vs, rfl, eb, rb⟩ := r.1.w.tupH
  cases rb
  have epp : H' p = some (.dT []) := x p _ upd_same (.inl hp')
  have hpm : p ∉ μ' := fun z => by
    have := g.2 p z hp'
    rw [upd_same] at this; cases this
  refine ⟨b, [], rfl, eb, epp, ?_⟩
  have nbp : b ≠ p := fun z => by rw [z, epp] at eb; cases eb
  have x2 : Ext μ H (upd H' p (.dT [([], V.bl true)])) := fun c o hc q => by
    have ncp : c ≠ p := fun z => by rw [z, hp] at hc; cases hc
    rw [upd_ne ncp]
    exact x c o (sm c o hc) q
  have g2 : Gr μ H (μ' ++ [p]) := by
    obtain ⟨⟨m, rfl⟩, g3⟩ := g
    refine ⟨⟨m ++ [p], by simp⟩, fun c hc hn => ?_⟩
    rcases List.mem_append.mp hc with z | z
    · have := g3 c z hn
      rwa [upd_ne (fun q => hpm (by rw [← q]; exact z))] at this
    · rw [List.mem_singleton.mp z]; exact hp
  have s2 : SOk X.K μ' (fun c => F.W c ∨ c = p) (upd H' p (.dT [([], V.bl true)])) S := SOk.chg (W := fun c => F.W c ∨ c = p) B'.st hpm (.inr rfl) epp id (fun _ z => nomatch z) (fun _ z => nomatch z)
  have s3 := s2.adopt (ob := .dct 1 [(.tup [], .bl true)]) (fun z => B.dom p z hp) hpm (fun fs z => by rw [upd_same] at z; cases z) (fun c z => by rw [upd_same] at z; cases z) ⟨_, [.bl true], upd_same, ⟨[[]], .cons rfl (fun l hl => by cases hl) .nil, rfl⟩, .cons (.bl _) .nil⟩
  exact h _ _ _ x2 g2 (B.step x2 g2 s3) ⟨.ptr (by rw [← B'.st.len]; simp), fun z => by omega⟩
end RH

set_option Elab.async false
set_option linter.all false
set_option maxRecDepth 100000
set_option maxHeartbeats 4000000
/-! RFTry: try: .. except C as e: ..; the error that was caught, and what is asked of it. -/
namespace RH
open PySem PySem.Spec PyProof.Rows L2
/-- the object at a is an error of the class c, its dict dd -/
def XPhiV (c : Value) (dd : Option Addr) (a : Addr) : Heap → Prop := fun h => ∃ oe, h.get? a = some oe ∧ Zc c dd oe ∧ ∃ vs, oe.data = .fields vs
theorem xphi_v (K : PySem.W.Frag) (c : Str) (dd : Option Addr) (a : Addr) : XPhi K c dd a = XPhiV (.ref (He.ga K c)) dd a := rfl
/-- the caught error is tracked -/
theorem Inv.suiteE {X : Cx} {pins : List (Addr × Obj)} {σ : L2.St} {H : Hp} {s : Shared} {a : Addr} {oe : Obj} {cls : Value} {d : Option Addr} {vs : Array Value} (I : Inv X pins σ H s) (ha : s.heap.get? a = some oe) (hz : Zc cls d oe) (hd : oe.data = .fields vs) (na : H a = none) (nL : a ≠ X.env.locals)
    (n0 : ∀ o, X.s_0.heap.get? a = some o → a ∉ X.ex → False) (np : ∀ p, p ∈ X.pn ++ pins → p.1 ≠ a) :
    Inv (X.suite a (X.pn ++ pins)) [] σ (upd H a (.ext (XPhiV cls d a))) s := by
  have neH : ∀ b o, H b = some o → b ≠ a := fun b o e z => by rw [z, na] at e; cases e
  refine ⟨I.ok.suite _ _, I.os, I.bare, ⟨I.base.keep, I.base.slot, fun b o e n hx => ?_, I.base.there, fun b xs e => ?_, fun b o x e => ?_, fun b ps e => ?_⟩, I.loc, I.cell, ?_, fun x c e => ?_, fun p hp => ?_, fun b o e => ?_, I.len⟩
  · have : b ≠ a := fun z => by subst z; exact n0 o e hx
    rw [upd_ne this]; exact I.base.free b o e n hx
  · have q := I.base.tups b xs e
    rw [upd_ne (neH b _ q)]; exact q
  · have q := I.base.frzs b o x e
    rw [upd_ne (neH b _ q)]; exact q
  · obtain ⟨m, q⟩ := I.base.tbls b ps e
    exact ⟨m, by rw [upd_ne (neH b _ q)]; exact q⟩
  · show upd H a _ X.env.locals = none
    rw [upd_ne (Ne.symm nL)]; exact I.free
  · obtain ⟨v, w⟩ := I.cell x c e
    have : c ≠ a := fun z => by
      subst z
      obtain ⟨o, ho, hc⟩ := w
      rw [ha] at ho; cases ho
      rw [hd] at hc
      cases hc
    rw [upd_ne this]; exact I.freeC x c e
  · have hp' : p ∈ X.pn ++ pins := by rw [List.append_nil] at hp; exact hp
    obtain ⟨e, n, r⟩ := I.pin p hp'
    exact ⟨e, by rw [upd_ne (np p hp')]; exact n, r⟩
  · by_cases hb : b = a
    · subst hb
      rw [upd_same] at e
      cases e
      exact ⟨⟨oe, ha, hz, vs, hd⟩, ⟨oe, ha⟩, fun h1 h2 ⟨o1, q1, q2, q3⟩ k => ⟨o1, k _ q1, q2, q3⟩⟩
    · rw [upd_ne hb] at e
      exact (I.hok b o e).stay (fun c v _ q => q) (fun c q => by rw [upd_ne (neH c _ q)]; exact q) fun c xs q => by rw [upd_ne (neH c _ q)]; exact q
theorem Inv.unsuiteE {X : Cx} {a : Addr} {pins pn' : List (Addr × Obj)} {σ : L2.St} {H : Hp} {s : Shared} (I : Inv (X.suite a (X.pn ++ pins)) pn' σ H s) (ok : X.Ok) : Inv X pins σ H s :=
  ⟨ok, I.os, I.bare, I.base, I.loc, I.cell, I.free, I.freeC, fun p hp => I.pin p (List.mem_append_left _ hp), I.hok, I.len⟩
/-- behind a suite: the name is gone -/
def deE : Option Nat → Ends → Ends
  | some i, D => { nx := fun σ' H' => D.nx (σ'.set i none) H', rt := D.rt, bk := fun σ' H' => D.bk (σ'.set i none) H', ct := fun σ' H' => D.ct (σ'.set i none) H' }
  | none, D => D
def sgE : Option Nat → Addr → L2.St → L2.St
  | some i, a, σ => σ.set i (some (.ref a))
  | none, _, σ => σ
/-- what the clauses wish of an error of the body -/
def wHd (K : PySem.W.Frag) (Wout : WX) (D : Ends) : List (Value × Option Nat × TS) → WX
  | [] => Wout
  | (c, i, ts) :: r => fun cls d σ H => ∃ b, PySem.W.exmOne K cls c = some b ∧ (b = true → ∀ a, H a = none → ts (deE i D) (sgE i a σ) (upd H a (.ext (XPhiV cls d a)))) ∧ (b = false → wHd K Wout D r cls d σ H)
inductive HdOk (X : Cx) : List ExceptHandler → List (Value × Option Nat × TS) → Prop
  | nil : HdOk X [] []
  | cons {x n : Str} {i : Nat} {c : Value} {ts : TS} {b₀ : Stmt} {suite : List Stmt} {np pos' : Pos} {hds : List ExceptHandler} {l : List (Value × Option Nat × TS)} (hc : Names X x c) (hi : X.N[i]? = some n) (hl : X.env.kindOf n = some .local)
      (hsu : ∀ (a : Addr) (pn : List (Addr × Obj)), PSs (X.suite a pn) (b₀ :: suite) ts) (r : HdOk X hds l) :
      HdOk X (.ExceptHandler (some (.Name x np)) (some n) (b₀ :: suite) pos' :: hds) ((c, some i, ts) :: l)
section
variable {X : Cx} {body : List Stmt} {h₀ : ExceptHandler} {hds : List ExceptHandler} {l : List (Value × Option Nat × TS)} {pos : Pos} {tb : WX → TS} {Wout : WX}
theorem ps_tryX (hs : X.stack = X.env :: X.outer) (hf : X.env.frame = some X.env.locals) (hN : X.N.Nodup) (tk : Takes X Wout)
    (hb : ∀ (W : WX) (pn : List (Addr × Obj)) (xe : Value → Shared → Prop), Takes (X.tr pn xe) W → PassesOwn (model X.prog X.w) X.A X.env xe → PSs (X.tr pn xe) body (tb W))
    (hh : HdOk X (h₀ :: hds) l) : PS X (.Try body (h₀ :: hds) [] [] pos) (fun D σ H => tb (wHd X.K Wout D l) D σ H) := by
  refine ⟨fun pins s σ H D I h => ?_⟩
  have ok := I.ok
  have hfr : X.A.frames = some (X.env :: X.outer) := by rw [ok.frames, hs]
  refine wpAny_Try_except ?_
  refine wpAny_mono ((hb (wHd X.K Wout D l) (X.pn ++ pins) (fun e s₁ => wpAny (model X.prog X.w) X.A (noteFrame e X.env) (fun _ s₂ => wpAny (model X.prog X.w) X.A (setFlight e none) (fun _ s₃ =>
    wpAny (model X.prog X.w) X.A (handleBy e X.env (h₀ :: hds)) (SP X pins D) X.xe s₃) X.xe s₂) X.xe s₁) (fun u s' xx => ?_) PassesOwn.looking).run [] s σ H D (I.toTry _) h) (fun f s1 hsp => ?_) (fun e s1 he => he)
  · -- the catch
    obtain ⟨a, B, sI, pins', σ', H', cls, d, rfl, J', nb, up, sky, na, os, ag, w⟩ := xx
    have J : Inv X pins σ' H' sI := J'.ofTry ok
    have sky' : Sky B (X.env :: X.outer) a (Zc cls d) X.env.locals s'.heap := by rw [← hs]; exact sky
    show wpAny (model X.prog X.w) X.A (noteFrame (.ref a) X.env) _ _ _
    refine Sky.land Zc.steady hfr hf sky' fun h3 fl3 up3 => ?_
    have J3 : Inv X pins σ' H' { s' with heap := h3 } := J.landed nb fl3.1 (up.trans up3) os ag
    obtain ⟨oe3, vs3, he3, hz3, hd3⟩ := fl3.there
    have notFr : ∀ {h : Heap} {o : Obj} {vs : Array Value}, h.FunFrames B (X.env :: X.outer) → h.get? a = some o → o.data = .fields vs → a ∉ frs (X.env :: X.outer) := fun {h o vs} ff e dd hm => by
      obtain ⟨_, o', e', hnf⟩ := ff.mem hm
      rw [e] at e'; cases e'
      exact hnf _ dd
    have nfr := notFr fl3.2.2.1 he3 hd3
    have nL : a ≠ X.env.locals := fun z => nfr (List.mem_filterMap.mpr ⟨X.env, List.mem_cons_self, by rw [hf, z]⟩)
    have nF : a ∉ X.fs := fun hm => by
      obtain ⟨e, he, q⟩ := List.mem_filterMap.mp hm
      exact nfr (List.mem_filterMap.mpr ⟨e, List.mem_cons_of_mem _ he, q⟩)
    have nB : B.get? a = none := fl3.2.1
    have nst : a ∉ frs X.stack := by rw [hs]; exact nfr
    have n0 : ∀ o, X.s_0.heap.get? a = some o → a ∉ X.ex → False := fun o e hx => by
      obtain ⟨o', e'⟩ := J.base.there a o e hx
      rw [nb a o' e' nst] at nB; cases nB
    have np : ∀ p, p ∈ X.pn ++ pins → p.1 ≠ a := fun p hp z => by
      have e := (J.pin p hp).1
      rw [z] at e
      rw [nb a _ e nst] at nB; cases nB
    have S3 := J3.suite he3 hd3 na nL nF
    have go : ∀ {hds' : List ExceptHandler} {l' : List (Value × Option Nat × TS)}, HdOk X hds' l' → wHd X.K Wout D l' cls d σ' H' →
        wpAny (model X.prog X.w) X.A (handleBy (.ref a) X.env hds') (SP X pins D) X.xe { s' with heap := h3 } := by
      intro hds' l' hk
      induction hk with
      | nil =>
        intro w
        refine wpAny_handleBy_nil ?_
        obtain ⟨k1, k2, k3, oe, vs, T, oT, ts', he, hz, hd, h1, hr⟩ := id fl3
        unfold PySem.passOn
        refine wpAny_bind (wpAny_field he hd h1 ?_)
        rw [if_neg (show ¬ ((Value.ref T == Value.none) = true) from by simp)]
        have fin : wpAny (model X.prog X.w) X.A (setFlight (.ref a) X.env.frame) (fun _ s4 => wpAny (model X.prog X.w) X.A (throw (.ref a) : Sem Flow) (SP X pins D) X.xe s4) X.xe { s' with heap := h3 } := by
          rw [hf]
          refine HandSPX.setFlight_upZ fl3 fun h4 hh4 up4 => wpAny_throw (tk _ _ ?_)
          exact ⟨a, B, sI, pins, σ', H', cls, d, rfl, J, nb, (up.trans up3).trans up4, .inr (.inr (by rw [hs]; exact hh4)), na, os, ag, w⟩
        first
          | exact wpAny_bind (wpAny_pure (wpAny_bind fin))
          | exact wpAny_bind fin
      | @cons x n i c ts b₀ suite np' pos' hds2 l2 hc hi hl hsu r ih =>
        intro w
        obtain ⟨b, hb1, hyes, hno⟩ := w
        refine wpAny_handleBy_cons (codeAny_handlers_test ?_) (by intro q; cases q)
        have LT : PySem.W.Looks (model X.prog X.w) h3 (typeOf (.ref a)) cls := fun A Q E s k q => wpAny_typeOf_ref (k _ _ he3) (by rw [hz3.1]; exact q)
        have LM := PySem.W.exm_one (M := model X.prog X.w) (J3.kIn) LT hb1
        have test : ∀ {Q : Value → Shared → Prop} {E : Value → Shared → Prop}, Q c { s' with heap := h3 } → wpAny (model X.prog X.w) (X.A.mark (some (.ref a))) (eval (.Name x np') X.env) Q E { s' with heap := h3 } := fun {Q E} q => by
          obtain ⟨hg, hdbg, hm | ⟨hm, hv, hnn⟩⟩ := hc
          · exact ld_glob (X := X.suite a ((a, oe3) :: (X.pn ++ pins))) S3 hg hm q hdbg
          · exact ld_blt (X := X.suite a ((a, oe3) :: (X.pn ++ pins))) S3 hg hm hv q hnn hdbg
        refine test (LM.here ?_)
        cases b with
        | true =>
          refine codeAny_handlers_suite_as ?_
          refine HandSPX.lands_againZ fl3 fun h4 fl4 up4 => ?_
          have J4 : Inv X pins σ' H' { s' with heap := h4 } := J.landed nb fl4.1 ((up.trans up3).trans up4) os ag
          obtain ⟨oe4, vs4, he4, hz4, hd4⟩ := fl4.there
          have S4 : Inv (X.suite a (X.pn ++ pins)) [] σ' (upd H' a (.ext (XPhiV cls d a))) { s' with heap := h4 } := Inv.suiteE J4 he4 hz4 hd4 na nL n0 np
          refine store_ok (X := X.suite a (X.pn ++ pins)) (v := .ref a) S4 hN hi (.inl hl) rfl (fun s5 S5 => ?_) (.inr hl)
          refine wpAny_mono ((hsu a (X.pn ++ pins)).run [] s5 _ _ _ S5 (hyes rfl a na)) (fun f s6 hsp => ?_) (fun _ _ z => False.elim z)
          have end_ : ∀ {σ6 : L2.St} {H6 : Hp} {Q : Shared → Prop}, Inv (X.suite a (X.pn ++ pins)) [] σ6 H6 s6 → (∀ s7, Inv X pins (σ6.set i none) H6 s7 → Q s7) →
              wpAny (model X.prog X.w) X.A (do bindName X.env n .none; unbindBehindTheSuite X.env n pos') (fun _ s7 => Q s7) X.xe s6 := fun {σ6 H6 Q} S6 hq => gone_ok (Inv.unsuiteE S6 ok) hN hi hl hq
          cases f with
          | next =>
            obtain ⟨σ6, H6, S6, q6⟩ := hsp
            exact end_ S6 fun s7 J7 => ⟨_, _, J7, q6⟩
          | brk =>
            obtain ⟨σ6, H6, S6, q6⟩ := hsp
            exact end_ S6 fun s7 J7 => ⟨_, _, J7, q6⟩
          | cont =>
            obtain ⟨σ6, H6, S6, q6⟩ := hsp
            exact end_ S6 fun s7 J7 => ⟨_, _, J7, q6⟩
          | ret u =>
            obtain ⟨v6, σ6, H6, S6, r6, q6⟩ := hsp
            exact end_ S6 fun s7 J7 => ⟨_, _, _, J7, r6, q6⟩
        | false =>
          show wpAny _ X.A (handleBy (.ref a) X.env hds2) _ _ _
          exact ih (hno rfl)
    exact go hh w
  · cases f with
    | next =>
      obtain ⟨σ', H', J', q⟩ := hsp
      exact wpAny_execs_nil ⟨σ', H', J'.ofTry ok, q⟩
    | brk =>
      obtain ⟨σ', H', J', q⟩ := hsp
      exact ⟨σ', H', J'.ofTry ok, q⟩
    | cont =>
      obtain ⟨σ', H', J', q⟩ := hsp
      exact ⟨σ', H', J'.ofTry ok, q⟩
    | ret u =>
      obtain ⟨v, σ', H', J', r, q⟩ := hsp
      exact ⟨v, σ', H', J'.ofTry ok, r, q⟩
end
end RH
namespace RH
open PySem PySem.Spec PyProof.Rows L2
/-! ### what is asked of a caught error -/
/-- what an error's class says -/
structure XcK (K : PySem.W.Frag) (C : Addr) : Prop where
  xf : XfC K C
  cl : (PySem.W.clsIn K C).isSome = true
  ca : PySem.W.findIn K (.ref C) "__class__" = some (some (.builtin "object.__class__"))
  cn : PySem.W.specialIn K (.builtin "object.__class__") "__get__" = some (some (.builtin "getset_descriptor.__get__"))
  ct : PySem.W.takesIn K (.builtin "object.__class__") = some true
  cm : PySem.W.mroIn K C (.type "object") = some true
def xcB (K : PySem.W.Frag) (C : Addr) : Bool := xfB K C && (PySem.W.clsIn K C).isSome && decide (PySem.W.findIn K (.ref C) "__class__" = some (some (.builtin "object.__class__"))) && decide (PySem.W.specialIn K (.builtin "object.__class__") "__get__" = some (some (.builtin "getset_descriptor.__get__"))) && decide (PySem.W.takesIn K (.builtin "object.__class__") = some true) && decide (PySem.W.mroIn K C (.type "object") = some true)
theorem xcB_ok {K : PySem.W.Frag} {C : Addr} (h : xcB K C = true) : XcK K C := by
  unfold xcB at h
  simp only [Bool.and_eq_true, decide_eq_true_eq] at h
  obtain ⟨⟨⟨⟨⟨h1, h2⟩, h3⟩, h4⟩, h5⟩, h6⟩ := h
  exact ⟨xfB_ok h1, h2, h3, h4, h5, h6⟩
/-- the error at a, its class C, as the heap has it -/
theorem inst_of {X : Cx} {pins : List (Addr × Obj)} {σ : L2.St} {H : Hp} {s : Shared} {a C : Addr} {d : Option Addr} (I : L2.Inv X pins σ H s) (h : H a = some (.ext (XPhiV (.ref C) d a))) (hd : ∀ dd, d = some dd → ∃ fs, H dd = some (.xd fs)) : ∃ oe od, PySem.W.InstAt s.heap a oe C od := by
  obtain ⟨⟨oe, he, hz, vs, hv⟩, _⟩ := I.hok a _ h
  cases d with
  | none =>
    refine ⟨oe, none, ?_⟩
    obtain ⟨oc, od, oda, osl⟩ := oe
    obtain ⟨h1, h2⟩ := hz
    dsimp only at h1 h2 hv
    subst h1 h2 hv
    exact ⟨he, rfl, rfl, trivial⟩
  | some dd =>
    obtain ⟨fs, hf⟩ := hd dd rfl
    obtain ⟨mA, hns, _⟩ := I.hok dd _ hf
    obtain ⟨od, ho, _⟩ := lookIn_ns hns
    exact ⟨oe, some od, he, hz.1, by unfold PySem.W.notCls; rw [hv] <;> rfl, by rw [hz.2]; exact ho⟩
def rIsX (K : PySem.W.Frag) : List V → Hp → VK → Prop := fun xs H Q => ∃ (a C : Addr) (d : Option Addr) (c : V) (cv : Value) (b : Bool), xs = [.ref a, c] ∧ H a = some (.ext (XPhiV (.ref C) d a)) ∧ (∀ dd, d = some dd → ∃ fs, H dd = some (.xd fs)) ∧ XcK K C ∧ (∀ u, RelV c u → u = cv) ∧ PySem.W.kitOne K (.ref C) cv = some b ∧ Q (.bl b) H
theorem call_isX {X : Cx} : CallR X (.builtin "isinstance") (rIsX X.K) := by
  intro pins s σ H xs us Q I r h
  obtain ⟨a, C, d, c, cv, b, rfl, ha, hd, k, hcv, e, q⟩ := h
  cases r with
  | cons rx rr =>
    cases rr with
    | cons rt rr =>
      cases rr
      cases rx
      have ec := hcv _ rt
      subst ec
      obtain ⟨oe, od, J⟩ := inst_of I ha hd
      exact PySem.W.kia_one (PySem.W.kitx_exc k.cl k.xf.ga k.xf.gg k.xf.exC k.ca k.cn k.ct k.cm) I.kIn J e (fun z => nomatch z) fun tk => ⟨.bl b, H, I.kept (t' := tk) fun _ _ z => z, rfl, q⟩
def rIsT (K : PySem.W.Frag) : List V → Hp → VK → Prop := fun xs H Q => ∃ (a C tp : Addr) (d : Option Addr) (Cs : List Addr) (b : Bool), xs = [.ref a, .ref tp] ∧ H a = some (.ext (XPhiV (.ref C) d a)) ∧ (∀ dd, d = some dd → ∃ fs, H dd = some (.xd fs)) ∧ XcK K C ∧ SqT K H tp (Cs.map .ref) ∧ PySem.W.kitAny K (.ref C) (Cs.map .ref) = some b ∧ Q (.bl b) H
theorem vals_refs : ∀ {Cs : List Addr} {us : List Value}, Vals (Cs.map V.ref) us → us = Cs.map Value.ref
  | [], _, r => by cases r; rfl
  | C :: Cs, _, r => by
    cases r with
    | cons r1 r2 =>
      have := vals_refs r2
      subst this
      cases r1
      rfl
theorem call_isT {X : Cx} : CallR X (.builtin "isinstance") (rIsT X.K) := by
  intro pins s σ H xs us Q I r h
  obtain ⟨a, C, tp, d, Cs, b, rfl, ha, hd, k, ht, e, q⟩ := h
  cases r with
  | cons rx rr =>
    cases rr with
    | cons rt rr =>
      cases rr
      cases rx
      cases rt
      obtain ⟨oe, od, J⟩ := inst_of I ha hd
      obtain ⟨its, rv, p, hz⟩ := I.tuple ht
      have ei := vals_refs rv
      subst ei
      obtain ⟨ot, hot, hoc, n, hod⟩ := id p
      obtain ⟨c', d', da', sl'⟩ := ot
      dsimp only at hoc hod
      subst hoc hod
      exact PySem.W.kia_tup (PySem.W.kitx_exc k.cl k.xf.ga k.xf.gg k.xf.exC k.ca k.cn k.ct k.cm) I.kIn J hot e (fun z => nomatch z) fun tk => ⟨.bl b, H, I.kept (t' := tk) fun _ _ z => z, rfl, q⟩
/-- e.f, e an error that was caught -/
def tXfl (K : PySem.W.Frag) (f : Str) (te : TE) : TE := fun σ H Q => te σ H fun x H1 => ∃ (a C dd : Addr) (fs : List (Str × V)) (v : V), x = .ref a ∧ H1 a = some (.ext (XPhiV (.ref C) (some dd) a)) ∧ XfC K C ∧ PySem.W.findIn K (.ref C) f = some none ∧ H1 dd = some (.xd fs) ∧ fs.lookup f = some v ∧ Q v H1
theorem pe_xfl {X : Cx} {e : Expr} {te : TE} {pos : Pos} {n : Str} (he : PE X e te) (hb : attributeBase e n X.env (eval e X.env) = eval e X.env) : PE X (.Attribute e n pos) (tXfl X.K n te) := by
  refine ⟨fun pins s σ H Q I h => ?_⟩
  refine attr_of hb (thn (he.run pins s σ H _ I h) fun u s1 hh => ?_)
  obtain ⟨x, H1, I1, rx, a, C, dd, fs, v, ex, ha, T, hno, ea, l, q⟩ := hh
  subst ex
  obtain rfl : u = Value.ref a := rx
  obtain ⟨⟨oe, he, hz, vs, hd⟩, _⟩ := I1.hok a _ ha
  obtain ⟨mA, hns, hr⟩ := I1.hok dd _ ea
  obtain ⟨od, ho, hl⟩ := lookIn_ns hns
  obtain ⟨u, hu, ru⟩ := RelO.some_of (v := v) (o := mA n) (by rw [← l]; exact hr n)
  have J : PySem.W.InstAt s1.heap a oe C (some od) := ⟨he, hz.1, by unfold PySem.W.notCls; rw [hd] <;> rfl, by rw [hz.2]; exact ho⟩
  exact HandSPX.exc_get I1.kIn J T.ga T.gg T.exC (PySem.W.findObj_own T.hdC hno rfl (by rw [hl, hu])) (handed_of ru) ⟨v, H1, I1.tok _, ru, q⟩
end RH

set_option Elab.async false
set_option linter.all false
set_option maxRecDepth 100000
set_option maxHeartbeats 4000000
/-! RFTry2: try in the run over D; what is asked of errors. -/
namespace RH
open PySem PySem.Spec PyProof.Rows L2
/-- ρw knows less than ρ -/
def WkR (ρw ρ : List Cell) : Prop := ρ.length = ρw.length ∧ ∀ (j : Nat) (c : Cell), ρw[j]? = some c → c = .u ∨ ρ[j]? = some c
def Uu (ρw : List Cell) (i : Nat) : Prop := ∀ c : Cell, ρw[i]? = some c → c = .u
theorem WkR.set {ρw ρ : List Cell} {i : Nat} {c : Cell} (h : WkR ρw ρ) (u : Uu ρw i) : WkR ρw (ρ.set i c) := by
  refine ⟨by rw [List.length_set]; exact h.1, fun j x e => ?_⟩
  by_cases q : i = j
  · subst q; exact .inl (u x e)
  · rw [List.getElem?_set_ne q]; exact h.2 j x e
theorem WkR.wipe {ρ : List Cell} {as : List Nat} : WkR (wipeC ρ as) ρ := by
  refine ⟨(wipeC_len ρ as).symm, fun j c e => ?_⟩
  by_cases q : j ∈ as
  · have hl : j < ρ.length := by rw [← wipeC_len ρ as]; exact (List.getElem?_eq_some_iff.mp e).1
    rw [wipeC_in q hl] at e
    exact .inl (by cases e; rfl)
  · rw [wipeC_out q] at e; exact .inr e
theorem Uu.wipe {ρ : List Cell} {as : List Nat} {i : Nat} (h : i ∈ as) : Uu (wipeC ρ as) i := fun c e => by
  have hl : i < ρ.length := by rw [← wipeC_len ρ as]; exact (List.getElem?_eq_some_iff.mp e).1
  rw [wipeC_in h hl] at e
  cases e; rfl
section
variable {K : PySem.W.Frag} {F : Fx} {μ : List Addr} {S : Store} {σ : L2.St} {ρ ρw : List Cell} {H : Hp}
theorem Bd.weak (B : Bd K F μ S σ ρ H) (w : WkR ρw ρ) : Bd K F μ S σ ρw H where
  dom := B.dom
  st := B.st
  len := by rw [B.len, w.1]
  ext := B.ext
  gr := B.gr
  pin := B.pin
  slot := fun i c h => by
    rcases w.2 i c h with e | e
    · subst e; trivial
    · exact B.slot i c e
theorem Bd.gone (B : Bd K F μ S σ ρ H) (i : Nat) : Bd K F μ S (σ.set i none) (ρ.set i .u) H where
  dom := B.dom
  st := B.st
  len := by rw [List.length_set, List.length_set, B.len]
  ext := B.ext
  gr := B.gr
  pin := B.pin
  slot := fun j c h => by
    by_cases q : i = j
    · subst q
      have hl : i < ρ.length := by rw [← List.length_set (as := ρ) (i := i) (a := .u)]; exact (List.getElem?_eq_some_iff.mp h).1
      rw [List.getElem?_set_self hl] at h
      cases h
      trivial
    · rw [List.getElem?_set_ne q] at h ⊢
      exact B.slot j c h
end
/-- the end of a try's body -/
def FinT (K : PySem.W.Frag) (E : XT) (EW : WX) (F : Fx) (ρw : List Cell) (D : Ends) : Out → Prop
  | .ok f S => PF K F D f S
  | .err x S => ∀ c dd σ H μ, Bd K F μ S σ ρw H → XRep E K μ F.W H x c dd → EW c dd σ H
  | .bad => False
def tTb (K : PySem.W.Frag) (E : XT) (as : List Nat) (m : List Cell → Store → Out) (EW : WX) : TS := fun D σ H => ∃ F μ S ρ ρw, Bd K F μ S σ ρ H ∧ WkR ρw ρ ∧ (∀ i, i ∈ as → Uu ρw i) ∧ FinT K E EW F ρw D (m ρ S)
section
variable {K : PySem.W.Frag} {E : XT} {EW : WX} {F : Fx} {D : Ends} {σ : L2.St} {ρ ρw : List Cell} {μ : List Addr} {S : Store} {H : Hp}
theorem tX.bindB {k : Nat} {m : List Cell → Store → Res RH.D} {f : RH.D → Store → Out} {R : VK} (B : Bd K F μ S σ ρ H) (w : WkR ρw ρ) (h : FinT K E EW F ρw D ((m ρ S).bind f))
    (hR : ∀ d S1 v H1 μ1, Ext μ H H1 → Gr μ H μ1 → Bd K F μ1 S1 σ ρ H1 → RK k K μ1 F.W H H1 S1 d v → FinT K E EW F ρw D (f d S1) → R v H1) : tX K E EW k m σ H R := by
  refine ⟨F, μ, S, ρ, B, ?_⟩
  cases e : m ρ S with
  | ok d S1 =>
    rw [e] at h
    exact fun v H1 μ1 x g B1 r => hR d S1 v H1 μ1 x g B1 r h
  | err y S1 => rw [e] at h; exact fun c dd H' μ' _ _ b r => h c dd σ H' μ' (b.weak w) r
  | bad => rw [e] at h; exact h
theorem tT.bindB {m : List Cell → Store → Res Bool} {f : Bool → Store → Out} {R : Bool → Hp → Prop} (B : Bd K F μ S σ ρ H) (w : WkR ρw ρ) (h : FinT K E EW F ρw D ((m ρ S).bind f))
    (hR : ∀ b S1 H1 μ1, Ext μ H H1 → Gr μ H μ1 → Bd K F μ1 S1 σ ρ H1 → FinT K E EW F ρw D (f b S1) → R b H1) : tT K E EW m σ H R := by
  refine ⟨F, μ, S, ρ, B, ?_⟩
  cases e : m ρ S with
  | ok d S1 =>
    rw [e] at h
    exact fun H1 μ1 x g B1 => hR d S1 H1 μ1 x g B1 h
  | err y S1 => rw [e] at h; exact fun c dd H' μ' _ _ b r => h c dd σ H' μ' (b.weak w) r
  | bad => rw [e] at h; exact h
end
theorem Res.bind_ok {α β : Type} {r : Res α} {f : α → Store → Res β} {b : β} {S : Store} (h : r.bind f = .ok b S) : ∃ a S1, r = .ok a S1 ∧ f a S1 = .ok b S := by
  cases r with
  | ok a S1 => exact ⟨a, S1, rfl, h⟩
  | err _ _ => cases h
  | bad => cases h
theorem ofO_ok {α : Type} {o : Option α} {S S' : Store} {b : α} (h : ofO o S = .ok b S') : o = some b ∧ S' = S := by
  cases o with
  | none => cases h
  | some a => cases h; exact ⟨rfl, rfl⟩
mutual
theorem keepS {Φ : Nat → Fn} {ρw : List Cell} : ∀ (s : CS) {ρ ρ' : List Cell} {S S' : Store}, tbS s = true → (∀ i, i ∈ asgS s → Uu ρw i) → WkR ρw ρ → evS Φ s ρ S = .ok (.nx ρ') S' → WkR ρw ρ'
  | .set i e, ρ, ρ', S, S', _, u, w, h => by
    rw [evS] at h
    obtain ⟨a, S1, _, h⟩ := Res.bind_ok h
    cases h
    exact w.set (u i (by simp [asgS]))
  | .exp e, ρ, ρ', S, S', _, u, w, h => by
    rw [evS] at h
    obtain ⟨a, S1, _, h⟩ := Res.bind_ok h
    cases h
    exact w
  | .ret e, ρ, ρ', S, S', _, u, w, h => by
    rw [evS] at h
    obtain ⟨a, S1, _, h⟩ := Res.bind_ok h
    cases h
  | .pas, ρ, ρ', S, S', _, u, w, h => by
    rw [evS] at h
    cases h
    exact w
  | .ife c a b, ρ, ρ', S, S', t, u, w, h => by
    rw [evS] at h
    obtain ⟨x, S1, _, h⟩ := Res.bind_ok h
    obtain ⟨k, S2, _, h⟩ := Res.bind_ok h
    unfold tbS at t
    simp only [Bool.and_eq_true] at t
    simp only [asgS, List.mem_append] at u
    cases k with
    | true => exact keepB a t.1 (fun i hi => u i (.inl hi)) w h
    | false => exact keepB b t.2 (fun i hi => u i (.inr hi)) w h
  | .setT _ _, _, _, _, _, t, _, _, _ => by simp [tbS] at t
  | .app _ _, _, _, _, _, t, _, _, _ => by simp [tbS] at t
  | .mth _ _ _, _, _, _, _, t, _, _, _ => by simp [tbS] at t
  | .sip _ _ _, _, _, _, _, t, _, _, _ => by simp [tbS] at t
  | .dput _ _ _, _, _, _, _, t, _, _, _ => by simp [tbS] at t
  | .retN, _, _, _, _, t, _, _, _ => by simp [tbS] at t
  | .forr _ _ _, _, _, _, _, t, _, _, _ => by simp [tbS] at t
  | .forK _ _ _, _, _, _, _, t, _, _, _ => by simp [tbS] at t
  | .whl _ _ _, _, _, _, _, t, _, _, _ => by simp [tbS] at t
  | .rai _ _ _, _, _, _, _, t, _, _, _ => by simp [tbS] at t
  | .brk, _, _, _, _, t, _, _, _ => by simp [tbS] at t
  | .cnt, _, _, _, _, t, _, _, _ => by simp [tbS] at t
  | .tryE _ _, _, _, _, _, t, _, _, _ => by simp [tbS] at t
theorem keepB {Φ : Nat → Fn} {ρw : List Cell} : ∀ (b : CB) {ρ ρ' : List Cell} {S S' : Store}, tbB b = true → (∀ i, i ∈ asgB b → Uu ρw i) → WkR ρw ρ → evBk Φ b ρ S = .ok (.nx ρ') S' → WkR ρw ρ'
  | .nil, ρ, ρ', S, S', _, u, w, h => by
    rw [evBk] at h
    cases h
    exact w
  | .cons s r, ρ, ρ', S, S', t, u, w, h => by
    rw [evBk] at h
    unfold tbB at t
    simp only [Bool.and_eq_true] at t
    simp only [asgB, List.mem_append] at u
    cases e : evS Φ s ρ S with
    | bad => rw [e] at h; cases h
    | err x S1 => rw [e] at h; cases h
    | ok f S1 =>
      rw [e] at h
      cases f with
      | nx ρ1 => exact keepB r t.2 (fun i hi => u i (.inr hi)) (keepS s t.1 (fun i hi => u i (.inl hi)) w e) h
      | rt _ _ => cases h
      | bk _ => cases h
      | ct _ => cases h
end
section
variable {X : Cx} {E : XT} {EW : WX} {Φ : Nat → Fn} {pos : Pos} {st : Stmt}
theorem b_set {i : Nat} {e : CE} {k : Nat} (h : PS X st (tAsg (tX X.K E EW k (evE Φ e)) (gName i))) : PS X st (tTb X.K E (asgS (.set i e)) (evS Φ (.set i e)) EW) := by
  refine h.imp fun D σ H h => ?_
  obtain ⟨F, μ, S, ρ, ρw, B, w, u, h⟩ := h
  simp only [evS] at h
  refine tX.bindB B w h fun d S1 v H1 μ1 x1 g1 B1 r1 h => ?_
  exact h _ _ _ (B1.set i r1.1)
theorem b_exp {e : Expr} {c : CE} {k : Nat} (he : PE X e (tX X.K E EW k (evE Φ c))) (hs : swapsWith e none pos.line X.env = pure false) : PS X (.Expr e pos) (tTb X.K E (asgS (.exp c)) (evS Φ (.exp c)) EW) := by
  refine (ps_expr he hs).imp fun D σ H h => ?_
  obtain ⟨F, μ, S, ρ, ρw, B, w, u, h⟩ := h
  simp only [evS] at h
  refine tX.bindB B w h fun d S1 v H1 μ1 x1 g1 B1 r1 h => ?_
  exact h _ _ _ B1
theorem b_ret {e : Expr} {c : CE} {k : Nat} (hkc : k = kE Φ c) (he : PE X e (tX X.K E EW k (evE Φ c))) : PS X (.Return (some e) pos) (tTb X.K E (asgS (.ret c)) (evS Φ (.ret c)) EW) := by
  refine (ps_ret he).imp fun D σ H h => ?_
  obtain ⟨F, μ, S, ρ, ρw, B, w, u, h⟩ := h
  simp only [evS] at h
  refine tX.bindB B w h fun d S1 v H1 μ1 x1 g1 B1 r1 h => ?_
  refine h v H1 μ1 B1.ext B1.gr B1.st ⟨r1.1, fun q => ?_⟩
  rw [decide_eq_true_eq, ← hkc] at q
  obtain ⟨f, n⟩ := r1.2 q
  refine ⟨fun ds e => ?_, n⟩
  obtain ⟨a, vs, h1, h2, h3, h4, h5⟩ := f ds e
  exact ⟨a, vs, h1, B.ext.free (fun z => h4 (g1.sub _ (B.gr.sub _ z))) h2, h3, h4, h5⟩
theorem b_pas : PS X (.Pass pos) (tTb X.K E (asgS .pas) (evS Φ .pas) EW) := ps_pass.imp fun D σ H ⟨F, μ, S, ρ, ρw, B, w, u, h⟩ => h _ _ _ B
theorem b_ife {c : Expr} {a b : List Stmt} {cc : CE} {ca cb : CB} (hc : PT X c (tT X.K E EW (evT Φ cc))) (ha : PSs X a (tTb X.K E (asgB ca) (evBk Φ ca) EW)) (hb : PSs X b (tTb X.K E (asgB cb) (evBk Φ cb) EW)) : PS X (.If c a b pos) (tTb X.K E (asgS (.ife cc ca cb)) (evS Φ (.ife cc ca cb)) EW) := by
  refine (ps_if hc ha hb).imp fun D σ H h => ?_
  obtain ⟨F, μ, S, ρ, ρw, B, w, u, h⟩ := h
  simp only [asgS, List.mem_append] at u
  have e : evS Φ (.ife cc ca cb) ρ S = (evT Φ cc ρ S).bind fun k S => if k then evBk Φ ca ρ S else evBk Φ cb ρ S := by rw [evS, evT, Res.bind_assoc]
  rw [e] at h
  refine tT.bindB B w h fun k S1 H1 μ1 x1 g1 B1 h => ?_
  cases k with
  | true => rw [if_pos rfl]; exact ⟨F, μ1, S1, ρ, ρw, B1, w, fun i hi => u i (.inl hi), h⟩
  | false => rw [if_neg (by decide)]; exact ⟨F, μ1, S1, ρ, ρw, B1, w, fun i hi => u i (.inr hi), h⟩
theorem b_nil : PSs X [] (tTb X.K E (asgB .nil) (evBk Φ .nil) EW) := pss_nil.imp fun D σ H ⟨F, μ, S, ρ, ρw, B, w, u, h⟩ => by rw [evBk] at h; exact h _ _ _ B
theorem b_cons {s : Stmt} {r : List Stmt} {cs : CS} {cr : CB} (t : tbS cs = true) (hs : PS X s (tTb X.K E (asgS cs) (evS Φ cs) EW)) (hr : PSs X r (tTb X.K E (asgB cr) (evBk Φ cr) EW)) : PSs X (s :: r) (tTb X.K E (asgB (.cons cs cr)) (evBk Φ (.cons cs cr)) EW) := by
  refine (pss_cons hs hr).imp fun D σ H h => ?_
  obtain ⟨F, μ, S, ρ, ρw, B, w, u, h⟩ := h
  simp only [asgB, List.mem_append] at u
  rw [evBk] at h
  refine ⟨F, μ, S, ρ, ρw, B, w, fun i hi => u i (.inl hi), ?_⟩
  cases e : evS Φ cs ρ S with
  | bad => rw [e] at h; exact h.elim
  | err x S1 => rw [e] at h; exact h
  | ok f S1 =>
    rw [e] at h
    cases f with
    | nx ρ' => exact fun σ' H' μ' B' => ⟨F, μ', S1, ρ', ρw, B', keepS cs t (fun i hi => u i (.inl hi)) w e, fun i hi => u i (.inr hi), h⟩
    | rt fr d => exact h
    | bk ρ' => exact h
    | ct ρ' => exact h
/-- what the clauses are to do -/
def HlOk (X : Cx) (E : XT) (EW : WX) (Φ : Nat → Fn) (hs : HL) (l : List (Value × Option Nat × TS)) : Prop := ∀ F D μ S σ ρ H x c dd, Bd X.K F μ S σ ρ H → XRep E X.K μ F.W H x c dd → FinS X.K E EW F D (evHL Φ hs x ρ S) → wHd X.K EW D l c dd σ H
theorem hl_nil : HlOk X E EW Φ .nil [] := fun F D μ S σ ρ H x c dd B xr h => by
  rw [evHL] at h
  exact h c dd σ H μ ρ B xr
theorem hl_cons {x : Str} {i : Nat} {cs : List (Str × Bool × List Str)} {b : CB} {r : HL} {cv : Value} {l : List (Value × Option Nat × TS)} (hE : ∀ c, E.cl c = He.ga X.K c) (hcs : ∀ c b fs, (c, b, fs) ∈ cs → E.fl c = fs ∧ PySem.W.exmOne X.K (.ref (He.ga X.K c)) cv = some b) (hr : HlOk X E EW Φ r l) :
    HlOk X E EW Φ (.cons x i cs b r) ((cv, some i, tSt X.K E EWF (evBk Φ b)) :: l) := by
  intro F D μ S σ ρ H x c dd B xr h
  rw [evHL] at h
  have mem : ∀ {q : Bool × List Str}, cs.lookup x.cls = some q → (x.cls, q) ∈ cs := fun {q} e => by
    obtain ⟨p, hp⟩ := List.lookup_eq_some_iff.mp e
    obtain ⟨l2, e2, _⟩ := hp
    rw [e2]; simp
  have ec : c = .ref (He.ga X.K x.cls) := by rw [xr.1, hE]
  cases hl : cs.lookup x.cls with
  | none => rw [hl] at h; exact h.elim
  | some q =>
    obtain ⟨bb, fs⟩ := q
    obtain ⟨hfl, hex⟩ := hcs _ _ _ (mem hl)
    rw [hl] at h
    refine ⟨bb, by rw [ec]; exact hex, fun hb a na => ?_, fun hb => ?_⟩
    · subst hb
      have h : FinS X.K E EW F D (unT i (evBk Φ b (ρ.set i (.sh (.exn x.cls fs (xaD fs x.args)))) S)) := h
      have sm : Same H (upd H a (.ext (XPhiV c dd a))) := same_new na
      have B1 := B.same sm
      have nW : ¬ F.W a := fun z => B.dom a z na
      have nm : a ∉ μ := fun z => B.dm.2 a z na
      have rx : Rp X.K μ F.W (upd H a (.ext (XPhiV c dd a))) (.exn x.cls fs (xaD fs x.args)) (.ref a) := by
        have xr2 := xr.2
        rw [hfl] at xr2
        cases fs with
        | nil => exact .exn (dd := dd) (vs := []) (by rw [upd_same, ec]; rfl) nW nm (.inl ⟨rfl, xr2⟩) .nil
        | cons f fs =>
          obtain ⟨d, vs, e1, e2, e3, e4⟩ := xr2
          exact .exn (dd := dd) (vs := vs) (by rw [upd_same, ec]; rfl) nW nm (.inr ⟨d, e1, sm _ _ e2, e3⟩) (e4.ext' (.of_same sm) .refl)
      refine ⟨F, μ, S, _, B1.set i rx, ?_⟩
      cases e : evBk Φ b (ρ.set i (.sh (.exn x.cls fs (xaD fs x.args)))) S with
      | bad => rw [e] at h; exact h.elim
      | err y S1 => rw [e] at h; exact h.elim
      | ok f S1 =>
        rw [e] at h
        cases f with
        | nx ρ' => exact fun σ' H' μ' B' => h _ _ _ (B'.gone i)
        | bk ρ' => exact fun σ' H' μ' B' => h _ _ _ (B'.gone i)
        | ct ρ' => exact fun σ' H' μ' B' => h _ _ _ (B'.gone i)
        | rt fr d => exact h
    · subst hb
      exact hr F D μ S σ ρ H x c dd B xr h
theorem t_try {body : List Stmt} {h₀ : ExceptHandler} {hds : List ExceptHandler} {l : List (Value × Option Nat × TS)} {b : CB} {hs : HL} (hst : X.stack = X.env :: X.outer) (hf : X.env.frame = some X.env.locals) (hN : X.N.Nodup) (tk : Takes X EW)
    (hb : ∀ (W : WX) (pn : List (Addr × Obj)) (xe : Value → Shared → Prop), Takes (X.tr pn xe) W → PassesOwn (model X.prog X.w) X.A X.env xe → PSs (X.tr pn xe) body (tTb X.K E (asgB b) (evBk Φ b) W))
    (hh : HdOk X (h₀ :: hds) l) (hl : HlOk X E EW Φ hs l) : PS X (.Try body (h₀ :: hds) [] [] pos) (tSt X.K E EW (evS Φ (.tryE b hs))) := by
  refine (ps_tryX hst hf hN tk hb hh).imp fun D σ H h => ?_
  obtain ⟨F, μ, S, ρ, B, h⟩ := h
  rw [evS] at h
  refine ⟨F, μ, S, ρ, wipeC ρ (asgB b), B, .wipe, fun i hi => .wipe hi, ?_⟩
  cases e : evBk Φ b ρ S with
  | bad => rw [e] at h; exact h
  | ok f S1 => rw [e] at h; exact h
  | err x S1 =>
    rw [e] at h
    exact fun c dd σ' H' μ' B' xr => hl F D μ' S1 σ' _ H' x c dd B' xr h
/-! ### isinstance, fields -/
theorem rp_exn {K : PySem.W.Frag} {μ : List Addr} {W : Addr → Prop} {H : Hp} {c : Str} {fs : List Str} {ds : List D} {v : V} (r : Rp K μ W H (.exn c fs ds) v) : ∃ a d vs, v = .ref a ∧ H a = some (.ext (XPhiV (.ref (He.ga K c)) d a)) ∧ (∀ dd, d = some dd → ∃ fs, H dd = some (.xd fs)) ∧ ((fs = [] ∧ d = none) ∨ ∃ dd, d = some dd ∧ H dd = some (.xd (fs.zip vs).reverse)) ∧ Rps K μ W H ds vs := by
  cases r with
  | @exn a _ dd _ _ vs h nw nm hd r =>
    refine ⟨a, dd, vs, rfl, h, fun d e => ?_, ?_, r⟩
    · rcases hd with ⟨_, z⟩ | ⟨d', e', h', _⟩
      · rw [z] at e; cases e
      · rw [e'] at e; cases e; exact ⟨_, h'⟩
    · rcases hd with z | ⟨d', e', h', _⟩
      · exact .inl z
      · exact .inr ⟨d', e', h'⟩
theorem s_xis1 {a : Expr} {ca : CE} {ka k : Nat} {p pt : Pos} {x : Str} {ns : List Str} {tp : Bool} {cs : List (Str × Bool)} {c : V} {cv : Value} (hg : Gl X "isinstance") (hm : X.mg "isinstance" = none) (hx : PE X (.Name x pt) (tC c)) (hcv : ∀ u, RelV c u → u = cv) (hcs : ∀ y b, (y, b) ∈ cs → XcK X.K (He.ga X.K y) ∧ PySem.W.kitOne X.K (.ref (He.ga X.K y)) cv = some b)
    (ha : PE X a (tX X.K E EW ka (evE Φ ca))) (hs : starEach [a, .Name x pt] X.env = (false, eval a X.env) :: starEach [.Name x pt] X.env) :
    PE X (.Call (.Name "isinstance" p) [a, .Name x pt] [] pos) (tX X.K E EW k (evE Φ (.xis ca ns tp cs))) := by
  refine (pe_callB call_isX hg hm boot_isinstance (pa_cons ha (pa_cons hx pa_nil rfl) hs) (by decide) (by decide) hs rfl).imp fun σ H Q h => ?_
  obtain ⟨F, μ, S, ρ, B, h⟩ := h
  simp only [evE] at h
  refine tX.bind PE1.tr B h fun d S1 v H1 μ1 x1 g1 B1 r1 h => ?_
  obtain ⟨z, hz, h⟩ := Fin.ofO (show Fin X.K E EW F σ ρ _ μ1 H1 (ofO (xisD cs d) S1) from h)
  cases d with
  | exn y fs ds =>
    obtain ⟨b, hb, rfl⟩ := Option.map_eq_some_iff.mp hz
    obtain ⟨ad, d, vs, rfl, h1, h2, _, _⟩ := rp_exn r1.1
    have hm : (y, b) ∈ cs := by
      obtain ⟨l1, l2, e2, _⟩ := List.lookup_eq_some_iff.mp hb
      rw [e2]; simp
    obtain ⟨q1, q2⟩ := hcs y b hm
    exact ⟨ad, _, d, c, cv, b, rfl, h1, h2, q1, hcv, q2, (h.po B1).val (.bl _)⟩
  | _ => cases hz
theorem zip_lookup {fs : List Str} {vs : List V} {f : Str} {v : V} {i : Nat} (h : fs[i]? = some f) (nd : fs.Nodup) (hv : vs[i]? = some v) : ((fs.zip vs).reverse).lookup f = some v := by
  have hz : (fs.zip vs)[i]? = some (f, v) := by rw [List.getElem?_zip_eq_some]; exact ⟨h, hv⟩
  obtain ⟨hi, hg⟩ := List.getElem?_eq_some_iff.mp hz
  rw [List.lookup_eq_some_iff]
  refine ⟨((fs.zip vs).drop (i + 1)).reverse, ((fs.zip vs).take i).reverse, ?_, ?_⟩
  · have e : fs.zip vs = (fs.zip vs).take i ++ (f, v) :: (fs.zip vs).drop (i + 1) := by
      rw [← hg, ← List.drop_eq_getElem_cons hi, List.take_append_drop]
    conv => lhs; rw [e]
    simp
  · intro p hp
    rw [List.mem_reverse] at hp
    obtain ⟨j, hj⟩ := List.mem_iff_getElem?.mp hp
    rw [List.getElem?_drop] at hj
    have hj' : (fs.zip vs)[i + 1 + j]? = some (p.1, p.2) := hj
    rw [List.getElem?_zip_eq_some] at hj'
    rw [bne_iff_ne]
    intro z
    have q1 := hj'.1
    rw [← z] at q1
    obtain ⟨b1, c1⟩ := List.getElem?_eq_some_iff.mp h
    obtain ⟨b2, c2⟩ := List.getElem?_eq_some_iff.mp q1
    have := (List.getElem_inj nd (h₀ := b1) (h₁ := b2)).mp (c1.trans c2.symm)
    omega
theorem kitAny_of {K : PySem.W.Frag} {t : Value} {ans : List (Str × Bool)} {g : Str → Value} (h : ∀ n b, (n, b) ∈ ans → PySem.W.kitOne K t (g n) = some b) : ∀ {ns : List Str}, (ns.all fun n => (ans.lookup n).isSome) = true → PySem.W.kitAny K t (ns.map g) = some (ns.any fun n => ans.lookup n == some true)
  | [], _ => rfl
  | n :: ns, hn => by
    rw [List.all_cons, Bool.and_eq_true] at hn
    have ih := kitAny_of h hn.2
    obtain ⟨b, hb⟩ := Option.isSome_iff_exists.mp hn.1
    have hm : (n, b) ∈ ans := by
      obtain ⟨l1, l2, e2, _⟩ := List.lookup_eq_some_iff.mp hb
      rw [e2]; simp
    rw [List.map_cons, PySem.W.kitAny, h n b hm, List.any_cons, hb]
    cases b with
    | true => rfl
    | false => rw [ih]; rfl
/-- the names of classes -/
def chkNs (glb : Str → Bool) : List Str → List Expr → Bool
  | [], es => es.isEmpty
  | n :: ns, es => match es with
    | .Name x _ :: es => x == n && glb x && chkNs glb ns es
    | _ => false
def tCs (vs : List V) : TA := fun _ H Q => Q vs H
theorem pa_ns {glb : Str → Bool} {g : Str → Addr} (hg : ∀ n, glb n = true → Gl X n ∧ (n == ("__debug__" : Str)) = false) : ∀ {ns : List Str} {es : List Expr}, (∀ n, n ∈ ns → X.mg n = some (.ref (g n))) → chkNs glb ns es = true → PA X es (tCs (ns.map fun n => V.ref (g n)))
  | [], es, _, h => by
    unfold chkNs at h
    cases es with
    | nil => exact pa_nil
    | cons _ _ => cases h
  | n :: ns, es, hm, h => by
    unfold chkNs at h
    split at h
    · simp only [Bool.and_eq_true, beq_iff_eq] at h
      obtain ⟨⟨rfl, h2⟩, h3⟩ := h
      obtain ⟨g1, g2⟩ := hg _ h2
      exact pa_cons (pe_glob (v := V.ref (g _)) g1 (hm _ (by simp)) rfl g2) (pa_ns hg (fun m hm' => hm m (List.mem_cons_of_mem _ hm')) h3) rfl
    · cases h
theorem s_xisT {a : Expr} {ca : CE} {ka k x1 : Nat} {p pt : Pos} {es : List Expr} {ns : List Str} {tp : Bool} {cs : List (Str × Bool)} (hg : Gl X "isinstance") (hm : X.mg "isinstance" = none) (hx : PA X es (tCs (ns.map fun n => V.ref (He.ga X.K n)))) (hl : ns.length ≤ 1000) (hcs : ∀ y b, (y, b) ∈ cs → XcK X.K (He.ga X.K y) ∧ PySem.W.kitAny X.K (.ref (He.ga X.K y)) (ns.map fun n => Value.ref (He.ga X.K n)) = some b)
    (ha : PE X a (tX X.K E EW ka (evE Φ ca))) (hs : starEach [a, .Tuple es x1 pt] X.env = (false, eval a X.env) :: starEach [.Tuple es x1 pt] X.env) :
    PE X (.Call (.Name "isinstance" p) [a, .Tuple es x1 pt] [] pos) (tX X.K E EW k (evE Φ (.xis ca ns tp cs))) := by
  refine (pe_callB call_isT hg hm boot_isinstance (pa_cons ha (pa_cons (pe_tup hx) pa_nil rfl) hs) (by decide) (by decide) hs rfl).imp fun σ H Q h => ?_
  obtain ⟨F, μ, S, ρ, B, h⟩ := h
  simp only [evE] at h
  refine tX.bind PE1.tr B h fun d S1 v H1 μ1 x1 g1 B1 r1 h => ?_
  obtain ⟨z, hz, h⟩ := Fin.ofO (show Fin X.K E EW F σ ρ _ μ1 H1 (ofO (xisD cs d) S1) from h)
  cases d with
  | exn y fs ds =>
    obtain ⟨b, hb, rfl⟩ := Option.map_eq_some_iff.mp hz
    obtain ⟨ad, d, vs, rfl, h1, h2, _, _⟩ := rp_exn r1.1
    have hm : (y, b) ∈ cs := by
      obtain ⟨l1, l2, e2, _⟩ := List.lookup_eq_some_iff.mp hb
      rw [e2]; simp
    obtain ⟨q1, q2⟩ := hcs y b hm
    refine ⟨by rw [List.length_map, sizeLine_eq]; omega, fun tpa na => ?_⟩
    have sm : Same H1 (upd H1 tpa (.tup (ns.map fun n => V.ref (He.ga X.K n)))) := same_new na
    refine ⟨ad, _, tpa, d, ns.map fun n => He.ga X.K n, b, rfl, sm _ _ h1, fun dd e => ?_, q1, ?_, by rw [List.map_map]; exact q2, ?_⟩
    · obtain ⟨fs', z⟩ := h2 dd e
      exact ⟨fs', sm _ _ z⟩
    · rw [List.map_map]
      exact .inl (.inl upd_same)
    · exact h (.bl b) _ μ1 (.of_same sm) .refl (B1.same sm) ⟨.bl b, fun _ => ⟨.triv (by intro _ z; cases z), fun _ _ z => nomatch z⟩⟩
  | _ => cases hz
theorem s_xfl {e : Expr} {ca : CE} {ka k : Nat} {f : Str} {cs : List (Str × Nat)} (hk : k < 2) (hcs : ∀ y i, (y, i) ∈ cs → XcK X.K (He.ga X.K y) ∧ PySem.W.findIn X.K (.ref (He.ga X.K y)) f = some none) (he : PE X e (tX X.K E EW ka (evE Φ ca))) (hb : attributeBase e f X.env (eval e X.env) = eval e X.env) :
    PE X (.Attribute e f pos) (tX X.K E EW k (evE Φ (.xfl ca f cs))) := by
  refine (pe_xfl he hb).imp fun σ H Q h => ?_
  obtain ⟨F, μ, S, ρ, B, h⟩ := h
  simp only [evE] at h
  refine tX.bind PE1.tr B h fun d S1 v H1 μ1 x1 g1 B1 r1 h => ?_
  obtain ⟨z, hz, hq⟩ := Fin.ofO (show Fin X.K E EW F σ ρ (PE1 X.K F σ ρ k Q) μ1 H1 (ofO (xflD f cs d) S1) from h)
  clear h
  cases d with
  | exn y fs ds =>
    unfold xflD at hz
    dsimp only at hz
    split at hz
    · rename_i i hi
      split at hz
      · rename_i hc
        obtain ⟨ad, d, vs, rfl, h1, h2, h3, h4⟩ := rp_exn r1.1
        have hm : (y, i) ∈ cs := by
          obtain ⟨l1, l2, e2, _⟩ := List.lookup_eq_some_iff.mp hi
          rw [e2]; simp
        obtain ⟨q1, q2⟩ := hcs y i hm
        obtain ⟨vi, hv, rv⟩ := h4.get hz
        have hne : fs ≠ [] := fun z => by rw [z] at hc; simp at hc
        rcases h3 with ⟨z, _⟩ | ⟨dd, e1, e2⟩
        · exact absurd z hne
        · subst e1
          refine ⟨ad, _, dd, _, vi, rfl, h1, q1.xf, q2, e2, ?_, hq.rp B1 hk rv⟩
          exact zip_lookup hc.1 hc.2 hv
      · cases hz
    · cases hz
  | _ => cases hz
end
end RH

set_option Elab.async false
set_option linter.all false
set_option maxRecDepth 100000
set_option maxHeartbeats 4000000
/-! RFRpl: f().replace(y, z), f a def that hands back a written text: a token is out behind its call. -/
namespace RH
open PySem PySem.Spec PyProof.Rows L2
/-- a def without parameters that hands back a written text -/
def FnTk (P : Program) (w : World) (K : PySem.W.Frag) (mg : Str → Option Value) (base : Heap) (k : Nat) (f : Addr) (fd : FuncData) (c : Str) : Prop :=
  ∀ (A : Around) (outer : List Env) (s : Shared) (H : Hp) (args : Args), Room k A → Env0 P w K mg base A outer s H → BindsTo s fd args [] →
    codeAny (model P w) A (.call (.ref f) args) (fun r s' => ∃ u, r = .ok (.ret u) ∧ L2.CE outer P w H s (fun v H' => v = .str c ∧ H' = H) u s' ∧ 1 ≤ s'.toks) s
section
variable {P : Program} {w : World} {K : PySem.W.Frag} {mg : Str → Option Value} {base : Heap}
theorem fntk_of {x qual : Str} {params : Arguments} {body : List Stmt} {scope : Scope} {f : Addr} {fd : FuncData} {N : List Str} {k j : Nat} {c : Str} {cp rp : Pos} (F : FunD K x qual params body scope [] [] f fd) (S : FnScope N [] scope) (hb : body = [.Return (some (.Constant (.str c) j cp)) rp]) :
    FnTk P w K mg base (k + 1) f fd c := by
  obtain ⟨oc, od, dV, kV, doc, pm, an, cdv, ct, osl, rfl, lk, hcd, _, _⟩ := F.ex
  intro A outer s H args hr e0 hbd
  have KX : K.In s.heap := e0.mod.kin.keeps fun b o e => (e0.bs b o e).1
  have lim : s.heap.NoLimit := e0.mod.nolimit.keeps fun b o e => (e0.bs b o e).1
  refine codeAny_call_function hr.depth (KX _ _ lk) rfl S.co S.gen rfl (PySem.W.codeRec_of KX hcd) (hbd _ _ _ _ ?_)
  refine wpAny_newFunctionEnv_cells S.kind (fun y hy => by cases hy) fun env he s1 x => ?_
  subst he
  refine ⟨lim.keeps x.toInCall.keep, codeAny_func ?_⟩
  have I : Inv (cxOf (L2.CX P w) P w K mg base N qual scope f cdv A outer s H (fun _ _ _ => False)) [] (start N []) H s1 := inv_start (us := []) (vs := []) S hr.hd e0 rfl .nil x
  rw [hb]
  refine wpAny_execs_cons (wpAny_Return_some (Calls.Constant_str ?_))
  have J := I.tok (s1.toks + 1)
  exact ⟨_, rfl, ⟨.str c, H, J.os, J.bare, J.base, J.hok, ⟨_, rfl⟩, rfl, rfl⟩, by show 1 ≤ s1.toks + 1; omega⟩
end
/-- e is the text c, and a token is out behind it -/
def PKt (X : Cx) (e : Expr) (c : Str) : Prop := ∀ (pins : List (Addr × Obj)) (s : Shared) (σ : L2.St) (H : Hp), Inv X pins σ H s → wpAny (model X.prog X.w) X.A (eval e X.env) (fun u s1 => Inv X pins σ H s1 ∧ RelV (.str c) u ∧ 1 ≤ s1.toks) X.xe s
section
variable {X : Cx}
theorem pkt_call {k : Nat} {f : Addr} {fd : FuncData} {x c : Str} {p pos : Pos} (F : FnTk X.prog X.w X.K X.mg X.base k f fd c) (hr : Room k X.A) (hg : Gl X x) (hm : X.mg x = some (.ref f)) (hk : PySem.W.keepIn X.K (.ref f) = true) (hb : Binds X.K fd [] []) (hdb : (x == ("__debug__" : Str)) = false) : PKt X (.Call (.Name x p) [] [] pos) c := by
  intro pins s σ H I
  refine wpAny_Call_Name_kw (ld_glob I hg hm ?_ hdb)
  refine PySem.W.callWith_K0 I.kIn hk (wpAny_call (codeAny_mono (F X.A X.stack s H ⟨[], []⟩ hr I.env0 (hb s [] I.kIn rfl)) fun r s' hq => ?_))
  obtain ⟨u, rfl, hc, ht⟩ := hq
  obtain ⟨v, H', I', rv, rfl, rfl⟩ := I.after hc
  exact ⟨I', rv, ht⟩
theorem pkt_repl {e : Expr} {c y z : Str} {j0 j1 : Nat} {c0 c1 apos pos : Pos} (he : PKt X e c) (hyz : (y == z) = false) (hb : c.length + (c.length + 1) * z.length ≤ 16777216) (hbase : attributeBase e "replace" X.env (eval e X.env) = eval e X.env) (hline : (apos.endLine == pos.line) = true) :
    PKt X (.Call (.Attribute e "replace" apos) [.Constant (.str y) j0 c0, .Constant (.str z) j1 c1] [] pos) (Txt.replace c y z) := by
  intro pins s σ H I
  refine PySem.Call_method2 hbase rfl hline (wpAny_mono (he pins s σ H I) (fun v s1 q => ?_) fun _ _ z => z)
  obtain ⟨I1, ⟨tx, e⟩, ht⟩ := q
  subst e
  refine ⟨"str", _, F.plainAttrs_str, F.slot_str_replace, F.type_str_replace, typeIs_str _ _ _, (fun _ e => nomatch e), Calls.callWith_builtin rfl (Calls.evalArgs_plain (Calls.spliced_cons (Calls.Constant_str ?_)))⟩
  refine Calls.spliced_cons (Calls.Constant_str (Calls.spliced_nil ?_))
  have h0 : s1.toks ≠ 0 := by omega
  refine PySem.wpAny_mono (PySem.wpAny_toks_of (n := 1) (show 1 ≤ s1.toks + 1 + 1 by omega) (PySem.SC.replace (Q := fun u s2 => Inv X pins σ H s2 ∧ RelV (.str (Txt.replace c y z)) u) h0 (show s1.toks + 1 ≠ 0 by omega) (show s1.toks ≠ s1.toks + 1 by omega) hyz hb fun t' k => ⟨I1.tok k, ⟨t', rfl⟩⟩)) (fun u s2 q => ⟨q.2.1, q.2.2, q.1⟩) fun _ _ z => z.2
theorem pe_pkt {e : Expr} {c : Str} (h : PKt X e c) : PE X e (tC (.str c)) := ⟨fun pins s σ H Q I q => wpAny_mono (h pins s σ H I) (fun u s1 z => ⟨.str c, H, z.1, z.2.1, q⟩) fun _ _ z => z⟩
end
end RH

set_option Elab.async false
set_option linter.all false
set_option maxRecDepth 100000
/-! RHChk: code held against the syntax, by a Bool; what is so held is sound. -/
namespace RH
open PySem PySem.Spec PyProof.Rows L2
/-- a method: its number, its class's place, its own in that, class, name, qualified name, how many parameters, defaults -/
structure Md where
  id : Nat
  at_ : Nat
  im : Nat
  c : Str
  m : Str
  qual : Str
  np : Nat
  dfl : List D
structure Tab where
  fns : List (Nat × Str)
  glb : List (Str × D)
  free : List Str
  exc : List (Str × Nat)
  tps : List (Str × List D) := []
  /-- an error is being handled -/
  hot : Bool := false
  /-- errors' classes: fields, and for names of classes whether an error is one -/
  xt : List (Str × List Str × List (Str × Bool)) := []
  /-- defs that hand back a written text -/
  cst : List (Str × Str) := []
  /-- classes: fields -/
  cls : List (Str × List Str) := []
  /-- methods -/
  md : List Md := []
/-- methods: class, name, def -/
def Tab.mts (T : Tab) : List (Str × Str × Nat) := (T.md.filter fun m => !(m.m == ("__init__" : Str))).map fun m => (m.c, m.m, m.id)
/-- making: class, __init__, how many arguments are written, defaults -/
def Tab.mks (T : Tab) : List (Str × Nat × Nat × List D) := (T.md.filter fun m => m.m == ("__init__" : Str)).flatMap fun m => (List.range (m.dfl.length + 1)).map fun j => (m.c, m.id, m.np - 1 - (m.dfl.length - j), m.dfl.drop j)
def Tab.hotT (T : Tab) : Tab := { T with fns := [], exc := [], hot := true, md := [] }
def notStar : Expr → Bool
  | .Starred .. => false
  | _ => true
def notComp : Expr → Bool
  | .ListComp .. => false
  | .SetComp .. => false
  | .DictComp .. => false
  | _ => true
def notSet : Expr → Bool
  | .Set .. => false
  | _ => true
def notSlice : Expr → Bool
  | .Slice .. => false
  | _ => true
def notTup : Expr → Bool
  | .Tuple .. => false
  | _ => true
def notTest : Expr → Bool
  | .UnaryOp .Not _ _ => false
  | .BoolOp .. => false
  | .IfExp .. => false
  | .Compare .. => false
  | _ => true
/-- no test of its own -/
def notTst : Expr → Bool
  | .UnaryOp .Not _ _ => false
  | .BoolOp .. => false
  | .IfExp .. => false
  | .Compare .. => false
  | _ => true
def noSup : Expr → Bool
  | .Call (.Name x _) [] [] _ => !(x == ("super" : Str))
  | _ => true
def visB (sc : Scope) (x : Str) : Bool := match sc.names.lookup x with
  | some .local => true
  | some .cell => true
  | some .free => true
  | _ => false
def locB (sc : Scope) (x : Str) : Bool := match sc.names.lookup x with
  | some .local => true
  | some .cell => true
  | _ => false
def lclB (sc : Scope) (x : Str) : Bool := match sc.names.lookup x with
  | some .local => true
  | _ => false
def glB (sc : Scope) (x : Str) : Bool := match sc.names.lookup x with
  | some .globalImplicit => true
  | _ => false
def okN (x : Str) : Bool := !(x == ("__debug__" : Str)) && !(x == ("__classdict__" : Str)) && !(x == ("__name__" : Str))
def varB (N : List Str) (sc : Scope) (i : Nat) (x : Str) : Bool := decide (N[i]? = some x) && visB sc x && okN x
def litB : D → Const → Bool
  | .int i, .int j => i == j
  | .bl b, .bool c => b == c
  | .non, .none => true
  | .str l, .str x => x.cps.toList == l && ascB l
  | _, _ => false
mutual
def sameD : D → D → Bool
  | .non, .non => true
  | .bl a, .bl b => a == b
  | .int a, .int b => a == b
  | .str a, .str b => a == b
  | .tup a, .tup b => sameDs a b
  | .lst a, .lst b => sameDs a b
  | _, _ => false
def sameDs : List D → List D → Bool
  | [], [] => true
  | a :: as, b :: bs => sameD a b && sameDs as bs
  | _, _ => false
end
mutual
theorem sameD_eq : ∀ {a b : D}, sameD a b = true → a = b
  | .non, b, h => by cases b <;> first | rfl | (simp [sameD] at h)
  | .bl _, b, h => by cases b <;> first | (simp [sameD] at h; done) | (simp [sameD] at h; rw [h])
  | .int _, b, h => by cases b <;> first | (simp [sameD] at h; done) | (simp [sameD] at h; rw [h])
  | .str _, b, h => by cases b <;> first | (simp [sameD] at h; done) | (simp [sameD] at h; rw [h])
  | .tup a, b, h => by cases b <;> first | (simp [sameD] at h; done) | (simp only [sameD] at h; rw [sameDs_eq h])
  | .lst a, b, h => by cases b <;> first | (simp [sameD] at h; done) | (simp only [sameD] at h; rw [sameDs_eq h])
  | .ptr _, b, h => by simp [sameD] at h
  | .scr _, b, h => by simp [sameD] at h
  | .exn _ _ _, b, h => by simp [sameD] at h
theorem sameDs_eq : ∀ {a b : List D}, sameDs a b = true → a = b
  | [], b, h => by cases b <;> first | rfl | (simp [sameDs] at h)
  | a :: as, b, h => by
    cases b with
    | nil => simp [sameDs] at h
    | cons b bs =>
      simp only [sameDs, Bool.and_eq_true] at h
      rw [sameD_eq h.1, sameDs_eq h.2]
end
def Bi.name : Bi → Str
  | .len => "len" | .lst => "list" | .tup => "tuple" | .min => "min" | .max => "max" | .str => "str" | .int => "int" | .all => "all" | .any => "any" | .sum => "sum" | .rng => "range"
def Wc.name : Wc → Str
  | .r1 => "range" | .r2 => "range" | .r3 => "range" | .enum => "enumerate" | .zip => "zip" | .rev => "reversed"
def Wc.args : Wc → Nat
  | .r1 => 1 | .r2 => 2 | .r3 => 3 | .enum => 1 | .zip => 2 | .rev => 1
def Wc.pair : Wc → Bool
  | .enum => true | .zip => true | _ => false
def bltB (T : Tab) (sc : Scope) (x : Str) : Bool := glB sc x && T.free.contains x && okN x
/-- f().replace(..).. : its text -/
def rplT (T : Tab) (sc : Scope) : Nat → Expr → Option Str
  | 0, _ => none
  | n + 1, e => match e with
    | .Call (.Name x _) [] [] _ => if glB sc x && okN x then T.cst.lookup x else none
    | .Call (.Attribute e m ap) [.Constant (.str y) _ _, .Constant (.str z) _ _] [] p => match rplT T sc n e with
      | some c => if decide (m = "replace") && ap.endLine == p.line && noSup e && !(y == z) && decide (c.length + (c.length + 1) * z.length ≤ 16777216) then some (Txt.replace c y z) else none
      | none => none
    | _ => none
/-- isinstance of an error: the classes, held against the table -/
def xisB (T : Tab) (g : Str → Bool) (ns : List Str) (tp : Bool) (cs : List (Str × Bool)) (z : Expr) : Bool :=
  !cs.isEmpty && (if tp then (match z with
    | .Tuple es _ _ => chkNs g ns es && decide (ns.length ≤ 1000) && ns.all (fun n => !(n == "ValueError")) && cs.all (fun q => T.xt.any fun w => w.1 == q.1 && (ns.all fun n => (w.2.2.lookup n).isSome) && (q.2 == ns.any fun n => w.2.2.lookup n == some true))
    | _ => false) else (match ns, z with
    | [n], .Name w _ => w == n && g n && cs.all (fun q => T.xt.any fun w => w.1 == q.1 && w.2.2.lookup n == some q.2)
    | _, _ => false))
mutual
def tOk : CE → Bool
  | .ife _ _ _ => false
  | .nt a => tOk a
  | .bop _ l => tOks l
  | _ => true
def tOks : CL → Bool
  | .nil => true
  | .cons a r => tOk a && tOks r
end
mutual
def chkG (N : List Str) (sc : Scope) (fn : Str → Bool) : Tg → Expr → Bool
  | .name i, e => match e with
    | .Name x _ => decide (N[i]? = some x) && locB sc x && (lclB sc x || fn x)
    | _ => false
  | .tup l, e => match e with
    | .Tuple es _ _ => chkGs N sc fn l es
    | _ => false
def chkGs (N : List Str) (sc : Scope) (fn : Str → Bool) : Tgs → List Expr → Bool
  | .nil, es => es.isEmpty
  | .cons t r, es => match es with
    | e :: es => notStar e && chkG N sc fn t e && chkGs N sc fn r es
    | [] => false
end
mutual
def chkE (T : Tab) (Φ : Nat → Fn) (N : List Str) : CE → Scope → Expr → Bool
  | .var i, sc, e => match e with
    | .Name x _ => varB N sc i x
    | _ => false
  | .lit d, _, e => match e with
    | .Constant c _ _ => litB d c
    | _ => false
  | .glb j d, sc, e => match e with
    | .Name x _ => glB sc x && okN x && T.glb.any (fun p => p.1 == x && sameD p.2 d)
    | _ => false
  | .bin o a b, sc, e => match e with
    | .BinOp x p y _ => decide (p = o.op) && chkE T Φ N a sc x && chkE T Φ N b sc y
    | _ => false
  | .neg a, sc, e => match e with
    | .UnaryOp .USub x _ => chkE T Φ N a sc x
    | _ => false
  | .cmp o a b, sc, e => match e with
    | .Compare x [p] [y] _ => decide (p = o.op) && notSet y && chkE T Φ N a sc x && chkE T Φ N b sc y
    | _ => false
  | .chn o o' a b c, sc, e => match e with
    | .Compare x [p, p'] [y, z] _ => decide (p = o.op) && decide (p' = o'.op) && notSet z && chkE T Φ N a sc x && chkE T Φ N b sc y && chkE T Φ N c sc z
    | _ => false
  | .bop n l, sc, e => match e with
    | .BoolOp op vs _ => decide (op = bopOf n) && chkL T Φ N l sc vs && !vs.isEmpty
    | _ => false
  | .nt a, sc, e => match e with
    | .UnaryOp .Not x _ => chkE T Φ N a sc x
    | _ => false
  | .ife c a b, sc, e => match e with
    | .IfExp z x y _ => tOk c && chkE T Φ N c sc z && chkE T Φ N a sc x && chkE T Φ N b sc y
    | _ => false
  | .tup l, sc, e => match e with
    | .Tuple es _ _ => chkL T Φ N l sc es
    | _ => false
  | .lst l, sc, e => match e with
    | .List es _ => chkL T Φ N l sc es
    | _ => false
  | .idx a b, sc, e => match e with
    | .Subscript x y _ => notSlice y && chkE T Φ N a sc x && chkE T Φ N b sc y
    | _ => false
  | .slc a lo hi, sc, e => match e with
    | .Subscript x (.Slice l h none _) _ => chkE T Φ N a sc x && chkO T Φ N lo sc l && chkO T Φ N hi sc h
    | _ => false
  | .call f l, sc, e => match e with
    | .Call (.Name x _) es [] _ => !T.hot && T.fns.contains (f, x) && glB sc x && okN x && chkL T Φ N l sc es
    | _ => false
  | .bi b l, sc, e => match e with
    | .Call (.Name x _) (y :: es) [] _ => !T.hot && decide (x = b.name) && bltB T sc x && chkL T Φ N l sc (y :: es)
    | _ => false
  | .m0 m o, sc, e => match e with
    | .Call (.Attribute x n ap) [] [] p => decide (n = m.name) && ap.endLine == p.line && noSup x && chkE T Φ N o sc x
    | _ => false
  | .m1 m o a, sc, e => match e with
    | .Call (.Attribute x n ap) [y] [] p => decide (n = m.name) && ap.endLine == p.line && noSup x && notStar y && chkE T Φ N o sc x && chkE T Φ N a sc y
    | _ => false
  | .isi t a, sc, e => match e with
    | .Call (.Name x _) [y, .Name z _] [] _ => decide (x = "isinstance") && decide (z = (t.name : Str)) && bltB T sc x && bltB T sc z && notStar y && chkE T Φ N a sc y
    | _ => false
  | .pop0 o, sc, e => match e with
    | .Call (.Attribute x n ap) [] [] cp => decide (n = "pop") && ap.endLine == cp.line && noSup x && chkE T Φ N o sc x
    | _ => false
  | .pop1 o a, sc, e => match e with
    | .Call (.Attribute x n ap) [y] [] cp => decide (n = "pop") && ap.endLine == cp.line && noSup x && notStar y && chkE T Φ N o sc x && chkE T Φ N a sc y
    | _ => false
  | .new a, sc, e => decide (2 ≤ kE Φ a) && notTst e && chkE T Φ N a sc e
  | .inG n a ds, sc, e => match e with
    | .Compare x [p] [.Name y _] _ => decide (p = if n then CmpOp.NotIn else .In) && chkE T Φ N a sc x && glB sc y && okN y && ds.all flatD && T.tps.any (fun q => q.1 == y && sameD (.tup q.2) (.tup ds))
    | _ => false
  | .lrg l, sc, e => match e with
    | .Call (.Name x _) [.Call (.Name y _) es [] _] [] _ => !T.hot && decide (x = "list") && decide (y = "range") && bltB T sc x && bltB T sc y && decide (es.length = 1 ∨ es.length = 2) && chkL T Φ N l sc es
    | _ => false
  | .lix o a, sc, e => match e with
    | .Call (.Attribute x n ap) [y] [] p => decide (n = "index") && ap.endLine == p.line && noSup x && notStar y && chkE T Φ N o sc x && chkE T Φ N a sc y
    | _ => false
  | .ddpV i, sc, e => match e with
    | .Dict [some (.Name x _)] [.Constant (.bool b) _ _] _ => b && varB N sc i x
    | _ => false
  | .ddpI n, _, e => match e with
    | .Dict [some (.Constant (.int m) _ _)] [.Constant (.bool b) _ _] _ => b && decide (m = n)
    | _ => false
  | .dnew _, _, e => match e with
    | .Dict [] [] _ => true
    | _ => false
  | .didx d k, sc, e => match e with
    | .Subscript x y _ => notSlice y && chkE T Φ N d sc x && chkE T Φ N k sc y
    | _ => false
  | .din n k d, sc, e => match e with
    | .Compare x [p] [y] _ => decide (p = if n then CmpOp.NotIn else .In) && notSet y && chkE T Φ N k sc x && chkE T Φ N d sc y
    | _ => false
  | .dget d k z, sc, e => match e with
    | .Call (.Attribute x n ap) [y, w] [] p => decide (n = "get") && ap.endLine == p.line && noSup x && notStar y && notStar w && chkE T Φ N d sc x && chkE T Φ N k sc y && chkE T Φ N z sc w
    | _ => false
  | .dlen d, sc, e => match e with
    | .Call (.Name x _) [y] [] _ => decide (x = "len") && bltB T sc x && notStar y && chkE T Φ N d sc y
    | _ => false
  | .dpop _ _, _, _ => false
  | .cst d, sc, e => !T.hot && notTst e && (match rplT T sc 20 e, d with
    | some x, .str l => x.cps.toList == l && ascB l
    | _, _ => false)
  | .xis a ns tp cs, sc, e => match e with
    | .Call (.Name x _) [y, z] [] _ => decide (x = "isinstance") && bltB T sc x && notStar y && chkE T Φ N a sc y && xisB T (fun n => glB sc n && okN n) ns tp cs z
    | _ => false
  | .xfl a f cs, sc, e => match e with
    | .Attribute x n _ => decide (n = f) && noSup x && chkE T Φ N a sc x && cs.all (fun q => T.xt.any fun w => w.1 == q.1 && w.2.1.contains f)
    | _ => false
  | .fld o f cs, sc, e => match e with
    | .Attribute x n _ => decide (n = f) && noSup x && chkE T Φ N o sc x && cs.all (fun c => T.cls.any fun w => w.1 == c && w.2.contains f)
    | _ => false
  | .mcl o c m fn l, sc, e => match e with
    | .Call (.Attribute x n ap) es [] cp => !T.hot && decide (n = m) && ap.endLine == cp.line && noSup x && T.mts.contains (c, m, fn) && decide (es.length ≤ 5) && chkE T Φ N o sc x && chkL T Φ N l sc es
    | _ => false
  | .mkI c fn l df, sc, e => match e with
    | .Call (.Name x _) es [] _ => !T.hot && decide (x = c) && glB sc x && okN x && !es.isEmpty && T.mks.any (fun w => w.1 == c && w.2.1 == fn && w.2.2.1 == es.length && sameD (.tup w.2.2.2) (.tup df)) && chkL T Φ N l sc es
    | _ => false
  | .isc _ _, _, _ => false
  | .srt a, sc, e => match e with
    | .Call (.Name x _) [y] [] _ => !T.hot && decide (x = "sorted") && bltB T sc x && notStar y && chkE T Φ N a sc y
    | _ => false
  | .dof _ a, sc, e => match e with
    | .Call (.Name x _) [y] [] _ => !T.hot && decide (x = "dict") && bltB T sc x && notStar y && chkE T Φ N a sc y
    | _ => false
  | .ddpT, _, e => match e with
    | .Dict [some (.Tuple [] _ _)] [.Constant (.bool b) _ _] _ => b
    | _ => false
  | .compK _ _ _ _ _, _, _ => false
  | .comp own elt t it c, sc, e => match e with
    | .ListComp x [⟨tg, iter, ifs, 0⟩] scope _ => !T.hot && blkC N sc scope own && chkG N (relS scope sc) (fun z => scope.names.lookup z == some .cell) t tg && (tgs t).all (fun i => (own.map (·.2)).contains i) &&
        chkI T Φ N it sc tg iter && chkC T Φ N c (relS scope sc) ifs && chkE T Φ N elt (relS scope sc) x && notSet iter
    | _ => false
def chkL (T : Tab) (Φ : Nat → Fn) (N : List Str) : CL → Scope → List Expr → Bool
  | .nil, _, es => es.isEmpty
  | .cons a r, sc, es => match es with
    | e :: es => notStar e && chkE T Φ N a sc e && chkL T Φ N r sc es
    | [] => false
def chkO (T : Tab) (Φ : Nat → Fn) (N : List Str) : CO → Scope → Option Expr → Bool
  | .no, _, e => e.isNone
  | .yes a, sc, e => match e with
    | some x => chkE T Φ N a sc x
    | none => false
/-- a comprehension's tests -/
def chkC (T : Tab) (Φ : Nat → Fn) (N : List Str) : CO → Scope → List Expr → Bool
  | .no, _, es => es.isEmpty
  | .yes a, sc, es => match es with
    | [x] => tOk a && chkE T Φ N a sc x
    | _ => false
def chkI (T : Tab) (Φ : Nat → Fn) (N : List Str) : CI → Scope → Expr → Expr → Bool
  | .seq a, sc, _, e => chkE T Φ N a sc e
  | .wlk w l, sc, tg, e => match e with
    | .Call (.Name x _) es [] _ => decide (x = w.name) && bltB T sc x && decide (es.length = w.args) && (!w.pair || !(notTup tg)) && chkL T Φ N l sc es
    | _ => false
end
/-! ### facts of the syntax -/
theorem starEach_cons {e : Expr} {es : List Expr} {env : Env} (h : notStar e = true) : starEach (e :: es) env = (false, eval e env) :: starEach es env := by cases e <;> first | rfl | (simp [notStar] at h)
theorem assignEach_cons {e : Expr} {es : List Expr} {env : Env} (h : notStar e = true) : assignEach (e :: es) env = (false, assign e env) :: assignEach es env := by cases e <;> first | rfl | (simp [notStar] at h)
theorem folded_ok {e : Expr} {env : Env} (h : notSet e = true) : ∀ x, foldedSetIterable e env x = pure x := by intro x; cases e <;> first | rfl | (simp [notSet] at h)
theorem marks_ok {e : Expr} {op : CmpOp} (h : notSet e = true) : behindInMarks op e = false := by cases e <;> first | rfl | (simp [notSet] at h)
theorem plainIx_ok {e : Expr} (h : notSlice e = true) : PlainIx e := by intro o i; cases e <;> first | rfl | (simp [notSlice] at h)
theorem noSl_ok {e : Expr} (h : notSlice e = true) : NoSl e := by intro o i; cases e <;> first | rfl | (simp [notSlice] at h)
theorem swaps_ok {e : Expr} {t : Option Expr} {l : Nat} {env : Env} (h : notComp e = true) : swapsWith e t l env = pure false := by cases e <;> first | rfl | (simp [notComp] at h)
theorem base_ok {e : Expr} {n : Str} {env : Env} {m : Sem Value} (h : noSup e = true) : attributeBase e n env m = m := by
  cases e <;> first | rfl | skip
  rename_i f args kws pos
  cases f <;> first | rfl | skip
  cases args <;> first | rfl | skip
  cases kws <;> first | rfl | skip
  rename_i x p
  simp only [noSup, Bool.not_eq_true'] at h
  have h' : (x != ("super" : Str)) = true := by rw [bne, h]; rfl
  simp only [attributeBase, h', Bool.true_or, if_true]
theorem test_ok {e : Expr} {env : Env} (h : notTest e = true) : ∀ whole, isTrue e env whole = (do let v ← whole; standAt e.pos; holding [v] (truthy v)) := by
  intro w
  cases e <;> first | rfl | (simp [notTest] at h; done) | skip
  rename_i op a p
  cases op <;> first | rfl | (simp [notTest] at h)
theorem vis_of {sc : Scope} {x : Str} (h : visB sc x = true) : Vis sc x := by
  unfold visB at h
  split at h <;> first | (cases h; done) | (first | exact .inl (by assumption) | exact .inr (.inl (by assumption)) | exact .inr (.inr (by assumption)))
theorem loc_of {sc : Scope} {x : Str} (h : locB sc x = true) : Loc sc x := by
  unfold locB at h
  split at h <;> first | (cases h; done) | (first | exact .inl (by assumption) | exact .inr (by assumption))
theorem lcl_of {sc : Scope} {x : Str} (h : lclB sc x = true) : sc.names.lookup x = some .local := by
  unfold lclB at h
  split at h <;> first | (cases h; done) | assumption
theorem gl_of {sc : Scope} {x : Str} (h : glB sc x = true) : sc.names.lookup x = some .globalImplicit := by
  unfold glB at h
  split at h <;> first | (cases h; done) | assumption
theorem okN_of {x : Str} (h : okN x = true) : (x == ("__debug__" : Str)) = false ∧ (x == ("__classdict__" : Str)) = false ∧ x ≠ "__name__" := by
  simp only [okN, Bool.and_eq_true, Bool.not_eq_true'] at h
  exact ⟨h.1.1, h.1.2, beq_eq_false_iff_ne.mp h.2⟩
theorem bi_boot : ∀ b : Bi, bootBuiltins b.name = some b.val := by intro b; cases b <;> decide +kernel
theorem chkL_star {T : Tab} {Φ : Nat → Fn} {N : List Str} {sc : Scope} {env : Env} {pos : Pos} : ∀ {l : CL} {es : List Expr}, chkL T Φ N l sc es = true → (backTo pos (starEach es env)).any (·.1) = false
  | .nil, es, h => by
    unfold chkL at h
    cases es with
    | nil => rfl
    | cons _ _ => simp at h
  | .cons a r, es, h => by
    unfold chkL at h
    split at h
    · simp only [Bool.and_eq_true] at h
      rw [starEach_cons h.1.1]
      show (false || (backTo pos (starEach _ env)).any (·.1)) = false
      rw [chkL_star h.2]; rfl
    · cases h
/-! ### the context -/
/-- the class named n, asked of errors of the class named c -/
def AnsOk (K : PySem.W.Frag) (mg : Str → Option Value) (c n : Str) (b : Bool) : Prop := if n = "ValueError" then (mg n = none ∧ PySem.W.kitOne K (.ref (He.ga K c)) (.type "ValueError") = some b) else (mg n = some (.ref (He.ga K n)) ∧ PySem.W.exmOne K (.ref (He.ga K c)) (.ref (He.ga K n)) = some b ∧ PySem.W.kitOne K (.ref (He.ga K c)) (.ref (He.ga K n)) = some b)
structure XtOk (E : XT) (K : PySem.W.Frag) (mg : Str → Option Value) (c : Str) (fs : List Str) (ans : List (Str × Bool)) : Prop where
  k : XcK K (He.ga K c)
  fl : E.fl c = fs
  no : ∀ f, f ∈ fs → PySem.W.findIn K (.ref (He.ga K c)) f = some none
  an : ∀ n b, (n, b) ∈ ans → AnsOk K mg c n b
/-- a method keeps its promise -/
def MtOk (E : XT) (P : Program) (w : World) (K : PySem.W.Frag) (mg : Str → Option Value) (base : Heap) (Φ : Nat → Fn) (k : Nat) (c m : Str) (f : Nat) : Prop :=
  ∃ a fd ps, Cls K (He.ga K c) ∧ Meth K (He.ga K c) m a ∧ L2.Binds K fd ps [] ∧ FnOk P w K mg base (L2.CX P w) k a fd ps (spD E K (Φ f))
/-- a class is made -/
def MkOk (E : XT) (P : Program) (w : World) (K : PySem.W.Frag) (mg : Str → Option Value) (base : Heap) (Φ : Nat → Fn) (k : Nat) (c : Str) (f n : Nat) (df : List D) : Prop :=
  ∃ a fd ps dvs dfs k', k = k' + 1 ∧ mg c = some (.ref (He.ga K c)) ∧ Mk K (He.ga K c) a ∧ L2.Binds K fd ps dfs ∧ Vals dvs dfs ∧ (∀ μ W H, Rps K μ W H df dvs) ∧ FnOk P w K mg base (L2.CX P w) k' a fd ps (spD E K (Φ f))
structure Cn (T : Tab) (Φ : Nat → Fn) (E : XT) (k : Nat) (X : Cx) (EW : WX) : Prop where
  nd : X.N.Nodup
  calm : T.hot = false → X.calm = true
  room : T.hot = false → Room k X.A
  hu : X.A.units + 65 < cLine
  ecl : ∀ c, E.cl c = He.ga X.K c
  xt : ∀ c fs ans, (c, fs, ans) ∈ T.xt → XtOk E X.K X.mg c fs ans
  cst : ∀ x c, (x, c) ∈ T.cst → ∃ f fd, X.mg x = some (.ref f) ∧ PySem.W.keepIn X.K (.ref f) = true ∧ L2.Binds X.K fd [] [] ∧ FnTk X.prog X.w X.K X.mg X.base k f fd c
  tk : Takes X EW
  own : PassesOwn (model X.prog X.w) X.A X.env X.xe
  fns : ∀ f x, (f, x) ∈ T.fns → ∃ a fd ps, X.mg x = some (.ref a) ∧ PySem.W.keepIn X.K (.ref a) = true ∧ L2.Binds X.K fd ps [] ∧ FnOk X.prog X.w X.K X.mg X.base (L2.CX X.prog X.w) k a fd ps (spD E X.K (Φ f))
  glb : ∀ x d, (x, d) ∈ T.glb → ∃ u v, X.mg x = some u ∧ RelV v u ∧ ∀ μ W H, Rp X.K μ W H d v
  free : ∀ x, x ∈ T.free → X.mg x = none
  tps : ∀ x ds, (x, ds) ∈ T.tps → ∃ a vs, X.mg x = some (.ref a) ∧ (∀ H, SqT X.K H a vs) ∧ ∀ μ W H, Rps X.K μ W H ds vs
  cls : ∀ c fs, (c, fs) ∈ T.cls → Cls X.K (He.ga X.K c) ∧ ∀ f, f ∈ fs → NoAttr X.K (He.ga X.K c) f
  mts : ∀ c m f, (c, m, f) ∈ T.mts → MtOk E X.prog X.w X.K X.mg X.base Φ k c m f
  mks : ∀ c f n df, (c, f, n, df) ∈ T.mks → MkOk E X.prog X.w X.K X.mg X.base Φ k c f n df
theorem Cn.blk {T : Tab} {Φ : Nat → Fn} {E : XT} {k : Nat} {X : Cx} {EW : WX} (C : Cn T Φ E k X EW) (s : Shared) (H : Hp) (scope : Scope) (A : Addr) (cl : List (Str × Addr)) (fp : List Addr) : Cn T Φ E k (X.blk s H scope (compEnvC scope cl A X.env) fp) EWF :=
  ⟨C.nd, C.calm, C.room, C.hu, C.ecl, C.xt, C.cst, takes0, PassesOwn.never, C.fns, C.glb, C.free, C.tps, C.cls, C.mts, C.mks⟩
theorem Cn.tr {T : Tab} {Φ : Nat → Fn} {E : XT} {k : Nat} {X : Cx} {EW W : WX} (C : Cn T Φ E k X EW) (pn : List (Addr × Obj)) (xe : Value → Shared → Prop) (tk : Takes (X.tr pn xe) W) (po : PassesOwn (model X.prog X.w) X.A X.env xe) : Cn T Φ E k (X.tr pn xe) W :=
  ⟨C.nd, C.calm, C.room, C.hu, C.ecl, C.xt, C.cst, tk, po, C.fns, C.glb, C.free, C.tps, C.cls, C.mts, C.mks⟩
theorem Cn.suite {T : Tab} {Φ : Nat → Fn} {E : XT} {k : Nat} {X : Cx} {EW : WX} (C : Cn T Φ E k X EW) (a : Addr) (pn : List (Addr × Obj)) : Cn T.hotT Φ E k (X.suite a pn) EWF :=
  ⟨C.nd, (fun z => by cases z), (fun z => by cases z), C.hu, C.ecl, C.xt, C.cst, takes0, PassesOwn.never, (fun _ _ z => by cases z), C.glb, C.free, C.tps, C.cls, (fun c m f z => nomatch (show (c, m, f) ∈ ([] : List (Str × Str × Nat)) from z)), (fun c f n df z => nomatch (show (c, f, n, df) ∈ ([] : List (Str × Nat × Nat × List D)) from z))⟩
theorem any_mem {l : List (Str × List Str × List (Str × Bool))} {p : Str × List Str × List (Str × Bool) → Bool} {c : Str} (h : l.any (fun w => w.1 == c && p w) = true) : ∃ fs ans, (c, fs, ans) ∈ l ∧ p (c, fs, ans) = true := by
  obtain ⟨⟨c', fs, ans⟩, hm, hq⟩ := List.any_eq_true.mp h
  simp only [Bool.and_eq_true, beq_iff_eq] at hq
  obtain ⟨rfl, hq⟩ := hq
  exact ⟨fs, ans, hm, hq⟩
theorem lkp_mem {α : Type} {l : List (Str × α)} {n : Str} {a : α} (h : l.lookup n = some a) : (n, a) ∈ l := by
  obtain ⟨l1, l2, e2, _⟩ := List.lookup_eq_some_iff.mp h
  rw [e2]; simp
theorem rpl_ok {T : Tab} {Φ : Nat → Fn} {E : XT} {k : Nat} {X : Cx} {EW : WX} (C : Cn T Φ E k X EW) (hT : T.hot = false) : ∀ {n : Nat} {e : Expr} {c : Str}, rplT T X.env.scope n e = some c → PKt X e c
  | 0, _, _, h => by cases h
  | n + 1, e, c, h => by
    unfold rplT at h
    split at h
    · split at h
      · rename_i hg
        rw [Bool.and_eq_true] at hg
        obtain ⟨f, fd, m1, m2, m3, m4⟩ := C.cst _ _ (lkp_mem h)
        exact pkt_call m4 (C.room hT) (gl_of hg.1) m1 m2 m3 (okN_of hg.2).1
      · cases h
    · split at h
      · rename_i c' hc
        split at h
        · rename_i hq
          simp only [Bool.and_eq_true, decide_eq_true_eq, Bool.not_eq_true'] at hq
          obtain ⟨⟨⟨⟨rfl, h2⟩, h3⟩, h4⟩, h5⟩ := hq
          cases h
          exact pkt_repl (rpl_ok C hT hc) h4 h5 (base_ok h3) h2
        · cases h
      · cases h
    · cases h
section
variable {T : Tab} {Φ : Nat → Fn} {E : XT} {k : Nat} {X : Cx} {EW : WX}
theorem c_blt (C : Cn T Φ E k X EW) {x : Str} (h : bltB T X.env.scope x = true) : Gl X x ∧ X.mg x = none ∧ (x == ("__debug__" : Str)) = false ∧ x ≠ "__name__" := by
  simp only [bltB, Bool.and_eq_true] at h
  exact ⟨gl_of h.1.1, C.free x (by simpa using h.1.2), (okN_of h.2).1, (okN_of h.2).2.2⟩
mutual
theorem sndG (C : Cn T Φ E k X EW) (hT : T.hot = false) {fn : Str → Bool} (hfn : ∀ x, fn x = true → X.fn x = true) : ∀ (t : Tg) (e : Expr), chkG X.N X.env.scope fn t e = true → PG X e (tG X.K t)
  | .name i, e, h => by
    unfold chkG at h
    split at h
    · simp only [Bool.and_eq_true, Bool.or_eq_true, decide_eq_true_eq] at h
      refine g_name C.nd h.1.1 (loc_of h.1.2) ?_
      rcases h.2 with z | z
      · exact .inr (lcl_of z)
      · exact .inl (hfn _ z)
    · cases h
  | .tup l, e, h => by
    unfold chkG at h
    split at h
    · obtain ⟨h1, h2, h3⟩ := sndGs C hT hfn l _ h
      exact g_tup (C.calm hT) h1 h2 h3
    · cases h
theorem sndGs (C : Cn T Φ E k X EW) (hT : T.hot = false) {fn : Str → Bool} (hfn : ∀ x, fn x = true → X.fn x = true) : ∀ (l : Tgs) (es : List Expr), chkGs X.N X.env.scope fn l es = true → PGs X es (tGs X.K l) ∧ (assignEach es X.env).length = tgLen l ∧ (assignEach es X.env).findIdx? (·.1) = none
  | .nil, es, h => by
    unfold chkGs at h
    cases es with
    | nil => exact ⟨g_nil, rfl, rfl⟩
    | cons _ _ => simp at h
  | .cons t r, es, h => by
    unfold chkGs at h
    split at h
    · simp only [Bool.and_eq_true] at h
      obtain ⟨h1, h2, h3⟩ := sndGs C hT hfn r _ h.2
      rename_i e es
      have e1 := assignEach_cons (es := es) (env := X.env) h.1.1
      refine ⟨g_cons (sndG C hT hfn t _ h.1.2) h1 (by rw [e1]; rfl), by rw [e1, List.length_cons, h2]; rfl, ?_⟩
      rw [e1, List.findIdx?_cons]
      simp [h3]
    · cases h
end
end
end RH

set_option Elab.async false
set_option linter.all false
set_option maxRecDepth 100000
set_option maxHeartbeats 4000000
/-! RHSnd8: code that is held against the syntax is sound: expressions. -/
namespace RH
open PySem PySem.Spec PyProof.Rows L2
theorem tst_ok {e : Expr} {env : Env} (h : notTst e = true) : ∀ whole, isTrue e env whole = (do let v ← whole; standAt e.pos; holding [v] (truthy v)) := by
  intro w
  cases e <;> first | rfl | (simp [notTst] at h; done) | skip
  rename_i op a p
  cases op <;> first | rfl | (simp [notTst] at h)
theorem asc_cps {l : List Nat} {x : Str} (h : (x.cps.toList == l) = true) : x = ⟨l.toArray⟩ := by
  have : x.cps.toList = l := by simpa using h
  subst this
  rfl
theorem s_lit {X : Cx} {E : XT} {EW : WX} {Φ : Nat → Fn} {d : D} {c : Const} {j : Nat} {pos : Pos} {k : Nat} (h : litB d c = true) : PE X (.Constant c j pos) (tX X.K E EW k (evE Φ (.lit d))) := by
  have ev : ∀ ρ S, evE Φ (.lit d) ρ S = .ok d S := fun ρ S => by rw [evE]
  unfold litB at h
  split at h
  · cases (by simpa using h : _ = _); exact s_val pe_int ev (fun _ _ _ => .int _) (.inr (by intro _ z; cases z))
  · cases (by simpa using h : _ = _); exact s_val pe_bl ev (fun _ _ _ => .bl _) (.inr (by intro _ z; cases z))
  · exact s_val pe_non ev (fun _ _ _ => .non) (.inr (by intro _ z; cases z))
  · simp only [Bool.and_eq_true] at h
    rw [asc_cps h.1]
    exact s_val pe_str ev (fun _ _ _ => .str (asc_of h.2)) (.inr (by intro _ z; cases z))
  · cases h
theorem chkL_nil {T : Tab} {Φ : Nat → Fn} {N : List Str} {sc : Scope} {es : List Expr} (h : chkL T Φ N .nil sc es = true) : es = [] := by
  unfold chkL at h
  cases es with
  | nil => rfl
  | cons _ _ => simp at h
theorem chkL_cons {T : Tab} {Φ : Nat → Fn} {N : List Str} {sc : Scope} {a : CE} {r : CL} {es : List Expr} (h : chkL T Φ N (.cons a r) sc es = true) : ∃ e es', es = e :: es' ∧ notStar e = true ∧ chkE T Φ N a sc e = true ∧ chkL T Φ N r sc es' = true := by
  unfold chkL at h
  split at h
  · simp only [Bool.and_eq_true] at h
    exact ⟨_, _, rfl, h.1.1, h.1.2, h.2⟩
  · cases h
theorem len1 {α : Type} {l : List α} (h : l.length = 1) : ∃ a, l = [a] := by
  cases l with
  | nil => cases h
  | cons a r => cases r with
    | nil => exact ⟨a, rfl⟩
    | cons _ _ => simp at h
theorem len2 {α : Type} {l : List α} (h : l.length = 2) : ∃ a b, l = [a, b] := by
  cases l with
  | nil => cases h
  | cons a r => obtain ⟨b, rfl⟩ := len1 (l := r) (by simpa using h); exact ⟨a, b, rfl⟩
theorem len3 {α : Type} {l : List α} (h : l.length = 3) : ∃ a b c, l = [a, b, c] := by
  cases l with
  | nil => cases h
  | cons a r => obtain ⟨b, c, rfl⟩ := len2 (l := r) (by simpa using h); exact ⟨a, b, c, rfl⟩
theorem chkL_star1 {T : Tab} {Φ : Nat → Fn} {N : List Str} {sc : Scope} {l : CL} {e : Expr} {es : List Expr} (h : chkL T Φ N l sc (e :: es) = true) : notStar e = true ∧ ∃ l', chkL T Φ N l' sc es = true := by
  cases l with
  | nil => unfold chkL at h; simp at h
  | cons a r =>
    unfold chkL at h
    simp only [Bool.and_eq_true] at h
    exact ⟨h.1.1, r, h.2⟩
theorem sndW {T : Tab} {Φ : Nat → Fn} {E : XT} {k : Nat} {X : Cx} {EW : WX} (C : Cn T Φ E k X EW) {tg : Expr} {p pos : Pos} {es : List Expr} (w : Wc) (l : CL) (h2 : bltB T X.env.scope w.name = true) (h3 : es.length = w.args) (h4 : (!w.pair || !notTup tg) = true) (h5 : chkL T Φ X.N l X.env.scope es = true) (hl : PA X es (tL X.K E EW (evL Φ l))) :
    PI X tg (.Call (.Name w.name p) es [] pos) (tIt X.K E EW (evI Φ (.wlk w l))) := by
  obtain ⟨g1, g2, _, _⟩ := c_blt C h2
  have tup : w.pair = true → ∃ es k p, tg = .Tuple es k p := fun z => by
    rw [z] at h4
    cases tg <;> first | (simp [notTup] at h4; done) | exact ⟨_, _, _, rfl⟩
  cases w with
  | r1 =>
    obtain ⟨a, rfl⟩ := len1 h3
    exact i_r1 g1 g2 hl (starEach_cons (chkL_star1 h5).1)
  | r2 =>
    obtain ⟨a, b, rfl⟩ := len2 h3
    obtain ⟨s1, l', h'⟩ := chkL_star1 h5
    have s2 := (chkL_star1 h').1
    exact i_r2 g1 g2 hl (by rw [starEach_cons s1, starEach_cons s2]; rfl) (starEach_cons s2)
  | r3 =>
    obtain ⟨a, b, c, rfl⟩ := len3 h3
    obtain ⟨s1, l', h'⟩ := chkL_star1 h5
    exact i_r3 g1 g2 hl (starEach_cons s1) (chkL_star h')
  | enum =>
    obtain ⟨es', kk, tp, rfl⟩ := tup rfl
    obtain ⟨a, rfl⟩ := len1 h3
    exact i_enum g1 g2 hl (starEach_cons (chkL_star1 h5).1)
  | zip =>
    obtain ⟨es', kk, tp, rfl⟩ := tup rfl
    obtain ⟨a, b, rfl⟩ := len2 h3
    obtain ⟨s1, l', h'⟩ := chkL_star1 h5
    exact i_zip g1 g2 hl (starEach_cons s1) (chkL_star h')
  | rev =>
    obtain ⟨a, rfl⟩ := len1 h3
    exact i_rev g1 g2 hl (starEach_cons (chkL_star1 h5).1)
theorem lkp_filter {ns : List Str} {n : Str} (hn : n ∈ ns) : ∀ {ans : List (Str × Bool)}, (ans.filter fun q => decide (q.1 ∈ ns)).lookup n = ans.lookup n
  | [] => rfl
  | (m, b) :: r => by
    by_cases hm : m ∈ ns
    · rw [List.filter_cons_of_pos (by simpa using hm), List.lookup_cons, List.lookup_cons, lkp_filter hn]
    · rw [List.filter_cons_of_neg (by simpa using hm), List.lookup_cons, lkp_filter hn]
      have : (n == m) = false := by
        rw [beq_eq_false_iff_ne]
        intro z; exact hm (z ▸ hn)
      rw [this]
theorem s_xis {T : Tab} {Φ : Nat → Fn} {E : XT} {k kk ka : Nat} {X : Cx} {EW : WX} (C : Cn T Φ E k X EW) {a z : Expr} {ca : CE} {ns : List Str} {tp : Bool} {cs : List (Str × Bool)} {p pos : Pos} (hg : Gl X "isinstance") (hm : X.mg "isinstance" = none) (h : xisB T (fun n => glB X.env.scope n && okN n) ns tp cs z = true)
    (ha : PE X a (tX X.K E EW ka (evE Φ ca))) (hs : starEach [a, z] X.env = (false, eval a X.env) :: starEach [z] X.env) : PE X (.Call (.Name "isinstance" p) [a, z] [] pos) (tX X.K E EW kk (evE Φ (.xis ca ns tp cs))) := by
  unfold xisB at h
  rw [Bool.and_eq_true] at h
  obtain ⟨h0, h⟩ := h
  have gg : ∀ n, (glB X.env.scope n && okN n) = true → Gl X n ∧ (n == ("__debug__" : Str)) = false := fun n q => by
    rw [Bool.and_eq_true] at q
    exact ⟨gl_of q.1, (okN_of q.2).1⟩
  obtain ⟨q0, hq0⟩ : ∃ q, q ∈ cs := by
    cases cs with
    | nil => cases h0
    | cons q _ => exact ⟨q, by simp⟩
  cases tp with
  | true =>
    rw [if_pos rfl] at h
    split at h
    · simp only [Bool.and_eq_true, decide_eq_true_eq] at h
      obtain ⟨⟨⟨h1, h2⟩, h3⟩, h4⟩ := h
      have nve : ∀ n, n ∈ ns → n ≠ "ValueError" := fun n hn => by
        have := List.all_eq_true.mp h3 n hn
        simpa using this
      have an : ∀ {c : Str} {fs : List Str} {ans : List (Str × Bool)} {n : Str} {b : Bool}, (c, fs, ans) ∈ T.xt → n ∈ ns → (n, b) ∈ ans → X.mg n = some (.ref (He.ga X.K n)) ∧ PySem.W.kitOne X.K (.ref (He.ga X.K c)) (.ref (He.ga X.K n)) = some b := fun {c fs ans n b} m1 m2 m3 => by
        have := (C.xt _ _ _ m1).an n b m3
        unfold AnsOk at this
        rw [if_neg (nve n m2)] at this
        exact ⟨this.1, this.2.2⟩
      refine s_xisT hg hm (pa_ns gg (fun n hn => ?_) h1) h2 (fun y b hy => ?_) ha hs
      · obtain ⟨fs, ans, hx, hp⟩ := any_mem (by have := List.all_eq_true.mp h4 _ hq0; simpa only [Bool.and_assoc] using this)
        rw [Bool.and_eq_true] at hp
        obtain ⟨b, hb⟩ := Option.isSome_iff_exists.mp (List.all_eq_true.mp hp.1 n hn)
        exact (an hx hn (lkp_mem hb)).1
      · obtain ⟨fs, ans, hx, hp⟩ := any_mem (by have := List.all_eq_true.mp h4 _ hy; simpa only [Bool.and_assoc] using this)
        simp only [Bool.and_eq_true, beq_iff_eq] at hp
        refine ⟨(C.xt _ _ _ hx).k, ?_⟩
        have := kitAny_of (K := X.K) (t := .ref (He.ga X.K y)) (ans := ans.filter fun q => decide (q.1 ∈ ns)) (g := fun n => .ref (He.ga X.K n)) (fun n b hn => by
          rw [List.mem_filter, decide_eq_true_eq] at hn
          exact (an hx hn.2 hn.1).2) (ns := ns)
        have ef : ∀ n, n ∈ ns → (ans.filter fun q => decide (q.1 ∈ ns)).lookup n = ans.lookup n := fun n hn => lkp_filter hn
        rw [hp.2]
        have e1 : (ns.all fun n => ((ans.filter fun q => decide (q.1 ∈ ns)).lookup n).isSome) = true := by
          rw [List.all_eq_true]
          intro n hn
          rw [ef n hn]
          exact List.all_eq_true.mp hp.1 n hn
        rw [this e1]
        congr 1
        rw [Bool.eq_iff_iff, List.any_eq_true, List.any_eq_true]
        constructor
        · rintro ⟨n, hn, h⟩; exact ⟨n, hn, by rw [ef n hn] at h; exact h⟩
        · rintro ⟨n, hn, h⟩; exact ⟨n, hn, by rw [ef n hn]; exact h⟩
    · cases h
  | false =>
    rw [if_neg (by decide)] at h
    split at h
    · rename_i n w pt
      simp only [Bool.and_eq_true, beq_iff_eq] at h
      obtain ⟨⟨rfl, h2⟩, h3⟩ := h
      obtain ⟨g1, g2⟩ := gg _ (by rw [Bool.and_eq_true]; exact h2)
      have an : ∀ y b, (y, b) ∈ cs → XcK X.K (He.ga X.K y) ∧ AnsOk X.K X.mg y w b := fun y b hy => by
        obtain ⟨fs, ans, hx, hp⟩ := any_mem (List.all_eq_true.mp h3 _ hy)
        exact ⟨(C.xt _ _ _ hx).k, (C.xt _ _ _ hx).an _ _ (lkp_mem (beq_iff_eq.mp hp))⟩
      have a0 := (an q0.1 q0.2 hq0).2
      by_cases hv : w = "ValueError"
      · unfold AnsOk at a0
        rw [if_pos hv] at a0
        subst hv
        refine s_xis1 (c := .ty "ValueError") (cv := .type "ValueError") hg hm (pe_bltn g1 a0.1 (by decide +kernel) rfl) (fun u r => r) (fun y b hy => ?_) ha hs
        obtain ⟨x1, x2⟩ := an y b hy
        unfold AnsOk at x2
        rw [if_pos rfl] at x2
        exact ⟨x1, x2.2⟩
      · unfold AnsOk at a0
        rw [if_neg hv] at a0
        refine s_xis1 (c := .ref (He.ga X.K w)) (cv := .ref (He.ga X.K w)) hg hm (pe_glob g1 a0.1 rfl g2) (fun u r => r) (fun y b hy => ?_) ha hs
        obtain ⟨x1, x2⟩ := an y b hy
        unfold AnsOk at x2
        rw [if_neg hv] at x2
        exact ⟨x1, x2.2.2⟩
    · cases h
mutual
theorem sndE {T : Tab} {Φ : Nat → Fn} {E : XT} {k : Nat} : ∀ (c : CE) {X : Cx} {EW : WX} (C : Cn T Φ E k X EW) (e : Expr), chkE T Φ X.N c X.env.scope e = true → PE X e (tX X.K E EW (kE Φ c) (evE Φ c))
  | .var i, X, EW, C, e, h => by
    unfold chkE at h
    split at h
    · simp only [varB, Bool.and_eq_true, decide_eq_true_eq] at h
      exact s_var h.1.1 (vis_of h.1.2) (okN_of h.2).1 (okN_of h.2).2.1
    · cases h
  | .lit d, X, EW, C, e, h => by
    unfold chkE at h
    split at h
    · exact s_lit h
    · cases h
  | .glb j d, X, EW, C, e, h => by
    unfold chkE at h
    split at h
    · simp only [Bool.and_eq_true] at h
      obtain ⟨⟨h1, h2⟩, h3⟩ := h
      obtain ⟨⟨y, d'⟩, hg, h3⟩ := List.any_eq_true.mp h3
      simp only [Bool.and_eq_true, beq_iff_eq] at h3
      obtain ⟨rfl, h4⟩ := h3
      rw [sameD_eq h4] at hg
      obtain ⟨u, v, m, r, rp⟩ := C.glb _ d hg
      exact s_val (pe_glob (gl_of h1) m r (okN_of h2).1) (fun ρ S => by rw [evE]) rp (.inl (by simp [kE]))
    · cases h
  | .bin o a b, X, EW, C, e, h => by
    unfold chkE at h
    split at h
    · simp only [Bool.and_eq_true, decide_eq_true_eq] at h
      rw [h.1.1]
      exact s_bin (sndE a C _ h.1.2) (sndE b C _ h.2)
    · cases h
  | .neg a, X, EW, C, e, h => by
    unfold chkE at h
    split at h
    · exact s_neg (sndE a C _ h)
    · cases h
  | .cmp o a b, X, EW, C, e, h => by
    unfold chkE at h
    split at h
    · simp only [Bool.and_eq_true, decide_eq_true_eq] at h
      rw [h.1.1.1]
      exact s_cmp C.hu (sndE a C _ h.1.2) (sndE b C _ h.2) (marks_ok h.1.1.2)
    · cases h
  | .chn o o' a b c, X, EW, C, e, h => by
    unfold chkE at h
    split at h
    · simp only [Bool.and_eq_true, decide_eq_true_eq] at h
      obtain ⟨⟨⟨⟨⟨h1, h2⟩, h3⟩, h4⟩, h5⟩, h6⟩ := h
      rw [h1, h2]
      exact s_chn C.hu (sndE a C _ h4) (sndE b C _ h5) (sndE c C _ h6) (by simp only [lastMarks]; exact marks_ok h3)
    · cases h
  | .bop n l, X, EW, C, e, h => by
    unfold chkE at h
    split at h
    · simp only [Bool.and_eq_true, decide_eq_true_eq] at h
      obtain ⟨⟨rfl, h2⟩, h3⟩ := h
      simp only [kE]
      have e : evE Φ (.bop n l) = evB Φ n l := by funext ρ S; rw [evE]
      rw [e]; exact sndB l C n _ h2 h3
    · cases h
  | .nt a, X, EW, C, e, h => by
    unfold chkE at h
    split at h
    · exact s_nt (sndE a C _ h)
    · cases h
  | .ife c a b, X, EW, C, e, h => by
    unfold chkE at h
    split at h
    · simp only [Bool.and_eq_true] at h
      exact s_ife (sndT c C _ h.1.1.2 h.1.1.1) (sndE a C _ h.1.2) (sndE b C _ h.2) (Nat.min_le_left _ _) (Nat.min_le_right _ _)
    · cases h
  | .tup l, X, EW, C, e, h => by
    unfold chkE at h
    split at h
    · exact s_tup (sndL l C _ h)
    · cases h
  | .lst l, X, EW, C, e, h => by
    unfold chkE at h
    split at h
    · exact s_lst (sndL l C _ h)
    · cases h
  | .idx a b, X, EW, C, e, h => by
    unfold chkE at h
    split at h
    · simp only [Bool.and_eq_true] at h
      exact s_idx (by simp [kE]) (sndE a C _ h.1.2) (sndE b C _ h.2) (plainIx_ok h.1.1)
    · cases h
  | .slc a lo hi, X, EW, C, e, h => by
    unfold chkE at h
    split at h
    · simp only [Bool.and_eq_true] at h
      exact s_slc (sndE a C _ h.1.1) (sndO lo C _ h.1.2) (sndO hi C _ h.2)
    · cases h
  | .call f l, X, EW, C, e, h => by
    unfold chkE at h
    split at h
    · simp only [Bool.and_eq_true, decide_eq_true_eq] at h
      obtain ⟨⟨⟨⟨hT, h1⟩, h2⟩, h3⟩, h4⟩ := h
      have hT : T.hot = false := by simpa using hT
      obtain ⟨a, fd, ps, m1, m2, m3, m4⟩ := C.fns f _ (by simpa using h1)
      cases l with
      | nil =>
        cases chkL_nil h4
        exact s_call0 m4 (C.room hT) (gl_of h2) m1 m2 m3 (okN_of h3).1 (Nat.le_refl _)
      | cons c l =>
        have ha := sndL (.cons c l) C _ h4
        obtain ⟨e, es, q, s1, _, s2⟩ := chkL_cons h4
        rw [q] at ha ⊢
        exact s_call m4 (C.room hT) (gl_of h2) m1 m2 m3 C.tk ha (okN_of h3).1 (starEach_cons s1) (chkL_star s2) (Nat.le_refl _)
    · cases h
  | .bi b l, X, EW, C, e, h => by
    unfold chkE at h
    split at h
    · simp only [Bool.and_eq_true, decide_eq_true_eq] at h
      obtain ⟨⟨⟨hT, h1⟩, h2⟩, h3⟩ := h
      have hT : T.hot = false := by simpa using hT
      obtain ⟨g1, g2, g3, g4⟩ := c_blt C h2
      cases l with
      | nil => unfold chkL at h3; simp at h3
      | cons c l =>
        have h5 := h3
        unfold chkL at h5
        simp only [Bool.and_eq_true] at h5
        exact s_bi (C.calm hT) g1 g2 g4 g3 (by rw [h1]; exact bi_boot b) (sndL (.cons c l) C _ h3) (starEach_cons h5.1.1) (chkL_star h5.2)
    · cases h
  | .m0 m o, X, EW, C, e, h => by
    unfold chkE at h
    split at h
    · simp only [Bool.and_eq_true, decide_eq_true_eq] at h
      obtain ⟨⟨⟨rfl, h2⟩, h3⟩, h4⟩ := h
      exact s_m0 (sndE o C _ h4) (base_ok h3) h2
    · cases h
  | .m1 m o a, X, EW, C, e, h => by
    unfold chkE at h
    split at h
    · simp only [Bool.and_eq_true, decide_eq_true_eq] at h
      obtain ⟨⟨⟨⟨⟨rfl, h2⟩, h3⟩, h4⟩, h5⟩, h6⟩ := h
      exact s_m1 (sndE o C _ h5) (sndE a C _ h6) (starEach_cons h4) (base_ok h3) h2
    · cases h
  | .isi t a, X, EW, C, e, h => by
    unfold chkE at h
    split at h
    · simp only [Bool.and_eq_true, decide_eq_true_eq] at h
      obtain ⟨⟨⟨⟨⟨rfl, rfl⟩, h3⟩, h4⟩, h5⟩, h6⟩ := h
      obtain ⟨g1, g2, _, _⟩ := c_blt C h3
      obtain ⟨g3, g4, _, _⟩ := c_blt C h4
      exact s_isi g1 g2 g3 g4 (sndE a C _ h6) (starEach_cons h5)
    · cases h
  | .pop0 o, X, EW, C, e, h => by
    unfold chkE at h
    split at h
    · simp only [Bool.and_eq_true, decide_eq_true_eq] at h
      obtain ⟨⟨⟨rfl, h2⟩, h3⟩, h4⟩ := h
      exact s_pop0 (by show 1 < 2; omega) (sndE o C _ h4) (base_ok h3) h2
    · cases h
  | .pop1 o a, X, EW, C, e, h => by
    unfold chkE at h
    split at h
    · simp only [Bool.and_eq_true, decide_eq_true_eq] at h
      obtain ⟨⟨⟨⟨⟨rfl, h2⟩, h3⟩, h4⟩, h5⟩, h6⟩ := h
      exact s_pop1 (by show 1 < 2; omega) (sndE o C _ h5) (sndE a C _ h6) (starEach_cons h4) (base_ok h3) h2
    · cases h
  | .new a, X, EW, C, e, h => by
    unfold chkE at h
    simp only [Bool.and_eq_true, decide_eq_true_eq] at h
    exact s_new (by show 1 < 2; omega) h.1.1 (sndE a C _ h.2)
  | .inG n a ds, X, EW, C, e, h => by
    unfold chkE at h
    split at h
    · simp only [Bool.and_eq_true, decide_eq_true_eq] at h
      obtain ⟨⟨⟨⟨⟨h1, h2⟩, h3⟩, h4⟩, h5⟩, h6⟩ := h
      obtain ⟨⟨y, ds'⟩, hg, h6⟩ := List.any_eq_true.mp h6
      simp only [Bool.and_eq_true, beq_iff_eq] at h6
      obtain ⟨rfl, h7⟩ := h6
      have e7 := sameD_eq h7
      cases e7
      obtain ⟨b, vs, m, hs, hr⟩ := C.tps _ _ hg
      rw [h1]
      exact s_inG (pe_glob (gl_of h3) m rfl (okN_of h4).1) hs hr h5 (sndE a C _ h2) rfl
    · cases h
  | .lrg l, X, EW, C, e, h => by
    unfold chkE at h
    split at h
    · simp only [Bool.and_eq_true, decide_eq_true_eq] at h
      obtain ⟨⟨⟨⟨⟨⟨hT, rfl⟩, rfl⟩, h3⟩, h4⟩, h5⟩, h6⟩ := h
      have hT : T.hot = false := by simpa using hT
      obtain ⟨g1, g2, _, _⟩ := c_blt C h3
      obtain ⟨g3, g4, _, _⟩ := c_blt C h4
      cases l with
      | nil => cases chkL_nil h6; simp at h5
      | cons a r =>
        obtain ⟨e1, es1, q1, s1, c1, k1⟩ := chkL_cons h6
        subst q1
        cases r with
        | nil =>
          cases chkL_nil k1
          exact s_lrg1 (C.calm hT) g1 g2 g3 g4 (sndE a C _ c1) (starEach_cons s1)
        | cons b r =>
          obtain ⟨e2, es2, q2, s2, c2, k2⟩ := chkL_cons k1
          subst q2
          cases r with
          | nil =>
            cases chkL_nil k2
            exact s_lrg2 (C.calm hT) g1 g2 g3 g4 (sndE a C _ c1) (sndE b C _ c2) (starEach_cons s1) (starEach_cons s2) (chkL_star k1)
          | cons c r =>
            obtain ⟨e3, es3, q3, _⟩ := chkL_cons k2
            subst q3
            simp at h5
    · cases h
  | .lix o a, X, EW, C, e, h => by
    unfold chkE at h
    split at h
    · simp only [Bool.and_eq_true, decide_eq_true_eq] at h
      obtain ⟨⟨⟨⟨⟨rfl, h2⟩, h3⟩, h4⟩, h5⟩, h6⟩ := h
      exact s_lix (sndE o C _ h5) (sndE a C _ h6) (starEach_cons h4) (base_ok h3) h2
    · cases h
  | .ddpV i, X, EW, C, e, h => by
    unfold chkE at h
    split at h
    · simp only [varB, Bool.and_eq_true, decide_eq_true_eq] at h
      obtain ⟨rfl, h⟩ := h
      exact s_ddpV (by show 1 < 2; omega) h.1.1 (vis_of h.1.2) (okN_of h.2).1 (okN_of h.2).2.1
    · cases h
  | .ddpI n, X, EW, C, e, h => by
    unfold chkE at h
    split at h
    · simp only [Bool.and_eq_true, decide_eq_true_eq] at h
      obtain ⟨rfl, rfl⟩ := h
      exact s_ddpI (by show 1 < 2; omega)
    · cases h
  | .dnew n, X, EW, C, e, h => by
    unfold chkE at h
    split at h
    · exact s_dnew (by show 1 < 2; omega)
    · cases h
  | .didx d k, X, EW, C, e, h => by
    unfold chkE at h
    split at h
    · simp only [Bool.and_eq_true] at h
      exact s_didx C.hu (by show 1 < 2; omega) (sndE d C _ h.1.2) (sndE k C _ h.2) (noSl_ok h.1.1)
    · cases h
  | .din n k d, X, EW, C, e, h => by
    unfold chkE at h
    split at h
    · simp only [Bool.and_eq_true, decide_eq_true_eq] at h
      obtain ⟨⟨⟨h1, h2⟩, h3⟩, h4⟩ := h
      rw [h1]
      exact s_din C.hu (sndE d C _ h4) (sndE k C _ h3) (marks_ok h2)
    · cases h
  | .dget d k z, X, EW, C, e, h => by
    unfold chkE at h
    split at h
    · simp only [Bool.and_eq_true, decide_eq_true_eq] at h
      obtain ⟨⟨⟨⟨⟨⟨⟨rfl, h2⟩, h3⟩, h4⟩, h5⟩, h6⟩, h7⟩, h8⟩ := h
      exact s_dget C.hu (by show 1 < 2; omega) (sndE d C _ h6) (sndE k C _ h7) (sndE z C _ h8) ⟨base_ok h3, by rw [starEach_cons h4, starEach_cons h5]; rfl, h2, by rw [starEach_cons h4, starEach_cons h5]; rfl⟩
    · cases h
  | .dlen d, X, EW, C, e, h => by
    unfold chkE at h
    split at h
    · simp only [Bool.and_eq_true, decide_eq_true_eq] at h
      obtain ⟨⟨⟨rfl, h2⟩, h3⟩, h4⟩ := h
      obtain ⟨g1, g2, _, _⟩ := c_blt C h2
      exact s_dlen g1 g2 (sndE d C _ h4) (starEach_cons h3)
    · cases h
  | .dpop d k, X, EW, C, e, h => by unfold chkE at h; cases h
  | .cst d, X, EW, C, e, h => by
    unfold chkE at h
    rw [Bool.and_eq_true, Bool.and_eq_true] at h
    have hT : T.hot = false := by simpa using h.1.1
    obtain ⟨_, h⟩ := h
    split at h
    · rename_i x l hx
      rw [Bool.and_eq_true] at h
      have hk := rpl_ok C hT hx
      rw [asc_cps h.1] at hk
      exact s_val (pe_pkt hk) (fun ρ S => by rw [evE]) (fun _ _ _ => .str (asc_of h.2)) (.inr (by intro _ z; cases z))
    · cases h
  | .xis a ns tp cs, X, EW, C, e, h => by
    unfold chkE at h
    split at h
    · simp only [Bool.and_eq_true, decide_eq_true_eq] at h
      obtain ⟨⟨⟨⟨rfl, h2⟩, h3⟩, h4⟩, h5⟩ := h
      obtain ⟨g1, g2, _, _⟩ := c_blt C h2
      exact s_xis C g1 g2 h5 (sndE a C _ h4) (starEach_cons h3)
    · cases h
  | .xfl a f cs, X, EW, C, e, h => by
    unfold chkE at h
    split at h
    · simp only [Bool.and_eq_true, decide_eq_true_eq] at h
      obtain ⟨⟨⟨rfl, h2⟩, h3⟩, h4⟩ := h
      refine s_xfl (by show 1 < 2; omega) (fun y i hm => ?_) (sndE a C _ h3) (base_ok h2)
      obtain ⟨fs, ans, hx, hp⟩ := any_mem (List.all_eq_true.mp h4 _ hm)
      have x := C.xt _ _ _ hx
      exact ⟨x.k, x.no _ (by simpa using hp)⟩
    · cases h
  | .fld o f cs, X, EW, C, e, h => by
    unfold chkE at h
    split at h
    · simp only [Bool.and_eq_true, decide_eq_true_eq] at h
      obtain ⟨⟨⟨rfl, h2⟩, h3⟩, h4⟩ := h
      refine s_fld (by show 1 < 2; omega) (sndE o C _ h3) (base_ok h2) fun c hc => ?_
      obtain ⟨⟨c', fs⟩, hm, hq⟩ := List.any_eq_true.mp (List.all_eq_true.mp h4 c hc)
      simp only [Bool.and_eq_true, beq_iff_eq] at hq
      obtain ⟨rfl, hq⟩ := hq
      have := C.cls _ _ hm
      exact ⟨this.1, this.2 _ (by simpa using hq)⟩
    · cases h
  | .mcl o c m fn l, X, EW, C, e, h => by
    unfold chkE at h
    split at h
    · rename_i x n ap es cp
      simp only [Bool.and_eq_true, decide_eq_true_eq] at h
      obtain ⟨⟨⟨⟨⟨⟨⟨hT, rfl⟩, h2⟩, h3⟩, h4⟩, h5⟩, h6⟩, h7⟩ := h
      have hT : T.hot = false := by simpa using hT
      obtain ⟨a, fd, ps, m1, m2, m3, m4⟩ := C.mts c _ fn (by simpa using h4)
      cases es with
      | nil =>
        cases l with
        | nil => exact s_mcl0 (sndE o C _ h6) m1 m2 m4 (C.room hT) m3 C.tk (base_ok h3) h2 (Nat.le_refl _)
        | cons _ _ => unfold chkL at h7; cases h7
      | cons e es =>
        obtain ⟨s1, l', s2⟩ := chkL_star1 h7
        refine s_mcl (sndE o C _ h6) m1 m2 m4 (C.room hT) m3 C.tk (sndL l C _ h7) (starEach_cons s1) (chkL_star s2) (base_ok h3) ?_ h2 (Nat.le_refl _)
        rw [List.length_cons] at h5
        have a1 : (backTo cp (starEach (e :: es) X.env)).all (fun x => !x.1) = true := by
          have := chkL_star (env := X.env) (pos := cp) h7
          rw [List.all_eq_not_any_not]
          simpa using this
        have a2 : (e :: es).length + ([] : List Keyword).length + (if ([] : List (Option Str × Sem Value)).isEmpty then 0 else 1) < 30 := by
          simp only [List.length_cons, List.length_nil, List.isEmpty_nil, if_true]; omega
        unfold methodCallForm
        rw [a1]
        simp only [keywordEach, Bool.true_and]
        simpa [backToKw] using a2
    · cases h
  | .mkI c fn l df, X, EW, C, e, h => by
    unfold chkE at h
    split at h
    · rename_i x p es cp
      simp only [Bool.and_eq_true, decide_eq_true_eq] at h
      obtain ⟨⟨⟨⟨⟨⟨hT, rfl⟩, h2⟩, h3⟩, h4⟩, h5⟩, h6⟩ := h
      have hT : T.hot = false := by simpa using hT
      obtain ⟨⟨c', f', n', df'⟩, hm, hq⟩ := List.any_eq_true.mp h5
      simp only [Bool.and_eq_true, beq_iff_eq] at hq
      obtain ⟨⟨⟨rfl, rfl⟩, _⟩, hdf⟩ := hq
      cases sameD_eq hdf
      obtain ⟨a, fd, ps, dvs, dfs, k', rfl, m1, m2, m3, m4, m5, m6⟩ := C.mks _ _ _ _ hm
      cases es with
      | nil => simp at h4
      | cons e es =>
        obtain ⟨s1, l', s2⟩ := chkL_star1 h6
        exact s_mkI (by show 1 < 2; omega) m2 m6 (C.room hT) (gl_of h2) m1 m3 m4 m5 C.tk (sndL l C _ h6) (okN_of h3).1 (starEach_cons s1) (chkL_star s2)
    · cases h
  | .isc _ _, X, EW, C, e, h => by unfold chkE at h; cases h
  | .srt a, X, EW, C, e, h => by
    unfold chkE at h
    split at h
    · simp only [Bool.and_eq_true, decide_eq_true_eq] at h
      obtain ⟨⟨⟨⟨hT, rfl⟩, h2⟩, h3⟩, h4⟩ := h
      have hT : T.hot = false := by simpa using hT
      obtain ⟨g1, g2, _, _⟩ := c_blt C h2
      exact s_srt (C.calm hT) C.hu g1 g2 (sndE a C _ h4) (starEach_cons h3)
    · cases h
  | .dof _ a, X, EW, C, e, h => by
    unfold chkE at h
    split at h
    · simp only [Bool.and_eq_true, decide_eq_true_eq] at h
      obtain ⟨⟨⟨⟨hT, rfl⟩, h2⟩, h3⟩, h4⟩ := h
      have hT : T.hot = false := by simpa using hT
      obtain ⟨g1, g2, _, _⟩ := c_blt C h2
      exact s_dof (by show 1 < 2; omega) (C.calm hT) C.hu g1 g2 (sndE a C _ h4) (starEach_cons h3)
    · cases h
  | .ddpT, X, EW, C, e, h => by
    unfold chkE at h
    split at h
    · cases h
      exact s_ddpT (by show 1 < 2; omega) C.hu
    · cases h
  | .compK _ _ _ _ _, X, EW, C, e, h => by unfold chkE at h; cases h
  | .comp own elt t it c, X, EW, C, e, h => by
    unfold chkE at h
    split at h
    · simp only [Bool.and_eq_true, decide_eq_true_eq] at h
      obtain ⟨⟨⟨⟨⟨⟨⟨hT, h1⟩, h2⟩, h3⟩, h4⟩, h5⟩, h7⟩, h8⟩ := h
      have hT : T.hot = false := by simpa using hT
      refine s_comp (ke := kE Φ elt) (fun i hi => by simpa using List.all_eq_true.mp h3 i hi) (C.calm hT) C.nd (sndI it C _ _ h4) (blkOk_by h1) (fun s H A cl fp => ?_) (fun s H A cl fp => ?_) (fun s H A cl fp => ?_) (folded_ok h8)
      · exact sndG (C.blk s H _ A cl fp) hT (fun x hx => hx) t _ h2
      · exact sndC c (C.blk s H _ A cl fp) _ h5
      · exact sndE elt (C.blk s H _ A cl fp) _ h7
    · cases h
theorem sndT {T : Tab} {Φ : Nat → Fn} {E : XT} {k : Nat} : ∀ (c : CE) {X : Cx} {EW : WX} (C : Cn T Φ E k X EW) (e : Expr), chkE T Φ X.N c X.env.scope e = true → tOk c = true → PT X e (tT X.K E EW (evT Φ c))
  | .var i, X, EW, C, e, h, _ => by
    have := sndE (.var i) C e h
    unfold chkE at h
    split at h
    · exact s_test this (test_ok rfl)
    · cases h
  | .lit d, X, EW, C, e, h, _ => by
    have := sndE (.lit d) C e h
    unfold chkE at h
    split at h
    · exact s_test this (test_ok rfl)
    · cases h
  | .glb j d, X, EW, C, e, h, _ => by
    have := sndE (.glb j d) C e h
    unfold chkE at h
    split at h
    · exact s_test this (test_ok rfl)
    · cases h
  | .bin o a b, X, EW, C, e, h, _ => by
    have := sndE (.bin o a b) C e h
    unfold chkE at h
    split at h
    · exact s_test this (test_ok rfl)
    · cases h
  | .neg a, X, EW, C, e, h, _ => by
    have := sndE (.neg a) C e h
    unfold chkE at h
    split at h
    · exact s_test this (test_ok rfl)
    · cases h
  | .cmp o a b, X, EW, C, e, h, _ => by
    unfold chkE at h
    split at h
    · simp only [Bool.and_eq_true, decide_eq_true_eq] at h
      rw [h.1.1.1]
      exact s_cmpT C.hu (sndE a C _ h.1.2) (sndE b C _ h.2) (marks_ok h.1.1.2)
    · cases h
  | .chn o o' a b c, X, EW, C, e, h, _ => by
    unfold chkE at h
    split at h
    · simp only [Bool.and_eq_true, decide_eq_true_eq] at h
      obtain ⟨⟨⟨⟨⟨h1, h2⟩, h3⟩, h4⟩, h5⟩, h6⟩ := h
      rw [h1, h2]
      exact s_chnT C.hu (sndE a C _ h4) (sndE b C _ h5) (sndE c C _ h6) (by simp only [lastMarks]; exact marks_ok h3)
    · cases h
  | .bop n l, X, EW, C, e, h, tk => by
    unfold chkE at h
    split at h
    · simp only [Bool.and_eq_true, decide_eq_true_eq] at h
      obtain ⟨⟨rfl, h2⟩, h3⟩ := h
      rw [evT_bop]
      exact (sndBT l C n _ h2 h3 (by unfold tOk at tk; exact tk)).pt
    · cases h
  | .nt a, X, EW, C, e, h, tk => by
    unfold chkE at h
    split at h
    · exact s_ntT (sndT a C _ h (by unfold tOk at tk; exact tk))
    · cases h
  | .ife c a b, X, EW, C, e, h, tk => by unfold tOk at tk; cases tk
  | .tup l, X, EW, C, e, h, _ => by
    have := sndE (.tup l) C e h
    unfold chkE at h
    split at h
    · exact s_test this (test_ok rfl)
    · cases h
  | .lst l, X, EW, C, e, h, _ => by
    have := sndE (.lst l) C e h
    unfold chkE at h
    split at h
    · exact s_test this (test_ok rfl)
    · cases h
  | .idx a b, X, EW, C, e, h, _ => by
    have := sndE (.idx a b) C e h
    unfold chkE at h
    split at h
    · exact s_test this (test_ok rfl)
    · cases h
  | .slc a lo hi, X, EW, C, e, h, _ => by
    have := sndE (.slc a lo hi) C e h
    unfold chkE at h
    split at h
    · exact s_test this (test_ok rfl)
    · cases h
  | .call f l, X, EW, C, e, h, _ => by
    have := sndE (.call f l) C e h
    unfold chkE at h
    split at h
    · exact s_test this (test_ok rfl)
    · cases h
  | .bi b l, X, EW, C, e, h, _ => by
    have := sndE (.bi b l) C e h
    unfold chkE at h
    split at h
    · exact s_test this (test_ok rfl)
    · cases h
  | .m0 m o, X, EW, C, e, h, _ => by
    have := sndE (.m0 m o) C e h
    unfold chkE at h
    split at h
    · exact s_test this (test_ok rfl)
    · cases h
  | .m1 m o a, X, EW, C, e, h, _ => by
    have := sndE (.m1 m o a) C e h
    unfold chkE at h
    split at h
    · exact s_test this (test_ok rfl)
    · cases h
  | .isi t a, X, EW, C, e, h, _ => by
    have := sndE (.isi t a) C e h
    unfold chkE at h
    split at h
    · exact s_test this (test_ok rfl)
    · cases h
  | .new a, X, EW, C, e, h, _ => by
    have := sndE (.new a) C e h
    unfold chkE at h
    simp only [Bool.and_eq_true, decide_eq_true_eq] at h
    exact s_test this (tst_ok h.1.2)
  | .pop0 i, X, EW, C, e, h, _ => by
    have := sndE (.pop0 i) C e h
    unfold chkE at h
    split at h
    · exact s_test this (test_ok rfl)
    · cases h
  | .pop1 i a, X, EW, C, e, h, _ => by
    have := sndE (.pop1 i a) C e h
    unfold chkE at h
    split at h
    · exact s_test this (test_ok rfl)
    · cases h
  | .inG n a ds, X, EW, C, e, h, _ => by
    unfold chkE at h
    split at h
    · simp only [Bool.and_eq_true, decide_eq_true_eq] at h
      obtain ⟨⟨⟨⟨⟨h1, h2⟩, h3⟩, h4⟩, h5⟩, h6⟩ := h
      obtain ⟨⟨y, ds'⟩, hg, h6⟩ := List.any_eq_true.mp h6
      simp only [Bool.and_eq_true, beq_iff_eq] at h6
      obtain ⟨rfl, h7⟩ := h6
      have e7 := sameD_eq h7
      cases e7
      obtain ⟨b, vs, m, hs, hr⟩ := C.tps _ _ hg
      rw [h1]
      exact s_inGT (pe_glob (gl_of h3) m rfl (okN_of h4).1) hs hr h5 (sndE a C _ h2) rfl
    · cases h
  | .fld o f cs, X, EW, C, e, h, _ => by
    have := sndE (.fld o f cs) C e h
    unfold chkE at h
    split at h
    · exact s_test this (test_ok rfl)
    · cases h
  | .mcl o c m fn l, X, EW, C, e, h, _ => by
    have := sndE (.mcl o c m fn l) C e h
    unfold chkE at h
    split at h
    · exact s_test this (test_ok rfl)
    · cases h
  | .mkI c fn l df, X, EW, C, e, h, _ => by
    have := sndE (.mkI c fn l df) C e h
    unfold chkE at h
    split at h
    · exact s_test this (test_ok rfl)
    · cases h
  | .srt a, X, EW, C, e, h, _ => by
    have := sndE (.srt a) C e h
    unfold chkE at h
    split at h
    · exact s_test this (test_ok rfl)
    · cases h
  | .dof n a, X, EW, C, e, h, _ => by
    have := sndE (.dof n a) C e h
    unfold chkE at h
    split at h
    · exact s_test this (test_ok rfl)
    · cases h
  | .ddpT, X, EW, C, e, h, _ => by
    have := sndE (.ddpT) C e h
    unfold chkE at h
    split at h
    · exact s_test this (test_ok rfl)
    · cases h
  | .isc _ _, X, EW, C, e, h, _ => by unfold chkE at h; cases h
  | .compK _ _ _ _ _, X, EW, C, e, h, _ => by unfold chkE at h; cases h
  | .lrg l, X, EW, C, e, h, _ => by
    have := sndE (.lrg l) C e h
    unfold chkE at h
    split at h
    · exact s_test this (test_ok rfl)
    · cases h
  | .lix o a, X, EW, C, e, h, _ => by
    have := sndE (.lix o a) C e h
    unfold chkE at h
    split at h
    · exact s_test this (test_ok rfl)
    · cases h
  | .ddpV i, X, EW, C, e, h, _ => by
    have := sndE (.ddpV i) C e h
    unfold chkE at h
    split at h
    · exact s_test this (test_ok rfl)
    · cases h
  | .ddpI n, X, EW, C, e, h, _ => by
    have := sndE (.ddpI n) C e h
    unfold chkE at h
    split at h
    · exact s_test this (test_ok rfl)
    · cases h
  | .dnew n, X, EW, C, e, h, _ => by
    have := sndE (.dnew n) C e h
    unfold chkE at h
    split at h
    · exact s_test this (test_ok rfl)
    · cases h
  | .didx d k, X, EW, C, e, h, _ => by
    have := sndE (.didx d k) C e h
    unfold chkE at h
    split at h
    · exact s_test this (test_ok rfl)
    · cases h
  | .din n k d, X, EW, C, e, h, _ => by
    unfold chkE at h
    split at h
    · simp only [Bool.and_eq_true, decide_eq_true_eq] at h
      obtain ⟨⟨⟨h1, h2⟩, h3⟩, h4⟩ := h
      rw [h1]
      exact s_dinT C.hu (sndE d C _ h4) (sndE k C _ h3) (marks_ok h2)
    · cases h
  | .dget d k z, X, EW, C, e, h, _ => by
    have := sndE (.dget d k z) C e h
    unfold chkE at h
    split at h
    · exact s_test this (test_ok rfl)
    · cases h
  | .dlen d, X, EW, C, e, h, _ => by
    have := sndE (.dlen d) C e h
    unfold chkE at h
    split at h
    · exact s_test this (test_ok rfl)
    · cases h
  | .dpop d k, X, EW, C, e, h, _ => by unfold chkE at h; cases h
  | .cst d, X, EW, C, e, h, _ => by
    have := sndE (.cst d) C e h
    unfold chkE at h
    rw [Bool.and_eq_true, Bool.and_eq_true] at h
    exact s_test this (tst_ok h.1.2)
  | .xis a ns tp cs, X, EW, C, e, h, _ => by
    have := sndE (.xis a ns tp cs) C e h
    unfold chkE at h
    split at h
    · exact s_test this (test_ok rfl)
    · cases h
  | .xfl a f cs, X, EW, C, e, h, _ => by
    have := sndE (.xfl a f cs) C e h
    unfold chkE at h
    split at h
    · exact s_test this (test_ok rfl)
    · cases h
  | .comp own elt t it c, X, EW, C, e, h, _ => by
    have := sndE (.comp own elt t it c) C e h
    unfold chkE at h
    split at h
    · exact s_test this (test_ok rfl)
    · cases h
theorem sndL {T : Tab} {Φ : Nat → Fn} {E : XT} {k : Nat} : ∀ (l : CL) {X : Cx} {EW : WX} (C : Cn T Φ E k X EW) (es : List Expr), chkL T Φ X.N l X.env.scope es = true → PA X es (tL X.K E EW (evL Φ l))
  | .nil, X, EW, C, es, h => by
    unfold chkL at h
    cases es with
    | nil => exact s_nil
    | cons _ _ => simp at h
  | .cons a r, X, EW, C, es, h => by
    unfold chkL at h
    split at h
    · simp only [Bool.and_eq_true] at h
      exact s_cons (sndE a C _ h.1.2) (sndL r C _ h.2) (starEach_cons h.1.1)
    · cases h
theorem sndB {T : Tab} {Φ : Nat → Fn} {E : XT} {k : Nat} : ∀ (l : CL) {X : Cx} {EW : WX} (C : Cn T Φ E k X EW) (n : Bool) {pos : Pos} (es : List Expr), chkL T Φ X.N l X.env.scope es = true → (!es.isEmpty) = true → PE X (.BoolOp (bopOf n) es pos) (tX X.K E EW 2 (evB Φ n l))
  | .nil, X, EW, C, n, pos, es, h, h' => by
    unfold chkL at h
    rw [h] at h'; cases h'
  | .cons a .nil, X, EW, C, n, pos, es, h, _ => by
    obtain ⟨e, es', rfl, _, s1, s2⟩ := chkL_cons h
    cases chkL_nil s2
    exact s_bop1 (sndE a C _ s1)
  | .cons a (.cons b r), X, EW, C, n, pos, es, h, _ => by
    obtain ⟨e, es', rfl, _, s1, s2⟩ := chkL_cons h
    have s3 := s2
    obtain ⟨e2, es2, rfl, _⟩ := chkL_cons s3
    exact s_bopC (sndE a C _ s1) (sndB (.cons b r) C n _ s2 rfl)
theorem sndBT {T : Tab} {Φ : Nat → Fn} {E : XT} {k : Nat} : ∀ (l : CL) {X : Cx} {EW : WX} (C : Cn T Φ E k X EW) (n : Bool) {pos : Pos} (es : List Expr), chkL T Φ X.N l X.env.scope es = true → (!es.isEmpty) = true → tOks l = true → PW X (.BoolOp (bopOf n) es pos) (tT X.K E EW (evBT Φ n l))
  | .nil, X, EW, C, n, pos, es, h, h', _ => by
    unfold chkL at h
    rw [h] at h'; cases h'
  | .cons a .nil, X, EW, C, n, pos, es, h, _, tk => by
    unfold tOks at tk
    simp only [Bool.and_eq_true] at tk
    obtain ⟨e, es', rfl, _, s1, s2⟩ := chkL_cons h
    cases chkL_nil s2
    exact s_bopT1 (sndT a C _ s1 tk.1)
  | .cons a (.cons b r), X, EW, C, n, pos, es, h, _, tk => by
    unfold tOks at tk
    simp only [Bool.and_eq_true] at tk
    obtain ⟨e, es', rfl, _, s1, s2⟩ := chkL_cons h
    have s3 := s2
    obtain ⟨e2, es2, rfl, _⟩ := chkL_cons s3
    exact s_bopTC (sndT a C _ s1 tk.1) (sndBT (.cons b r) C n _ s2 rfl tk.2)
theorem sndO {T : Tab} {Φ : Nat → Fn} {E : XT} {k : Nat} : ∀ (c : CO) {X : Cx} {EW : WX} (C : Cn T Φ E k X EW) (e : Option Expr), chkO T Φ X.N c X.env.scope e = true → PO X e (tO X.K E EW (evO Φ c))
  | .no, X, EW, C, e, h => by
    unfold chkO at h
    cases e with
    | none => exact s_no
    | some _ => simp at h
  | .yes a, X, EW, C, e, h => by
    unfold chkO at h
    split at h
    · exact s_yes (sndE a C _ h)
    · cases h
theorem sndC {T : Tab} {Φ : Nat → Fn} {E : XT} {k : Nat} : ∀ (c : CO) {X : Cx} {EW : WX} (C : Cn T Φ E k X EW) (es : List Expr), chkC T Φ X.N c X.env.scope es = true → PTs X es (tT X.K E EW (evC Φ c))
  | .no, X, EW, C, es, h => by
    unfold chkC at h
    cases es with
    | nil => exact ⟨fun pins s σ H Q I q => pts_nil.run pins s σ H Q I (by
        obtain ⟨F, μ, S, ρ, B, q⟩ := q
        rw [evC] at q
        exact q _ _ .refl .refl B)⟩
    | cons _ _ => simp at h
  | .yes a, X, EW, C, es, h => by
    unfold chkC at h
    split at h
    · simp only [Bool.and_eq_true] at h
      have e : evC Φ (.yes a) = evT Φ a := by funext ρ S; rw [evC, evT]
      rw [e]
      exact pts_one (sndT a C _ h.2 h.1)
    · cases h
theorem sndI {T : Tab} {Φ : Nat → Fn} {E : XT} {k : Nat} : ∀ (c : CI) {X : Cx} {EW : WX} (C : Cn T Φ E k X EW) (tg e : Expr), chkI T Φ X.N c X.env.scope tg e = true → PI X tg e (tIt X.K E EW (evI Φ c))
  | .seq a, X, EW, C, tg, e, h => by
    unfold chkI at h
    exact i_seq (sndE a C _ h)
  | .wlk w l, X, EW, C, tg, e, h => by
    unfold chkI at h
    split at h
    · simp only [Bool.and_eq_true, decide_eq_true_eq] at h
      obtain ⟨⟨⟨⟨rfl, h2⟩, h3⟩, h4⟩, h5⟩ := h
      exact sndW C w l h2 h3 h4 h5 (sndL l C _ h5)
    · cases h
end
end RH

set_option Elab.async false
set_option linter.all false
set_option maxRecDepth 100000
set_option maxHeartbeats 4000000
/-! RHSnd9: statements, defs. -/
namespace RH
open PySem PySem.Spec PyProof.Rows L2
mutual
def chkS (T : Tab) (Φ : Nat → Fn) (N : List Str) (sc : Scope) : CS → Stmt → Bool
  | .set i e, s => match s with
    | .Assign [.Name x _] v _ => decide (N[i]? = some x) && locB sc x && chkE T Φ N e sc v
    | _ => false
  | .setT t e, s => match s with
    | .Assign [tg] v _ => !T.hot && notStar tg && notTup v && notComp v && chkG N sc (fun _ => true) t tg && chkE T Φ N e sc v
    | _ => false
  | .exp e, s => match s with
    | .Expr v _ => notComp v && chkE T Φ N e sc v
    | _ => false
  | .app o e, s => match s with
    | .Expr (.Call (.Attribute x n ap) [y] [] cp) _ => decide (n = "append") && ap.endLine == cp.line && noSup x && notStar y && chkE T Φ N o sc x && chkE T Φ N e sc y
    | _ => false
  | .mth m o l, s => match s with
    | .Expr (.Call (.Attribute x n ap) es [] cp) _ => decide (n = m.name) && ap.endLine == cp.line && noSup x && decide (es.length ≤ 5) && chkE T Φ N o sc x && chkL T Φ N l sc es
    | _ => false
  | .sip o j e, s => match s with
    | .Assign [.Subscript x y _] v _ => notSlice y && notComp v && chkE T Φ N o sc x && chkE T Φ N j sc y && chkE T Φ N e sc v
    | _ => false
  | .dput d k e, s => match s with
    | .Assign [.Subscript x y _] v _ => notSlice y && notComp v && chkE T Φ N d sc x && chkE T Φ N k sc y && chkE T Φ N e sc v
    | _ => false
  | .fst o f cs e, s => match s with
    | .Assign [.Attribute x n _] v _ => decide (n = f) && notComp v && chkE T Φ N o sc x && chkE T Φ N e sc v && cs.all (fun c => T.cls.any fun w => w.1 == c && w.2.contains f)
    | _ => false
  | .ret e, s => match s with
    | .Return (some v) _ => chkE T Φ N e sc v
    | _ => false
  | .retN, s => match s with
    | .Return none _ => true
    | _ => false
  | .ife c a b, s => match s with
    | .If v as bs _ => tOk c && chkE T Φ N c sc v && chkB T Φ N sc a as && chkB T Φ N sc b bs
    | _ => false
  | .forr t it b, s => match s with
    | .For tg iter body [] _ => !T.hot && chkI T Φ N it sc tg iter && chkG N sc (fun _ => true) t tg && notSet iter && chkB T Φ N sc b body
    | _ => false
  | .forK t e b, s => match s with
    | .For tg iter body [] _ => !T.hot && chkE T Φ N e sc iter && chkG N sc (fun _ => true) t tg && notSet iter && chkB T Φ N sc b body
    | _ => false
  | .whl _ c b, s => match s with
    | .While v body [] _ => tOk c && chkE T Φ N c sc v && chkB T Φ N sc b body
    | _ => false
  | .rai x n l, s => match s with
    | .Raise (some (.Call (.Name y _) es [] _)) none _ => T.exc.contains (y, n) && x == y && glB sc y && okN y && !es.isEmpty && chkL T Φ N l sc es
    | _ => false
  | .pas, s => match s with
    | .Pass _ => true
    | _ => false
  | .brk, s => match s with
    | .Break _ => true
    | _ => false
  | .cnt, s => match s with
    | .Continue _ => true
    | _ => false
  | .tryE b hs, s => match s with
    | .Try body (h0 :: hds) [] [] _ => !T.hot && tbB b && chkB T Φ N sc b body && chkH T Φ N sc hs (h0 :: hds)
    | _ => false
def chkB (T : Tab) (Φ : Nat → Fn) (N : List Str) (sc : Scope) : CB → List Stmt → Bool
  | .nil, ss => ss.isEmpty
  | .cons s r, ss => match ss with
    | t :: ts => chkS T Φ N sc s t && chkB T Φ N sc r ts
    | [] => false
def chkH (T : Tab) (Φ : Nat → Fn) (N : List Str) (sc : Scope) : HL → List ExceptHandler → Bool
  | .nil, hs => hs.isEmpty
  | .cons x i cs b r, hs => match hs with
    | .ExceptHandler (some (.Name y _)) (some n) (b0 :: suite) _ :: hs => y == x && glB sc y && okN y && !(y == "ValueError") && decide (N[i]? = some n) && lclB sc n && !cs.isEmpty && cs.all (fun q => T.xt.any fun w => w.1 == q.1 && (w.2.1 == q.2.2 && w.2.2.lookup x == some q.2.1)) && chkB T.hotT Φ N sc b (b0 :: suite) && chkH T Φ N sc r hs
    | _ => false
end
theorem swst_ok {t e : Expr} {env : Env} (h : notTup e = true) : swappedStores [t] e env = pure none := by
  cases e <;> first | (simp [notTup] at h; done) | (cases t <;> rfl)
theorem swst_sub {o i e : Expr} {p : Pos} {env : Env} : swappedStores [.Subscript o i p] e env = pure none := by cases e <;> rfl
theorem asg_sub {o i : Expr} {p : Pos} {env : Env} (h : notSlice i = true) : ∀ v, assign (.Subscript o i p) env v = (do
      let ov ← holding [v] (eval o env)
      let iv ← holding [v, ov] (eval i env)
      standAt p
      holding [v, ov, iv] (setItem ov iv v)
      release [v, ov, iv] []) := by intro v; cases i <;> first | (simp [notSlice] at h; done) | rfl
/-- whether a comprehension's list is stored by the comprehension itself -/
theorem swaps_comp {elt : Expr} {gs : List Comprehension} {scope : Scope} {pos py : Pos} {y : Str} {l : Nat} {env : Env} (hk : env.scope.kind = .function) :
    swapsWith (.ListComp elt gs scope pos) (some (.Name y py)) l env = pure ((env.scope.names.lookup y == some .local) && (py.line == pos.line) && !(scope.names.any fun (n, k) => n == y && (k == .local || k == .cell))) := by
  have hb : env.blockKind = .function := by unfold Env.blockKind; rw [hk]; rfl
  unfold swapsWith
  simp only [hb, Expr.pos, Env.kindOf, beq_self_eq_true, Bool.true_and]
/-- the context of a def's body -/
structure Cs (T : Tab) (Φ : Nat → Fn) (E : XT) (k : Nat) (X : Cx) (EW : WX) : Prop extends Cn T Φ E k X EW where
  fnT : ∀ x, X.fn x = true
  stk : X.stack = X.env :: X.outer
  frm : X.env.frame = some X.env.locals
  rai : ∀ (n : Nat) (y : Str), (y, n) ∈ T.exc → Gl X y → (y == ("__debug__" : Str)) = false → ∀ (e : Expr) (es : List Expr) (l : CL) (p cp pos : Pos), PA X (e :: es) (tL X.K E EW (evL Φ l)) → starEach (e :: es) X.env = (false, eval e X.env) :: starEach es X.env → (∀ q, (backTo q (starEach es X.env)).any (·.1) = false) →
    PS X (.Raise (some (.Call (.Name y p) (e :: es) [] cp)) none pos) (tSt X.K E EW (evS Φ (.rai y n l)))
section
variable {T : Tab} {Φ : Nat → Fn} {E : XT} {k : Nat}
/-- x = e, whatever e is -/
theorem set_ps (c : CE) {X : Cx} {EW : WX} (C : Cn T Φ E k X EW) (fnT : ∀ x, X.fn x = true) {i : Nat} {x : Str} {px pos : Pos} {v : Expr} (hi : X.N[i]? = some x) (hl : locB X.env.scope x = true) (h : chkE T Φ X.N c X.env.scope v = true) : PS X (.Assign [.Name x px] v pos) (tAsg (tX X.K E EW (kE Φ c) (evE Φ c)) (gName i)) := by
  have he := sndE c C _ h
  by_cases hc : notComp v = true
  · exact ps_set C.nd hi (loc_of hl) he (swaps_ok hc) (.inl (fnT x))
  · cases c with
    | comp own elt t it cc =>
      have h0 := h
      unfold chkE at h
      split at h
      · rename_i xe tg iter ifs scope cpos
        simp only [Bool.and_eq_true, decide_eq_true_eq] at h
        obtain ⟨⟨⟨⟨⟨⟨⟨hT, h1⟩, h2⟩, h3⟩, h4⟩, h5⟩, h7⟩, h8⟩ := h
        have hT : T.hot = false := by simpa using hT
        refine ⟨fun pins s σ H D I hh => ?_⟩
        have sw := swaps_comp (elt := xe) (gs := [⟨tg, iter, ifs, 0⟩]) (scope := scope) (pos := cpos) (py := px) (y := x) (l := pos.line) I.ok.kind
        cases hb : ((X.env.scope.names.lookup x == some .local) && (px.line == cpos.line) && !(scope.names.any fun (n, k) => n == x && (k == .local || k == .cell))) with
        | false =>
          rw [hb] at sw
          exact (ps_set C.nd hi (loc_of hl) he sw (.inl (fnT x))).run pins s σ H D I hh
        | true =>
          rw [hb] at sw
          simp only [Bool.and_eq_true, beq_iff_eq] at hb
          refine (ps_setLc (te := tX X.K E EWF (kE Φ elt) (evE Φ elt)) (tt := tT X.K E EWF (evC Φ cc)) (g := tG X.K t) (C.calm hT) C.nd hi hb.1.1 sw (sndI it C _ _ h4) (blkOk_by h1) (fun s H A cl fp => sndG (C.blk s H _ A cl fp) hT (fun x hx => hx) t _ h2) (fun s H A cl fp => sndC cc (C.blk s H _ A cl fp) _ h5)
            (fun s H A cl fp => sndE elt (C.blk s H _ A cl fp) _ h7) (folded_ok h8)).run pins s σ H D I ?_
          exact lc_go (fun i hi => by simpa using List.all_eq_true.mp h3 i hi) σ H _ hh
      · cases h
    | new a =>
      -- a new list by a comprehension
      unfold chkE at h
      simp only [Bool.and_eq_true, decide_eq_true_eq] at h
      have q := set_ps a C fnT (px := px) (pos := pos) hi hl h.2
      refine q.imp fun D σ H hh => ?_
      obtain ⟨F, μ, S, ρ, B, hh⟩ := hh
      exact ⟨F, μ, S, ρ, B, new_fin (by show 1 < 2; omega) h.1.1 B hh⟩
    | cst d =>
      exfalso
      unfold chkE at h
      rw [Bool.and_eq_true] at h
      have h := h.2
      cases v <;> first | exact hc rfl | (simp [rplT] at h; done)
    | _ =>
      exfalso
      unfold chkE at h
      first | (cases h; done) | (split at h <;> first | (cases h; done) | exact hc rfl)
/-- a try's body -/
theorem set_b (c : CE) {X : Cx} {EW : WX} (C : Cn T Φ E k X EW) (fnT : ∀ x, X.fn x = true) {i : Nat} {x : Str} {px pos : Pos} {v : Expr} (hi : X.N[i]? = some x) (hl : locB X.env.scope x = true) (h : chkE T Φ X.N c X.env.scope v = true) : PS X (.Assign [.Name x px] v pos) (tTb X.K E (asgS (.set i c)) (evS Φ (.set i c)) EW) := b_set (set_ps c C fnT hi hl h)
mutual
theorem sndTS : ∀ (c : CS) {X : Cx} {EW : WX} (C : Cn T Φ E k X EW) (fnT : ∀ x, X.fn x = true) (s : Stmt), tbS c = true → chkS T Φ X.N X.env.scope c s = true → PS X s (tTb X.K E (asgS c) (evS Φ c) EW)
  | .set i e, X, EW, C, fnT, s, _, h => by
    unfold chkS at h
    split at h
    · simp only [Bool.and_eq_true, decide_eq_true_eq] at h
      exact set_b e C fnT h.1.1 h.1.2 h.2
    · cases h
  | .exp e, X, EW, C, fnT, s, _, h => by
    unfold chkS at h
    split at h
    · simp only [Bool.and_eq_true] at h
      exact b_exp (sndE e C _ h.2) (swaps_ok h.1)
    · cases h
  | .ret e, X, EW, C, fnT, s, _, h => by
    unfold chkS at h
    split at h
    · exact b_ret rfl (sndE e C _ h)
    · cases h
  | .pas, X, EW, C, fnT, s, _, h => by
    unfold chkS at h
    split at h
    · exact b_pas
    · cases h
  | .ife c a b, X, EW, C, fnT, s, t, h => by
    unfold chkS at h
    unfold tbS at t
    rw [Bool.and_eq_true] at t
    split at h
    · simp only [Bool.and_eq_true] at h
      exact b_ife (sndT c C _ h.1.1.2 h.1.1.1) (sndTB a C fnT _ t.1 h.1.2) (sndTB b C fnT _ t.2 h.2)
    · cases h
  | .setT _ _, _, _, _, _, _, t, _ => by simp [tbS] at t
  | .app _ _, _, _, _, _, _, t, _ => by simp [tbS] at t
  | .mth _ _ _, _, _, _, _, _, t, _ => by simp [tbS] at t
  | .sip _ _ _, _, _, _, _, _, t, _ => by simp [tbS] at t
  | .dput _ _ _, _, _, _, _, _, t, _ => by simp [tbS] at t
  | .fst _ _ _ _, _, _, _, _, _, t, _ => by simp [tbS] at t
  | .retN, _, _, _, _, _, t, _ => by simp [tbS] at t
  | .forr _ _ _, _, _, _, _, _, t, _ => by simp [tbS] at t
  | .forK _ _ _, _, _, _, _, _, t, _ => by simp [tbS] at t
  | .whl _ _ _, _, _, _, _, _, t, _ => by simp [tbS] at t
  | .rai _ _ _, _, _, _, _, _, t, _ => by simp [tbS] at t
  | .brk, _, _, _, _, _, t, _ => by simp [tbS] at t
  | .cnt, _, _, _, _, _, t, _ => by simp [tbS] at t
  | .tryE _ _, _, _, _, _, _, t, _ => by simp [tbS] at t
theorem sndTB : ∀ (c : CB) {X : Cx} {EW : WX} (C : Cn T Φ E k X EW) (fnT : ∀ x, X.fn x = true) (ss : List Stmt), tbB c = true → chkB T Φ X.N X.env.scope c ss = true → PSs X ss (tTb X.K E (asgB c) (evBk Φ c) EW)
  | .nil, X, EW, C, fnT, ss, _, h => by
    unfold chkB at h
    cases ss with
    | nil => exact b_nil
    | cons _ _ => simp at h
  | .cons s r, X, EW, C, fnT, ss, t, h => by
    unfold chkB at h
    unfold tbB at t
    rw [Bool.and_eq_true] at t
    split at h
    · simp only [Bool.and_eq_true] at h
      exact b_cons t.1 (sndTS s C fnT _ t.1 h.1) (sndTB r C fnT _ t.2 h.2)
    · cases h
end
end
theorem Cs.suite {T : Tab} {Φ : Nat → Fn} {E : XT} {k : Nat} {X : Cx} {EW : WX} (C : Cs T Φ E k X EW) (a : Addr) (pn : List (Addr × Obj)) : Cs T.hotT Φ E k (X.suite a pn) EWF :=
  { C.toCn.suite a pn with fnT := C.fnT, stk := C.stk, frm := C.frm, rai := fun _ _ z => by cases z }
mutual
theorem sndS {T : Tab} {Φ : Nat → Fn} {E : XT} {k : Nat} : ∀ (c : CS) {X : Cx} {EW : WX} (C : Cs T Φ E k X EW) (s : Stmt), chkS T Φ X.N X.env.scope c s = true → PS X s (tSt X.K E EW (evS Φ c))
  | .set i e, X, EW, C, s, h => by
    unfold chkS at h
    split at h
    · simp only [Bool.and_eq_true, decide_eq_true_eq] at h
      exact t_set (set_ps e C.toCn C.fnT h.1.1 h.1.2 h.2)
    · cases h
  | .setT t e, X, EW, C, s, h => by
    unfold chkS at h
    split at h
    · simp only [Bool.and_eq_true, decide_eq_true_eq] at h
      obtain ⟨⟨⟨⟨⟨hT, h1⟩, h2⟩, h3⟩, h4⟩, h6⟩ := h
      have hT : T.hot = false := by simpa using hT
      exact t_setT (sndE e C.toCn _ h6) (sndG C.toCn hT (fun x _ => C.fnT x) t _ h4) (swaps_ok h3) (swst_ok h2) (by rw [assignEach_cons h1]; rfl)
    · cases h
  | .exp e, X, EW, C, s, h => by
    unfold chkS at h
    split at h
    · simp only [Bool.and_eq_true] at h
      exact t_exp (sndE e C.toCn _ h.2) (swaps_ok h.1)
    · cases h
  | .app o e, X, EW, C, s, h => by
    unfold chkS at h
    split at h
    · simp only [Bool.and_eq_true, decide_eq_true_eq] at h
      obtain ⟨⟨⟨⟨⟨rfl, h2⟩, h3⟩, h4⟩, h5⟩, h6⟩ := h
      exact t_app (sndE o C.toCn _ h5) (sndE e C.toCn _ h6) (starEach_cons h4) (base_ok h3) h2
    · cases h
  | .mth m o l, X, EW, C, s, h => by
    unfold chkS at h
    split at h
    · rename_i x n ap es cp pos
      simp only [Bool.and_eq_true, decide_eq_true_eq] at h
      obtain ⟨⟨⟨⟨⟨rfl, h2⟩, h3⟩, h4⟩, h6⟩, h5⟩ := h
      have hx := sndE o C.toCn _ h6
      cases es with
      | nil =>
        cases l with
        | nil => exact t_mth0 hx (base_ok h3) h2
        | cons _ _ => unfold chkL at h5; cases h5
      | cons e es =>
        obtain ⟨s1, l', s2⟩ := chkL_star1 h5
        refine t_mth hx (sndL l C.toCn _ h5) (base_ok h3) ?_ (starEach_cons s1) (chkL_star s2) h2
        rw [List.length_cons] at h4
        have a1 : (backTo cp (starEach (e :: es) X.env)).all (fun x => !x.1) = true := by
          have := chkL_star (env := X.env) (pos := cp) h5
          rw [List.all_eq_not_any_not]
          simpa using this
        have a2 : (e :: es).length + ([] : List Keyword).length + (if ([] : List Keyword).isEmpty then 0 else 1) < 30 := by
          simp only [List.length_cons, List.length_nil, List.isEmpty_nil, if_true]; omega
        rw [a1, decide_eq_true a2]
        rfl
    · cases h
  | .sip o j e, X, EW, C, s, h => by
    unfold chkS at h
    split at h
    · simp only [Bool.and_eq_true, decide_eq_true_eq] at h
      obtain ⟨⟨⟨⟨h2, h3⟩, h4⟩, h5⟩, h6⟩ := h
      exact t_sip (sndE o C.toCn _ h4) (sndE e C.toCn _ h6) (sndE j C.toCn _ h5) (by rw [swapsWithSole]; exact swaps_ok h3) swst_sub (asg_sub h2)
    · cases h
  | .dput d k e, X, EW, C, s, h => by
    unfold chkS at h
    split at h
    · simp only [Bool.and_eq_true, decide_eq_true_eq] at h
      obtain ⟨⟨⟨⟨h2, h3⟩, h4⟩, h5⟩, h6⟩ := h
      exact t_dput C.hu (sndE d C.toCn _ h4) (sndE k C.toCn _ h5) (sndE e C.toCn _ h6) (swaps_ok h3)
    · cases h
  | .fst o f cs e, X, EW, C, s, h => by
    unfold chkS at h
    split at h
    · simp only [Bool.and_eq_true, decide_eq_true_eq] at h
      obtain ⟨⟨⟨⟨rfl, h2⟩, h3⟩, h4⟩, h5⟩ := h
      refine t_fst (sndE o C.toCn _ h3) (sndE e C.toCn _ h4) (swaps_ok h2) fun c hc => ?_
      obtain ⟨⟨c', fs⟩, hm, hq⟩ := List.any_eq_true.mp (List.all_eq_true.mp h5 c hc)
      simp only [Bool.and_eq_true, beq_iff_eq] at hq
      obtain ⟨rfl, hq⟩ := hq
      have := C.cls _ _ hm
      exact ⟨this.1, this.2 _ (by simpa using hq)⟩
    · cases h
  | .ret e, X, EW, C, s, h => by
    unfold chkS at h
    split at h
    · exact t_ret rfl (sndE e C.toCn _ h)
    · cases h
  | .retN, X, EW, C, s, h => by
    unfold chkS at h
    split at h
    · exact t_retN
    · cases h
  | .ife c a b, X, EW, C, s, h => by
    unfold chkS at h
    split at h
    · simp only [Bool.and_eq_true] at h
      exact t_ife (sndT c C.toCn _ h.1.1.2 h.1.1.1) (sndBk a C _ h.1.2) (sndBk b C _ h.2)
    · cases h
  | .forr t it b, X, EW, C, s, h => by
    unfold chkS at h
    split at h
    · simp only [Bool.and_eq_true] at h
      have hT : T.hot = false := by simpa using h.1.1.1.1
      exact t_for C.own (C.calm hT) (sndI it C.toCn _ _ h.1.1.1.2) (sndG C.toCn hT (fun x _ => C.fnT x) t _ h.1.1.2) (sndBk b C _ h.2) (folded_ok h.1.2)
    · cases h
  | .forK t e b, X, EW, C, s, h => by
    unfold chkS at h
    split at h
    · simp only [Bool.and_eq_true] at h
      have hT : T.hot = false := by simpa using h.1.1.1.1
      exact t_forK C.own (C.calm hT) (sndE e C.toCn _ h.1.1.1.2) (sndG C.toCn hT (fun x _ => C.fnT x) t _ h.1.1.2) (sndBk b C _ h.2) (folded_ok h.1.2)
    · cases h
  | .whl n c b, X, EW, C, s, h => by
    unfold chkS at h
    split at h
    · simp only [Bool.and_eq_true] at h
      exact t_whl C.own (sndT c C.toCn _ h.1.2 h.1.1) (sndBk b C _ h.2)
    · cases h
  | .rai x n l, X, EW, C, s, h => by
    unfold chkS at h
    split at h
    · rename_i y p es cp pos
      simp only [Bool.and_eq_true, decide_eq_true_eq] at h
      obtain ⟨⟨⟨⟨⟨h1, h1'⟩, h2⟩, h3⟩, h4⟩, h5⟩ := h
      rw [beq_iff_eq.mp h1']
      cases es with
      | nil => cases h4
      | cons e es =>
        obtain ⟨s1, l', s2⟩ := chkL_star1 h5
        exact C.rai n y (by simpa using h1) (gl_of h2) (okN_of h3).1 e es l p cp pos (sndL l C.toCn _ h5) (starEach_cons s1) (fun q => chkL_star s2)
    · cases h
  | .pas, X, EW, C, s, h => by
    unfold chkS at h
    split at h
    · exact t_pas
    · cases h
  | .brk, X, EW, C, s, h => by
    unfold chkS at h
    split at h
    · exact t_brk
    · cases h
  | .cnt, X, EW, C, s, h => by
    unfold chkS at h
    split at h
    · exact t_cnt
    · cases h
  | .tryE b hs, X, EW, C, s, h => by
    unfold chkS at h
    split at h
    · simp only [Bool.and_eq_true] at h
      obtain ⟨⟨⟨hT, h1⟩, h2⟩, h3⟩ := h
      obtain ⟨l, q1, q2⟩ := sndH hs C _ h3
      exact t_try C.stk C.frm C.nd C.tk (fun W pn xe tk po => sndTB b (C.toCn.tr pn xe tk po) C.fnT _ h1 h2) q1 q2
    · cases h
theorem sndBk {T : Tab} {Φ : Nat → Fn} {E : XT} {k : Nat} : ∀ (c : CB) {X : Cx} {EW : WX} (C : Cs T Φ E k X EW) (ss : List Stmt), chkB T Φ X.N X.env.scope c ss = true → PSs X ss (tSt X.K E EW (evBk Φ c))
  | .nil, X, EW, C, ss, h => by
    unfold chkB at h
    cases ss with
    | nil => exact t_nil
    | cons _ _ => simp at h
  | .cons s r, X, EW, C, ss, h => by
    unfold chkB at h
    split at h
    · simp only [Bool.and_eq_true] at h
      exact t_cons (sndS s C _ h.1) (sndBk r C _ h.2)
    · cases h
theorem sndH {T : Tab} {Φ : Nat → Fn} {E : XT} {k : Nat} : ∀ (c : HL) {X : Cx} {EW : WX} (C : Cs T Φ E k X EW) (hs : List ExceptHandler), chkH T Φ X.N X.env.scope c hs = true → ∃ l, HdOk X hs l ∧ HlOk X E EW Φ c l
  | .nil, X, EW, C, hs, h => by
    unfold chkH at h
    cases hs with
    | nil => exact ⟨[], .nil, hl_nil⟩
    | cons _ _ => simp at h
  | .cons x i cs b r, X, EW, C, hs, h => by
    unfold chkH at h
    split at h
    · rename_i y np n b0 suite pos' hs
      simp only [Bool.and_eq_true, decide_eq_true_eq, beq_iff_eq] at h
      obtain ⟨⟨⟨⟨⟨⟨⟨⟨⟨rfl, h2⟩, h3⟩, h4⟩, h5⟩, h6⟩, h7⟩, h8⟩, h9⟩, h10⟩ := h
      have hve : y ≠ "ValueError" := by simpa using h4
      obtain ⟨l, q1, q2⟩ := sndH r C _ h10
      have an : ∀ c b fs, (c, b, fs) ∈ cs → E.fl c = fs ∧ X.mg y = some (.ref (He.ga X.K y)) ∧ PySem.W.exmOne X.K (.ref (He.ga X.K c)) (.ref (He.ga X.K y)) = some b := fun c b fs hm => by
        obtain ⟨fs', ans, hx, hp⟩ := any_mem (List.all_eq_true.mp h8 _ hm)
        simp only [Bool.and_eq_true, beq_iff_eq] at hp
        have x := C.xt _ _ _ hx
        have a := x.an _ _ (lkp_mem hp.2)
        unfold AnsOk at a
        rw [if_neg hve] at a
        exact ⟨x.fl.trans hp.1, a.1, a.2.1⟩
      have hmg : X.mg y = some (.ref (He.ga X.K y)) := by
        cases cs with
        | nil => simp at h7
        | cons q _ => exact (an q.1 q.2.1 q.2.2 (by simp)).2.1
      refine ⟨_, .cons (c := .ref (He.ga X.K y)) (ts := tSt X.K E EWF (evBk Φ b)) ⟨gl_of h2, (okN_of h3).1, .inl hmg⟩ h5 (lcl_of h6) (fun a pn => sndBk b (C.suite a pn) _ h9) q1, hl_cons C.ecl (fun c b fs hm => ⟨(an c b fs hm).1, (an c b fs hm).2.2⟩) q2⟩
    · cases h
end
/-! ### what leaves the store at a def's end -/
mutual
theorem Rp.pull {K : PySem.W.Frag} {μ more : List Addr} {W : Addr → Prop} {H : Hp} : ∀ {d : D} {v : V}, Rp K (μ ++ more) W H d v → upD μ.length d = true → Rp K μ (fun b => W b ∨ b ∈ more) H d v
  | _, _, .non, _ => .non
  | _, _, .bl b, _ => .bl b
  | _, _, .int b, _ => .int b
  | _, _, .str b, _ => .str b
  | _, _, .tup h r, p => .tup h (Rps.pull r (by unfold upD at p; exact p))
  | _, _, .lst h nw nm r, p => .lst h (fun z => by
      rcases z with z | z
      · exact nw z
      · exact nm (List.mem_append_right _ z)) (fun z => nm (List.mem_append_left _ z)) (Rps.pull r (by unfold upD at p; exact p))
  | _, _, .scr h, _ => .scr h
  | _, _, .exn h nw nm hd r, p => .exn h (fun z => by
      rcases z with z | z
      · exact nw z
      · exact nm (List.mem_append_right _ z)) (fun z => nm (List.mem_append_left _ z)) (hd.imp id fun ⟨d, e, h, nm⟩ => ⟨d, e, h, fun z => nm (List.mem_append_left _ z)⟩) (Rps.pull r (by unfold upD at p; exact p))
  | _, _, .ptr h, p => .ptr (by
      unfold upD at p
      rw [List.getElem?_append_left (of_decide_eq_true p)] at h
      exact h)
theorem Rps.pull {K : PySem.W.Frag} {μ more : List Addr} {W : Addr → Prop} {H : Hp} : ∀ {ds : List D} {vs : List V}, Rps K (μ ++ more) W H ds vs → upDs μ.length ds = true → Rps K μ (fun b => W b ∨ b ∈ more) H ds vs
  | _, _, .nil, _ => .nil
  | _, _, .cons h r, p => by
    unfold upDs at p
    simp only [Bool.and_eq_true] at p
    exact .cons (Rp.pull h p.1) (Rps.pull r p.2)
end
mutual
theorem Rp.up {K : PySem.W.Frag} {μ : List Addr} {W : Addr → Prop} {H : Hp} : ∀ {d : D} {v : V}, Rp K μ W H d v → upD μ.length d = true
  | _, _, .non => by simp [upD]
  | _, _, .bl b => by simp [upD]
  | _, _, .int b => by simp [upD]
  | _, _, .str b => by simp [upD]
  | _, _, .tup h r => by unfold upD; exact Rps.up r
  | _, _, .lst h nw nm r => by unfold upD; exact Rps.up r
  | _, _, .scr h => by simp [upD]
  | _, _, .exn h nw nm hd r => by unfold upD; exact Rps.up r
  | _, _, .ptr h => by unfold upD; exact decide_eq_true (List.getElem?_eq_some_iff.mp h).1
theorem Rps.up {K : PySem.W.Frag} {μ : List Addr} {W : Addr → Prop} {H : Hp} : ∀ {ds : List D} {vs : List V}, Rps K μ W H ds vs → upDs μ.length ds = true
  | _, _, .nil => by simp [upDs]
  | _, _, .cons h r => by unfold upDs; rw [Rp.up h, Rps.up r]; rfl
end
theorem SOk.cut {K : PySem.W.Frag} {μ more : List Addr} {W W0 : Addr → Prop} {H H0 : Hp} {S S0 : Store} (s0 : SOk K μ W0 H0 S0) (s : SOk K (μ ++ more) W H S) (c : oldP S0 S) : SOk K μ (fun b => W b ∨ b ∈ more) H (S.take S0.length) := by
  have hl : μ.length ≤ S.length := by rw [← s.len]; simp
  have h0 := s0.len
  have nd := s.nd
  rw [List.nodup_append] at nd
  refine ⟨by simp; omega, nd.1, fun b hb z => ?_, fun m p ob h1 h2 => ?_⟩
  · rcases z with z | z
    · exact s.nw b (List.mem_append_left _ hb) z
    · exact nd.2.2 b hb b z rfl
  · have hm : m < μ.length := (List.getElem?_eq_some_iff.mp h1).1
    have h2' : S[m]? = some ob := by rw [List.getElem?_take_of_lt (by omega)] at h2; exact h2
    obtain ⟨o, ws, e1, sh, e2⟩ := s.at_ m p ob (by rw [List.getElem?_append_left hm]; exact h1) h2'
    refine ⟨o, ws, e1, sh.keep fun dx e n => ⟨e, fun z => n (List.mem_append_left _ z)⟩, e2.pull ?_⟩
    rcases c m ob (by omega) h2' with z | z
    · obtain ⟨_, _, _, _, r0⟩ := s0.at_ m p ob h1 z
      exact r0.up
    · rw [h0]; exact z
theorem cut_ok {K : PySem.W.Frag} {μ μ' : List Addr} {W : Addr → Prop} {H H' : Hp} {fr f : Bool} {S0 S' S'' : Store} {d d' : D} {v : V} (s0 : SOk K μ W H S0) (g : Gr μ H μ') (s : SOk K μ' W H' S') (dm : ∀ b, W b → H b ≠ none) (rr : RR f K μ' W H H' S' d v) (e : cutD S0 d S' = some (d', S'')) (hf : (fr && !f && !newB S0.length d) = false) :
    SOk K μ W H' S'' ∧ RR fr K μ W H H' S'' d' v := by
  have hn0 := s0.len
  obtain ⟨⟨more, rfl⟩, gn⟩ := g
  unfold cutD at e
  split at e
  case isFalse => cases e
  rename_i hold
  have S2 := s0.cut s hold
  have nd := s.nd
  rw [List.nodup_append] at nd
  have plain : upD S0.length d = true → newB S0.length d = false → SOk K μ W H' (S'.take S0.length) ∧ RR fr K μ W H H' (S'.take S0.length) d v := fun hu hnb => by
    rw [hnb, Bool.not_false, Bool.and_true] at hf
    rw [← hn0] at hu
    refine ⟨S2.less fun b z => .inl z, (rr.1.pull hu).less fun b z => .inl z, fun hfr => ?_⟩
    rw [hfr, Bool.true_and, Bool.not_eq_false'] at hf
    obtain ⟨f1, f2⟩ := rr.2 hf
    refine ⟨fun ds e => ?_, fun ds a e1 e2 => ?_⟩
    · obtain ⟨a, us, q1, q2, q3, q4, q5⟩ := f1 ds e
      subst e
      refine ⟨a, us, q1, q2, q3, fun z => q4 (List.mem_append_left _ z), (q5.pull (by unfold upD at hu; exact hu)).less fun b z => .inl z⟩
    · exact (s0.cut (f2 ds a e1 e2) hold).less fun b z => .inl z
  split at e
  · rename_i p
    split at e
    · rename_i hp
      cases e
      exact plain (by unfold upD; exact decide_eq_true hp) (by unfold newB; simp [hp])
    · rename_i hp
      split at e
      · rename_i es hes
        split at e
        · rename_i hc
          cases e
          cases rr.1 with
          | ptr ha =>
            rename_i a
            have ha' := ha
            rw [List.getElem?_append_right (by omega)] at ha'
            have am : a ∈ more := List.mem_of_getElem? ha'
            have nμ : a ∉ μ := fun z => nd.2.2 a z a am rfl
            have h0 : H a = none := gn a (List.mem_append_right _ am) nμ
            obtain ⟨_, us, ea, rfl, re⟩ := s.at_ p a _ ha hes
            rw [← hn0] at hc
            have fl : Rps K μ (fun b => W b ∨ b = a) H' es us := (Rps.pull (show Rps K (μ ++ more) W H' es us from re) hc).less fun b z => z.imp id fun z => by rw [z]; exact am
            refine ⟨S2.less fun b z => .inl z, .lst ea (fun z => dm a z h0) nμ (fl.less fun b z => .inl z), fun _ => ⟨fun ds' e => ?_, fun ds' a' e e' => ?_⟩⟩
            · cases e; exact ⟨a, us, rfl, h0, ea, nμ, fl⟩
            · cases e'
              refine S2.less fun b z => ?_
              rcases z with z | z
              · exact .inl z
              · rw [z]; exact .inr am
        · cases e
      · cases e
  · split at e
    · rename_i hnp hu
      cases e
      exact plain hu (by unfold newB; split <;> first | exact absurd rfl (hnp _) | rfl)
    · cases e
/-! ### a def -/
theorem bd_start {K : PySem.W.Frag} {W : Addr → Prop} {μ : List Addr} {S : Store} {H : Hp} {ds : List D} {vs : List V} {N : List Str} (dom : ∀ b, W b → H b ≠ none) (st : SOk K μ W H S) (r : Rps K μ W H ds vs) : Bd K ⟨W, μ, H, []⟩ μ S (L2.start N vs) (ds.map .sh ++ List.replicate (N.length - ds.length) .u) H := by
  have hl := r.length
  refine ⟨dom, st, ?_, .refl, .refl, (fun _ h => nomatch h), fun i c h => ?_⟩
  · simp [L2.start, hl]
  · by_cases hi : i < ds.length
    · rw [List.getElem?_append_left (by simpa using hi), List.getElem?_map] at h
      obtain ⟨d, hd, rfl⟩ := Option.map_eq_some_iff.mp h
      obtain ⟨v, h1, h2⟩ := r.get hd
      refine ⟨v, ?_, h2⟩
      unfold L2.start
      rw [List.getElem?_append_left (by simp; omega), List.getElem?_map, h1]
      rfl
    · rw [List.getElem?_append_right (by simp; omega)] at h
      have := List.mem_of_getElem? h
      rw [List.mem_replicate] at this
      rw [this.2]
      trivial
section
variable {P : Program} {w : World} {K : PySem.W.Frag} {mg : Str → Option Value} {base : Heap} {T : Tab} {Φ : Nat → Fn} {E : XT} {k : Nat}
/-- what the defs, the constants, the built-ins and the errors of the program keep, up to level k -/
structure Env1 (P : Program) (w : World) (K : PySem.W.Frag) (mg : Str → Option Value) (base : Heap) (T : Tab) (Φ : Nat → Fn) (E : XT) (k : Nat) : Prop where
  fns : ∀ f x, (f, x) ∈ T.fns → ∃ a fd ps, mg x = some (.ref a) ∧ PySem.W.keepIn K (.ref a) = true ∧ L2.Binds K fd ps [] ∧ FnOk P w K mg base (L2.CX P w) k a fd ps (spD E K (Φ f))
  glb : ∀ x d, (x, d) ∈ T.glb → ∃ u v, mg x = some u ∧ RelV v u ∧ ∀ μ W H, Rp K μ W H d v
  free : ∀ x, x ∈ T.free → mg x = none
  tps : ∀ x ds, (x, ds) ∈ T.tps → ∃ a vs, mg x = some (.ref a) ∧ (∀ H, SqT K H a vs) ∧ ∀ μ W H, Rps K μ W H ds vs
  ecl : ∀ c, E.cl c = He.ga K c
  xt : ∀ c fs ans, (c, fs, ans) ∈ T.xt → XtOk E K mg c fs ans
  cst : ∀ x c, (x, c) ∈ T.cst → ∃ f fd, mg x = some (.ref f) ∧ PySem.W.keepIn K (.ref f) = true ∧ L2.Binds K fd [] [] ∧ FnTk P w K mg base k f fd c
  cls : ∀ c fs, (c, fs) ∈ T.cls → Cls K (He.ga K c) ∧ ∀ f, f ∈ fs → NoAttr K (He.ga K c) f
  mts : ∀ c m f, (c, m, f) ∈ T.mts → MtOk E P w K mg base Φ k c m f
  mks : ∀ c f n df, (c, f, n, df) ∈ T.mks → MkOk E P w K mg base Φ k c f n df
  rai : ∀ (X : Cx) (EW : WX), X.prog = P → X.w = w → X.K = K → X.mg = mg → X.base = base → X.calm = true → Room k X.A → Takes X EW → ∀ (n : Nat) (y : Str), (y, n) ∈ T.exc → Gl X y → (y == ("__debug__" : Str)) = false → ∀ (e : Expr) (es : List Expr) (l : CL) (p cp pos : Pos), PA X (e :: es) (tL X.K E EW (evL Φ l)) → starEach (e :: es) X.env = (false, eval e X.env) :: starEach es X.env → (∀ q, (backTo q (starEach es X.env)).any (·.1) = false) →
    PS X (.Raise (some (.Call (.Name y p) (e :: es) [] cp)) none pos) (tSt X.K E EW (evS Φ (.rai y n l)))
theorem def_ok (G : Env1 P w K mg base T Φ E k) {x qual : Str} {st : Stmt} {f : Addr} {fd : FuncData} {dvs : List V} {kws : List (Str × V)} {N ps : List Str} {fr : Bool} {c : CB} (F : FunD K x qual (defArgs st) (defBody st) (defScope st) dvs kws f fd) (Sc : FnScope N ps (defScope st)) (hc : chkB T Φ N (defScope st) c (defBody st) = true) :
    FnOk P w K mg base (L2.CX P w) (k + 1) f fd ps (spD E K ⟨fr, runDef Φ fr ps.length N.length c⟩) := by
  refine F.ok Sc (fun vs H Q EX h => ?_) (fun cdv A outer s H vs Q EX hr h => ?_)
  · obtain ⟨W, μ, S, ds, _, _, r, h⟩ := h
    rw [← r.length]
    simp only [runDef] at h
    split at h
    · rename_i h0
      split at h0
      · assumption
      · cases h0
    · rename_i h0
      split at h0
      · assumption
      · cases h0
    · exact h.elim
  · obtain ⟨W, μ, S, ds, dom, so, r, h⟩ := h
    refine ⟨tSt K E (fun c d _ H => EX c d H) (evBk Φ c), ?_, ⟨W, μ, H, []⟩, μ, S, ds.map .sh ++ List.replicate (N.length - ds.length) .u, bd_start dom so r, ?_⟩
    · have C : Cs T Φ E k (cxOf (L2.CX P w) P w K mg base N qual (defScope st) f cdv A outer s H EX) (fun c d _ H => EX c d H) :=
        { nd := Sc.nd, calm := fun _ => rfl, room := fun _ => hr, hu := by have := hr.un; show (A.deeper (envOfC qual (defScope st) s.heap.objs.size f cdv)).units + 65 < cLine; omega, ecl := G.ecl, xt := G.xt, cst := G.cst, stk := rfl, frm := rfl, tk := takes_of rfl rfl rfl rfl, own := passes_of rfl, fns := G.fns, glb := G.glb, free := G.free, tps := G.tps, cls := G.cls, mts := G.mts, mks := G.mks, fnT := fun _ => rfl,
          rai := G.rai _ _ rfl rfl rfl rfl rfl rfl hr (takes_of rfl rfl rfl rfl) }
      exact sndBk c C _ hc
    · have hlen : ds.length = ps.length := by
        simp only [runDef] at h
        by_cases q : ds.length = ps.length
        · exact q
        · rw [if_neg q] at h; exact h.elim
      simp only [runDef, if_pos hlen] at h
      cases e : evBk Φ c (ds.map .sh ++ List.replicate (N.length - ds.length) .u) S with
      | bad => rw [e] at h; exact h.elim
      | err y S' =>
        rw [e] at h
        simp only [endD] at h
        intro c dd σ H' μ' ρ B xr
        have st' : SOk K μ' W H' S' := B.st
        have gr : Gr μ H μ' := B.gr
        split at h
        · rename_i h0
          split at h0
          · cases h0
          · cases h0
        · rename_i z S2 h0
          split at h0
          · rename_i hq
            cases h0
            obtain ⟨⟨more, rfl⟩, _⟩ := gr
            refine h c dd H' μ B.ext .refl ((so.cut st' hq.1).less fun b z => .inl z) ?_
            unfold XRep at xr ⊢
            refine ⟨xr.1, ?_⟩
            have h2 := xr.2
            split at h2
            · exact h2
            · obtain ⟨d, vs, e1, e2, e4, e3⟩ := h2
              exact ⟨d, vs, e1, e2, fun z => e4 (List.mem_append_left _ z), (e3.pull (by rw [so.len]; exact hq.2)).less fun b z => .inl z⟩
          · cases h0
            exact h c dd H' μ' B.ext gr st' xr
        · exact h.elim
      | ok fl S' =>
        rw [e] at h
        cases fl with
        | nx ρ =>
          simp only [endD] at h
          intro σ H' μ' B
          have st' : SOk K μ' W H' S' := B.st
          have gr : Gr μ H μ' := B.gr
          have non : ∀ {μ S}, RR fr K μ W H H' S .non .non := fun {μ S} => ⟨.non, fun _ => ⟨.triv (by intro _ z; cases z), fun _ _ z => nomatch z⟩⟩
          split at h
          · rename_i hq
            obtain ⟨⟨more, rfl⟩, _⟩ := gr
            exact h .non H' μ B.ext .refl ((so.cut st' hq).less fun b z => .inl z) non
          · exact h .non H' μ' B.ext gr st' non
        | bk ρ => exact h.elim
        | ct ρ => exact h.elim
        | rt f0 d =>
          simp only [endD] at h
          cases hp : cutD S d S' with
          | some q =>
            obtain ⟨d', S2⟩ := q
            rw [hp] at h
            cases hq : (fr && !f0 && !newB S.length d) with
            | true => simp only [hq] at h; exact h.elim
            | false =>
              simp only [hq] at h
              intro v H' μ' x g s rr
              obtain ⟨s2, r2⟩ := cut_ok so g s dom rr hp hq
              exact h v H' μ x .refl s2 r2
          | none =>
            rw [hp] at h
            cases hq : (fr && !f0) with
            | true => simp only [hq] at h; exact h.elim
            | false =>
              simp only [hq] at h
              intro v H' μ' x g s rr
              refine h v H' μ' x g s ⟨rr.1, fun z => rr.2 ?_⟩
              have z' : fr = true := z
              rw [z', Bool.true_and, Bool.not_eq_false'] at hq
              exact hq
end
end RH

set_option Elab.async false
set_option linter.all false
set_option maxRecDepth 100000
set_option maxHeartbeats 4000000
/-! RHExc: own errors: HallError and its children. -/
namespace RH
open PySem PySem.Spec PyProof.Rows L2
/-- what the written part says of an error's class -/
def oexB (K : PySem.W.Frag) (C : Addr) : Bool := (match K.lookup C with
  | some ⟨.type "type", _, .cls cd, sl⟩ => (match cd.mro, sl.toList with
    | .ref C' :: bm, [_, _, _, _, some (.builtin n), _] => C' == C && n == "ValueError.__new__" && !cd.hasDel && cd.hasDict && PySem.HandSPX.refsVE bm
    | _, _ => false)
  | _ => false) && decide (PySem.W.findIn K (.ref C) "__setattr__" = some (some (.builtin "object.__setattr__"))) && decide (PySem.W.subIn K (.ref C) (.type "BaseException") = some true) && decide (PySem.W.typeIn K (.ref C) = some (.type "type")) && PySem.W.keepIn K (.ref C)
theorem oexB_ok {K : PySem.W.Frag} {C : Addr} (h : oexB K C = true) : OexC K C := by
  unfold oexB at h
  simp only [Bool.and_eq_true, decide_eq_true_eq] at h
  obtain ⟨⟨⟨⟨h1, h2⟩, h3⟩, h4⟩, h5⟩ := h
  refine ⟨?_, h2, h3, h4, h5⟩
  split at h1
  · rename_i dd cd sl ho
    split at h1
    · rename_i C' bm k0 k1 k2 k3 n k5 e1 e2
      simp only [Bool.and_eq_true, beq_iff_eq, Bool.not_eq_true'] at h1
      obtain ⟨⟨⟨⟨q1, q2⟩, q3⟩, q4⟩, q5⟩ := h1
      subst q1 q2
      obtain ⟨nm, bs, mro, ns, qn, hd, sn, sb, ab, col, del⟩ := cd
      simp only at e1 q3 q4
      subst e1 q3 q4
      have esl : sl = #[k0, k1, k2, k3, some (.builtin "ValueError.__new__"), k5] := by
        rw [← e2]
      subst esl
      exact ⟨nm, qn, ns, bs, bm, sn, sb, ab, col, dd, k0, k1, k2, k3, k5, ho, q5⟩
    · cases h1
  · cases h1
/-- the base class: HallError -/
structure BaseOk (K : PySem.W.Frag) (mg : Str → Option Value) (B : Addr) : Prop where
  mgB : mg "HallError" = some (.ref B)
  sp : PySem.W.specialIn K (.ref B) "__getattribute__" = some (some (.builtin "type.__getattribute__"))
  rd : PySem.W.readsIn K B (.type "type") = true
  fc : PySem.W.findCls K (.ref B) (.type "type") "__init__" = some (.val (.builtin "ValueError.__init__"))
section
variable {X : Cx} {ta : TA} {p1 p2 pos : Pos}
theorem pe_heinit {B : Addr} {y : Str} {q r : Pos} {txt : Str} {j : Nat} (hB : BaseOk X.K X.mg B) (hg : Gl X "HallError") (ha : PA X [.Name y q, .Constant (.str txt) j r] ta) (hline : (p2.endLine == pos.line) = true) :
    PE X (.Call (.Attribute (.Name "HallError" p1) "__init__" p2) [.Name y q, .Constant (.str txt) j r] [] pos) (tVeI X.K ta) := by
  refine ⟨fun pins s σ H Q I h => ?_⟩
  have hbase : attributeBase (.Name "HallError" p1) "__init__" X.env (eval (.Name "HallError" p1) X.env) = eval (.Name "HallError" p1) X.env := rfl
  rw [arm_eval_Call, hbase]
  refine wpAny_bind (ld_glob I hg hB.mgB ?_ (by decide))
  refine wpAny_bind (wpAny_standAt ?_)
  have hform : methodCallForm (([.Name y q, .Constant (.str txt) j r] : List Expr).length + ([] : List Keyword).length) (backTo pos (starEach [.Name y q, .Constant (.str txt) j r] X.env)) (backToKw pos (keywordEach [] X.env)) = true := rfl
  have hpos : methodCallPos true (.Name "HallError" p1) X.env p2 pos = pure pos := by unfold methodCallPos; simp [hline]
  unfold methodCall
  rw [hform]
  obtain ⟨m, fr⟩ := I.fr
  refine wpAny_bind (wpAny_holding (PySem.W.method_of_cls fr I.ok.mod.kin hB.sp (PySem.W.cls_value I.kIn hB.rd hB.fc (by decide +kernel) ?_)))
  refine wpAny_bind (wpAny_of_eq hpos ?_)
  show wpAny _ _ (callWith pos (Value.builtin "ValueError.__init__") [] (backTo pos (starEach [.Name y q, .Constant (.str txt) j r] X.env)) []) _ _ _
  refine PyProof.Rows.callWith_method1 (thn (ha.run pos pins _ σ H _ (I.tok _) h) fun us s1 ⟨vs, H1, I1, r1, a, C, ws, ev, hl, T, ea, q⟩ => ?_) rfl rfl
  subst ev
  cases r1 with
  | @cons _ u0 _ ur ra rw' =>
    obtain rfl : u0 = Value.ref a := ra
    have hlen : ur.length ≤ sizeLine := by
      rw [← Paired.length rw', sizeLine_eq]
      omega
    exact oinit_ok T I1 ea hlen fun s' J => ⟨.non, H1, J, rfl, q⟩
end
/-! ### __init__ -/
def tFl (K : PySem.W.Frag) : Nat → List Str → TS
  | _, [] => tNext
  | i, f :: fs => tSeq (tOst K f (tVar 0) (tVar i)) (tFl K (i + 1) fs)
def chkFl (N : List Str) (sc : Scope) : Nat → List Str → List Stmt → Bool
  | _, [], ss => ss.isEmpty
  | i, f :: fs, ss => match ss with
    | .Assign [.Attribute (.Name x _) g _] (.Name y _) _ :: ss => decide (g = f) && varB N sc 0 x && varB N sc i y && chkFl N sc (i + 1) fs ss
    | _ => false
theorem fl_ps {X : Cx} : ∀ {fs : List Str} {i : Nat} {ss : List Stmt}, chkFl X.N X.env.scope i fs ss = true → PSs X ss (tFl X.K i fs)
  | [], i, ss, h => by
    unfold chkFl at h
    cases ss with
    | nil => exact pss_nil
    | cons _ _ => cases h
  | f :: fs, i, ss, h => by
    unfold chkFl at h
    split at h
    · simp only [varB, Bool.and_eq_true, decide_eq_true_eq] at h
      obtain ⟨⟨⟨rfl, ⟨⟨a1, a2⟩, a3⟩⟩, ⟨⟨b1, b2⟩, b3⟩⟩, h4⟩ := h
      exact pss_cons (ps_ost (pe_var a1 (vis_of a2) (okN_of a3).1 (okN_of a3).2.1) (pe_var b1 (vis_of b2) (okN_of b3).1 (okN_of b3).2.1)) (fl_ps h4)
    · cases h
theorem upd_idem {H : Hp} {a : Addr} {o u : HO} : upd (upd H a o) a u = upd H a u := by
  funext b; unfold upd; split <;> rfl
theorem fl_run {K : PySem.W.Frag} {C a dx : Addr} {D : Ends} {σ : L2.St} (T : OexC K C) (h0 : σ[0]? = some (some (.ref a))) (hne : dx ≠ a) : ∀ {fs : List Str} {i : Nat} {ws : List V} {gs : List (Str × V)} {H : Hp}, (∀ f, f ∈ fs → PySem.W.findIn K (.ref C) f = some none) → ws.length = fs.length → (∀ j v, ws[j]? = some v → σ[i + j]? = some (some v)) →
    gs.length + fs.length ≤ 900 → H a = some (exo a C (some dx)) → H dx = some (exd dx gs) → D.nx σ (upd H dx (exd dx ((fs.zip ws).reverse ++ gs))) → tFl K i fs D σ H
  | [], i, ws, gs, H, _, _, _, _, ha, hd, q => by
    have e : upd H dx (exd dx gs) = H := by
      funext b; unfold upd; split
      · rename_i z; rw [z, hd]
      · rfl
    have q : D.nx σ (upd H dx (exd dx gs)) := q
    rw [e] at q
    exact q
  | f :: fs, i, ws, gs, H, hf, hl, hs, hz, ha, hd, q => by
    cases ws with
    | nil => cases hl
    | cons w ws =>
      refine ⟨w, hs 0 w rfl, .ref a, h0, a, C, rfl, T, hf f (by simp), .inr ⟨dx, gs, ha, hd, by omega, ?_⟩⟩
      refine fl_run T h0 hne (gs := (f, w) :: gs) (ws := ws) (fun g hg => hf g (List.mem_cons_of_mem _ hg)) (by simpa using hl) (fun j v hv => ?_) (by simp at hz ⊢; omega) ?_ upd_same ?_
      · have := hs (j + 1) v (by simpa using hv)
        rw [show i + 1 + j = i + (j + 1) by omega]; exact this
      · rw [upd_ne (Ne.symm hne)]; exact ha
      · rw [upd_idem]
        simpa using q
def chkInit (N : List Str) (sc : Scope) (fs : List Str) (ss : List Stmt) : Bool := match ss with
  | .Expr (.Call (.Attribute (.Name b _) n ap) [.Name x _, .Constant (.str _) _ _] [] cp) _ :: ss => ap.endLine == cp.line && decide (b = "HallError") && decide (n = "__init__") && glB sc b && varB N sc 0 x && chkFl N sc 1 fs ss
  | _ => false
/-- the promise of __init__ -/
def spI (K : PySem.W.Frag) (C : Addr) (fs : List Str) : Sp := fun vs H Q _ => ∃ a ws, vs = .ref a :: ws ∧ ws.length = fs.length ∧ H a = some (exo a C none) ∧ ∀ dx, H dx = none → dx ≠ a → Q .non (upd (upd H dx (exd dx (fs.zip ws).reverse)) a (exo a C (some dx)))
section
variable {P : Program} {w : World} {K : PySem.W.Frag} {mg : Str → Option Value} {base : Heap}
theorem init_ok {x qual : Str} {params : Arguments} {body : List Stmt} {scope : Scope} {f B C : Addr} {fd : FuncData} {N : List Str} {fs : List Str} {k : Nat} (hB : BaseOk K mg B) (T : OexC K C) (F : FunD K x qual params body scope [] [] f fd) (Sc : FnScope N N scope) (hN : N.length = fs.length + 1) (h0 : fs ≠ []) (hf : ∀ g, g ∈ fs → PySem.W.findIn K (.ref C) g = some none) (hl : fs.length ≤ 10) (hc : chkInit N scope fs body = true) :
    FnOk P w K mg base (L2.CX P w) (k + 1) f fd N (spI K C fs) := by
  refine F.ok Sc (fun vs H Q EX h => ?_) (fun cdv A outer s H vs Q EX hr h => ?_)
  · obtain ⟨a, ws, rfl, hw, _⟩ := h
    simp [hw, hN]
  · obtain ⟨a, ws, rfl, hw, ha, q⟩ := h
    unfold chkInit at hc
    split at hc
    · rename_i b p1 n p2 y p3 txt j p4 p5 p6 ss
      simp only [varB, Bool.and_eq_true, decide_eq_true_eq] at hc
      obtain ⟨⟨⟨⟨⟨hln, rfl⟩, rfl⟩, h3⟩, ⟨⟨a1, a2⟩, a3⟩⟩, h5⟩ := hc
      refine ⟨_, pss_cons (ps_expr (pe_heinit hB (gl_of h3) (pa_cons (pe_var a1 (vis_of a2) (okN_of a3).1 (okN_of a3).2.1) (pa_cons pe_str pa_nil rfl) rfl) hln) rfl) (fl_ps h5), ?_⟩
      have e0 : (L2.start N (.ref a :: ws))[0]? = some (some (.ref a)) := by
        unfold L2.start; rfl
      have es : ∀ j v, ws[j]? = some v → (L2.start N (.ref a :: ws))[1 + j]? = some (some v) := fun j v hv => by
        unfold L2.start
        have hj : j < ws.length := (List.getElem?_eq_some_iff.mp hv).1
        rw [List.getElem?_append_left (by simp; omega), List.getElem?_map, Nat.add_comm 1 j, List.getElem?_cons_succ, hv]
        rfl
      refine ⟨.ref a, e0, ?_⟩
      refine ⟨a, C, [_], rfl, (by simp), T, ha, ?_⟩
      cases fs with
      | nil => exact absurd rfl h0
      | cons f1 fs =>
        cases ws with
        | nil => cases hw
        | cons w1 ws =>
          refine ⟨w1, es 0 w1 rfl, .ref a, e0, a, C, rfl, T, hf f1 (by simp), .inl ⟨ha, fun dx n1 n2 => ?_⟩⟩
          refine fl_run T e0 n2 (gs := [(f1, w1)]) (ws := ws) (fun g hg => hf g (List.mem_cons_of_mem _ hg)) (by simpa using hw) (fun j v hv => ?_) (by simp at hl ⊢; omega) upd_same ?_ ?_
          · have := es (j + 1) v (by simpa using hv)
            rw [show 1 + 1 + j = 1 + (j + 1) by omega]; exact this
          · rw [upd_ne n2]; exact upd_same
          · have := q dx n1 n2
            have e : upd (upd (upd H dx (exd dx [(f1, w1)])) a (exo a C (some dx))) dx (exd dx ((fs.zip ws).reverse ++ [(f1, w1)])) = upd (upd H dx (exd dx ((f1 :: fs).zip (w1 :: ws)).reverse)) a (exo a C (some dx)) := by
              funext b
              simp only [upd]
              by_cases q1 : b = dx
              · have q2 : b ≠ a := fun z => n2 (q1.symm.trans z)
                simp [q1, q2, n2]
              · simp [q1]
            rw [e]
            exact this
    · cases hc
end
/-! ### raise -/
theorem rai_f {X : Cx} {E : XT} {EW : WX} {Φ : Nat → Fn} {C fI : Addr} {fd : FuncData} {N fs : List Str} {n k : Nat} {x y : Str} {e : Expr} {es : List Expr} {l : CL} {p cp pos : Pos} (T : OexC X.K C) (hE : E.cl x = C) (hfl : E.fl x = fs) (h0 : fs ≠ []) (hn : n = fs.length) (hl : fs.length ≤ 10)
    (iC : PySem.W.findIn X.K (.ref C) "__init__" = some (some (.ref fI))) (tI : PySem.W.typeIn X.K (.ref fI) = some (.type "function")) (F1 : FnOk X.prog X.w X.K X.mg X.base (L2.CX X.prog X.w) k fI fd N (spI X.K C fs)) (hb : L2.Binds X.K fd N [])
    (hc : X.calm = true) (hr : Room (k + 1) X.A) (tk : Takes X EW) (hg : Gl X y) (hm : X.mg y = some (.ref C)) (hdb : (y == ("__debug__" : Str)) = false) (ha : PA X (e :: es) (tL X.K E EW (evL Φ l))) (he : starEach (e :: es) X.env = (false, eval e X.env) :: starEach es X.env) (hpl : ∀ q, (backTo q (starEach es X.env)).any (·.1) = false) :
    PS X (.Raise (some (.Call (.Name y p) (e :: es) [] cp)) none pos) (tSt X.K E EW (evS Φ (.rai x n l))) := by
  refine (ps_raise hc tk (pmk_oex T iC tI F1 hr hb .nil passL hg hm ha hdb he (hpl cp))).imp fun D σ H h => ?_
  obtain ⟨F, μ, S, ρ, Bq, h⟩ := h
  simp only [evS] at h
  refine tL.bindS Bq h fun ds S1 vs H1 μ1 x1 g1 B1 r1 h => ?_
  split at h
  · rename_i hd
    have rl := r1.length
    refine ⟨by rw [← rl, hd, hn]; omega, fun a na => ?_⟩
    refine ⟨a, vs ++ [], rfl, by rw [List.append_nil, ← rl, hd, hn], upd_same, fun dx n1 n2 => ?_⟩
    have n1' : H1 dx = none := by rw [upd_ne n2] at n1; exact n1
    refine ⟨rfl, dx, (fs.zip vs).reverse, upd_same, by rw [upd_ne n2, List.append_nil]; exact upd_same, n1', ?_⟩
    have sm : Same H1 (upd (del (upd (upd (upd H1 a (exo a C none)) dx (exd dx (fs.zip (vs ++ [])).reverse)) a (exo a C (some dx))) a) dx (.xd (fs.zip vs).reverse)) := fun b o hb => by
      have q1 : b ≠ dx := ne_of_none hb n1'
      have q2 : b ≠ a := ne_of_none hb na
      rw [upd_ne q1, del_ne q2, upd_ne q2, upd_ne q1, upd_ne q2]
      exact hb
    refine h _ _ _ _ _ _ (B1.same sm) ⟨by rw [hE], ?_⟩
    show (match E.fl x with | [] => _ | fs => _)
    rw [hfl]
    cases fs with
    | nil => exact absurd rfl h0
    | cons f fs => exact ⟨dx, vs, rfl, upd_same, fun z => B1.dm.2 dx z n1', r1.ext' (.of_same sm) .refl⟩
  · exact h.elim
theorem rai_p {X : Cx} {E : XT} {EW : WX} {Φ : Nat → Fn} {C : Addr} {n : Nat} {x y : Str} {e : Expr} {es : List Expr} {l : CL} {p cp pos : Pos} (hE : E.cl x = C) (hfl : E.fl x = []) (hn : n ≤ 10) (q : PySem.W.excIn X.K C He.veBase "ValueError.__new__" = true) (kC : PySem.W.keepIn X.K (.ref C) = true) (bC : PySem.W.subIn X.K (.ref C) (.type "BaseException") = some true) (tC : PySem.W.typeIn X.K (.ref C) = some (.type "type"))
    (hc : X.calm = true) (tk : Takes X EW) (hg : Gl X y) (hm : X.mg y = some (.ref C)) (hdb : (y == ("__debug__" : Str)) = false) (ha : PA X (e :: es) (tL X.K E EW (evL Φ l))) (he : starEach (e :: es) X.env = (false, eval e X.env) :: starEach es X.env) (hpl : ∀ q, (backTo q (starEach es X.env)).any (·.1) = false) :
    PS X (.Raise (some (.Call (.Name y p) (e :: es) [] cp)) none pos) (tSt X.K E EW (evS Φ (.rai x n l))) := by
  refine (ps_raise hc tk (pmk_ownA PySem.F.excBase_ValueError q hm kC (raises_own bC tC) hg ha hdb he (hpl cp))).imp fun D σ H h => ?_
  obtain ⟨F, μ, S, ρ, Bq, h⟩ := h
  simp only [evS] at h
  refine tL.bindS Bq h fun ds S1 vs H1 μ1 x1 g1 B1 r1 h => ?_
  split at h
  · rename_i hd
    have rl := r1.length
    refine ⟨by rw [← rl, hd, sizeLine_eq]; omega, h _ _ _ _ _ _ B1 ⟨by rw [hE], ?_⟩⟩
    show (match E.fl x with | [] => _ | fs => _)
    rw [hfl]
  · exact h.elim
end RH

set_option Elab.async false
set_option linter.all false
set_option maxRecDepth 100000
/-! RFProg: a program of defs, run by levels; a law's end. -/
namespace RH
open PySem PySem.Spec PyProof.Rows L2
/-- a def of the top: its name, its parameters' number, its slots' names, whether it hands back a new list, its code -/
structure Df where
  name : Str
  np : Nat
  N : List Str
  fr : Bool
  code : CB
def Df.ps (d : Df) : List Str := d.N.take d.np
/-- the defs by their numbers -/
abbrev Defs := List (Nat × Df)
def frOf (G : Defs) (f : Nat) : Bool := match G.lookup f with
  | some d => d.fr
  | none => false
def nmOf (G : Defs) (f : Nat) : Str := match G.lookup f with
  | some d => d.name
  | none => ""
noncomputable def mRun (G : Defs) : Nat → Nat → List D → Store → Res D
  | 0, _, _, _ => .bad
  | k + 1, f, ds, S => match G.lookup f with
    | some d => runDef (fun g => ⟨frOf G g, mRun G k g⟩) d.fr d.np d.N.length d.code ds S
    | none => .bad
/-- the defs at level k -/
noncomputable def Phi (G : Defs) (k : Nat) (f : Nat) : Fn := ⟨frOf G f, mRun G k f⟩
theorem mRun_succ {G : Defs} {k f : Nat} {d : Df} (h : G.lookup f = some d) (ds : List D) (S : Store) : (Phi G (k + 1) f).m ds S = runDef (Phi G k) d.fr d.np d.N.length d.code ds S := by
  show mRun G (k + 1) f ds S = _
  rw [mRun, h]
  rfl
/-- a law's defs: their numbers, their places in its top -/
abbrev Ids := List (Nat × Nat)
def topOf (P : Program) (i : Nat) : Stmt := P.main.body.getD i (.Pass ⟨0, 0, 0, 0⟩)
/-- what is looked at of a def -/
structure Good (P : Program) (T : Tab) (G : Defs) (p : Nat × Nat) (d : Df) : Prop where
  lk : G.lookup p.1 = some d
  sc : FnScope d.N d.ps (defScope (topOf P p.2))
  np : d.ps.length = d.np
  bd : ∀ (kV doc pm : Value) (an : Option Addr) (cdv ct : Value) (us : List Value), us.length = d.ps.length → bindArgs (PySem.W.fnOf d.name d.name (defArgs (topOf P p.2)) (defBody (topOf P p.2)) (defScope (topOf P p.2)) .none kV doc pm an cdv ct) ⟨us, []⟩ = pure (d.ps.zip us)
  chk : ∀ k, chkB T (Phi G k) d.N (defScope (topOf P p.2)) d.code (defBody (topOf P p.2)) = true
def mkD (P : Program) (G : Defs) (p : Nat × Nat) : He.DefD := ⟨(nmOf G p.1, none), nmOf G p.1, nmOf G p.1, defArgs (topOf P p.2), defBody (topOf P p.2), defScope (topOf P p.2), [], []⟩
/-- an error's class: its name, its place, its __init__'s place in it, that one's parameters, its fields; no field: no __init__ -/
structure Xc where
  name : Str
  at_ : Nat
  im : Nat
  qual : Str
  N : List Str
  fs : List Str
def Xc.ar (x : Xc) : Nat := match x.fs with
  | [] => 1
  | fs => fs.length
def clsSt (P : Program) (x : Xc) : Stmt := match topOf P x.at_ with
  | .ClassDef _ _ _ body _ _ _ _ _ _ _ => body.getD x.im (.Pass ⟨0, 0, 0, 0⟩)
  | _ => .Pass ⟨0, 0, 0, 0⟩
def mkX (P : Program) (x : Xc) : He.DefD := ⟨(x.name, some "__init__"), "__init__", x.qual, defArgs (clsSt P x), defBody (clsSt P x), defScope (clsSt P x), [], []⟩
/-- a method's text -/
def mSt (P : Program) (m : Md) : Stmt := match topOf P m.at_ with
  | .ClassDef _ _ _ body _ _ _ _ _ _ _ => body.getD m.im (.Pass ⟨0, 0, 0, 0⟩)
  | _ => .Pass ⟨0, 0, 0, 0⟩
def dvD : D → He.Dv
  | .bl b => .bl b
  | .int i => .int i
  | .str l => .str ⟨l.toArray⟩
  | _ => .non
/-- a default -/
def okV : D → Bool
  | .bl _ => true
  | .int _ => true
  | .non => true
  | .str l => ascB l
  | _ => false
def mkM (P : Program) (m : Md) : He.DefD := ⟨(m.c, some m.m), m.m, m.qual, defArgs (mSt P m), defBody (mSt P m), defScope (mSt P m), m.dfl.map dvD, []⟩
def faM (T : Tab) : List He.Fa := (T.cls.flatMap fun q => .glo q.1 :: .cls q.1 :: q.2.map (.noat q.1)) ++ T.md.map fun m => if m.m == ("__init__" : Str) then .mkr m.c else .meth m.c m.m
/-- what is looked at of a method -/
structure GoodM (P : Program) (T : Tab) (G : Defs) (m : Md) (d : Df) : Prop where
  lk : G.lookup m.id = some d
  sc : FnScope d.N d.ps (defScope (mSt P m))
  np : d.ps.length = d.np
  nm : m.np = d.np
  cl : T.cls.any (fun q => q.1 == m.c) = true
  ok : m.dfl.all okV = true
  nd : m.m ≠ "__init__" → m.dfl = []
  bd : m.dfl = [] → ∀ (kV doc pm : Value) (an : Option Addr) (cdv ct : Value) (us : List Value), us.length = d.ps.length → bindArgs (PySem.W.fnOf m.m m.qual (defArgs (mSt P m)) (defBody (mSt P m)) (defScope (mSt P m)) .none kV doc pm an cdv ct) ⟨us, []⟩ = pure (d.ps.zip us)
  bj : m.dfl ≠ [] → ∀ j, j ≤ m.dfl.length → ∀ (Tt : Addr) (kV doc pm : Value) (an : Option Addr) (cdv ct : Value) (us its : List Value), us.length = d.ps.length - (m.dfl.length - j) → its.length = m.dfl.length →
    ∃ k, bindArgs (PySem.W.fnOf m.m m.qual (defArgs (mSt P m)) (defBody (mSt P m)) (defScope (mSt P m)) (.ref Tt) kV doc pm an cdv ct) ⟨us, []⟩ = seqItems? (.ref Tt) >>= k ∧ k (some its.toArray) = pure (d.ps.zip (us ++ its.drop j))
  dl : m.dfl.length ≤ d.ps.length
  chk : ∀ k, chkB T (Phi G k) d.N (defScope (mSt P m)) d.code (defBody (mSt P m)) = true
theorem dv_rps {K : PySem.W.Frag} : ∀ {df : List D}, df.all okV = true → ∀ μ W H, Rps K μ W H df ((df.map dvD).map (He.Dv.v K))
  | [], _, _, _, _ => .nil
  | d :: df, h, μ, W, H => by
    rw [List.all_cons, Bool.and_eq_true] at h
    refine .cons ?_ (dv_rps h.2 μ W H)
    have h1 := h.1
    cases d <;> first | (cases h1; done) | skip
    · exact .non
    · exact .bl _
    · exact .int _
    · exact .str (asc_of h1)
def faG : Str × D → List He.Fa
  | (x, .int i) => [.int x i]
  | (x, .str l) => [.str x ⟨l.toArray⟩]
  | _ => []
def okC : Str × D → Bool
  | (_, .int _) => true
  | (_, .str l) => ascB l
  | _ => false
def faX (x : Xc) : List He.Fa := .glo x.name :: (match x.fs with
  | [] => [.exc x.name]
  | fs => .meth x.name "__init__" :: fs.map (.noat x.name))
def faOf (T : Tab) (G : Defs) (tab : Ids) (xs : List Xc) : List He.Fa := (tab.map fun p => .glo (nmOf G p.1)) ++ T.free.map .free ++ T.glb.flatMap faG ++ xs.flatMap faX ++ faM T
def isF (x : Xc) : Bool := !x.fs.isEmpty
def fnOf (P : Program) (G : Defs) (tab : Ids) (xs : List Xc) (ms : List Md) : List He.DefD := tab.map (mkD P G) ++ (xs.filter isF).map (mkX P) ++ ms.map (mkM P)
def strsB : List Value → List D → Bool
  | [], [] => true
  | .str y _ :: r, .str l :: ds => decide (y = ⟨l.toArray⟩) && ascB l && strsB r ds
  | _, _ => false
/-- a tuple of texts among the module's names -/
def tupB (K : PySem.W.Frag) (x : Str) (ds : List D) : Bool := (He.Fa.glo x).ok K && decide (ds.length ≤ 1000) && (match K.lookup (He.ga K x) with
  | some o => decide (o.cls = .type "tuple") && (match o.data with
    | .seq its _ => strsB its.toList ds
    | _ => false)
  | none => false)
theorem strs_ok {K : PySem.W.Frag} : ∀ {us : List Value} {ds : List D}, strsB us ds = true → ∃ vs, Vals vs us ∧ ∀ μ W H, Rps K μ W H ds vs
  | [], [], _ => ⟨[], .nil, fun _ _ _ => .nil⟩
  | .str y t :: r, .str l :: ds, h => by
    simp only [strsB, Bool.and_eq_true, decide_eq_true_eq] at h
    obtain ⟨⟨rfl, h2⟩, h3⟩ := h
    obtain ⟨vs, q1, q2⟩ := strs_ok (K := K) h3
    exact ⟨.str ⟨l.toArray⟩ :: vs, .cons ⟨t, rfl⟩ q1, fun μ W H => .cons (.str (asc_of h2)) (q2 μ W H)⟩
  | [], _ :: _, h => by simp [strsB] at h
  | u :: r, [], h => by cases u <;> simp [strsB] at h
  | u :: r, d :: ds, h => by
    cases u <;> first | (simp [strsB] at h; done) | skip
    cases d <;> first | (simp [strsB] at h; done) | skip
    simp only [strsB, Bool.and_eq_true, decide_eq_true_eq] at h
    obtain ⟨⟨rfl, h2⟩, h3⟩ := h
    obtain ⟨vs, q1, q2⟩ := strs_ok (K := K) h3
    exact ⟨.str ⟨_⟩ :: vs, .cons ⟨_, rfl⟩ q1, fun μ W H => .cons (.str (asc_of h2)) (q2 μ W H)⟩
theorem tup_ok {K : PySem.W.Frag} {h : Heap} {mg : Str → Option Value} (X : K.In h) (Gn : h.Ns mainGlobals mg) {x : Str} {ds : List D} (c : tupB K x ds = true) : ∃ a vs, mg x = some (.ref a) ∧ (∀ H, SqT K H a vs) ∧ ∀ μ W H, Rps K μ W H ds vs := by
  unfold tupB at c
  simp only [Bool.and_eq_true, decide_eq_true_eq] at c
  obtain ⟨⟨c1, c2⟩, c3⟩ := c
  split at c3
  · rename_i o e
    simp only [Bool.and_eq_true, decide_eq_true_eq] at c3
    obtain ⟨c3, c4⟩ := c3
    split at c4
    · rename_i its n e4
      obtain ⟨vs, q1, q2⟩ := strs_ok (K := K) c4
      refine ⟨_, vs, He.glo_ok X Gn c1, fun H => .inr ⟨o, its, n, e, c3, e4, ?_, q1⟩, q2⟩
      have l1 := q1.length
      have l2 := (q2 [] (fun _ => False) (fun _ => none)).length
      have l3 : its.toList.length = its.size := Array.length_toList
      rw [sizeLine_eq]; omega
    · cases c4
  · cases c3
/-- more of the written part -/
def moreB (xs : List Xc) (K : PySem.W.Frag) : Bool := xs.isEmpty || (decide (PySem.W.nsIn K mainGlobals "HallError" = some (some (.ref (He.ga K "HallError")))) && decide (PySem.W.specialIn K (.ref (He.ga K "HallError")) "__getattribute__" = some (some (.builtin "type.__getattribute__"))) && PySem.W.readsIn K (He.ga K "HallError") (.type "type")
  && (match PySem.W.findCls K (.ref (He.ga K "HallError")) (.type "type") "__init__" with | some (.val (.builtin n)) => n == "ValueError.__init__" | _ => false) && (xs.filter isF).all fun x => oexB K (He.ga K x.name))
/-- an error's class, held against the written part -/
def ansB (K : PySem.W.Frag) (c n : Str) (b : Bool) : Bool := if n = "ValueError" then ((He.Fa.free n).ok K && decide (PySem.W.kitOne K (.ref (He.ga K c)) (.type "ValueError") = some b)) else ((He.Fa.glo n).ok K && decide (PySem.W.exmOne K (.ref (He.ga K c)) (.ref (He.ga K n)) = some b) && decide (PySem.W.kitOne K (.ref (He.ga K c)) (.ref (He.ga K n)) = some b))
def xtB (K : PySem.W.Frag) (q : Str × List Str × List (Str × Bool)) : Bool := xcB K (He.ga K q.1) && q.2.1.all (fun f => decide (PySem.W.findIn K (.ref (He.ga K q.1)) f = some none)) && q.2.2.all fun p => ansB K q.1 p.1 p.2
theorem xt_ok {K : PySem.W.Frag} {h : Heap} {mg : Str → Option Value} {E : XT} (X : K.In h) (Gn : h.Ns mainGlobals mg) {c : Str} {fs : List Str} {ans : List (Str × Bool)} (hf : E.fl c = fs) (q : xtB K (c, fs, ans) = true) : XtOk E K mg c fs ans := by
  unfold xtB at q
  simp only [Bool.and_eq_true] at q
  obtain ⟨⟨q1, q2⟩, q3⟩ := q
  refine ⟨xcB_ok q1, hf, fun f hm => of_decide_eq_true (List.all_eq_true.mp q2 f hm), fun n b hm => ?_⟩
  have a := List.all_eq_true.mp q3 _ hm
  unfold ansB at a
  unfold AnsOk
  by_cases hv : n = "ValueError"
  · rw [if_pos hv] at a ⊢
    rw [Bool.and_eq_true] at a
    exact ⟨He.free_ok X Gn a.1, of_decide_eq_true a.2⟩
  · rw [if_neg hv] at a ⊢
    simp only [Bool.and_eq_true] at a
    exact ⟨He.glo_ok X Gn a.1.1, of_decide_eq_true a.1.2, of_decide_eq_true a.2⟩
/-- a def that hands back the written text c -/
def cstBody (c : Str) (st : Stmt) : Bool := match defBody st with
  | [.Return (some (.Constant (.str y) _ _)) _] => y == c
  | _ => false
theorem cst_body {c : Str} {st : Stmt} (h : cstBody c st = true) : ∃ j cp rp, defBody st = [.Return (some (.Constant (.str c) j cp)) rp] := by
  unfold cstBody at h
  split at h
  · rename_i y j cp rp e
    rw [beq_iff_eq.mp h] at e
    exact ⟨j, cp, rp, e⟩
  · cases h
def cstB (P : Program) (T : Tab) (G : Defs) (tab : Ids) : Bool := T.cst.all fun q => tab.any (fun p => nmOf G p.1 == q.1) && tab.all fun p => !(nmOf G p.1 == q.1) || (cstBody q.2 (topOf P p.2) && (match G.lookup p.1 with | some d => d.np == 0 | none => false))
def tabB (T : Tab) (K : PySem.W.Frag) : Bool := (T.tps.all fun p => tupB K p.1 p.2) && T.xt.all (xtB K)
def obsM (fa : List He.Fa) (fn : List He.DefD) (xs : List Xc) (ts : Tab) (K : PySem.W.Frag) : He.AlD := ((He.obsD fa fn K).1 && (moreB xs K && tabB ts K), (He.obsD fa fn K).2)
def SaysM (fa : List He.Fa) (fn : List He.DefD) (xs : List Xc) (ts : Tab) (K : PySem.W.Frag) : Prop := obsM fa fn xs ts K = He.valD fn
theorem SaysM.says {fa : List He.Fa} {fn : List He.DefD} {xs : List Xc} {ts : Tab} {K : PySem.W.Frag} (c : SaysM fa fn xs ts K) : He.SaysD fa fn K ∧ moreB xs K = true ∧ tabB ts K = true := by
  have c1 : ((He.obsD fa fn K).1 && (moreB xs K && tabB ts K)) = true := congrArg (fun z : He.AlD => z.1) c
  have c2 : (He.obsD fa fn K).2 = fn.map He.DefD.val := congrArg (fun z : He.AlD => z.2) c
  rw [Bool.and_eq_true, Bool.and_eq_true] at c1
  exact ⟨Prod.ext c1.1 c2, c1.2.1, c1.2.2⟩
def obsMG (n : Nat) (fa : List He.Fa) (fn : List He.DefD) (xs : List Xc) (ts : Tab) (g : Addr → Option Obj) : He.AlD := obsM fa fn xs ts (He.frG g (cStatics :: He.asD g n))
def hookM (n : Nat) (fa : List He.Fa) (fn : List He.DefD) (xs : List Xc) (ts : Tab) : PySem.W.Hook where
  α := He.AlD
  obs := fun s => obsMG n fa fn xs ts s.heap.get?
  val := fun _ => He.valD fn
  says := fun _ h => ∃ K : PySem.W.Frag, K.In h ∧ SaysM fa fn xs ts K
  of := fun _ _ e => ⟨_, He.frG_in, e⟩
  keeps := fun _ _ _ ⟨K, hK, c⟩ k => ⟨K, PySem.W.Frag.In.keeps hK k, c⟩
theorem obsMG_eq {n : Nat} {fa : List He.Fa} {fn : List He.DefD} {xs : List Xc} {ts : Tab} {g : Addr → Option Obj} {s : Shared} (h : ∀ a, g a = s.heap.get? a) : obsMG n fa fn xs ts g = (hookM n fa fn xs ts).obs s := by
  have e : g = s.heap.get? := funext h
  rw [e] <;> rfl
theorem fact_mem {fa : List He.Fa} {fn : List He.DefD} {K : PySem.W.Frag} (c : He.SaysD fa fn K) {f : He.Fa} (h : f ∈ fa) : f.ok K = true := by
  obtain ⟨i, hi⟩ := List.mem_iff_getElem?.mp h
  exact c.fact i hi
/-- what is looked at of an error's class with fields -/
structure GoodX (P : Program) (x : Xc) : Prop where
  sc : FnScope x.N x.N (defScope (clsSt P x))
  ln : x.N.length = x.fs.length + 1
  lt : x.fs.length ≤ 10
  bd : ∀ (kV doc pm : Value) (an : Option Addr) (cdv ct : Value) (us : List Value), us.length = x.N.length → bindArgs (PySem.W.fnOf "__init__" x.qual (defArgs (clsSt P x)) (defBody (clsSt P x)) (defScope (clsSt P x)) .none kV doc pm an cdv ct) ⟨us, []⟩ = pure (x.N.zip us)
  chk : chkInit x.N (defScope (clsSt P x)) x.fs (defBody (clsSt P x)) = true
def xfOf (xs : List Xc) (c : Str) : List Str := match xs.find? (fun x => x.name == c) with | some x => x.fs | none => []
def xtOf (xs : List Xc) (K : PySem.W.Frag) : XT := ⟨fun c => He.ga K c, xfOf xs⟩
theorem xfOf_mem {xs : List Xc} (nd : (xs.map (·.name)).Nodup) {x : Xc} (h : x ∈ xs) : xfOf xs x.name = x.fs := by
  induction xs with
  | nil => cases h
  | cons y ys ih =>
    unfold xfOf
    rw [List.find?_cons]
    rw [List.map_cons, List.nodup_cons] at nd
    rcases List.mem_cons.mp h with z | z
    · subst z; simp
    · have : (y.name == x.name) = false := by
        rw [beq_eq_false_iff_ne]
        intro e
        exact nd.1 (by rw [e]; exact List.mem_map.mpr ⟨x, z, rfl⟩)
      rw [this]
      exact ih nd.2 z
section
variable {P : Program} {T : Tab} {G : Defs} {tab : Ids} {xs : List Xc} {w : World} {K : PySem.W.Frag} {h base : Heap} {mg : Str → Option Value}
theorem phi_succ {G : Defs} {f k : Nat} {d : Df} (h : G.lookup f = some d) (np : d.ps.length = d.np) : Phi G (k + 1) f = ⟨d.fr, runDef (Phi G k) d.fr d.ps.length d.N.length d.code⟩ := by
  have e : (Phi G (k + 1) f).m = runDef (Phi G k) d.fr d.np d.N.length d.code := by
    funext ds S; exact mRun_succ h ds S
  rw [np, ← e]
  have e2 : (Phi G (k + 1) f).fr = d.fr := by show frOf G f = _; rw [frOf, h]
  rw [← e2]
theorem env_ok (X : K.In h) (Gn : h.Ns mainGlobals mg) (c : SaysM (faOf T G tab xs) (fnOf P G tab xs T.md) xs T K) (hT : T.fns = tab.map fun p => (p.1, nmOf G p.1)) (hg : T.glb.all okC = true) (he : T.exc = xs.map fun x => (x.name, x.ar)) (hx : (xs.map (·.name)).Nodup) (hxt : (T.xt.all fun q => decide (xfOf xs q.1 = q.2.1)) = true) (hct : cstB P T G tab = true) (good : ∀ p, p ∈ tab → ∃ d, Good P T G p d) (goodm : ∀ m, m ∈ T.md → ∃ d, GoodM P T G m d) (goodx : ∀ x, x ∈ xs → x.fs ≠ [] → GoodX P x) :
    ∀ k, Env1 P w K mg base T (Phi G k) (xtOf xs K) (2 * k + 2) := by
  obtain ⟨c, cm, ct⟩ := c.says
  have tps : ∀ x ds, (x, ds) ∈ T.tps → ∃ a vs, mg x = some (.ref a) ∧ (∀ H, SqT K H a vs) ∧ ∀ μ W H, Rps K μ W H ds vs := fun x ds m => tup_ok X Gn (by
    unfold tabB at ct
    rw [Bool.and_eq_true] at ct
    exact List.all_eq_true.mp ct.1 _ m)
  have xt : ∀ c fs ans, (c, fs, ans) ∈ T.xt → XtOk (xtOf xs K) K mg c fs ans := fun c fs ans m => xt_ok X Gn (of_decide_eq_true (List.all_eq_true.mp hxt _ m)) (by
    unfold tabB at ct
    rw [Bool.and_eq_true] at ct
    exact List.all_eq_true.mp ct.2 _ m)
  have glb : ∀ x d, (x, d) ∈ T.glb → ∃ u v, mg x = some u ∧ RelV v u ∧ ∀ μ W H, Rp K μ W H d v := fun x d m => by
    have o := List.all_eq_true.mp hg _ m
    cases d with
    | int i =>
      obtain ⟨t, e⟩ := He.int_ok X Gn (fact_mem c (f := .int x i) (by simp only [faOf, List.mem_append, List.mem_flatMap]; exact .inl (.inl (.inr ⟨_, m, by simp [faG]⟩))))
      exact ⟨_, .int i, e, ⟨t, rfl⟩, fun _ _ _ => .int i⟩
    | str l =>
      obtain ⟨t, e⟩ := He.str_ok X Gn (fact_mem c (f := .str x ⟨l.toArray⟩) (by simp only [faOf, List.mem_append, List.mem_flatMap]; exact .inl (.inl (.inr ⟨_, m, by simp [faG]⟩))))
      exact ⟨_, .str ⟨l.toArray⟩, e, ⟨t, rfl⟩, fun _ _ _ => .str (asc_of o)⟩
    | _ => cases o
  have free : ∀ x, x ∈ T.free → mg x = none := fun x hx => He.free_ok X Gn (fact_mem c (f := .free x) (by simp only [faOf, List.mem_append]; exact .inl (.inl (.inl (.inr (List.mem_map.mpr ⟨x, hx, rfl⟩))))))
  have rai : ∀ (k : Nat) (Z : Cx) (EW : WX), Z.prog = P → Z.w = w → Z.K = K → Z.mg = mg → Z.base = base → Z.calm = true → Room (2 * k + 2) Z.A → Takes Z EW → ∀ (n : Nat) (y : Str), (y, n) ∈ T.exc → Gl Z y → (y == ("__debug__" : Str)) = false → ∀ (e : Expr) (es : List Expr) (l : CL) (p cp pos : Pos), PA Z (e :: es) (tL Z.K (xtOf xs K) EW (evL (Phi G k) l)) → starEach (e :: es) Z.env = (false, eval e Z.env) :: starEach es Z.env → (∀ q, (backTo q (starEach es Z.env)).any (·.1) = false) →
      PS Z (.Raise (some (.Call (.Name y p) (e :: es) [] cp)) none pos) (tSt Z.K (xtOf xs K) EW (evS (Phi G k) (.rai y n l))) := by
    intro k Z EW e1 e2 e3 e4 e5 hcalm hr tk n y hxm hgl hdb e es l p cp pos ha hst hpl
    subst e1 e2 e3 e4 e5
    rw [he] at hxm
    obtain ⟨xc, m, exy⟩ := List.mem_map.mp hxm
    cases exy
    have inF : ∀ f, f ∈ faX xc → f.ok Z.K = true := fun f hf => fact_mem c (by simp only [faOf, List.mem_append, List.mem_flatMap]; exact .inl (.inr ⟨xc, m, hf⟩))
    have gm : Z.mg xc.name = some (.ref (He.ga Z.K xc.name)) := He.glo_ok X Gn (inF (.glo xc.name) (by simp [faX]))
    have hE : (xtOf xs Z.K).cl xc.name = He.ga Z.K xc.name := rfl
    have hfl : (xtOf xs Z.K).fl xc.name = xc.fs := xfOf_mem hx m
    have ne : xs.isEmpty = false := by cases xs with | nil => cases m | cons _ _ => rfl
    unfold moreB at cm
    rw [ne, Bool.false_or] at cm
    simp only [Bool.and_eq_true, decide_eq_true_eq] at cm
    obtain ⟨⟨⟨⟨b0, b1⟩, b2⟩, b3⟩, b4⟩ := cm
    cases hfs : xc.fs with
    | nil =>
      obtain ⟨q1, q2, q3, q4⟩ := He.exc_ok (inF (.exc xc.name) (by simp [faX, hfs]))
      exact rai_p hE (hfl.trans hfs) (by simp [Xc.ar, hfs]) q1 q2 q3 q4 hcalm tk hgl gm hdb ha hst hpl
    | cons f1 fr =>
      have nf : xc.fs ≠ [] := by rw [hfs]; exact List.cons_ne_nil _ _
      have gx := goodx xc m nf
      have isf : isF xc = true := by simp [isF, hfs]
      have To : OexC Z.K (He.ga Z.K xc.name) := oexB_ok (List.all_eq_true.mp b4 xc (List.mem_filter.mpr ⟨m, isf⟩))
      have hB : BaseOk Z.K Z.mg (He.ga Z.K "HallError") := ⟨PySem.W.mg_of X Gn b0, b1, b2, by
        split at b3
        · rename_i n' e'
          rw [e', beq_iff_eq.mp b3]
        · cases b3⟩
      obtain ⟨mt1, mt2, mt3⟩ := He.meth_ok (inF (.meth xc.name "__init__") (by simp [faX, hfs]))
      have noat : ∀ g, g ∈ xc.fs → PySem.W.findIn Z.K (.ref (He.ga Z.K xc.name)) g = some none := fun g hgm => He.noat_ok (inF (.noat xc.name g) (by
        simp only [faX]
        rw [hfs] at hgm ⊢
        simp only [List.mem_cons, List.mem_map]
        exact .inr (.inr ⟨g, by simpa using hgm, rfl⟩)))
      obtain ⟨i, hi⟩ := List.mem_iff_getElem?.mp (show mkX Z.prog xc ∈ fnOf Z.prog G tab xs T.md from List.mem_append_left _ (List.mem_append_right _ (List.mem_map.mpr ⟨xc, List.mem_filter.mpr ⟨m, isf⟩, rfl⟩)))
      obtain ⟨fd, F⟩ := c.def_ i hi
      have F' : FunD Z.K "__init__" xc.qual (defArgs (clsSt Z.prog xc)) (defBody (clsSt Z.prog xc)) (defScope (clsSt Z.prog xc)) [] [] (He.ma Z.K (He.ga Z.K xc.name) "__init__") fd := F
      have F1 : FnOk Z.prog Z.w Z.K Z.mg Z.base (L2.CX Z.prog Z.w) 1 (He.ma Z.K (He.ga Z.K xc.name) "__init__") fd xc.N (spI Z.K (He.ga Z.K xc.name) xc.fs) := init_ok hB To F' gx.sc gx.ln nf noat gx.lt gx.chk
      exact rai_f To hE hfl nf (by simp [Xc.ar, hfs]) gx.lt mt1 (beq_iff_eq.mp mt2) F1 (F'.bindsN gx.bd) hcalm (hr.mono (by omega)) tk hgl gm hdb ha hst hpl
  have fd : ∀ f x, (f, x) ∈ T.fns → ∃ p d fd, p ∈ tab ∧ Good P T G p d ∧ p.1 = f ∧ mg x = some (.ref (He.fAd K (x, none))) ∧ FunD K x x (defArgs (topOf P p.2)) (defBody (topOf P p.2)) (defScope (topOf P p.2)) [] [] (He.fAd K (x, none)) fd ∧ L2.Binds K fd d.ps [] := fun f x hf => by
    rw [hT] at hf
    obtain ⟨p, m, ep⟩ := List.mem_map.mp hf
    cases ep
    obtain ⟨d, gd⟩ := good p m
    have en : nmOf G p.1 = d.name := by unfold nmOf; rw [gd.lk]
    obtain ⟨i, hi⟩ := List.mem_iff_getElem?.mp (show mkD P G p ∈ fnOf P G tab xs T.md from List.mem_append_left _ (List.mem_append_left _ (List.mem_map.mpr ⟨p, m, rfl⟩)))
    obtain ⟨fd, F⟩ := c.def_ i hi
    have g : mg (nmOf G p.1) = some (.ref (He.fAd K (nmOf G p.1, none))) := He.glo_ok X Gn (fact_mem c (f := .glo (nmOf G p.1)) (by simp only [faOf, List.mem_append]; exact .inl (.inl (.inl (.inl (List.mem_map.mpr ⟨p, m, rfl⟩))))))
    have F' : FunD K (nmOf G p.1) (nmOf G p.1) (defArgs (topOf P p.2)) (defBody (topOf P p.2)) (defScope (topOf P p.2)) [] [] (He.fAd K (nmOf G p.1, none)) fd := F
    exact ⟨p, d, fd, m, gd, rfl, g, F', F'.bindsN (by rw [en]; exact gd.bd)⟩
  have cst : ∀ (k : Nat) x c, (x, c) ∈ T.cst → ∃ f fd, mg x = some (.ref f) ∧ PySem.W.keepIn K (.ref f) = true ∧ L2.Binds K fd [] [] ∧ FnTk P w K mg base (2 * k + 2) f fd c := fun k x c hm => by
    have hq := List.all_eq_true.mp hct _ hm
    rw [Bool.and_eq_true] at hq
    obtain ⟨p0, m0, e0⟩ := List.any_eq_true.mp hq.1
    obtain ⟨p, d, fd, mp, g, ep, h4, h5, h6⟩ := fd p0.1 x (by
      rw [hT]
      exact List.mem_map.mpr ⟨p0, m0, by rw [beq_iff_eq.mp e0]⟩)
    have hp := List.all_eq_true.mp hq.2 p mp
    have en : nmOf G p.1 = x := by rw [ep]; exact beq_iff_eq.mp e0
    rw [en, g.lk] at hp
    simp only [beq_self_eq_true, Bool.not_true, Bool.false_or, Bool.and_eq_true, beq_iff_eq] at hp
    obtain ⟨j, cp, rp, eb⟩ := cst_body hp.1
    have hps : d.ps = [] := by unfold Df.ps; rw [hp.2]; rfl
    have sc := g.sc
    rw [hps] at sc h6
    exact ⟨_, fd, h4, h5.kp, h6, fntk_of h5 sc eb⟩
  have inM : ∀ f, f ∈ faM T → f.ok K = true := fun f hf => fact_mem c (by simp only [faOf, List.mem_append]; exact .inr hf)
  have clsF : ∀ q fs, (q, fs) ∈ T.cls → Cls K (He.ga K q) ∧ mg q = some (.ref (He.ga K q)) ∧ ∀ f, f ∈ fs → NoAttr K (He.ga K q) f := fun q fs hq => by
    have mem : ∀ f, f ∈ (He.Fa.glo q :: .cls q :: fs.map (.noat q)) → f ∈ faM T := fun f hf => List.mem_append_left _ (List.mem_flatMap.mpr ⟨(q, fs), hq, hf⟩)
    exact ⟨He.cls_ok (inM _ (mem _ (by simp))), He.glo_ok X Gn (inM _ (mem _ (by simp))), fun f hf => He.noat_ok (inM _ (mem _ (by simp [hf])))⟩
  have fdm : ∀ m, m ∈ T.md → ∃ d fd, GoodM P T G m d ∧ FunD K m.m m.qual (defArgs (mSt P m)) (defBody (mSt P m)) (defScope (mSt P m)) ((m.dfl.map dvD).map (He.Dv.v K)) [] (He.ma K (He.ga K m.c) m.m) fd := fun m hm => by
    obtain ⟨d, gd⟩ := goodm m hm
    obtain ⟨i, hi⟩ := List.mem_iff_getElem?.mp (show mkM P m ∈ fnOf P G tab xs T.md from List.mem_append_right _ (List.mem_map.mpr ⟨m, hm, rfl⟩))
    obtain ⟨fd, F⟩ := c.def_ i hi
    exact ⟨d, fd, gd, F⟩
  -- at level k, if the bodies keep their promise
  have fin : ∀ (k : Nat), (∀ f x, (f, x) ∈ T.fns → ∃ a fd ps, mg x = some (.ref a) ∧ PySem.W.keepIn K (.ref a) = true ∧ L2.Binds K fd ps [] ∧ FnOk P w K mg base (L2.CX P w) (2 * k + 1) a fd ps (spD (xtOf xs K) K (Phi G k f))) →
      (∀ m d fd, m ∈ T.md → GoodM P T G m d → FunD K m.m m.qual (defArgs (mSt P m)) (defBody (mSt P m)) (defScope (mSt P m)) ((m.dfl.map dvD).map (He.Dv.v K)) [] (He.ma K (He.ga K m.c) m.m) fd → FnOk P w K mg base (L2.CX P w) (2 * k + 1) (He.ma K (He.ga K m.c) m.m) fd d.ps (spD (xtOf xs K) K (Phi G k m.id))) →
      Env1 P w K mg base T (Phi G k) (xtOf xs K) (2 * k + 2) := fun k h1 h2 => by
    refine ⟨fun f x hf => ?_, glb, free, tps, fun _ => rfl, xt, cst k, fun q fs hq => ⟨(clsF q fs hq).1, (clsF q fs hq).2.2⟩, fun q m f hq => ?_, fun q f n df hq => ?_, rai k⟩
    · obtain ⟨a, fd, ps, q1, q2, q3, q4⟩ := h1 f x hf
      exact ⟨a, fd, ps, q1, q2, q3, q4.mono (by omega)⟩
    · unfold Tab.mts at hq
      obtain ⟨m', hm', e⟩ := List.mem_map.mp hq
      rw [List.mem_filter] at hm'
      cases e
      have hni : m'.m ≠ "__init__" := by simpa using hm'.2
      obtain ⟨d, fd, gd, F⟩ := fdm m' hm'.1
      obtain ⟨q0, hq0, e0⟩ := List.any_eq_true.mp gd.cl
      have ec : q0.1 = m'.c := beq_iff_eq.mp e0
      have hme : Meth K (He.ga K m'.c) m'.m (He.ma K (He.ga K m'.c) m'.m) := He.meth_ok (inM _ (List.mem_append_right _ (List.mem_map.mpr ⟨m', hm'.1, by
        have : (m'.m == ("__init__" : Str)) = false := beq_eq_false_iff_ne.mpr hni
        rw [this]; rfl⟩)))
      have hd0 := gd.nd hni
      have ok := h2 m' d fd hm'.1 gd F
      rw [hd0] at F
      exact ⟨_, fd, d.ps, by rw [← ec]; exact (clsF q0.1 q0.2 hq0).1, hme, F.bindsN (gd.bd hd0), ok.mono (by omega)⟩
    · unfold Tab.mks at hq
      obtain ⟨m', hm', e⟩ := List.mem_flatMap.mp hq
      obtain ⟨j, hj, e⟩ := List.mem_map.mp e
      rw [List.mem_filter] at hm'
      cases e
      have hi : m'.m = "__init__" := by simpa using hm'.2
      obtain ⟨d, fd, gd, F⟩ := fdm m' hm'.1
      obtain ⟨q0, hq0, e0⟩ := List.any_eq_true.mp gd.cl
      have ec : q0.1 = m'.c := beq_iff_eq.mp e0
      have hmk : Mk K (He.ga K m'.c) (He.ma K (He.ga K m'.c) m'.m) := by
        have := He.mkr_ok (inM (.mkr m'.c) (List.mem_append_right _ (List.mem_map.mpr ⟨m', hm'.1, by
          have : (m'.m == ("__init__" : Str)) = true := hm'.2
          rw [this]; rfl⟩)))
        rw [hi]; exact this
      have hj' : j ≤ m'.dfl.length := by have := List.mem_range.mp hj; omega
      have ok := h2 m' d fd hm'.1 gd F
      have hmg : mg m'.c = some (.ref (He.ga K m'.c)) := by rw [← ec]; exact (clsF q0.1 q0.2 hq0).2.1
      have hrp : (m'.dfl.drop j).all okV = true := by
        rw [List.all_eq_true]
        exact fun x hx => List.all_eq_true.mp gd.ok x (List.mem_of_mem_drop hx)
      by_cases hd0 : m'.dfl = []
      · have F' := F
        rw [hd0] at F'
        refine ⟨_, fd, d.ps, [], [], 2 * k + 1, rfl, hmg, hmk, F'.bindsN (gd.bd hd0), .nil, fun μ W H => ?_, ok⟩
        rw [hd0, List.drop_nil]; exact .nil
      · obtain ⟨ds, v1, v2⟩ := F.binds1 (ps := d.ps) (d.ps.length - (m'.dfl.length - j)) j (by simpa using hd0) (by
          have := gd.dl
          simp only [List.length_map]; omega) (fun Tt kV doc pm an cdv ct us its hu hits => gd.bj hd0 j hj' Tt kV doc pm an cdv ct us its hu (by simpa using hits))
        refine ⟨_, fd, d.ps, _, ds, 2 * k + 1, rfl, hmg, hmk, v2, v1, fun μ W H => ?_, ok⟩
        have := dv_rps (K := K) hrp μ W H
        rwa [List.map_drop, List.map_drop] at this
  intro k
  induction k with
  | zero =>
    refine fin 0 (fun f x hf => ?_) (fun m d fd hm gd F => ?_)
    · obtain ⟨p, d, fd, _, g, _, h4, h5, h6⟩ := fd f x hf
      refine ⟨_, fd, d.ps, h4, h5.kp, h6, ⟨fun vs H Q E z => ?_, fun A outer s H args us vs Q E _ _ _ _ z => ?_⟩⟩
      · obtain ⟨_, _, _, _, _, _, _, z⟩ := z; exact z.elim
      · obtain ⟨_, _, _, _, _, _, _, z⟩ := z; exact z.elim
    · refine ⟨fun vs H Q E z => ?_, fun A outer s H args us vs Q E _ _ _ _ z => ?_⟩
      · obtain ⟨_, _, _, _, _, _, _, z⟩ := z; exact z.elim
      · obtain ⟨_, _, _, _, _, _, _, z⟩ := z; exact z.elim
  | succ k ih =>
    refine fin (k + 1) (fun f x hf => ?_) (fun m d fd hm g F => ?_)
    · obtain ⟨p, d, fd, _, g, rfl, h4, h5, h6⟩ := fd f x hf
      refine ⟨_, fd, d.ps, h4, h5.kp, h6, ?_⟩
      rw [phi_succ g.lk g.np]
      exact def_ok ih h5 g.sc (g.chk k)
    · rw [phi_succ g.lk g.np]
      exact def_ok ih F g.sc (g.chk k)
theorem only_scr {H : Hp} {a : Addr} {ns : List Int} (o : L2.Only H) (h : SqL K H a (ns.map V.int)) {μ : List Addr} {W : Addr → Prop} : Rp K μ W H (.scr ns) (.ref a) := by
  refine .scr ?_
  rcases h with (h | ⟨o, h⟩) | h
  · rcases o a with z | ⟨_, _, z⟩ <;> (rw [h] at z; cases z)
  · exact .inl ⟨o, h⟩
  · exact .inr (.inr h)
/-- what a law's run is asked -/
theorem law_sp {E : XT} {f : Fn} {H : Hp} {a : Addr} {ns : List Int} (o : L2.Only H) (h : SqL K H a (ns.map V.int)) (run : ∃ S, f.m [.scr ns] [] = .ok (.bl true) S) : spD E K f [.ref a] H (fun v _ => v = .bl true) fun _ _ _ => False := by
  obtain ⟨S, e⟩ := run
  refine ⟨fun _ => False, [], [], [.scr ns], (fun _ h => h.elim), ⟨rfl, List.nodup_nil, (fun _ h => by cases h), fun n a ds h => by cases h⟩, .cons (only_scr o h) .nil, ?_⟩
  rw [e]
  intro v H' μ' _ _ _ r
  cases r.1 with
  | bl => rfl
end
/-- THE END: a law whose run over D hands back True -/
theorem law_walk {l : PySem.W.OpenLaw} {q : Program} {loose : List Str} {XP : (Str → Option Value) → Heap → Prop} {d : DefRec} {T : Tab} {G : Defs} {tab : Ids} {xs : List Xc} {n k j : Nat} {p : Nat × Nat} {x : Str} {e : Df}
    (hn : l.most = some n) (hn2 : n ≤ sizeLine) (hdf : d.params.defaults = []) (hr : Room (2 * k + 3) callerA) (hd : p ∈ tab) (ge : Good l.prog T G p e) (hx : d.name = e.name) (hp : e.ps = [x]) (hT : T.fns = tab.map fun p => (p.1, nmOf G p.1)) (hg : T.glb.all okC = true) (he : T.exc = xs.map fun x => (x.name, x.ar)) (hxn : (xs.map (·.name)).Nodup) (hxt : (T.xt.all fun q => decide (xfOf xs q.1 = q.2.1)) = true) (hct : cstB l.prog T G tab = true)
    (good : ∀ p, p ∈ tab → ∃ d, Good l.prog T G p d) (goodm : ∀ m, m ∈ T.md → ∃ d, GoodM l.prog T G m d) (goodx : ∀ x, x ∈ xs → x.fs ≠ [] → GoodX l.prog x) (run : ∀ ns : List Int, ns.length ≤ n → ∃ S, (Phi G (k + 1) p.1).m [.scr ns] [] = .ok (.bl true) S) :
    PySem.W.WalkO q loose XP (hookM j (faOf T G tab xs) (fnOf l.prog G tab xs T.md) xs T).says l.row.toRowW d [] (fun f vs => PySem.call f vs) := by
  refine Att.attach_call hn hdf fun w s₀ s₁ mg mb fa o pm cd doc a vs ns Gm Y ho hd' hcd hmg hobj hints hlen hgn => ?_
  obtain ⟨K, KX, cM⟩ := Y
  have c := cM.says.1
  have en : nmOf G p.1 = e.name := by unfold nmOf; rw [ge.lk]
  obtain ⟨ii, hii⟩ := List.mem_iff_getElem?.mp (show mkD l.prog G p ∈ fnOf l.prog G tab xs T.md from List.mem_append_left _ (List.mem_append_left _ (List.mem_map.mpr ⟨p, hd, rfl⟩)))
  obtain ⟨fd, F⟩ := c.def_ ii hii
  have F' : FunD K e.name e.name (defArgs (topOf l.prog p.2)) (defBody (topOf l.prog p.2)) (defScope (topOf l.prog p.2)) [] [] (He.fAd K (e.name, none)) fd := by
    have F2 : FunD K (nmOf G p.1) (nmOf G p.1) (defArgs (topOf l.prog p.2)) (defBody (topOf l.prog p.2)) (defScope (topOf l.prog p.2)) [] [] (He.fAd K (nmOf G p.1, none)) fd := F
    rw [en] at F2; exact F2
  have g : mg e.name = some (.ref (He.fAd K (e.name, none))) := by
    have := He.glo_ok KX Gm.T.g (fact_mem c (f := .glo (nmOf G p.1)) (by simp only [faOf, List.mem_append]; exact .inl (.inl (.inl (.inl (List.mem_map.mpr ⟨p, hd, rfl⟩))))))
    rw [en] at this; exact this
  have z := hmg.symm.trans ((congrArg mg hx).trans g)
  cases z
  have b := F'.bindsA ge.bd
  rw [hp] at b
  have e1 : Phi G (k + 1) p.1 = ⟨e.fr, runDef (Phi G k) e.fr [x].length e.N.length e.code⟩ := by
    have : (Phi G (k + 1) p.1).m = runDef (Phi G k) e.fr e.np e.N.length e.code := by
      funext ds S; exact mRun_succ ge.lk ds S
    rw [← hp, ge.np, ← this]
    have e2 : (Phi G (k + 1) p.1).fr = e.fr := by show frOf G p.1 = _; rw [frOf, ge.lk]
    rw [← e2]
  refine law_call (K := K) (CX := L2.CX l.prog w) (sp := spD (xtOf xs K) K (Phi G (k + 1) p.1)) KX Gm.T.g Gm.T.b Gm.T.builtins Gm.T.nolimit hgn hobj hints (Nat.le_trans hlen hn2) hr ?_ (fun s u => b s [u] rfl) (fun H hO hS => law_sp hO hS (run ns hlen)) fun H e s' z => ?_
  · intro base _ _
    rw [e1]
    have sc := ge.sc
    rw [hp] at sc
    exact def_ok (env_ok (w := w) (base := base) KX Gm.T.g cM hT hg he hxn hxt hct good goodm goodx k) F' sc (ge.chk k)
  · obtain ⟨_, _, _, _, _, _, _, _, _, _, _, _, z⟩ := z
    exact z
end RH

set_option Elab.async false
set_option linter.all false
set_option maxRecDepth 100000
/-! RFPure: what a run over D does: weakest preconditions. -/
namespace RH
open PySem PySem.Spec PyProof.Rows L2
/-- r ends with an answer of which P holds, or with an error of which X holds -/
def wp {α : Type} (X : Exn → Store → Prop) (r : Res α) (P : α → Store → Prop) : Prop := match r with
  | .ok a S => P a S
  | .err x S => X x S
  | .bad => False
/-- no error -/
def XF : Exn → Store → Prop := fun _ _ => False
def wo {α : Type} (o : Option α) (P : α → Prop) : Prop := match o with
  | some a => P a
  | none => False
section
variable {α β : Type} {X : Exn → Store → Prop} {P : β → Store → Prop}
@[simp] theorem wp_ok {a : β} {S : Store} : wp X (.ok a S) P = P a S := (rfl)
@[simp] theorem wp_bad : wp X (.bad : Res β) P = False := (rfl)
@[simp] theorem wp_err {x : Exn} {S : Store} : wp X (.err x S : Res β) P = X x S := (rfl)
@[simp] theorem wp_bind {r : Res α} {f : α → Store → Res β} : wp X (r.bind f) P = wp X r (fun a S => wp X (f a S) P) := by cases r <;> rfl
@[simp] theorem wp_ofO {o : Option β} {S : Store} : wp X (ofO o S) P = wo o (fun a => P a S) := by cases o <;> rfl
@[simp] theorem wp_ite {c : Prop} [Decidable c] {a b : Res β} : wp X (if c then a else b) P = if c then wp X a P else wp X b P := by split <;> rfl
@[simp] theorem wo_some {a : α} {Q : α → Prop} : wo (some a) Q = Q a := (rfl)
@[simp] theorem wo_none {Q : α → Prop} : wo (none : Option α) Q = False := (rfl)
@[simp] theorem wo_map {γ : Type} {o : Option α} {f : α → γ} {Q : γ → Prop} : wo (o.map f) Q = wo o (fun a => Q (f a)) := by cases o <;> rfl
@[simp] theorem wo_ite {c : Prop} [Decidable c] {a b : Option α} {Q : α → Prop} : wo (if c then a else b) Q = if c then wo a Q else wo b Q := by split <;> rfl
@[simp] theorem wo_bind {γ : Type} {o : Option α} {f : α → Option γ} {Q : γ → Prop} : wo (o.bind f) Q = wo o (fun a => wo (f a) Q) := by cases o <;> rfl
theorem wp_mono {r : Res β} {Q : β → Store → Prop} (h : wp X r P) (i : ∀ a S, P a S → Q a S) : wp X r Q := by
  cases r with
  | ok a S => exact i a S h
  | err _ _ => exact h
  | bad => exact h
theorem wp_monoX {Y : Exn → Store → Prop} {r : Res β} {Q : β → Store → Prop} (h : wp X r P) (i : ∀ a S, P a S → Q a S) (j : ∀ x S, X x S → Y x S) : wp Y r Q := by
  cases r with
  | ok a S => exact i a S h
  | err _ _ => exact j _ _ h
  | bad => exact h
theorem wp_of {r : Res β} (h : wp XF r P) : ∃ a S, r = .ok a S ∧ P a S := by
  cases r with
  | ok a S => exact ⟨a, S, rfl, h⟩
  | err _ _ => exact h.elim
  | bad => exact h.elim
theorem wo_of {o : Option α} {Q : α → Prop} (h : wo o Q) : ∃ a, o = some a ∧ Q a := by
  cases o with
  | some a => exact ⟨a, rfl, h⟩
  | none => exact h.elim
/-- no error can be: any wish of errors is served -/
theorem wp_any {r : Res β} (h : wp XF r P) : wp X r P := wp_monoX h (fun _ _ h => h) fun _ _ h => h.elim
/-- the run's answer is known -/
theorem wp_eq {r : Res β} {a : β} {S : Store} (e : r = .ok a S) (h : P a S) : wp X r P := by rw [e]; exact h
theorem wo_eq {o : Option α} {a : α} {Q : α → Prop} (e : o = some a) (h : Q a) : wo o Q := by rw [e]; exact h
end
/-- a call without arguments ends in no error -/
def xc (X : Exn → Store → Prop) : List D → Exn → Store → Prop
  | [] => XF
  | _ => X
@[simp] theorem xc_nil {X : Exn → Store → Prop} : xc X [] = XF := (rfl)
@[simp] theorem xc_cons {X : Exn → Store → Prop} {d : D} {ds : List D} : xc X (d :: ds) = X := (rfl)
/-- a cell's data -/
def shD (c : Option Cell) (P : D → Prop) : Prop := match c with
  | some (.sh d) => P d
  | _ => False
@[simp] theorem shD_sh {d : D} {P : D → Prop} : shD (some (.sh d)) P = P d := (rfl)
/-- behind a statement -/
def nxt (X : Exn → Store → Prop) (go : List Cell → Store → Out) (P : Flw → Store → Prop) : Flw → Store → Prop
  | .nx ρ, S => wp X (go ρ S) P
  | f, S => P f S
@[simp] theorem nxt_nx {X : Exn → Store → Prop} {go : List Cell → Store → Out} {P : Flw → Store → Prop} {ρ : List Cell} {S : Store} : nxt X go P (.nx ρ) S = wp X (go ρ S) P := (rfl)
@[simp] theorem nxt_rt {X : Exn → Store → Prop} {go : List Cell → Store → Out} {P : Flw → Store → Prop} {b : Bool} {d : D} {S : Store} : nxt X go P (.rt b d) S = P (.rt b d) S := (rfl)
@[simp] theorem nxt_bk {X : Exn → Store → Prop} {go : List Cell → Store → Out} {P : Flw → Store → Prop} {ρ : List Cell} {S : Store} : nxt X go P (.bk ρ) S = P (.bk ρ) S := (rfl)
@[simp] theorem nxt_ct {X : Exn → Store → Prop} {go : List Cell → Store → Out} {P : Flw → Store → Prop} {ρ : List Cell} {S : Store} : nxt X go P (.ct ρ) S = P (.ct ρ) S := (rfl)
theorem wp_seqB {X : Exn → Store → Prop} {r : Out} {go : List Cell → Store → Out} {P : Flw → Store → Prop} : wp X (seqB r go) P = wp X r (nxt X go P) := by
  cases r with
  | ok f S => cases f <;> rfl
  | err _ _ => rfl
  | bad => rfl
/-- behind a loop's body -/
def aft (go : List Cell → Store → Prop) (P : Flw → Store → Prop) : Flw → Store → Prop
  | .nx ρ, S => go ρ S
  | .ct ρ, S => go ρ S
  | .bk ρ, S => P (.nx ρ) S
  | .rt b d, S => P (.rt b d) S
@[simp] theorem aft_nx {go : List Cell → Store → Prop} {P : Flw → Store → Prop} {ρ : List Cell} {S : Store} : aft go P (.nx ρ) S = go ρ S := (rfl)
@[simp] theorem aft_ct {go : List Cell → Store → Prop} {P : Flw → Store → Prop} {ρ : List Cell} {S : Store} : aft go P (.ct ρ) S = go ρ S := (rfl)
@[simp] theorem aft_bk {go : List Cell → Store → Prop} {P : Flw → Store → Prop} {ρ : List Cell} {S : Store} : aft go P (.bk ρ) S = P (.nx ρ) S := (rfl)
@[simp] theorem aft_rt {go : List Cell → Store → Prop} {P : Flw → Store → Prop} {b : Bool} {d : D} {S : Store} : aft go P (.rt b d) S = P (.rt b d) S := (rfl)
theorem wp_after {X : Exn → Store → Prop} {r : Out} {go : List Cell → Store → Out} {P : Flw → Store → Prop} : wp X (after r go) P = wp X r (aft (fun ρ S => wp X (go ρ S) P) P) := by
  cases r with
  | ok f S => cases f <;> rfl
  | err _ _ => rfl
  | bad => rfl
theorem wp_loopF {X : Exn → Store → Prop} {g : List (Nat × List D)} {body : D → List Cell → Store → Out} {P : Flw → Store → Prop} (Inv : List D → List Cell → Store → Prop) (hg : ∀ ds ρ S, Inv ds ρ S → okG S g) (he : ∀ ρ S, Inv [] ρ S → P (.nx ρ) S)
    (hs : ∀ d ds ρ S, Inv (d :: ds) ρ S → wp X (body d ρ S) (aft (Inv ds) P)) : ∀ ds ρ S, Inv ds ρ S → wp X (loopF g body ds ρ S) P
  | [], ρ, S, h => by rw [loopF, if_pos (hg _ _ _ h)]; exact he ρ S h
  | d :: ds, ρ, S, h => by
    rw [loopF, if_pos (hg _ _ _ h), wp_after]
    refine wp_mono (hs d ds ρ S h) fun f S' h => ?_
    cases f with
    | nx ρ' => exact wp_loopF Inv hg he hs ds ρ' S' h
    | ct ρ' => exact wp_loopF Inv hg he hs ds ρ' S' h
    | bk ρ' => exact h
    | rt b d => exact h
/-- a walk over data -/
theorem wp_loop {X : Exn → Store → Prop} {body : D → List Cell → Store → Out} {P : Flw → Store → Prop} (Inv : List D → List Cell → Store → Prop) (he : ∀ ρ S, Inv [] ρ S → P (.nx ρ) S)
    (hs : ∀ d ds ρ S, Inv (d :: ds) ρ S → wp X (body d ρ S) (aft (Inv ds) P)) (ds : List D) (ρ : List Cell) (S : Store) (h : Inv ds ρ S) : wp X (loopF [] body ds ρ S) P := wp_loopF (g := []) Inv (fun _ _ _ _ => trivial) he hs ds ρ S h
theorem wp_loopW {X : Exn → Store → Prop} {c : List Cell → Store → Res Bool} {body : List Cell → Store → Out} {P : Flw → Store → Prop} (Inv : Nat → List Cell → Store → Prop)
    (hs : ∀ n ρ S, Inv n ρ S → wp X (c ρ S) (fun k S => if k then ∃ m, n = m + 1 ∧ wp X (body ρ S) (aft (Inv m) P) else P (.nx ρ) S)) : ∀ n m ρ S, n < m → Inv n ρ S → wp X (loopW c body m ρ S) P
  | n, 0, ρ, S, h, _ => by omega
  | n, m + 1, ρ, S, hm, h => by
    rw [loopW, wp_bind]
    refine wp_mono (hs n ρ S h) fun k S' h => ?_
    cases k with
    | false => exact h
    | true =>
      obtain ⟨n', rfl, hb⟩ := h
      show wp X (after (body ρ S') _) P
      rw [wp_after]
      refine wp_mono hb fun f S' h => ?_
      cases f with
      | nx ρ' => exact wp_loopW Inv hs n' m ρ' S' (by omega) h
      | ct ρ' => exact wp_loopW Inv hs n' m ρ' S' (by omega) h
      | bk ρ' => exact h
      | rt b d => exact h
theorem wp_compG {X : Exn → Store → Prop} {g : List (Nat × List D)} {step : D → Store → Res (Option D)} {P : D → Store → Prop} (Inv : List D → Store → List D → Prop) (hg : ∀ ds S acc, Inv ds S acc → okG S g) (he : ∀ S acc, Inv [] S acc → P (.lst acc) S)
    (hs : ∀ d ds S acc, Inv (d :: ds) S acc → wp XF (step d S) (fun o S' => match o with | some y => acc.length < 16777216 ∧ Inv ds S' (acc ++ [y]) | none => Inv ds S' acc)) : ∀ ds S acc, Inv ds S acc → wp X (compL g step ds S acc) P
  | [], S, acc, h => by rw [compL, if_pos (hg _ _ _ h)]; exact he S acc h
  | d :: ds, S, acc, h => by
    obtain ⟨o, S', e, h'⟩ := wp_of (hs d ds S acc h)
    rw [compL, if_pos (hg _ _ _ h), e]
    cases o with
    | some y =>
      show wp X (if acc.length < 16777216 then _ else _) P
      rw [if_pos h'.1]
      exact wp_compG Inv hg he hs ds S' _ h'.2
    | none => exact wp_compG Inv hg he hs ds S' _ h'
theorem wp_compL {X : Exn → Store → Prop} {step : D → Store → Res (Option D)} {P : D → Store → Prop} (Inv : List D → Store → List D → Prop) (he : ∀ S acc, Inv [] S acc → P (.lst acc) S)
    (hs : ∀ d ds S acc, Inv (d :: ds) S acc → wp XF (step d S) (fun o S' => match o with | some y => acc.length < 16777216 ∧ Inv ds S' (acc ++ [y]) | none => Inv ds S' acc)) (ds : List D) (S : Store) (acc : List D) (h : Inv ds S acc) : wp X (compL [] step ds S acc) P := wp_compG (g := []) Inv (fun _ _ _ _ => trivial) he hs ds S acc h
/-- a comprehension that changes nothing -/
theorem compL_pure {g0 : List (Nat × List D)} {step : D → Store → Res (Option D)} {g : D → Option D} {S : Store} (hg : okG S g0) : ∀ (ds acc : List D), (∀ d, d ∈ ds → step d S = .ok (g d) S) → acc.length + ds.length ≤ 16777216 → compL g0 step ds S acc = .ok (.lst (acc ++ ds.filterMap g)) S
  | [], acc, _, _ => by simp [compL, hg]
  | d :: ds, acc, h, hl => by
    rw [compL, if_pos hg, h d (by simp)]
    rw [List.length_cons] at hl
    cases e : g d with
    | some y =>
      show (if acc.length < 16777216 then _ else _) = _
      rw [if_pos (by omega), compL_pure hg ds (acc ++ [y]) (fun d hd => h d (List.mem_cons_of_mem _ hd)) (by simp; omega)]
      simp [e]
    | none =>
      show compL g0 step ds S acc = _
      rw [compL_pure hg ds acc (fun d hd => h d (List.mem_cons_of_mem _ hd)) (by omega)]
      simp [e]
theorem wp_compFm {X : Exn → Store → Prop} {g0 : List (Nat × List D)} {step : D → Store → Res (Option D)} {g : D → Option D} {S : Store} {ds : List D} {P : D → Store → Prop} (hg : okG S g0) (h : ∀ d, d ∈ ds → wp XF (step d S) (fun o S' => o = g d ∧ S' = S)) (hl : ds.length ≤ 16777216) (q : P (.lst (ds.filterMap g)) S) : wp X (compL g0 step ds S []) P := by
  rw [compL_pure (g := g) hg ds [] (fun d hd => by obtain ⟨a, S', e, rfl, rfl⟩ := wp_of (h d hd); exact e) (by simpa using hl)]
  exact q
theorem wp_compMap {X : Exn → Store → Prop} {g0 : List (Nat × List D)} {step : D → Store → Res (Option D)} {g : D → D} {S : Store} {ds : List D} {P : D → Store → Prop} (hg : okG S g0) (h : ∀ d, d ∈ ds → wp XF (step d S) (fun o S' => o = some (g d) ∧ S' = S)) (hl : ds.length ≤ 16777216) (q : P (.lst (ds.map g)) S) : wp X (compL g0 step ds S []) P := by
  refine wp_compFm (g := fun d => some (g d)) hg h hl ?_
  simpa using q
section
variable {X : Exn → Store → Prop} {Φ : Nat → Fn} {ρ : List Cell} {S : Store} {P : D → Store → Prop}
@[simp] theorem we_var {i : Nat} : wp X (evE Φ (.var i) ρ S) P = shD ρ[i]? (fun d => P d S) := by
  unfold shD; rw [evE]; split <;> simp_all [wp]
@[simp] theorem we_lit {d : D} : wp X (evE Φ (.lit d) ρ S) P = P d S := by rw [evE]; rfl
@[simp] theorem we_cst {d : D} : wp X (evE Φ (.cst d) ρ S) P = P d S := by rw [evE]; rfl
@[simp] theorem we_glb {j : Nat} {d : D} : wp X (evE Φ (.glb j d) ρ S) P = P d S := by rw [evE]; rfl
@[simp] theorem we_bin {o : Bop} {a b : CE} : wp X (evE Φ (.bin o a b) ρ S) P = wp X (evE Φ a ρ S) (fun x S => wp X (evE Φ b ρ S) (fun y S => wo (drf S x) (fun x => wo (drf S y) (fun y => wo (binD o x y) (fun z => P z S))))) := by
  rw [evE]; simp only [wp_bind, wp_ofO]
@[simp] theorem we_neg {a : CE} : wp X (evE Φ (.neg a) ρ S) P = wp X (evE Φ a ρ S) (fun x S => wo (asI x) (fun i => P (.int (-i)) S)) := by
  rw [evE]; simp only [wp_bind, wp_ofO, wo_map]
/-- a comparison's truth -/
def cmpW (S : Store) (o : Cop) (x y : D) : Option Bool :=
  if o.byId then cmpB o x y else (drf S x).bind fun x' => (drf S y).bind fun y' => cmpB o x' y'
theorem cmpS_W {S : Store} {o : Cop} {x y : D} : cmpS S o x y = (cmpW S o x y).map .bl := by
  unfold cmpS cmpW
  split
  · rfl
  · cases drf S x <;> cases drf S y <;> rfl
@[simp] theorem we_cmp {o : Cop} {a b : CE} : wp X (evE Φ (.cmp o a b) ρ S) P = wp X (evE Φ a ρ S) (fun x S => wp X (evE Φ b ρ S) (fun y S => wo (cmpW S o x y) (fun z => P (.bl z) S))) := by
  rw [evE]; simp only [wp_bind, wp_ofO, cmpS_W, wo_map]
@[simp] theorem cw_is {S : Store} {x y : D} : cmpW S .is x y = cmpB .is x y := (rfl)
@[simp] theorem cw_isn {S : Store} {x y : D} : cmpW S .isn x y = cmpB .isn x y := (rfl)
@[simp] theorem cw_eq {S : Store} {x y : D} : cmpW S .eq x y = (drf S x).bind fun x' => (drf S y).bind fun y' => cmpB .eq x' y' := (rfl)
@[simp] theorem cw_ne {S : Store} {x y : D} : cmpW S .ne x y = (drf S x).bind fun x' => (drf S y).bind fun y' => cmpB .ne x' y' := (rfl)
@[simp] theorem cw_lt {S : Store} {x y : D} : cmpW S .lt x y = (drf S x).bind fun x' => (drf S y).bind fun y' => cmpB .lt x' y' := (rfl)
@[simp] theorem cw_le {S : Store} {x y : D} : cmpW S .le x y = (drf S x).bind fun x' => (drf S y).bind fun y' => cmpB .le x' y' := (rfl)
@[simp] theorem cw_gt {S : Store} {x y : D} : cmpW S .gt x y = (drf S x).bind fun x' => (drf S y).bind fun y' => cmpB .gt x' y' := (rfl)
@[simp] theorem cw_ge {S : Store} {x y : D} : cmpW S .ge x y = (drf S x).bind fun x' => (drf S y).bind fun y' => cmpB .ge x' y' := (rfl)
@[simp] theorem cw_in {S : Store} {x y : D} : cmpW S .inn x y = (drf S x).bind fun x' => (drf S y).bind fun y' => cmpB .inn x' y' := (rfl)
@[simp] theorem cw_nin {S : Store} {x y : D} : cmpW S .nin x y = (drf S x).bind fun x' => (drf S y).bind fun y' => cmpB .nin x' y' := (rfl)
@[simp] theorem drfs_nil {S : Store} : drfs S [] = some [] := (rfl)
@[simp] theorem drfs_cons {S : Store} {d : D} {ds : List D} : drfs S (d :: ds) = (drf S d).bind fun d' => (drfs S ds).map (d' :: ·) := by
  rw [drfs]; cases drf S d <;> cases drfs S ds <;> rfl
@[simp] theorem we_chn {o o' : Cop} {a b c : CE} : wp X (evE Φ (.chn o o' a b c) ρ S) P = wp X (evE Φ a ρ S) (fun x S => wp X (evE Φ b ρ S) (fun y S => wo (cmpB o x y) (fun k => if k = true then wp X (evE Φ c ρ S) (fun z S => wo (cmpB o' y z) (fun z => P (.bl z) S)) else P (.bl false) S))) := by
  rw [evE]; simp only [wp_bind, wp_ofO, cmpD, wo_map, wp_ite, wp_ok]
@[simp] theorem we_bop {n : Bool} {l : CL} : wp X (evE Φ (.bop n l) ρ S) P = wp X (evB Φ n l ρ S) P := by rw [evE]
@[simp] theorem we_nt {a : CE} : wp X (evE Φ (.nt a) ρ S) P = wp X (evE Φ a ρ S) (fun x S => wo (asB x) (fun b => P (.bl (!b)) S)) := by
  rw [evE]; simp only [wp_bind, wp_ofO, wo_map]
@[simp] theorem we_ife {c a b : CE} : wp X (evE Φ (.ife c a b) ρ S) P = wp X (evE Φ c ρ S) (fun x S => wo (asB x) (fun k => if k = true then wp X (evE Φ a ρ S) P else wp X (evE Φ b ρ S) P)) := by
  rw [evE]; simp only [wp_bind, wp_ofO, wp_ite]
@[simp] theorem we_tup {l : CL} : wp X (evE Φ (.tup l) ρ S) P = wp X (evL Φ l ρ S) (fun ds S => ds.length ≤ 16777216 ∧ P (.tup ds) S) := by
  rw [evE]; simp only [wp_bind, wp_ite, wp_ok, wp_bad]
  congr 1; funext ds S; by_cases h : ds.length ≤ 16777216 <;> simp [h]
@[simp] theorem we_lst {l : CL} : wp X (evE Φ (.lst l) ρ S) P = wp X (evL Φ l ρ S) (fun ds S => ds.length ≤ 16777216 ∧ P (.lst ds) S) := by
  rw [evE]; simp only [wp_bind, wp_ite, wp_ok, wp_bad]
  congr 1; funext ds S; by_cases h : ds.length ≤ 16777216 <;> simp [h]
@[simp] theorem we_idx {a b : CE} : wp X (evE Φ (.idx a b) ρ S) P = wp X (evE Φ a ρ S) (fun x S => wp X (evE Φ b ρ S) (fun y S => wo (drf S x) (fun x => wo (idxD x y) (fun z => P z S)))) := by
  rw [evE]; simp only [wp_bind, wp_ofO]
@[simp] theorem we_slc {a : CE} {lo hi : CO} : wp X (evE Φ (.slc a lo hi) ρ S) P = wp X (evE Φ a ρ S) (fun x S => wp X (evO Φ lo ρ S) (fun i S => wp X (evO Φ hi ρ S) (fun j S => wo (drf S x) (fun x => wo (sliceD x i j) (fun z => P z S))))) := by
  rw [evE]; simp only [wp_bind, wp_ofO]
@[simp] theorem we_call {f : Nat} {l : CL} : wp X (evE Φ (.call f l) ρ S) P = wp X (evL Φ l ρ S) (fun ds S => wp (xc X ds) ((Φ f).m ds S) P) := by
  rw [evE]; simp only [wp_bind]
  congr 1; funext ds S
  unfold callF
  cases ds with
  | nil => simp only [xc_nil]; cases (Φ f).m [] S <;> rfl
  | cons _ _ => rfl
@[simp] theorem we_bi {b : Bi} {l : CL} : wp X (evE Φ (.bi b l) ρ S) P = wp X (evL Φ l ρ S) (fun ds S => wo (drfs S ds) (fun ds => wo (biD b ds) (fun z => P z S))) := by
  rw [evE]; simp only [wp_bind, wp_ofO]
@[simp] theorem we_m0 {m : M0} {o : CE} : wp X (evE Φ (.m0 m o) ρ S) P = wp X (evE Φ o ρ S) (fun x S => wo (m0D m x) (fun z => P z S)) := by
  rw [evE]; simp only [wp_bind, wp_ofO]
@[simp] theorem we_m1 {m : M1} {o a : CE} : wp X (evE Φ (.m1 m o a) ρ S) P = wp X (evE Φ o ρ S) (fun x S => wo (asS x) (fun l => wp X (evE Φ a ρ S) (fun y S => wo (drf S y) (fun y => wo (m1D m l y) (fun z => P z S))))) := by
  rw [evE]; simp only [wp_bind, wp_ofO]
@[simp] theorem we_isi {t : Ty} {a : CE} : wp X (evE Φ (.isi t a) ρ S) P = wp X (evE Φ a ρ S) (fun x S => wo (drf S x) (fun x => wo (isiD t x) (fun b => P (.bl b) S))) := by
  rw [evE]; simp only [wp_bind, wp_ofO, wo_map]
/-- a new list goes into the store, anything else stays -/
def newW (S : Store) (d : D) (P : D → Store → Prop) : Prop := match d with
  | .lst ds => P (.ptr S.length) (S ++ [.lst ds])
  | d => P d S
@[simp] theorem newW_lst {ds : List D} : newW S (.lst ds) P = P (.ptr S.length) (S ++ [.lst ds]) := (rfl)
@[simp] theorem newW_non : newW S .non P = P .non S := (rfl)
@[simp] theorem newW_ptr {n : Nat} : newW S (.ptr n) P = P (.ptr n) S := (rfl)
@[simp] theorem newW_str {n : List Nat} : newW S (.str n) P = P (.str n) S := (rfl)
@[simp] theorem newW_tup {n : List D} : newW S (.tup n) P = P (.tup n) S := (rfl)
@[simp] theorem we_new {a : CE} : wp X (evE Φ (.new a) ρ S) P = wp X (evE Φ a ρ S) (fun d S => newW S d P) := by
  rw [evE]; simp only [wp_bind]
  congr 1; funext d S
  cases d <;> rfl
/-- the store's list n -/
def lsO (o : Option Ob) (P : List D → Prop) : Prop := match o with
  | some (.lst ds) => P ds
  | _ => False
@[simp] theorem lsO_lst {ds : List D} {P : List D → Prop} : lsO (some (.lst ds)) P = P ds := (rfl)
theorem wp_ppopF {p : Nat} {f : List D → Option (D × List D)} : wp X (ppopF p f S) P = lsO S[p]? (fun ds => wo (f ds) (fun r => P r.1 (S.set p (.lst r.2)))) := by
  unfold ppopF
  cases hS : S[p]? with
  | none => rfl
  | some ob =>
    cases ob with
    | lst ds =>
      simp only [lsO_lst]
      cases f ds with
      | none => rfl
      | some r => rfl
    | _ => rfl
/-- a pointer to a list -/
def ltD (S : Store) (d : D) (P : Nat → Prop) : Prop := ∃ n, d = .ptr n ∧ lsO S[n]? fun _ => P n
@[simp] theorem wo_ltOf {d : D} {Q : Nat → Prop} : wo (ltOf S d) Q = ltD S d Q := by
  unfold ltD
  cases d with
  | ptr n =>
    simp only [ltOf, D.ptr.injEq, exists_eq_left']
    cases S[n]? with
    | none => rfl
    | some ob => cases ob <;> rfl
  | _ => simp [ltOf, wo]
@[simp] theorem ltD_ptr {n : Nat} {Q : Nat → Prop} : ltD S (.ptr n) Q = lsO S[n]? (fun _ => Q n) := by
  unfold ltD; simp
@[simp] theorem we_pop0 {o : CE} : wp X (evE Φ (.pop0 o) ρ S) P = wp X (evE Φ o ρ S) (fun d S => ltD S d (fun n => lsO S[n]? (fun ds => wo (pop0V ds) (fun r => P r.1 (S.set n (.lst r.2)))))) := by
  rw [evE]; simp only [wp_bind, wp_ofO, wo_ltOf, wp_ppopF]
@[simp] theorem we_pop1 {o a : CE} : wp X (evE Φ (.pop1 o a) ρ S) P = wp X (evE Φ o ρ S) (fun d S => ltD S d (fun n => wp X (evE Φ a ρ S) (fun x S => lsO S[n]? (fun ds => wo (pop1V ds x) (fun r => P r.1 (S.set n (.lst r.2))))))) := by
  rw [evE]; simp only [wp_bind, wp_ofO, wo_ltOf, wp_ppopF]
@[simp] theorem we_inG {n : Bool} {a : CE} {ds : List D} : wp X (evE Φ (.inG n a ds) ρ S) P = wp X (evE Φ a ρ S) (fun x S => wo (if flatD x then some ((ds.any fun z => eqb z x) != n) else none) (fun b => P (.bl b) S)) := by
  rw [evE, wp_bind]
  congr 1
  funext x S
  by_cases h : flatD x = true
  · simp only [if_pos h, wo_some]; rfl
  · simp only [if_neg h]; rfl
@[simp] theorem we_lrg {l : CL} : wp X (evE Φ (.lrg l) ρ S) P = wp X (evL Φ l ρ S) (fun ds S => wo (lrgD ds) (fun d => P d S)) := by
  rw [evE]; simp only [wp_bind, wp_ofO]
@[simp] theorem we_lix {o a : CE} : wp X (evE Φ (.lix o a) ρ S) P = wp X (evE Φ o ρ S) (fun x S => wo (lsD S x) (fun _ => wp X (evE Φ a ρ S) (fun y S => wo (lsD S x) (fun ds => wo (lixD ds y) (fun d => P d S))))) := by
  rw [evE]; simp only [wp_bind, wp_ofO]
@[simp] theorem we_ddpV {i : Nat} : wp X (evE Φ (.ddpV i) ρ S) P = shD ρ[i]? (fun d => wo (kOf d) (fun _ => P (.ptr S.length) (S ++ [.dct 0 [(d, .bl true)]]))) := by
  rw [evE]
  cases ρ[i]? with
  | none => rfl
  | some c =>
    cases c with
    | u => rfl
    | sh d =>
      show wp X (ddpF d (.bl true) S) P = wo (kOf d) _
      unfold ddpF
      cases kOf d <;> rfl
@[simp] theorem we_ddpI {n : Int} : wp X (evE Φ (.ddpI n) ρ S) P = P (.ptr S.length) (S ++ [.dct 0 [(.int n, .bl true)]]) := by
  rw [evE]; rfl
@[simp] theorem we_dnew {k : Nat} : wp X (evE Φ (.dnew k) ρ S) P = (k ≤ 1 ∧ P (.ptr S.length) (S ++ [.dct k []])) := by
  rw [evE]; unfold dnewF
  by_cases h : k ≤ 1 <;> simp [h]
@[simp] theorem we_didx {d k : CE} : wp X (evE Φ (.didx d k) ρ S) P = wp X (evE Φ d ρ S) (fun x S => wp X (evE Φ k ρ S) (fun y S => wo (lookS S x y) (fun o => wo o (fun z => P z S)))) := by
  rw [evE]; simp only [wp_bind, wp_ofO]
@[simp] theorem we_din {n : Bool} {d k : CE} : wp X (evE Φ (.din n k d) ρ S) P = wp X (evE Φ k ρ S) (fun y S => wp X (evE Φ d ρ S) (fun x S => wo (lookS S x y) (fun o => P (.bl (o.isSome != n)) S))) := by
  rw [evE]; simp only [wp_bind, wp_ofO, wp_ok]
@[simp] theorem we_dget {d k e : CE} : wp X (evE Φ (.dget d k e) ρ S) P = wp X (evE Φ d ρ S) (fun x S => wo (dctOf S x) (fun _ => wp X (evE Φ k ρ S) (fun y S => wp X (evE Φ e ρ S) (fun z S => wo (lookS S x y) (fun o => P (o.getD z) S))))) := by
  rw [evE]; simp only [wp_bind, wp_ofO, wp_ok]
@[simp] theorem we_dlen {d : CE} : wp X (evE Φ (.dlen d) ρ S) P = wp X (evE Φ d ρ S) (fun x S => wo (dctOf S x) (fun q => if q.2.1 < 2 then P (.int q.2.2.length) S else False)) := by
  rw [evE]; simp only [wp_bind, wp_ofO, wp_ok, wp_ite, wp_bad]
@[simp] theorem we_fld {o : CE} {f : Str} {cs : List Str} : wp X (evE Φ (.fld o f cs) ρ S) P = wp X (evE Φ o ρ S) (fun x S => wo (fldD S f cs x) (fun z => P z S)) := by
  rw [evE]; simp only [wp_bind, wp_ofO]
@[simp] theorem we_mcl {o : CE} {c m : Str} {fn : Nat} {l : CL} : wp X (evE Φ (.mcl o c m fn l) ρ S) P = wp X (evE Φ o ρ S) (fun x S => wo (insD S c m x) (fun _ => wp X (evL Φ l ρ S) (fun ds S => wp X ((Φ fn).m (x :: ds) S) P))) := by
  rw [evE]; simp only [wp_bind, wp_ofO]
@[simp] theorem we_mkI {c : Str} {fn : Nat} {l : CL} {df : List D} : wp X (evE Φ (.mkI c fn l df) ρ S) P = wp X (evL Φ l ρ S) (fun ds S => wp X ((Φ fn).m (.ptr S.length :: (ds ++ df)) (S ++ [.ins c []])) (fun d S1 => wo (asN d) (fun _ => P (.ptr S.length) S1))) := by
  rw [evE]; simp only [wp_bind, wp_ofO, wp_ok]
@[simp] theorem we_srt {a : CE} : wp X (evE Φ (.srt a) ρ S) P = wp X (evE Φ a ρ S) (fun x S => wo (srtS S x) (fun ds => wo (srtD ds) (fun z => P z S))) := by
  rw [evE]; simp only [wp_bind, wp_ofO]
@[simp] theorem we_dof {k : Nat} {a : CE} : wp X (evE Φ (.dof k a) ρ S) P = wp X (evE Φ a ρ S) (fun x S => wp X (dofF k x S) P) := by
  rw [evE]; simp only [wp_bind]
@[simp] theorem we_ddpT : wp X (evE Φ .ddpT ρ S) P = P (.ptr S.length) (S ++ [.dct 1 [(.tup [], .bl true)]]) := by
  rw [evE]; rfl
@[simp] theorem asN_non : asN .non = some () := (rfl)
theorem fld_at {p : Nat} {c f : Str} {cs : List Str} {fs : List (Str × D)} {d : D} (h : S[p]? = some (.ins c fs)) (hc : c ∈ cs) (hl : fs.lookup f = some d) : fldD S f cs (.ptr p) = some d := by
  simp only [fldD, h, if_pos hc, hl]
theorem ins_of {p : Nat} {c m : Str} {fs : List (Str × D)} (h : S[p]? = some (.ins c fs)) (hl : fs.lookup m = none) : insD S c m (.ptr p) = some p := by
  simp only [insD, h, hl, and_self, if_true]
@[simp] theorem we_xis {a : CE} {ns : List Str} {tp : Bool} {cs : List (Str × Bool)} : wp X (evE Φ (.xis a ns tp cs) ρ S) P = wp X (evE Φ a ρ S) (fun x S => wo (xisD cs x) (fun z => P z S)) := by
  rw [evE]; simp only [wp_bind, wp_ofO]
@[simp] theorem we_xfl {a : CE} {f : Str} {cs : List (Str × Nat)} : wp X (evE Φ (.xfl a f cs) ρ S) P = wp X (evE Φ a ρ S) (fun x S => wo (xflD f cs x) (fun z => P z S)) := by
  rw [evE]; simp only [wp_bind, wp_ofO]
/-- one turn of a comprehension -/
noncomputable def stepK (Φ : Nat → Fn) (own : List (Str × Nat)) (elt : CE) (t : Tg) (c : CO) (ρ : List Cell) (d : D) (S : Store) : Res (Option D) :=
  (ofO (bindT t d (wipeC ρ (own.map (·.2)))) S).bind fun ρ' S => (evC Φ c ρ' S).bind fun k S => if k then (evE Φ elt ρ' S).bind fun y S => .ok (some y) S else .ok none S
@[simp] theorem we_comp {own : List (Str × Nat)} {elt : CE} {t : Tg} {it : CI} {c : CO} : wp X (evE Φ (.comp own elt t it c) ρ S) P = wp X (evI Φ it ρ S) (fun w S => wp X (compL w.g (stepK Φ own elt t c ρ) w.ds S []) P) := by
  rw [evE]; simp only [wp_bind]; rfl
@[simp] theorem wl_nil {P : List D → Store → Prop} : wp X (evL Φ .nil ρ S) P = P [] S := by rw [evL]; rfl
@[simp] theorem wl_cons {a : CE} {r : CL} {P : List D → Store → Prop} : wp X (evL Φ (.cons a r) ρ S) P = wp X (evE Φ a ρ S) (fun x S => wp X (evL Φ r ρ S) (fun xs S => P (x :: xs) S)) := by
  rw [evL]; simp only [wp_bind, wp_ok]
@[simp] theorem wb_one {n : Bool} {a : CE} : wp X (evB Φ n (.cons a .nil) ρ S) P = wp X (evE Φ a ρ S) (fun x S => wo (asB x) (fun k => P (.bl k) S)) := by
  rw [evB]; simp only [wp_bind, wp_ofO, wp_ok]
@[simp] theorem wb_cons {n : Bool} {a b : CE} {r : CL} : wp X (evB Φ n (.cons a (.cons b r)) ρ S) P = wp X (evE Φ a ρ S) (fun x S => wo (asB x) (fun k => if k = n then wp X (evB Φ n (.cons b r) ρ S) P else P (.bl k) S)) := by
  rw [evB]; simp only [wp_bind, wp_ofO, wp_ite, wp_ok, beq_iff_eq]
@[simp] theorem wO_no {P : Option Int → Store → Prop} : wp X (evO Φ .no ρ S) P = P none S := by rw [evO]; rfl
@[simp] theorem wO_yes {a : CE} {P : Option Int → Store → Prop} : wp X (evO Φ (.yes a) ρ S) P = wp X (evE Φ a ρ S) (fun x S => wo (asI x) (fun i => P (some i) S)) := by
  rw [evO]; simp only [wp_bind, wp_ofO, wp_ok]
@[simp] theorem wC_no {P : Bool → Store → Prop} : wp X (evC Φ .no ρ S) P = P true S := by rw [evC]; rfl
@[simp] theorem wC_yes {a : CE} {P : Bool → Store → Prop} : wp X (evC Φ (.yes a) ρ S) P = wp X (evE Φ a ρ S) (fun x S => wo (asB x) (fun k => P k S)) := by
  rw [evC]; simp only [wp_bind, wp_ofO]
@[simp] theorem wI_seq {a : CE} {P : Wlk → Store → Prop} : wp X (evI Φ (.seq a) ρ S) P = wp X (evE Φ a ρ S) (fun x S => wo (drf S x) (fun y => wo (seqOf y) (fun ds => P ⟨ds, grd S x⟩ S))) := by
  rw [evI]; simp only [wp_bind, wp_ofO, wp_ok]
@[simp] theorem wI_wlk {w : Wc} {l : CL} {P : Wlk → Store → Prop} : wp X (evI Φ (.wlk w l) ρ S) P = wp X (evL Φ l ρ S) (fun xs S => wo (drfs S xs) (fun ys => wo (wcD w ys) (fun ds => P ⟨ds, grds S xs⟩ S))) := by
  rw [evI]; simp only [wp_bind, wp_ofO, wp_ok]
@[simp] theorem wp_stepK {own : List (Str × Nat)} {elt : CE} {t : Tg} {c : CO} {d : D} {P : Option D → Store → Prop} : wp X (stepK Φ own elt t c ρ d S) P = wo (bindT t d (wipeC ρ (own.map (·.2)))) (fun ρ' => wp X (evC Φ c ρ' S) (fun k S => if k = true then wp X (evE Φ elt ρ' S) (fun y S => P (some y) S) else P none S)) := by
  unfold stepK; simp only [wp_bind, wp_ofO, wp_ite, wp_ok]
end
section
variable {X : Exn → Store → Prop} {Φ : Nat → Fn} {ρ : List Cell} {S : Store} {P : Flw → Store → Prop}
@[simp] theorem ws_set {i : Nat} {e : CE} : wp X (evS Φ (.set i e) ρ S) P = wp X (evE Φ e ρ S) (fun d S => P (.nx (ρ.set i (.sh d))) S) := by
  rw [evS]; simp only [wp_bind, setF, wp_ok]
@[simp] theorem ws_setT {t : Tg} {e : CE} : wp X (evS Φ (.setT t e) ρ S) P = wp X (evE Φ e ρ S) (fun d S => wo (bindT t d ρ) (fun ρ' => P (.nx ρ') S)) := by
  rw [evS]; simp only [wp_bind]
  congr 1; funext d S
  unfold setTF; cases bindT t d ρ <;> rfl
@[simp] theorem ws_exp {e : CE} : wp X (evS Φ (.exp e) ρ S) P = wp X (evE Φ e ρ S) (fun _ S => P (.nx ρ) S) := by
  rw [evS]; simp only [wp_bind, wp_ok]
@[simp] theorem ws_app {o e : CE} : wp X (evS Φ (.app o e) ρ S) P = wp X (evE Φ o ρ S) (fun x S => ltD S x (fun n => wp X (evE Φ e ρ S) (fun d S => lsO S[n]? (fun ds => ds.length < 16777216 ∧ P (.nx ρ) (S.set n (.lst (ds ++ [d]))))))) := by
  rw [evS]; simp only [wp_bind, wp_ofO, wo_ltOf]
  congr 1; funext x S; congr 1; funext n; congr 1; funext d S
  unfold appF
  cases hS : S[n]? with
  | none => rfl
  | some ob =>
    cases ob with
    | lst ds => simp only [lsO_lst]; by_cases h : ds.length < 16777216 <;> simp [h, wp]
    | _ => rfl
@[simp] theorem ws_mth {m : Lm} {o : CE} {l : CL} : wp X (evS Φ (.mth m o l) ρ S) P = wp X (evE Φ o ρ S) (fun x S => ltD S x (fun n => wp X (evL Φ l ρ S) (fun as S => lsO S[n]? (fun ds => wo (lmA m S as) (fun as => wo (lmD m ds as) (fun es => P (.nx ρ) (S.set n (.lst es)))))))) := by
  rw [evS]; simp only [wp_bind, wp_ofO, wo_ltOf]
  congr 1; funext x S; congr 1; funext n; congr 1; funext as S
  unfold mthF
  cases hS : S[n]? with
  | none => rfl
  | some ob =>
    cases ob with
    | lst ds =>
      simp only [lsO_lst]
      cases lmA m S as with
      | none => rfl
      | some as => simp only [wo_some]; cases lmD m ds as <;> rfl
    | _ => rfl
@[simp] theorem ws_sip {o j e : CE} : wp X (evS Φ (.sip o j e) ρ S) P = wp X (evE Φ e ρ S) (fun d S => wp X (evE Φ o ρ S) (fun x S => wp X (evE Φ j ρ S) (fun k S => ltD S x (fun n => wo (asI k) (fun k => lsO S[n]? (fun ds => wo (ixN ds.length k) (fun m => P (.nx ρ) (S.set n (.lst (ds.set m d)))))))))) := by
  rw [evS]; simp only [wp_bind]
  congr 1; funext d S; congr 1; funext x S; congr 1; funext k S
  rw [← wo_ltOf]
  unfold sipF
  cases ltOf S x with
  | none => rfl
  | some n =>
    simp only [wo_some]
    cases k with
    | int k =>
      simp only [asI, wo_some]
      cases hS : S[n]? with
      | none => rfl
      | some ob =>
        cases ob with
        | lst ds => simp only [lsO_lst]; cases ixN ds.length _ <;> rfl
        | _ => rfl
    | _ => rfl
@[simp] theorem ws_dput {d k e : CE} : wp X (evS Φ (.dput d k e) ρ S) P = wp X (evE Φ e ρ S) (fun v S => wp X (evE Φ d ρ S) (fun x S => wp X (evE Φ k ρ S) (fun y S => wo (dctOf S x) (fun q => (keyOk q.2.1 y = true ∧ q.2.2.length < 16777216) ∧ P (.nx ρ) (S.set q.1 (.dct q.2.1 (putD q.2.2 y v))))))) := by
  rw [evS]; simp only [wp_bind]
  congr 1; funext v S; congr 1; funext x S; congr 1; funext y S
  unfold dputF
  cases dctOf S x with
  | none => rfl
  | some q =>
    obtain ⟨p, n, kvs⟩ := q
    simp only [wo_some]
    by_cases h : keyOk n y = true ∧ kvs.length < 16777216
    · rw [if_pos h]; simp [h]
    · rw [if_neg h]; simp only [wp_bad, false_and, h]
@[simp] theorem ws_fst {o e : CE} {f : Str} {cs : List Str} : wp X (evS Φ (.fst o f cs e) ρ S) P = wp X (evE Φ e ρ S) (fun d S => wp X (evE Φ o ρ S) (fun x S => wp X (fstF ρ x f cs d S) P)) := by
  rw [evS]; simp only [wp_bind]
theorem wp_fstF {p : Nat} {c f : Str} {cs : List Str} {fs : List (Str × D)} {d : D} (h : S[p]? = some (.ins c fs)) (hc : c ∈ cs) (hl : fs.length < 900) (q : P (.nx ρ) (S.set p (.ins c (putS f d fs)))) : wp X (fstF ρ (.ptr p) f cs d S) P := by
  simp only [fstF, h, hc, hl, and_self, if_true, wp_ok]; exact q
theorem keyR_of {n : Nat} {k : D} (h : keyOk n k = true) : keyR n k = true := by
  unfold keyOk at h
  split at h
  · exact h
  · exact h
  · cases h
theorem dct_at {p n : Nat} {kvs : List (D × D)} (h : S[p]? = some (.dct n kvs)) : dctOf S (.ptr p) = some (p, n, kvs) := by simp only [dctOf, h]
theorem look_at {p n : Nat} {kvs : List (D × D)} {k : D} (h : S[p]? = some (.dct n kvs)) (hk : keyOk n k = true) : lookS S (.ptr p) k = some (valD kvs k) := by unfold lookS; rw [dct_at h]; simp [keyR_of hk]
theorem look_atR {p n : Nat} {kvs : List (D × D)} {k : D} (h : S[p]? = some (.dct n kvs)) (hk : keyR n k = true) : lookS S (.ptr p) k = some (valD kvs k) := by unfold lookS; rw [dct_at h]; simp [hk]
@[simp] theorem ws_rai {x : Str} {n : Nat} {l : CL} : wp X (evS Φ (.rai x n l) ρ S) P = wp X (evL Φ l ρ S) (fun ds S => ds.length = n ∧ X ⟨x, ds⟩ S) := by
  rw [evS]; simp only [wp_bind]
  congr 1; funext ds S
  by_cases h : ds.length = n <;> simp [h]
@[simp] theorem ws_ret {e : CE} : wp X (evS Φ (.ret e) ρ S) P = wp X (evE Φ e ρ S) (fun d S => P (.rt (decide (2 ≤ kE Φ e)) d) S) := by
  rw [evS]; simp only [wp_bind, wp_ok]
@[simp] theorem ws_retN : wp X (evS Φ .retN ρ S) P = P (.rt true .non) S := by rw [evS]; rfl
@[simp] theorem ws_ife {c : CE} {a b : CB} : wp X (evS Φ (.ife c a b) ρ S) P = wp X (evE Φ c ρ S) (fun x S => wo (asB x) (fun k => if k = true then wp X (evBk Φ a ρ S) P else wp X (evBk Φ b ρ S) P)) := by
  rw [evS]; simp only [wp_bind, wp_ofO, wp_ite]
/-- one turn of a for -/
noncomputable def bodyF (Φ : Nat → Fn) (t : Tg) (b : CB) (d : D) (ρ : List Cell) (S : Store) : Out := seqB (setTF ρ t d S) (evBk Φ b)
@[simp] theorem wp_bodyF {t : Tg} {b : CB} {d : D} : wp X (bodyF Φ t b d ρ S) P = wo (bindT t d ρ) (fun ρ' => wp X (evBk Φ b ρ' S) P) := by
  unfold bodyF; rw [wp_seqB]; unfold setTF
  cases bindT t d ρ <;> rfl
/-- a walk over the keys of the dict in a slot -/
theorem wp_forK {t : Tg} {i n k : Nat} {kvs : List (D × D)} {b : CB} (hv : ρ[i]? = some (.sh (.ptr n))) (hS : S[n]? = some (.dct k kvs)) (hk : k < 2)
    (h : wp XF (loopF [] (bodyF Φ t b) (kvs.map (·.1)) ρ (S.set n (.dct (k + 2) kvs))) (fun f S' => S'[n]? = some (.dct (k + 2) kvs) ∧ noLst f = true ∧ P f (S'.set n (.dct k kvs)))) : wp X (evS Φ (.forK t (.var i) b) ρ S) P := by
  have e : ∀ S, evE Φ (.var i) ρ S = .ok (.ptr n) S := fun S => by rw [evE, hv]
  rw [evS, e]
  simp only [lckF, dctOf, hS, hk, if_true, e, Res.bind]
  obtain ⟨f, S', e', h1, h2, h3⟩ := wp_of h
  have e'' : loopF [] (fun d ρ S => seqB (setTF ρ t d S) (evBk Φ b)) (kvs.map (·.1)) ρ (S.set n (.dct (k + 2) kvs)) = .ok f S' := e'
  rw [e'']
  simp only [unlF, h1, h2, and_self, if_true]
  exact h3
theorem wp_forKe {t : Tg} {e : CE} {n k : Nat} {kvs : List (D × D)} {b : CB} (h1 : evE Φ e ρ S = .ok (.ptr n) S) (h2 : evE Φ e ρ (S.set n (.dct (k + 2) kvs)) = .ok (.ptr n) (S.set n (.dct (k + 2) kvs))) (hS : S[n]? = some (.dct k kvs)) (hk : k < 2)
    (h : wp XF (loopF [] (bodyF Φ t b) (kvs.map (·.1)) ρ (S.set n (.dct (k + 2) kvs))) (fun f S' => S'[n]? = some (.dct (k + 2) kvs) ∧ noLst f = true ∧ P f (S'.set n (.dct k kvs)))) : wp X (evS Φ (.forK t e b) ρ S) P := by
  rw [evS, h1]
  simp only [lckF, dctOf, hS, hk, if_true, h2, Res.bind]
  obtain ⟨f, S', e', q1, q2, q3⟩ := wp_of h
  have e'' : loopF [] (fun d ρ S => seqB (setTF ρ t d S) (evBk Φ b)) (kvs.map (·.1)) ρ (S.set n (.dct (k + 2) kvs)) = .ok f S' := e'
  rw [e'']
  simp only [unlF, q1, q2, and_self, if_true]
  exact q3
/-- a field of an instance in a slot -/
theorem ev_fld {i p : Nat} {c f : Str} {cs : List Str} {fs : List (Str × D)} {d : D} (hv : ρ[i]? = some (.sh (.ptr p))) (h : S[p]? = some (.ins c fs)) (hc : c ∈ cs) (hl : fs.lookup f = some d) : evE Φ (.fld (.var i) f cs) ρ S = .ok d S := by
  rw [evE, evE, hv]
  simp only [Res.bind, fld_at h hc hl, ofO]
@[simp] theorem ws_forr {t : Tg} {it : CI} {b : CB} : wp X (evS Φ (.forr t it b) ρ S) P = wp X (evI Φ it ρ S) (fun w S => wp X (loopF w.g (bodyF Φ t b) w.ds ρ S) P) := by
  rw [evS]; simp only [wp_bind]; rfl
noncomputable def condW (Φ : Nat → Fn) (c : CE) (ρ : List Cell) (S : Store) : Res Bool := (evE Φ c ρ S).bind fun x S => ofO (asB x) S
@[simp] theorem wp_condW {c : CE} {P : Bool → Store → Prop} : wp X (condW Φ c ρ S) P = wp X (evE Φ c ρ S) (fun x S => wo (asB x) (fun k => P k S)) := by
  unfold condW; simp only [wp_bind, wp_ofO]
@[simp] theorem ws_whl {n : Nat} {c : CE} {b : CB} : wp X (evS Φ (.whl n c b) ρ S) P = wp X (loopW (condW Φ c) (evBk Φ b) n ρ S) P := by
  rw [evS]; rfl
@[simp] theorem ws_pas : wp X (evS Φ .pas ρ S) P = P (.nx ρ) S := by rw [evS]; rfl
@[simp] theorem ws_brk : wp X (evS Φ .brk ρ S) P = P (.bk ρ) S := by rw [evS]; rfl
@[simp] theorem ws_cnt : wp X (evS Φ .cnt ρ S) P = P (.ct ρ) S := by rw [evS]; rfl
@[simp] theorem wk_nil : wp X (evBk Φ .nil ρ S) P = P (.nx ρ) S := by rw [evBk]; rfl
@[simp] theorem wk_cons {s : CS} {r : CB} : wp X (evBk Φ (.cons s r) ρ S) P = wp X (evS Φ s ρ S) (nxt X (evBk Φ r) P) := by rw [evBk, wp_seqB]
theorem wp_tryF {r : Out} {h : Exn → Store → Out} : wp X (tryF r h) P = wp (fun x S => wp X (h x S) P) r P := by cases r <;> rfl
@[simp] theorem ws_try {b : CB} {hs : HL} : wp X (evS Φ (.tryE b hs) ρ S) P = wp (fun x S => wp X (evHL Φ hs x (wipeC ρ (asgB b)) S) P) (evBk Φ b ρ S) P := by rw [evS, wp_tryF]
/-- behind a suite -/
def unP (i : Nat) (P : Flw → Store → Prop) : Flw → Store → Prop
  | .nx ρ, S => P (.nx (ρ.set i .u)) S
  | .bk ρ, S => P (.bk (ρ.set i .u)) S
  | .ct ρ, S => P (.ct (ρ.set i .u)) S
  | .rt fr d, S => P (.rt fr d) S
@[simp] theorem unP_nx {i : Nat} : unP i P (.nx ρ) S = P (.nx (ρ.set i .u)) S := (rfl)
@[simp] theorem unP_bk {i : Nat} : unP i P (.bk ρ) S = P (.bk (ρ.set i .u)) S := (rfl)
@[simp] theorem unP_ct {i : Nat} : unP i P (.ct ρ) S = P (.ct (ρ.set i .u)) S := (rfl)
@[simp] theorem unP_rt {i : Nat} {fr : Bool} {d : D} : unP i P (.rt fr d) S = P (.rt fr d) S := (rfl)
theorem wp_unT {i : Nat} {r : Out} (h : wp XF r (unP i P)) : wp X (unT i r) P := by
  cases r with
  | bad => exact h
  | err _ _ => exact h.elim
  | ok f S => cases f <;> exact h
@[simp] theorem wh_nil {x : Exn} : wp X (evHL Φ .nil x ρ S) P = X x S := by rw [evHL]; rfl
theorem wh_yes {n : Str} {i : Nat} {cs : List (Str × Bool × List Str)} {b : CB} {r : HL} {x : Exn} {fs : List Str} (h : cs.lookup x.cls = some (true, fs)) (q : wp XF (evBk Φ b (ρ.set i (.sh (.exn x.cls fs (xaD fs x.args)))) S) (unP i P)) : wp X (evHL Φ (.cons n i cs b r) x ρ S) P := by
  rw [evHL, h]
  exact wp_unT q
theorem wh_no {n : Str} {i : Nat} {cs : List (Str × Bool × List Str)} {b : CB} {r : HL} {x : Exn} {fs : List Str} (h : cs.lookup x.cls = some (false, fs)) (q : wp X (evHL Φ r x ρ S) P) : wp X (evHL Φ (.cons n i cs b r) x ρ S) P := by
  rw [evHL, h]
  exact q
open Classical in
/-- a def's end -/
noncomputable def eDef (fr : Bool) (S0 : Store) (P : D → Store → Prop) : Flw → Store → Prop
  | .nx _, S => P .non (if oldP S0 S then S.take S0.length else S)
  | .rt f d, S => match cutD S0 d S with
    | some (d', S') => (fr = true → f = true ∨ newB S0.length d = true) ∧ P d' S'
    | none => (fr = true → f = true) ∧ P d S
  | _, _ => False
open Classical in
/-- .. by an error -/
noncomputable def eErr (S0 : Store) (X : Exn → Store → Prop) : Exn → Store → Prop := fun x S => X x (if oldP S0 S ∧ upDs S0.length x.args = true then S.take S0.length else S)
theorem wp_def {G : Defs} {k f : Nat} {d : Df} (h : G.lookup f = some d) {ds : List D} (hl : ds.length = d.np) {P : D → Store → Prop} (hb : wp (eErr S X) (evBk (Phi G k) d.code (ds.map .sh ++ List.replicate (d.N.length - ds.length) .u) S) (eDef d.fr S P)) : wp X ((Phi G (k + 1) f).m ds S) P := by
  rw [mRun_succ h]
  unfold runDef
  rw [if_pos hl]
  cases e : evBk (Phi G k) d.code (ds.map .sh ++ List.replicate (d.N.length - ds.length) .u) S with
  | bad => rw [e] at hb; exact hb
  | err x S' =>
    rw [e] at hb
    simp only [endD]
    simp only [wp_err, eErr] at hb
    split
    · rename_i q; rw [if_pos q] at hb; exact hb
    · rename_i q; rw [if_neg q] at hb; exact hb
  | ok fl S' =>
    rw [e] at hb
    have q : eDef d.fr S P fl S' := hb
    cases fl with
    | nx ρ => exact q
    | rt f d' =>
      cases hp : cutD S d' S' with
      | some r =>
        obtain ⟨es, S2⟩ := r
        simp only [eDef, hp] at q
        simp only [endD, hp]
        obtain ⟨q1, q2⟩ := q
        rw [if_neg (by
          intro z
          simp only [Bool.and_eq_true, Bool.not_eq_true'] at z
          rcases q1 z.1.1 with y | y
          · rw [y] at z; cases z.1.2
          · rw [y] at z; cases z.2)]
        exact q2
      | none =>
        simp only [eDef, hp] at q
        simp only [endD, hp]
        obtain ⟨q1, q2⟩ := q
        rw [if_neg (by
          intro z
          simp only [Bool.and_eq_true, Bool.not_eq_true'] at z
          rw [q1 z.1] at z
          cases z.2)]
        exact q2
    | bk _ => exact q.elim
    | ct _ => exact q.elim
theorem old_refl {S0 : Store} : oldP S0 S0 := fun i ob _ h => .inl h
theorem old_app {S0 T : Store} : oldP S0 (S0 ++ T) := fun i ob hi h => .inl (by rw [List.getElem?_append_left hi] at h; exact h)
/-- a list made in the store, handed back -/
theorem eDef_new {fr f : Bool} {S0 : Store} {n : Nat} {ds : List D} {P : D → Store → Prop} (hn : S0.length ≤ n) (h : S[n]? = some (.lst ds)) (h1 : oldP S0 S) (h3 : upDs S0.length ds = true) (q : P (.lst ds) (S.take S0.length)) : eDef fr S0 P (.rt f (.ptr n)) S := by
  have e : cutD S0 (.ptr n) S = some (.lst ds, S.take S0.length) := by
    unfold cutD
    rw [if_pos h1]
    simp only [h]
    rw [if_neg (by omega), h3]
    rfl
  simp only [eDef, e]
  exact ⟨fun _ => .inr (by unfold newB; simp; omega), q⟩
/-- what was made in the store is forgotten -/
theorem eDef_old {fr f : Bool} {S0 : Store} {d : D} {P : D → Store → Prop} (hd : ∀ n, d = .ptr n → n < S0.length) (h1 : oldP S0 S) (h3 : upD S0.length d = true) (q : (fr = true → f = true) ∧ P d (S.take S0.length)) : eDef fr S0 P (.rt f d) S := by
  have e : cutD S0 d S = some (d, S.take S0.length) := by
    unfold cutD
    rw [if_pos h1]
    cases d <;> first | (simp only [h3, if_true]; done) | skip
    simp only [if_pos (hd _ rfl)]
  simp only [eDef, e]
  exact ⟨fun z => .inl (q.1 z), q.2⟩
theorem eDef_oldN {fr : Bool} {S0 : Store} {P : D → Store → Prop} (h1 : oldP S0 S) (q : P .non (S.take S0.length)) : eDef fr S0 P (.nx ρ) S := by
  simp only [eDef]
  rw [if_pos h1]; exact q
/-- nothing new in the store -/
theorem eDef_same {fr f : Bool} {S0 : Store} {d : D} {P : D → Store → Prop} (hl : S.length ≤ S0.length) (hd : ∀ n, d = .ptr n → n < S0.length) (q : (fr = true → f = true) ∧ P d S) : eDef fr S0 P (.rt f d) S := by
  have ht : S.take S0.length = S := List.take_of_length_le hl
  have nb : newB S0.length d = false := by
    cases d <;> first | rfl | (unfold newB; simp [hd _ rfl])
  cases hc : cutD S0 d S with
  | none => simp only [eDef, hc]; exact q
  | some r =>
    obtain ⟨d', S'⟩ := r
    have e : d' = d ∧ S' = S := by
      unfold cutD at hc
      split at hc
      · split at hc
        · rename_i p
          rw [if_pos (hd p rfl)] at hc
          cases hc; exact ⟨rfl, ht⟩
        · split at hc
          · cases hc; exact ⟨rfl, ht⟩
          · cases hc
      · cases hc
    obtain ⟨rfl, rfl⟩ := e
    simp only [eDef, hc]
    exact ⟨fun z => .inl (q.1 z), q.2⟩
theorem eDef_sameN {fr : Bool} {S0 : Store} {P : D → Store → Prop} (hl : S.length ≤ S0.length) (q : P .non S) : eDef fr S0 P (.nx ρ) S := by
  simp only [eDef]
  rw [List.take_of_length_le hl]
  split <;> exact q
theorem eErr_old {S0 : Store} {x : Exn} (h1 : oldP S0 S) (h2 : upDs S0.length x.args = true) (q : X x (S.take S0.length)) : eErr S0 X x S := by
  unfold eErr; rw [if_pos ⟨h1, h2⟩]; exact q
theorem eErr_same {S0 : Store} {x : Exn} (hl : S.length ≤ S0.length) (q : X x S) : eErr S0 X x S := by
  unfold eErr; rw [List.take_of_length_le hl]
  split <;> exact q
end
/-! ### the operators on ints -/
@[simp] theorem b_add {a b : Int} : binD .add (.int a) (.int b) = some (.int (a + b)) := (rfl)
@[simp] theorem b_sub {a b : Int} : binD .sub (.int a) (.int b) = some (.int (a - b)) := (rfl)
@[simp] theorem b_mul {a b : Int} : binD .mul (.int a) (.int b) = if w64 a || w64 b then some (.int (a * b)) else none := (rfl)
@[simp] theorem b_mulS {c : Nat} {b : Int} : binD .mul (.str [c]) (.int b) = if -1000000 ≤ b ∧ b ≤ 1000000 then some (.str (List.replicate b.toNat c)) else none := (rfl)
@[simp] theorem b_fdiv {a b : Int} : binD .fdiv (.int a) (.int b) = if 0 < b ∧ b < 1152921504606846976 then some (.int (a / b)) else none := (rfl)
@[simp] theorem b_mod {a b : Int} : binD .mod (.int a) (.int b) = if 0 < b then some (.int (a % b)) else none := (rfl)
@[simp] theorem b_pow {a b : Int} : binD .pow (.int a) (.int b) = if 0 ≤ b ∧ b ≤ 1000000 ∧ a.natAbs < 18446744073709551616 then some (.int (a ^ b.toNat)) else none := (rfl)
@[simp] theorem c_lt {a b : Int} : cmpB .lt (.int a) (.int b) = some (decide (a < b)) := (rfl)
@[simp] theorem c_le {a b : Int} : cmpB .le (.int a) (.int b) = some (decide (a ≤ b)) := (rfl)
@[simp] theorem c_gt {a b : Int} : cmpB .gt (.int a) (.int b) = some (decide (b < a)) := (rfl)
@[simp] theorem c_ge {a b : Int} : cmpB .ge (.int a) (.int b) = some (decide (b ≤ a)) := (rfl)
@[simp] theorem c_eq {a b : Int} : cmpB .eq (.int a) (.int b) = some (a == b) := (rfl)
@[simp] theorem c_ne {a b : Int} : cmpB .ne (.int a) (.int b) = some (!(a == b)) := (rfl)
@[simp] theorem asB_bl {b : Bool} : asB (.bl b) = some b := (rfl)
@[simp] theorem asI_int {b : Int} : asI (.int b) = some b := (rfl)
@[simp] theorem asS_str {b : List Nat} : asS (.str b) = some b := (rfl)
theorem wo_ptr {S : Store} {n : Nat} {Q : D → Prop} : wo (drf S (.ptr n)) Q = lsO S[n]? (fun ds => Q (.lst ds)) := by
  simp only [drf]
  cases S[n]? with
  | none => rfl
  | some ob => cases ob <;> rfl
@[simp] theorem drf_at {S : Store} {n : Nat} {ds : List D} (h : S[n]? = some (.lst ds)) : drf S (.ptr n) = some (.lst ds) := by simp only [drf, h]
@[simp] theorem drf_0 {R : Store} {ds : List D} : drf (.lst ds :: R) (.ptr 0) = some (.lst ds) := (rfl)
@[simp] theorem drf_int {S : Store} {i : Int} : drf S (.int i) = some (.int i) := (rfl)
@[simp] theorem drf_bl {S : Store} {i : Bool} : drf S (.bl i) = some (.bl i) := (rfl)
@[simp] theorem drf_non {S : Store} : drf S .non = some .non := (rfl)
@[simp] theorem drf_scr {S : Store} {l : List Int} : drf S (.scr l) = some (.scr l) := (rfl)
@[simp] theorem drf_lst {S : Store} {ds : List D} : drf S (.lst ds) = some (.lst ds) := (rfl)
@[simp] theorem drf_tup {S : Store} {ds : List D} : drf S (.tup ds) = some (.tup ds) := (rfl)
@[simp] theorem drf_str {S : Store} {ds : List Nat} : drf S (.str ds) = some (.str ds) := (rfl)
@[simp] theorem ix_lst {ds : List D} {i : Int} : idxD (.lst ds) (.int i) = atI ds i := (rfl)
@[simp] theorem ix_tup {ds : List D} {i : Int} : idxD (.tup ds) (.int i) = atI ds i := (rfl)
@[simp] theorem ix_str {z : List Nat} {i : Int} : idxD (.str z) (.int i) = if z.length ≤ 16777216 then (atI z i).map fun c => .str [c] else none := (rfl)
theorem at_nn {α : Type} {xs : List α} {i : Int} (h0 : 0 ≤ i) : atI xs i = xs[i.toNat]? := by
  obtain ⟨n, rfl⟩ := Int.eq_ofNat_of_zero_le h0
  unfold atI ixN
  by_cases h : (n : Int) < xs.length
  · have h' : n < xs.length := by omega
    simp [h']
  · have h' : ¬ n < xs.length := by omega
    simp [h']
end RH

set_option Elab.async false
set_option linter.all false
set_option maxRecDepth 100000
set_option maxHeartbeats 1000000
/-! RFPure2: more about the operators; simp rules. -/
namespace RH
open PySem PySem.Spec PyProof.Rows L2
@[simp] theorem len_lst {ds : List D} : biD .len [.lst ds] = some (.int ds.length) := (rfl)
@[simp] theorem grd_lst {S : Store} {ds : List D} : grd S (.lst ds) = [] := (rfl)
@[simp] theorem grd_tup {S : Store} {ds : List D} : grd S (.tup ds) = [] := (rfl)
@[simp] theorem grd_str {S : Store} {l : List Nat} : grd S (.str l) = [] := (rfl)
@[simp] theorem grd_int {S : Store} {i : Int} : grd S (.int i) = [] := (rfl)
@[simp] theorem grds_nil {S : Store} : grds S [] = [] := (rfl)
@[simp] theorem grds_cons {S : Store} {d : D} {ds : List D} : grds S (d :: ds) = grd S d ++ grds S ds := (rfl)
theorem grd_at {S : Store} {n : Nat} {ds : List D} (h : S[n]? = some (.lst ds)) : grd S (.ptr n) = [(n, ds)] := by simp only [grd, h]
@[simp] theorem okG_nil {S : Store} : okG S [] = True := (rfl)
@[simp] theorem okG_cons {S : Store} {p : Nat} {ds : List D} {r : List (Nat × List D)} : okG S ((p, ds) :: r) = (S[p]? = some (.lst ds) ∧ okG S r) := (rfl)
@[simp] theorem len_tup {ds : List D} : biD .len [.tup ds] = some (.int ds.length) := (rfl)
@[simp] theorem len_scr {ds : List Int} : biD .len [.scr ds] = some (.int ds.length) := (rfl)
@[simp] theorem len_str {l : List Nat} : biD .len [.str l] = if l.length ≤ 16777216 then some (.int l.length) else none := (rfl)
@[simp] theorem bi_lst {ds : List D} : biD .lst [.lst ds] = some (.lst ds) := (rfl)
@[simp] theorem bi_lstT {ds : List D} : biD .lst [.tup ds] = some (.lst ds) := (rfl)
@[simp] theorem bi_tup {ds : List D} : biD .tup [.lst ds] = some (.tup ds) := (rfl)
@[simp] theorem bi_tupT {ds : List D} : biD .tup [.tup ds] = some (.tup ds) := (rfl)
@[simp] theorem bi_min {i j : Int} : biD .min [.int i, .int j] = some (.int (if j < i then j else i)) := (rfl)
@[simp] theorem bi_max {i j : Int} : biD .max [.int i, .int j] = some (.int (if j > i then j else i)) := (rfl)
@[simp] theorem bt_name {i : Nat} {d : D} {ρ : List Cell} : bindT (.name i) d ρ = some (ρ.set i (.sh d)) := by rw [bindT]
@[simp] theorem bt_tup {l : Tgs} {ds : List D} {ρ : List Cell} : bindT (.tup l) (.tup ds) ρ = bindTs l ds ρ := by rw [bindT]
@[simp] theorem bt_nil {ρ : List Cell} : bindTs .nil [] ρ = some ρ := by rw [bindTs]
@[simp] theorem bt_cons {t : Tg} {r : Tgs} {d : D} {ds : List D} {ρ : List Cell} : bindTs (.cons t r) (d :: ds) ρ = (bindT t d ρ).bind fun ρ' => bindTs r ds ρ' := by
  rw [bindTs]; cases bindT t d ρ <;> rfl
@[simp] theorem w_r1 {j : Int} : wcD .r1 [.int j] = if w62 j then some ((List.range j.toNat).map fun i => .int ((i : Nat) : Int)) else none := (rfl)
@[simp] theorem w_zipT {ds es : List D} : wcD .zip [.tup ds, .tup es] = some (zipD ds es) := (rfl)
@[simp] theorem w_zipS {x y : List Nat} : wcD .zip [.str x, .str y] = some (zipD (x.map fun c => .str [c]) (y.map fun c => .str [c])) := (rfl)
@[simp] theorem w_zip {ds es : List D} : wcD .zip [.lst ds, .lst es] = some (zipD ds es) := (rfl)
@[simp] theorem w_rev {ds : List D} : wcD .rev [.lst ds] = some ds.reverse := (rfl)
@[simp] theorem w_enum {ds : List D} : wcD .enum [.lst ds] = some (enumD 0 ds) := (rfl)
@[simp] theorem w_r2 {i j : Int} : wcD .r2 [.int i, .int j] = if w62 i && w62 j then some ((List.range (j - i).toNat).map fun (k : Nat) => .int (i + (k : Int))) else none := (rfl)
@[simp] theorem sq_lst {ds : List D} : seqOf (.lst ds) = some ds := (rfl)
@[simp] theorem sq_tup {ds : List D} : seqOf (.tup ds) = some ds := (rfl)
@[simp] theorem sq_str {l : List Nat} : seqOf (.str l) = some (l.map fun c => .str [c]) := (rfl)
@[simp] theorem wipe_nil {ρ : List Cell} : wipeC ρ [] = ρ := (rfl)
@[simp] theorem wipe_cons {ρ : List Cell} {v : Nat} {vs : List Nat} : wipeC ρ (v :: vs) = (wipeC ρ vs).set v .u := (rfl)
theorem w62_of {i : Int} (h : -(4611686018427387904) ≤ i) (h' : i < 4611686018427387904) : w62 i = true := by simp [w62, h, h']
/-! ### texts -/
theorem textsOf_map (ls : List (List Nat)) : textsOf (ls.map .str) = some ls := by
  induction ls with
  | nil => rfl
  | cons a r ih => rw [List.map_cons, textsOf, ih]; rfl
theorem lens_map1 (l : List Nat) : lens (l.map fun c => [c]) = l.length := by
  induction l with
  | nil => rfl
  | cons a r ih => simp only [lens, List.map_cons, List.sum_cons] at ih ⊢; rw [ih]; simp; omega
theorem joinL_nil1 (l : List Nat) : TL.joinL [] (l.map fun c => [c]) = l := by
  induction l with
  | nil => rfl
  | cons a r ih =>
    cases r with
    | nil => rfl
    | cons b r =>
      simp only [List.map_cons] at ih ⊢
      simp only [TL.joinL] at ih ⊢
      simp_all
theorem join_signs {l : List Nat} (h : l.length ≤ 16777216) : m1D .join [] (.lst (l.map fun c => .str [c])) = some (.str l) := by
  have e : (l.map fun c => D.str [c]) = (l.map fun c => [c]).map .str := by rw [List.map_map]; rfl
  show joinD [] _ = _
  unfold joinD
  rw [e, textsOf_map]
  simp only [lens_map1, List.length_map, List.length_nil, Nat.mul_zero, Nat.add_zero, h, if_true, joinL_nil1]
/-! ### == -/
mutual
theorem eqb_refl : ∀ d : D, pln d = true → eqb d d = true
  | .non, _ => by unfold eqb; rfl
  | .bl b, _ => by unfold eqb; simp
  | .int b, _ => by unfold eqb; simp
  | .str b, _ => by unfold eqb; simp
  | .tup ds, h => by unfold eqb; exact eqbs_refl ds (by unfold pln at h; exact h)
  | .lst ds, h => by unfold eqb; exact eqbs_refl ds (by unfold pln at h; exact h)
  | .ptr _, h => by unfold pln at h; cases h
  | .scr _, h => by unfold pln at h; cases h
  | .exn _ _ _, h => by unfold pln at h; cases h
theorem eqbs_refl : ∀ ds : List D, plns ds = true → eqbs ds ds = true
  | [], _ => by unfold eqbs; rfl
  | d :: ds, h => by
    unfold plns at h
    simp only [Bool.and_eq_true] at h
    unfold eqbs
    rw [eqb_refl d h.1, eqbs_refl ds h.2]; rfl
end
theorem eqD_refl {d : D} (h : okD d = true) : eqD d d = some true := by
  unfold eqD; rw [h]; simp [eqb_refl d (okD_pln h)]
theorem pln_of {ds : List D} (h : ∀ d, d ∈ ds → pln d = true) : plns ds = true := by
  induction ds with
  | nil => unfold plns; rfl
  | cons d ds ih => unfold plns; rw [h d (by simp), ih fun d hd => h d (List.mem_cons_of_mem _ hd)]; rfl
theorem deps_le {ds : List D} {n : Nat} (h : ∀ d, d ∈ ds → dep d ≤ n) : deps ds ≤ n := by
  induction ds with
  | nil => unfold deps; omega
  | cons d ds ih =>
    unfold deps
    have := h d (by simp)
    have := ih fun d hd => h d (List.mem_cons_of_mem _ hd)
    omega
/-- data of depth n, no pointer within -/
def Pl (n : Nat) (d : D) : Prop := pln d = true ∧ dep d ≤ n
theorem Pl.mono {m n : Nat} {d : D} (h : Pl m d) (l : m ≤ n) : Pl n d := ⟨h.1, by have := h.2; omega⟩
theorem Pl.str {l : List Nat} : Pl 0 (.str l) := ⟨by unfold pln; rfl, by unfold dep; omega⟩
theorem Pl.int {l : Int} : Pl 0 (.int l) := ⟨by unfold pln; rfl, by unfold dep; omega⟩
theorem Pl.tup {n : Nat} {ds : List D} (h : ∀ d, d ∈ ds → Pl n d) : Pl (n + 1) (.tup ds) := ⟨by unfold pln; exact pln_of fun d hd => (h d hd).1, by
  unfold dep
  have := deps_le fun d hd => (h d hd).2
  omega⟩
theorem Pl.lst {n : Nat} {ds : List D} (h : ∀ d, d ∈ ds → Pl n d) : Pl (n + 1) (.lst ds) := ⟨by unfold pln; exact pln_of fun d hd => (h d hd).1, by
  unfold dep
  have := deps_le fun d hd => (h d hd).2
  omega⟩
theorem Pl.ok {n : Nat} {d : D} (h : Pl n d) (l : n ≤ 60) : okD d = true := by
  simp only [okD, Bool.and_eq_true, decide_eq_true_eq]; exact ⟨h.1, by have := h.2; omega⟩
theorem drf_pl {S : Store} {n : Nat} {d : D} (h : Pl n d) : drf S d = some d := by
  cases d <;> first | rfl | (have := h.1; unfold pln at this; cases this)
theorem c_eqD {d e : D} : cmpB .eq d e = eqD d e := rfl
theorem c_neD {d e : D} : cmpB .ne d e = (eqD d e).map (!·) := rfl
theorem c_eq_self {d : D} {n : Nat} (h : Pl n d) (l : n ≤ 60) : cmpB .eq d d = some true := eqD_refl (h.ok l)
theorem c_ne_self {d : D} {n : Nat} (h : Pl n d) (l : n ≤ 60) : cmpB .ne d d = some false := by rw [c_neD, eqD_refl (h.ok l)]; rfl
@[simp] theorem c_eqs {a b : List Nat} : cmpB .eq (.str a) (.str b) = some (a == b) := by
  rw [c_eqD]; unfold eqD; rw [Pl.str.ok (by omega), Pl.str.ok (by omega)]
  show some (eqb (.str a) (.str b)) = _
  unfold eqb; rfl
@[simp] theorem c_nes {a b : List Nat} : cmpB .ne (.str a) (.str b) = some (!(a == b)) := by
  have := c_eqs (a := a) (b := b)
  rw [c_eqD] at this
  rw [c_neD, this]; rfl
theorem c_ne_nil {es : List D} {n : Nat} (h : Pl n (.lst es)) (l : n ≤ 60) : cmpB .ne (.lst es) (.lst []) = some (!es.isEmpty) := by
  rw [c_neD]; unfold eqD; rw [h.ok l, Pl.ok (d := .lst []) (n := 1) (.lst (n := 0) (by simp)) (by omega)]
  show some (!eqb (.lst es) (.lst [])) = _
  unfold eqb
  cases es <;> (unfold eqbs; rfl)
@[simp] theorem isi_tt {ds : List D} : isiD .tuple (.tup ds) = some true := (rfl)
@[simp] theorem isi_ll {ds : List D} : isiD .list (.lst ds) = some true := (rfl)
@[simp] theorem isi_ss {l : List Nat} : isiD .str (.str l) = some true := (rfl)
@[simp] theorem isi_bb {l : Bool} : isiD .bool (.bl l) = some true := (rfl)
@[simp] theorem at0 {α : Type} {a : α} {r : List α} : atI (a :: r) 0 = some a := by rw [at_nn (by omega)]; rfl
@[simp] theorem at1 {α : Type} {a b : α} {r : List α} : atI (a :: b :: r) 1 = some b := by rw [at_nn (by omega)]; rfl
end RH

set_option Elab.async false
set_option linter.all false
set_option maxRecDepth 100000
set_option maxHeartbeats 1000000
/-! RFFeed: the feed of drawn numbers. -/
namespace RH
open PySem PySem.Spec PyProof.Rows L2
def Feed (R S : Store) : Prop := ∃ (ns : List Int) (a b : Int), S = .lst [.lst (ns.map .int), .int a, .int b] :: R ∧ 0 ≤ a ∧ 0 ≤ b
def cDraw : CB := (.cons (.sip (.var 0) (.lit (.int 1)) (.bin .add (.idx (.var 0) (.lit (.int 1))) (.lit (.int 1)))) (.cons (.ife (.cmp .eq (.idx (.var 0) (.lit (.int 2))) (.lit (.int 0))) (.cons (.set 3 (.idx (.var 0) (.lit (.int 1)))) (.cons (.ife (.cmp .gt (.bi .len (.cons (.idx (.var 0) (.lit (.int 0))) .nil)) (.lit (.int 0))) (.cons (.set 3 (.idx (.idx (.var 0) (.lit (.int 0))) (.bin .mod (.idx (.var 0) (.lit (.int 1))) (.bi .len (.cons (.idx (.var 0) (.lit (.int 0))) .nil))))) .nil) .nil) (.cons (.ife (.cmp .lt (.var 3) (.bin .pow (.lit (.int 10)) (.lit (.int 18)))) (.cons (.set 4 (.bin .mod (.bin .mul (.bin .add (.bin .add (.bin .mod (.var 3) (.lit (.int 2147483647))) (.bin .mul (.lit (.int 613)) (.idx (.var 0) (.lit (.int 1))))) (.lit (.int 7))) (.lit (.int 48271))) (.lit (.int 2147483647)))) (.cons (.set 4 (.bin .mod (.bin .mul (.var 4) (.bin .add (.var 4) (.lit (.int 69621)))) (.lit (.int 2147483629)))) (.cons (.ret (.bin .mod (.bin .fdiv (.var 4) (.lit (.int 64))) (.var 1))) .nil))) .nil) (.cons (.sip (.var 0) (.lit (.int 2)) (.var 3)) .nil)))) .nil) (.cons (.set 2 (.bin .mod (.idx (.var 0) (.lit (.int 2))) (.var 1))) (.cons (.sip (.var 0) (.lit (.int 2)) (.bin .fdiv (.idx (.var 0) (.lit (.int 2))) (.var 1))) (.cons (.ret (.var 2)) .nil)))))
theorem ix3 {a b c : D} : atI [a, b, c] 0 = some a ∧ atI [a, b, c] 1 = some b ∧ atI [a, b, c] 2 = some c := ⟨rfl, rfl, rfl⟩
theorem ixN3 : ixN 3 0 = some 0 ∧ ixN 3 1 = some 1 ∧ ixN 3 2 = some 2 := ⟨rfl, rfl, rfl⟩
theorem pow18 : binD .pow (.int 10) (.int 18) = some (.int 1000000000000000000) := by rw [b_pow, if_pos (by decide)]; rfl
theorem w64_lit {i : Int} (h : -(18446744073709551616) < i) (h' : i < 18446744073709551616) : w64 i = true := by simp [w64, h, h']
theorem mix1 {X : Exn → Store → Prop} {Φ : Nat → Fn} {ρ : List Cell} {R : Store} {cell a : Int} {x y : D} {P : D → Store → Prop} (h3 : ρ[3]? = some (.sh (.int cell))) (h0 : ρ[0]? = some (.sh (.ptr 0))) (q : P (.int ((cell % 2147483647 + 613 * a + 7) * 48271 % 2147483647)) (.lst [x, .int a, y] :: R)) :
    wp X (evE Φ (.bin .mod (.bin .mul (.bin .add (.bin .add (.bin .mod (.var 3) (.lit (.int 2147483647))) (.bin .mul (.lit (.int 613)) (.idx (.var 0) (.lit (.int 1))))) (.lit (.int 7))) (.lit (.int 48271))) (.lit (.int 2147483647))) ρ (.lst [x, .int a, y] :: R)) P := by
  have e1 : ∀ c : Int, binD .mod (.int c) (.int 2147483647) = some (.int (c % 2147483647)) := fun c => by rw [b_mod, if_pos (by decide)]
  have e2 : ∀ c : Int, binD .mul (.int 613) (.int c) = some (.int (613 * c)) := fun c => by rw [b_mul, w64_lit (i := 613) (by decide) (by decide)]; rfl
  have e3 : ∀ c : Int, binD .mul (.int c) (.int 48271) = some (.int (c * 48271)) := fun c => by rw [b_mul, w64_lit (i := 48271) (by decide) (by decide), Bool.or_true]; rfl
  simp only [we_bin, we_var, we_lit, we_idx, h3, h0, shD_sh, drf_int, drf_0, ix_lst, ix3, wo_some, e1, e2, e3, b_add]
  exact q
theorem mix2 {X : Exn → Store → Prop} {Φ : Nat → Fn} {ρ : List Cell} {S : Store} {e : Int} {P : D → Store → Prop} (h4 : ρ[4]? = some (.sh (.int e))) (l : 0 ≤ e) (u : e < 2147483647) (q : P (.int (e * (e + 69621) % 2147483629)) S) :
    wp X (evE Φ (.bin .mod (.bin .mul (.var 4) (.bin .add (.var 4) (.lit (.int 69621)))) (.lit (.int 2147483629))) ρ S) P := by
  have e1 : ∀ c : Int, binD .mod (.int c) (.int 2147483629) = some (.int (c % 2147483629)) := fun c => by rw [b_mod, if_pos (by decide)]
  have e2 : ∀ c : Int, binD .mul (.int e) (.int c) = some (.int (e * c)) := fun c => by rw [b_mul, w64_lit (i := e) (by omega) (by omega)]; rfl
  simp only [we_bin, we_var, we_lit, h4, shD_sh, drf_int, wo_some, e1, e2, b_add]
  exact q
theorem draw_wp {X : Exn → Store → Prop} {G : Defs} {k f : Nat} {d : Df} (h : G.lookup f = some d) (hc : d.code = cDraw) (hN : d.N.length = 5) (hp : d.np = 2) (hf : d.fr = false) {R S : Store} {m : Int} {P : D → Store → Prop} (F : Feed R S) (hm : 0 < m) (hm2 : m < 1152921504606846976)
    (q : ∀ (r : Int) S', 0 ≤ r → r < m → Feed R S' → P (.int r) S') : wp X ((Phi G (k + 1) f).m [.ptr 0, .int m] S) P := by
  obtain ⟨ns, a, b, rfl, ha, hb⟩ := F
  refine wp_def h (by rw [hp]; rfl) ?_
  rw [hc, hN, hf]
  generalize hn : (Ob.lst [.lst (ns.map .int), .int a, .int b] :: R : Store) = S0
  have hn0 : R.length + 1 ≤ S0.length := by rw [← hn]; simp
  suffices hh : wp (eErr S0 X) (evBk (Phi G k) cDraw (List.map Cell.sh [.ptr 0, .int m] ++ List.replicate (5 - [D.ptr 0, .int m].length) .u) (.lst [.lst (ns.map .int), .int a, .int b] :: R)) (eDef false S0 P) by rw [← hn] at hh ⊢; exact hh
  have fin : ∀ (a b : Int), 0 ≤ a → 0 ≤ b → ∀ c3 c4, wp (eErr S0 X) (evBk (Phi G k) (.cons (.set 2 (.bin .mod (.idx (.var 0) (.lit (.int 2))) (.var 1))) (.cons (.sip (.var 0) (.lit (.int 2)) (.bin .fdiv (.idx (.var 0) (.lit (.int 2))) (.var 1))) (.cons (.ret (.var 2)) .nil))) [.sh (.ptr 0), .sh (.int m), .u, c3, c4] (.lst [.lst (ns.map .int), .int a, .int b] :: R)) (eDef false S0 P) := by
    intro a b ha hb c3 c4
    simp only [wk_cons, ws_set, we_bin, we_idx, we_var, we_lit, List.getElem?_cons_zero, List.getElem?_cons_succ, shD_sh, drf_0, drf_int, Option.bind_some, drfs_cons, drfs_nil, Option.map_some, cw_eq, cw_lt, cw_gt, lsO_lst, wo_map, wo_some, ix_lst, ix3, b_mod, wo_ite, hm, if_true, nxt_nx, List.set_cons_succ, List.set_cons_zero, ws_sip, ltD_ptr, b_fdiv, hm2, true_and, asI_int, lsO_lst, List.length_cons, List.length_nil, ixN3, wk_nil, ws_ret, nxt_rt, and_self, if_true, Nat.zero_add, Nat.reduceAdd]
    exact eDef_same (by simpa using hn0) (fun _ z => by cases z) ⟨(fun z => by cases z), q _ _ (Int.emod_nonneg _ (by omega)) (Int.emod_lt_of_pos _ hm) ⟨ns, a, b / m, rfl, ha, Int.ediv_nonneg hb (by omega)⟩⟩
  unfold cDraw
  simp only [List.map_cons, List.map_nil, List.length_cons, List.length_nil, Nat.reduceAdd, Nat.reduceSub, List.replicate, List.cons_append, List.nil_append]
  rw [wk_cons]
  simp only [ws_sip, we_bin, we_idx, we_var, we_lit, List.getElem?_cons_zero, List.getElem?_cons_succ, shD_sh, drf_0, drf_int, Option.bind_some, drfs_cons, drfs_nil, Option.map_some, cw_eq, cw_lt, cw_gt, lsO_lst, wo_map, wo_some, ix_lst, ix3, b_add, ltD_ptr, true_and, asI_int, lsO_lst, List.length_cons, List.length_nil, ixN3, List.set_cons_succ, List.set_cons_zero, nxt_nx, Nat.zero_add, Nat.reduceAdd]
  rw [wk_cons]
  have ha' : 0 ≤ a + 1 := by omega
  generalize a + 1 = a at ha'
  simp only [ws_ife, we_cmp, we_idx, we_var, we_lit, List.getElem?_cons_zero, List.getElem?_cons_succ, shD_sh, drf_0, drf_int, Option.bind_some, drfs_cons, drfs_nil, Option.map_some, cw_eq, cw_lt, cw_gt, lsO_lst, wo_map, wo_some, ix_lst, ix3, c_eq, asB_bl, beq_iff_eq]
  split
  · rename_i hb0
    subst hb0
    have rest : ∀ cell : Int, wp (eErr S0 X) (evBk (Phi G k) (.cons (.ife (.cmp .lt (.var 3) (.bin .pow (.lit (.int 10)) (.lit (.int 18)))) (.cons (.set 4 (.bin .mod (.bin .mul (.bin .add (.bin .add (.bin .mod (.var 3) (.lit (.int 2147483647))) (.bin .mul (.lit (.int 613)) (.idx (.var 0) (.lit (.int 1))))) (.lit (.int 7))) (.lit (.int 48271))) (.lit (.int 2147483647)))) (.cons (.set 4 (.bin .mod (.bin .mul (.var 4) (.bin .add (.var 4) (.lit (.int 69621)))) (.lit (.int 2147483629)))) (.cons (.ret (.bin .mod (.bin .fdiv (.var 4) (.lit (.int 64))) (.var 1))) .nil))) .nil) (.cons (.sip (.var 0) (.lit (.int 2)) (.var 3)) .nil)) [.sh (.ptr 0), .sh (.int m), .u, .sh (.int cell), .u] (.lst [.lst (ns.map .int), .int a, .int 0] :: R)) (nxt (eErr S0 X) (evBk (Phi G k) (.cons (.set 2 (.bin .mod (.idx (.var 0) (.lit (.int 2))) (.var 1))) (.cons (.sip (.var 0) (.lit (.int 2)) (.bin .fdiv (.idx (.var 0) (.lit (.int 2))) (.var 1))) (.cons (.ret (.var 2)) .nil)))) (eDef false S0 P)) := by
      intro cell
      rw [wk_cons]
      simp only [ws_ife, we_cmp, we_bin, we_var, we_lit, cw_lt, drf_int, Option.bind_some, List.getElem?_cons_zero, List.getElem?_cons_succ, shD_sh, wo_some, pow18, c_lt, asB_bl, decide_eq_true_eq]
      split
      · rename_i hlt
        rw [wk_cons, ws_set]
        refine mix1 rfl rfl ?_
        simp only [nxt_nx, List.set_cons_succ, List.set_cons_zero]
        generalize ((cell % 2147483647 + 613 * a + 7) * 48271) = e
        have h1 := Int.emod_nonneg e (b := 2147483647) (by decide)
        have h2 := Int.emod_lt_of_pos e (b := 2147483647) (by decide)
        generalize e % 2147483647 = e at h1 h2
        rw [wk_cons, ws_set]
        refine mix2 rfl (by omega) (by omega) ?_
        simp only [nxt_nx, List.set_cons_succ, List.set_cons_zero]
        generalize e * (e + 69621) % 2147483629 = e
        rw [wk_cons, ws_ret]
        simp only [we_bin, we_var, we_lit, List.getElem?_cons_zero, List.getElem?_cons_succ, shD_sh, drf_int, wo_some, b_fdiv, b_mod, wo_ite, show (0 : Int) < 64 ∧ (64 : Int) < 1152921504606846976 by decide, hm, and_self, if_true, nxt_rt]
        exact eDef_same (by simpa using hn0) (fun _ z => by cases z) ⟨(fun z => by cases z), q _ _ (Int.emod_nonneg _ (by omega)) (Int.emod_lt_of_pos _ hm) ⟨ns, a, 0, rfl, ha', by decide⟩⟩
      · rename_i hge
        rw [wk_nil, nxt_nx, wk_cons]
        simp only [ws_sip, we_var, we_lit, List.getElem?_cons_zero, List.getElem?_cons_succ, shD_sh, ltD_ptr, true_and, asI_int, wo_some, lsO_lst, List.length_cons, List.length_nil, ixN3, List.set_cons_succ, List.set_cons_zero, nxt_nx, wk_nil, Nat.zero_add, Nat.reduceAdd]
        exact fin a cell ha' (by omega) _ _
    rw [wk_cons, ws_set]
    simp only [we_idx, we_var, we_lit, List.getElem?_cons_zero, List.getElem?_cons_succ, shD_sh, drf_0, drf_int, Option.bind_some, drfs_cons, drfs_nil, Option.map_some, cw_eq, cw_lt, cw_gt, lsO_lst, wo_map, wo_some, ix_lst, ix3, nxt_nx, List.set_cons_succ, List.set_cons_zero]
    rw [wk_cons]
    simp only [ws_ife, we_cmp, we_bi, wl_cons, wl_nil, we_idx, we_var, we_lit, List.getElem?_cons_zero, List.getElem?_cons_succ, shD_sh, drf_0, drf_int, Option.bind_some, drfs_cons, drfs_nil, Option.map_some, cw_eq, cw_lt, cw_gt, lsO_lst, wo_map, wo_some, ix_lst, ix3, drf_lst, len_lst, c_gt, asB_bl, decide_eq_true_eq]
    split
    · rename_i hpos
      have hl : 0 < ((ns.map D.int).length : Int) := by omega
      simp only [wk_cons, ws_set, we_bin, we_bi, wl_cons, wl_nil, we_idx, we_var, we_lit, List.getElem?_cons_zero, List.getElem?_cons_succ, shD_sh, drf_0, drf_int, drf_lst, Option.bind_some, drfs_cons, drfs_nil, Option.map_some, wo_map, wo_some, ix_lst, ix3, len_lst, b_mod, wo_ite, hl, if_true]
      have h1 := Int.emod_nonneg a (b := ((ns.map D.int).length : Int)) (by omega)
      have h2 := Int.emod_lt_of_pos a hl
      rw [at_nn h1]
      have h3 : (a % ((ns.map D.int).length : Int)).toNat < ns.length := by
        rw [List.length_map] at h1 h2 ⊢
        omega
      rw [List.getElem?_map, List.getElem?_eq_getElem h3]
      simp only [Option.map_some, wo_some, nxt_nx, wk_nil, List.set_cons_succ, List.set_cons_zero]
      exact rest _
    · rw [wk_nil, nxt_nx]
      exact rest _
  · rw [wk_nil, nxt_nx]
    exact fin a b ha' hb _ _
end RH

set_option Elab.async false
set_option linter.all false
set_option maxRecDepth 100000
set_option maxHeartbeats 0
namespace RL
open PySem PySem.Spec PyProof.Rows L2 RH
def sLT : List Nat := [97, 98, 99, 100, 101, 102, 103, 104, 105, 106, 107, 108, 109, 110, 111, 112, 113, 114, 115, 116, 117, 118, 119, 120, 121, 122, 65, 66, 67, 68, 69, 70, 71, 72, 73, 74, 75, 76, 77, 78, 79, 80, 81, 82, 83, 84, 85, 86, 87, 88, 89, 90]
def sGP : List Nat := [63, 42, 35, 64]
def sNS : List Nat := [97, 98, 99, 100, 101, 102, 103, 104, 105, 106, 107, 108, 109, 110, 111, 112, 113, 114, 115, 116, 117, 118, 119, 120, 121, 122, 65, 66, 67, 68, 69, 70, 71, 72, 73, 74, 75, 76, 77, 78, 79, 80, 81, 82, 83, 84, 85, 86, 87, 88, 89, 90, 48, 49, 50, 51, 52, 53, 54, 55, 56, 57, 45, 95, 46]
def sSM : List Nat := [97, 98, 99, 100, 101, 102, 103, 104, 105, 106, 107, 108, 109, 110, 111, 112, 113, 114, 115, 116, 117, 118, 119, 120, 121, 122]
def sGR : List Nat := [65, 66, 67, 68, 69, 70, 71, 72, 73, 74, 75, 76, 77, 78, 79, 80, 81, 82, 83, 84, 85, 86, 87, 88, 89, 90]
def sFG : List Nat := [48, 49, 50, 51, 52, 53, 54, 55, 56, 57]
def sOT : List Nat := [32, 33, 34, 35, 36, 38, 39, 40, 41, 42, 43, 44, 47, 58, 59, 60, 61, 62, 63, 64, 91, 92, 93, 94, 96, 123, 124, 125, 126]
def c_alike : CB := (.cons (.ret (.cmp .eq (.m0 .lower (.var 0)) (.m0 .lower (.var 1)))) .nil)
def c_law_draw : CB := (.cons (.sip (.var 0) (.lit (.int 1)) (.bin .add (.idx (.var 0) (.lit (.int 1))) (.lit (.int 1)))) (.cons (.ife (.cmp .eq (.idx (.var 0) (.lit (.int 2))) (.lit (.int 0))) (.cons (.set 3 (.idx (.var 0) (.lit (.int 1)))) (.cons (.ife (.cmp .gt (.bi .len (.cons (.idx (.var 0) (.lit (.int 0))) .nil)) (.lit (.int 0))) (.cons (.set 3 (.idx (.idx (.var 0) (.lit (.int 0))) (.bin .mod (.idx (.var 0) (.lit (.int 1))) (.bi .len (.cons (.idx (.var 0) (.lit (.int 0))) .nil))))) .nil) .nil) (.cons (.ife (.cmp .lt (.var 3) (.bin .pow (.lit (.int 10)) (.lit (.int 18)))) (.cons (.set 4 (.bin .mod (.bin .mul (.bin .add (.bin .add (.bin .mod (.var 3) (.lit (.int 2147483647))) (.bin .mul (.lit (.int 613)) (.idx (.var 0) (.lit (.int 1))))) (.lit (.int 7))) (.lit (.int 48271))) (.lit (.int 2147483647)))) (.cons (.set 4 (.bin .mod (.bin .mul (.var 4) (.bin .add (.var 4) (.lit (.int 69621)))) (.lit (.int 2147483629)))) (.cons (.ret (.bin .mod (.bin .fdiv (.var 4) (.lit (.int 64))) (.var 1))) .nil))) .nil) (.cons (.sip (.var 0) (.lit (.int 2)) (.var 3)) .nil)))) .nil) (.cons (.set 2 (.bin .mod (.idx (.var 0) (.lit (.int 2))) (.var 1))) (.cons (.sip (.var 0) (.lit (.int 2)) (.bin .fdiv (.idx (.var 0) (.lit (.int 2))) (.var 1))) (.cons (.ret (.var 2)) .nil)))))
def c_law_name : CB := (.cons (.set 1 (.lit (.str sNS))) (.cons (.set 2 (.bin .add (.lit (.int 1)) (.call 2 (.cons (.var 0) (.cons (.lit (.int 12)) .nil))))) (.cons (.ife (.cmp .gt (.call 2 (.cons (.var 0) (.cons (.lit (.int 3)) .nil))) (.lit (.int 0))) (.cons (.set 1 (.lit (.str [97, 65, 98]))) (.cons (.set 2 (.bin .add (.lit (.int 1)) (.call 2 (.cons (.var 0) (.cons (.lit (.int 2)) .nil))))) .nil)) .nil) (.cons (.ret (.m1 .join (.lit (.str [])) (.comp [("_law_k", 3)] (.idx (.var 1) (.call 2 (.cons (.var 0) (.cons (.bi .len (.cons (.var 1) .nil)) .nil)))) (.name 3) (.wlk .r1 (.cons (.var 2) .nil)) .no))) .nil))))
def c_law_folded : CB := (.cons (.ife (.var 1) (.cons (.ret (.bin .add (.slc (.var 0) .no (.yes (.neg (.lit (.int 1))))) (.tup (.cons (.m0 .lower (.idx (.var 0) (.neg (.lit (.int 1))))) .nil)))) .nil) .nil) (.cons (.ret (.var 0)) .nil))
def c_law_rows : CB := (.cons (.set 3 (.new (.lst .nil))) (.cons (.set 4 (.new (.lst (.cons (.tup .nil) .nil)))) (.cons (.set 5 (.dnew 1)) (.cons (.forr (.name 6) (.wlk .r1 (.cons (.call 2 (.cons (.var 0) (.cons (.bin .add (.var 2) (.lit (.int 1))) .nil))) .nil)) (.cons (.set 7 (.bin .add (.idx (.var 4) (.call 2 (.cons (.var 0) (.cons (.bi .len (.cons (.var 4) .nil)) .nil)))) (.tup (.cons (.call 89 (.cons (.var 0) .nil)) .nil)))) (.cons (.set 8 (.idx (.lst (.cons (.call 2 (.cons (.var 0) (.cons (.lit (.int 10)) .nil))) (.cons (.call 2 (.cons (.var 0) (.cons (.bin .add (.bin .pow (.lit (.int 10)) (.lit (.int 9))) (.lit (.int 1))) .nil))) .nil))) (.call 2 (.cons (.var 0) (.cons (.lit (.int 2)) .nil))))) (.cons (.ife (.cmp .eq (.call 2 (.cons (.var 0) (.cons (.lit (.int 3)) .nil))) (.lit (.int 0))) (.cons (.set 8 (.lit .non)) .nil) .nil) (.cons (.ife (.din true (.call 90 (.cons (.var 7) (.cons (.var 1) .nil))) (.var 5)) (.cons (.dput (.var 5) (.call 90 (.cons (.var 7) (.cons (.var 1) .nil))) (.lit (.bl true))) (.cons (.app (.var 3) (.tup (.cons (.var 7) (.cons (.var 8) .nil)))) (.cons (.ife (.bop true (.cons (.cmp .is (.var 8) (.lit .non)) (.cons (.cmp .lt (.bi .len (.cons (.var 7) .nil)) (.lit (.int 6))) .nil))) (.cons (.app (.var 4) (.var 7)) .nil) .nil) .nil))) .nil) .nil))))) (.cons (.ret (.var 3)) .nil)))))
def c_law_mixed : CB := (.cons (.set 2 (.new (.bi .lst (.cons (.var 1) .nil)))) (.cons (.set 3 (.new (.lst .nil))) (.cons (.whl 1000 (.cmp .ne (.var 2) (.lst .nil)) (.cons (.app (.var 3) (.pop1 (.var 2) (.call 2 (.cons (.var 0) (.cons (.bi .len (.cons (.var 2) .nil)) .nil))))) .nil)) (.cons (.ret (.var 3)) .nil))))
def c_law_any_rows : CB := (.cons (.set 1 (.new (.lst .nil))) (.cons (.forr (.name 2) (.wlk .r1 (.cons (.call 2 (.cons (.var 0) (.cons (.idx (.lst (.cons (.lit (.int 4)) (.cons (.lit (.int 9)) (.cons (.lit (.int 61)) .nil)))) (.call 2 (.cons (.var 0) (.cons (.lit (.int 3)) .nil)))) .nil))) .nil)) (.cons (.set 3 (.tup .nil)) (.cons (.forr (.name 4) (.wlk .r1 (.cons (.bin .add (.lit (.int 1)) (.call 2 (.cons (.var 0) (.cons (.lit (.int 3)) .nil)))) .nil)) (.cons (.set 3 (.bin .add (.var 3) (.tup (.cons (.idx (.lst (.cons (.lit (.str [97])) (.cons (.lit (.str [65])) (.cons (.lit (.str [98])) (.cons (.lit (.str [99])) .nil))))) (.call 2 (.cons (.var 0) (.cons (.lit (.int 4)) .nil)))) .nil)))) .nil)) (.cons (.app (.var 1) (.tup (.cons (.var 3) (.cons (.idx (.lst (.cons (.lit .non) (.cons (.lit .non) (.cons (.lit (.int 7)) .nil)))) (.call 2 (.cons (.var 0) (.cons (.lit (.int 3)) .nil)))) .nil)))) .nil)))) (.cons (.ret (.var 1)) .nil)))
def c_law_turned_name : CB := (.cons (.set 1 (.lit (.str []))) (.cons (.forr (.name 2) (.seq (.var 0)) (.cons (.set 3 (.m0 .upper (.var 2))) (.cons (.ife (.cmp .eq (.var 3) (.var 2)) (.cons (.set 3 (.m0 .lower (.var 2))) .nil) .nil) (.cons (.set 1 (.bin .add (.var 1) (.var 3))) .nil)))) (.cons (.ret (.var 1)) .nil)))
def c_law_spoilt_2 : CB := (.cons (.set 2 (.call 2 (.cons (.var 0) (.cons (.bin .add (.bi .len (.cons (.var 1) .nil)) (.lit (.int 1))) .nil)))) (.cons (.set 3 (.call 2 (.cons (.var 0) (.cons (.lit (.int 6)) .nil)))) (.cons (.ife (.cmp .eq (.var 1) (.lst .nil)) (.cons (.ret (.lst (.cons (.tup (.cons (.tup (.cons (.lit (.str [120])) (.cons (.lit (.str [121])) .nil))) (.cons (.lit (.int 1)) .nil))) .nil))) .nil) .nil) (.cons (.setT (.tup (.cons (.name 4) (.cons (.name 5) .nil))) (.idx (.var 1) (.call 2 (.cons (.var 0) (.cons (.bi .len (.cons (.var 1) .nil)) .nil))))) (.cons (.ife (.cmp .eq (.var 3) (.lit (.int 0))) (.cons (.ret (.bin .add (.bin .add (.slc (.var 1) .no (.yes (.var 2))) (.lst (.cons (.tup (.cons (.var 4) (.cons (.lit (.int 5)) .nil))) .nil))) (.slc (.var 1) (.yes (.var 2)) .no))) .nil) .nil) (.cons (.ife (.cmp .eq (.var 3) (.lit (.int 1))) (.cons (.ret (.bin .add (.bin .add (.slc (.var 1) .no (.yes (.var 2))) (.lst (.cons (.tup (.cons (.bin .add (.slc (.var 4) .no (.yes (.neg (.lit (.int 1))))) (.tup (.cons (.call 98 (.cons (.idx (.var 4) (.neg (.lit (.int 1)))) .nil)) .nil))) (.cons (.lit (.int 5)) .nil))) .nil))) (.slc (.var 1) (.yes (.var 2)) .no))) .nil) .nil) (.cons (.ife (.cmp .eq (.var 3) (.lit (.int 2))) (.cons (.ret (.bin .add (.bin .add (.slc (.var 1) .no (.yes (.var 2))) (.lst (.cons (.tup (.cons (.slc (.bin .add (.var 4) (.tup (.cons (.lit (.str [110, 111])) (.cons (.lit (.str [122])) .nil)))) (.yes (.neg (.lit (.int 6)))) .no) (.cons (.lit .non) .nil))) .nil))) (.slc (.var 1) (.yes (.var 2)) .no))) .nil) .nil) (.cons (.ife (.cmp .eq (.var 3) (.lit (.int 3))) (.cons (.ret (.bin .add (.bin .add (.slc (.var 1) .no (.yes (.var 2))) (.lst (.cons (.tup (.cons (.slc (.bin .add (.var 4) (.tup (.cons (.lit (.str [122])) .nil))) (.yes (.neg (.lit (.int 6)))) .no) (.cons (.lit (.int 1)) .nil))) .nil))) (.slc (.var 1) (.yes (.var 2)) .no))) .nil) .nil) (.cons (.ret (.comp [("_law_row", 6)] (.var 6) (.name 6) (.seq (.var 1)) (.yes (.bop false (.cons (.cmp .ne (.idx (.var 6) (.lit (.int 0))) (.var 4)) (.cons (.cmp .isn (.idx (.var 6) (.lit (.int 1))) (.lit .non)) .nil)))))) .nil)))))))))
def c_law_due_2 : CB := (.cons (.set 2 (.bin .add (.lst (.cons (.tup .nil) .nil)) (.comp [("_law_path", 5), ("_law_mark", 6)] (.var 5) (.tup (.cons (.name 5) (.cons (.name 6) .nil))) (.seq (.var 0)) (.yes (.cmp .is (.var 6) (.lit .non)))))) (.cons (.set 3 (.new (.lst .nil))) (.cons (.forr (.tup (.cons (.name 4) (.cons (.tup (.cons (.name 5) (.cons (.name 6) .nil))) .nil))) (.wlk .enum (.cons (.var 0) .nil)) (.cons (.ife (.bop false (.cons (.cmp .nin (.slc (.var 5) .no (.yes (.neg (.lit (.int 1))))) (.var 2)) (.cons (.cmp .inn (.call 90 (.cons (.var 5) (.cons (.var 1) .nil))) (.var 3)) .nil))) (.cons (.ret (.var 4)) .nil) .nil) (.cons (.app (.var 3) (.call 90 (.cons (.var 5) (.cons (.var 1) .nil)))) .nil))) (.cons (.ret (.lit .non)) .nil))))
def c_law_rows_right_4 : CB := (.cons (.set 2 (.mcl (.var 0) "Hall" "rows" 534 .nil)) (.cons (.ife (.bop false (.cons (.nt (.isi .list (.var 2))) (.cons (.cmp .ne (.var 2) (.comp [("_law_path", 4)] (.tup (.cons (.var 4) (.cons (.didx (.var 1) (.var 4)) .nil))) (.name 4) (.seq (.srt (.var 1))) .no)) .nil))) (.cons (.ret (.lit (.bl false))) .nil) .nil) (.cons (.forr (.name 3) (.seq (.var 2)) (.cons (.ife (.bop false (.cons (.nt (.isi .tuple (.var 3))) (.cons (.nt (.isi .tuple (.idx (.var 3) (.lit (.int 0))))) (.cons (.isi .bool (.idx (.var 3) (.lit (.int 1)))) .nil)))) (.cons (.ret (.lit (.bl false))) .nil) .nil) .nil)) (.cons (.ret (.lit (.bl true))) .nil))))
def c_Hall_init : CB := (.cons (.fst (.var 0) "blind" ["Hall"] (.var 2)) (.cons (.fst (.var 0) "marks" ["Hall"] (.dnew 1)) (.cons (.set 3 .ddpT) (.cons (.forr (.tup (.cons (.name 4) (.cons (.name 5) .nil))) (.seq (.var 1)) (.cons (.ife (.cmp .is (.var 5) (.lit .non)) (.cons (.dput (.var 3) (.var 4) (.lit (.bl true))) .nil) .nil) .nil)) (.cons (.forr (.tup (.cons (.name 6) (.cons (.tup (.cons (.name 4) (.cons (.name 5) .nil))) .nil))) (.wlk .enum (.cons (.var 1) .nil)) (.cons (.ife (.bop false (.cons (.din true (.slc (.var 4) .no (.yes (.neg (.lit (.int 1))))) (.var 3)) (.cons (.cmp .isn (.mcl (.var 0) "Hall" "there" 536 (.cons (.var 4) .nil)) (.lit .non)) .nil))) (.cons (.rai "NoHall" 1 (.cons (.var 6) .nil)) .nil) .nil) (.cons (.dput (.fld (.var 0) "marks" ["Hall"]) (.var 4) (.var 5)) .nil))) .nil)))))
def c_Hall_rows : CB := (.cons (.ret (.comp [("path", 1)] (.tup (.cons (.var 1) (.cons (.didx (.fld (.var 0) "marks" ["Hall"]) (.var 1)) .nil))) (.name 1) (.seq (.srt (.fld (.var 0) "marks" ["Hall"]))) .no)) .nil)
def c_Hall_is_blind : CB := (.cons (.ret (.fld (.var 0) "blind" ["Hall"])) .nil)
def c_Hall_there : CB := (.cons (.ife (.din false (.var 1) (.fld (.var 0) "marks" ["Hall"])) (.cons (.ret (.var 1)) .nil) .nil) (.cons (.ife (.fld (.var 0) "blind" ["Hall"]) (.cons (.forK (.name 2) (.fld (.var 0) "marks" ["Hall"]) (.cons (.ife (.bop true (.cons (.cmp .eq (.slc (.var 2) .no (.yes (.neg (.lit (.int 1))))) (.slc (.var 1) .no (.yes (.neg (.lit (.int 1)))))) (.cons (.call 1 (.cons (.idx (.var 2) (.neg (.lit (.int 1)))) (.cons (.idx (.var 1) (.neg (.lit (.int 1)))) .nil))) .nil))) (.cons (.ret (.var 2)) .nil) .nil) .nil)) .nil) .nil) (.cons (.ret (.lit .non)) .nil)))
def c_law_told_12 : CB := (.cons (.set 2 (.lit .non)) (.cons (.set 3 (.lit .non)) (.cons (.tryE (.cons (.set 3 (.mkI "Hall" 533 (.cons (.var 0) (.cons (.var 1) .nil)) [])) .nil) (.cons "HallError" 4 [("NoHall", true, ["at"])] (.cons (.set 2 (.var 4)) .nil) .nil)) (.cons (.ife (.cmp .is (.var 2) (.lit .non)) (.cons (.ret (.tup (.cons (.var 3) (.cons (.lit .non) .nil)))) .nil) .nil) (.cons (.set 5 (.xis (.var 2) ["Broken", "Busy", "Fixed", "Full", "Meets", "NoBook", "NoDoer", "NoDrawer", "NoLine", "NoPattern", "NoPlace"] true [("NoHall", false)])) (.cons (.set 5 (.bop false (.cons (.var 5) (.cons (.xis (.var 2) ["NoRule", "NoRules", "NoSame", "NoTemplate", "NoText", "NoThing", "NoWish", "NotEmpty"] true [("NoHall", false)]) .nil)))) (.cons (.ife (.bop false (.cons (.var 5) (.cons (.xis (.var 2) ["Strayed", "Taken", "TooMuch"] true [("NoHall", false)]) (.cons (.nt (.xis (.var 2) ["NoHall"] false [("NoHall", true)])) .nil)))) (.cons (.ret (.tup (.cons (.lit .non) (.cons (.lit .non) .nil)))) .nil) .nil) (.cons (.ife (.bop false (.cons (.nt (.xis (.var 2) ["ValueError"] false [("NoHall", true)])) (.cons (.nt (.isi .int (.xfl (.var 2) "at" [("NoHall", 0)]))) (.cons (.isi .bool (.xfl (.var 2) "at" [("NoHall", 0)])) .nil)))) (.cons (.ret (.tup (.cons (.lit .non) (.cons (.lit .non) .nil)))) .nil) .nil) (.cons (.ret (.tup (.cons (.lit .non) (.cons (.xfl (.var 2) "at" [("NoHall", 0)]) .nil)))) .nil)))))))))
def c_law_one_29 : CB := (.cons (.set 1 (.cmp .eq (.call 2 (.cons (.var 0) (.cons (.lit (.int 2)) .nil))) (.lit (.int 0)))) (.cons (.set 2 (.call 97 (.cons (.var 0) .nil))) (.cons (.ife (.cmp .gt (.call 2 (.cons (.var 0) (.cons (.lit (.int 3)) .nil))) (.lit (.int 0))) (.cons (.set 2 (.call 92 (.cons (.var 0) (.cons (.call 91 (.cons (.var 0) (.cons (.var 1) (.cons (.idx (.lst (.cons (.lit (.int 4)) (.cons (.lit (.int 12)) (.cons (.lit (.int 50)) .nil)))) (.call 2 (.cons (.var 0) (.cons (.lit (.int 3)) .nil)))) .nil)))) .nil)))) (.cons (.forr (.name 4) (.wlk .r1 (.cons (.call 2 (.cons (.var 0) (.cons (.lit (.int 4)) .nil))) .nil)) (.cons (.set 2 (.call 99 (.cons (.var 0) (.cons (.var 2) .nil)))) .nil)) .nil)) .nil) (.cons (.set 3 (.call 100 (.cons (.var 2) (.cons (.var 1) .nil)))) (.cons (.setT (.tup (.cons (.name 5) (.cons (.name 6) .nil))) (.call 537 (.cons (.bi .lst (.cons (.var 2) .nil)) (.cons (.var 1) .nil)))) (.cons (.ife (.cmp .isn (.var 3) (.lit .non)) (.cons (.ret (.bop true (.cons (.cmp .is (.var 5) (.lit .non)) (.cons (.cmp .eq (.var 6) (.var 3)) .nil)))) .nil) .nil) (.cons (.ret (.bop true (.cons (.cmp .isn (.var 5) (.lit .non)) (.cons (.call 529 (.cons (.var 5) (.cons (.dof 1 (.var 2)) .nil))) (.cons (.cmp .eq (.mcl (.var 5) "Hall" "is_blind" 535 .nil) (.var 1)) .nil))))) .nil)))))))
def c_law_87 : CB := (.cons (.set 1 (.new (.lst (.cons (.bi .lst (.cons (.var 0) .nil)) (.cons (.lit (.int 0)) (.cons (.lit (.int 0)) .nil)))))) (.cons (.forr (.name 2) (.wlk .r1 (.cons (.bi .max (.cons (.lit (.int 6)) (.cons (.bi .min (.cons (.lit (.int 12)) (.cons (.bi .len (.cons (.var 0) .nil)) .nil))) .nil))) .nil)) (.cons (.ife (.nt (.call 538 (.cons (.var 1) .nil))) (.cons (.ret (.lit (.bl false))) .nil) .nil) .nil)) (.cons (.ret (.lit (.bl true))) .nil)))
def d_alike : Df := ⟨"alike", 2, ["one", "other"], true, c_alike⟩
def d_law_draw : Df := ⟨"_law_draw", 2, ["_law_feed", "_law_many", "_law_found", "_law_cell", "_law_number"], false, c_law_draw⟩
def d_law_name : Df := ⟨"_law_name", 1, ["_law_feed", "_law_signs", "_law_size", "_law_k"], true, c_law_name⟩
def d_law_folded : Df := ⟨"_law_folded", 2, ["_law_path", "_law_blind"], false, c_law_folded⟩
def d_law_rows : Df := ⟨"_law_rows", 3, ["_law_feed", "_law_blind", "_law_most", "_law_rows_here", "_law_drawers", "_law_held", "_law_k", "_law_path", "_law_mark"], true, c_law_rows⟩
def d_law_mixed : Df := ⟨"_law_mixed", 2, ["_law_feed", "_law_rows_here", "_law_left", "_law_found"], true, c_law_mixed⟩
def d_law_any_rows : Df := ⟨"_law_any_rows", 1, ["_law_feed", "_law_rows_here", "_law_k", "_law_path", "_law_j"], true, c_law_any_rows⟩
def d_law_turned_name : Df := ⟨"_law_turned_name", 1, ["_law_name_here", "_law_found", "_law_sign", "_law_other"], false, c_law_turned_name⟩
def d_law_spoilt_2 : Df := ⟨"_law_spoilt", 2, ["_law_feed", "_law_rows_here", "_law_at", "_law_way", "_law_path", "_law_mark", "_law_row"], true, c_law_spoilt_2⟩
def d_law_due_2 : Df := ⟨"_law_due", 2, ["_law_rows_here", "_law_blind", "_law_drawers", "_law_held", "_law_at", "_law_path", "_law_mark"], false, c_law_due_2⟩
def d_law_rows_right_4 : Df := ⟨"_law_rows_right", 2, ["_law_hall", "_law_marks", "_law_found", "_law_row", "_law_path"], true, c_law_rows_right_4⟩
def d_Hall_init : Df := ⟨"Hall.__init__", 3, ["self", "rows", "blind", "drawers", "path", "mark", "at"], true, c_Hall_init⟩
def d_Hall_rows : Df := ⟨"Hall.rows", 1, ["self", "path"], true, c_Hall_rows⟩
def d_Hall_is_blind : Df := ⟨"Hall.is_blind", 1, ["self"], false, c_Hall_is_blind⟩
def d_Hall_there : Df := ⟨"Hall.there", 2, ["self", "place", "path"], false, c_Hall_there⟩
def d_law_told_12 : Df := ⟨"_law_told", 2, ["_law_rows_here", "_law_blind", "_law_told_here", "_law_hall", "e", "_law_others"], true, c_law_told_12⟩
def d_law_one_29 : Df := ⟨"_law_one", 1, ["_law_feed", "_law_blind", "_law_rows_here", "_law_due_here", "_law_k", "_law_hall", "_law_at"], true, c_law_one_29⟩
def d_law_87 : Df := ⟨"law", 1, ["_law_script", "_law_feed", "_law_k"], true, c_law_87⟩
def G : Defs := [(1, d_alike), (2, d_law_draw), (89, d_law_name), (90, d_law_folded), (91, d_law_rows), (92, d_law_mixed), (97, d_law_any_rows), (98, d_law_turned_name), (99, d_law_spoilt_2), (100, d_law_due_2), (529, d_law_rows_right_4), (533, d_Hall_init), (534, d_Hall_rows), (535, d_Hall_is_blind), (536, d_Hall_there), (537, d_law_told_12), (538, d_law_one_29), (539, d_law_87)]
end RL

set_option Elab.async false
set_option linter.all false
set_option maxRecDepth 100000
set_option maxHeartbeats 1000000
namespace RL
open PySem PySem.Spec PyProof.Rows L2 RH
/-! ### loops over ranges -/
theorem wp_range {X : Exn → Store → Prop} {body : D → List Cell → Store → Out} {P : Flw → Store → Prop} {n : Nat} (Inv : Nat → List Cell → Store → Prop) (he : ∀ ρ S, Inv n ρ S → P (.nx ρ) S)
    (hs : ∀ (i : Nat) ρ S, i < n → Inv i ρ S → wp X (body (.int (i : Int)) ρ S) (aft (Inv (i + 1)) P)) (ρ : List Cell) (S : Store) (h0 : Inv 0 ρ S) : wp X (loopF [] body ((List.range n).map fun i => .int ((i : Nat) : Int)) ρ S) P := by
  refine wp_loop (fun ds ρ S => ∃ i, i ≤ n ∧ ds = (List.range' i (n - i)).map (fun i => .int ((i : Nat) : Int)) ∧ Inv i ρ S) (fun ρ S h => ?_) (fun d ds ρ S h => ?_) _ ρ S ⟨0, Nat.zero_le _, by rw [List.range_eq_range']; rfl, h0⟩
  · obtain ⟨i, hi, e, h⟩ := h
    have hn : n - i = 0 := by
      cases q : n - i with
      | zero => rfl
      | succ m => rw [q, List.range'_succ] at e; cases e
    have : i = n := by omega
    subst this
    exact he ρ S h
  · obtain ⟨i, hi, e, h⟩ := h
    cases q : n - i with
    | zero => rw [q] at e; cases e
    | succ m =>
      rw [q, List.range'_succ, List.map_cons] at e
      cases e
      refine wp_mono (hs i ρ S (by omega) h) fun f S' h' => ?_
      have st : ∀ ρ' S', Inv (i + 1) ρ' S' → ∃ j, j ≤ n ∧ (List.range' (i + 1) m).map (fun i => D.int ((i : Nat) : Int)) = (List.range' j (n - j)).map (fun i => .int ((i : Nat) : Int)) ∧ Inv j ρ' S' := fun ρ' S' h => ⟨i + 1, by omega, by rw [show n - (i + 1) = m by omega], h⟩
      cases f with
      | nx ρ' => exact st _ _ h'
      | ct ρ' => exact st _ _ h'
      | bk ρ' => exact h'
      | rt b d => exact h'
theorem wp_compRange {X : Exn → Store → Prop} {step : D → Store → Res (Option D)} {P : D → Store → Prop} {n : Nat} (Inv : Nat → Store → List D → Prop) (he : ∀ S acc, Inv n S acc → P (.lst acc) S)
    (hs : ∀ (i : Nat) S acc, i < n → Inv i S acc → wp XF (step (.int (i : Int)) S) (fun o S' => match o with | some y => acc.length < 16777216 ∧ Inv (i + 1) S' (acc ++ [y]) | none => Inv (i + 1) S' acc)) (S : Store) (h0 : Inv 0 S []) : wp X (compL [] step ((List.range n).map fun i => .int ((i : Nat) : Int)) S []) P := by
  refine wp_compL (fun ds S acc => ∃ i, i ≤ n ∧ ds = (List.range' i (n - i)).map (fun i => .int ((i : Nat) : Int)) ∧ Inv i S acc) (fun S acc h => ?_) (fun d ds S acc h => ?_) _ S [] ⟨0, Nat.zero_le _, by rw [List.range_eq_range']; rfl, h0⟩
  · obtain ⟨i, hi, e, h⟩ := h
    have hn : n - i = 0 := by
      cases q : n - i with
      | zero => rfl
      | succ m => rw [q, List.range'_succ] at e; cases e
    have : i = n := by omega
    subst this
    exact he S acc h
  · obtain ⟨i, hi, e, h⟩ := h
    cases q : n - i with
    | zero => rw [q] at e; cases e
    | succ m =>
      rw [q, List.range'_succ, List.map_cons] at e
      cases e
      refine wp_mono (hs i S acc (by omega) h) fun o S' h' => ?_
      cases o with
      | some y => exact ⟨h'.1, i + 1, by omega, by rw [show n - (i + 1) = m by omega], h'.2⟩
      | none => exact ⟨i + 1, by omega, by rw [show n - (i + 1) = m by omega], h'⟩
/-- an if: what is known of its test's answer -/
theorem if_cut {X : Exn → Store → Prop} {Φ : Nat → Fn} {ρ : List Cell} {S : Store} {c : CE} {a b : CB} {P : Flw → Store → Prop} (Q : Bool → Store → Prop) (hc : wp X (evE Φ c ρ S) (fun x S => wo (asB x) (fun b => Q b S))) (ht : ∀ S, Q true S → wp X (evBk Φ a ρ S) P) (hf : ∀ S, Q false S → wp X (evBk Φ b ρ S) P) : wp X (evS Φ (.ife c a b) ρ S) P := by
  rw [ws_ife]
  refine wp_mono hc fun x S h => ?_
  obtain ⟨b, e, h⟩ := wo_of h
  rw [e, wo_some]
  cases b with
  | true => rw [if_pos rfl]; exact ht S h
  | false => rw [if_neg (by decide)]; exact hf S h
/-- a statement that goes on: what is known behind it -/
theorem st_cut {X : Exn → Store → Prop} {Φ : Nat → Fn} {ρ : List Cell} {S : Store} {s : CS} {r : CB} {P : Flw → Store → Prop} (J : List Cell → Store → Prop) (h : wp X (evS Φ s ρ S) (fun f S' => ∃ ρ', f = .nx ρ' ∧ J ρ' S')) (hr : ∀ ρ' S', J ρ' S' → wp X (evBk Φ r ρ' S') P) : wp X (evS Φ s ρ S) (nxt X (evBk Φ r) P) := by
  refine wp_mono h fun f S' h => ?_
  obtain ⟨ρ', rfl, h⟩ := h
  exact hr ρ' S' h
/-! ### the feed -/
theorem dr {X : Exn → Store → Prop} {k : Nat} {R S : Store} {m : Int} {P : D → Store → Prop} (F : Feed R S) (hm : 0 < m) (hm2 : m < 1152921504606846976) (q : ∀ (r : Int) S', 0 ≤ r → r < m → Feed R S' → P (.int r) S') : wp X ((Phi G (k + 1) 2).m [.ptr 0, .int m] S) P :=
  draw_wp (d := d_law_draw) rfl rfl rfl rfl rfl F hm hm2 q
theorem _root_.RH.Feed.len {R S : Store} (F : Feed R S) : S.length = R.length + 1 := by
  obtain ⟨ns, a, b, rfl, _⟩ := F; rfl
theorem _root_.RH.Feed.get {R S : Store} (F : Feed R S) (n : Nat) : S[n + 1]? = R[n]? := by
  obtain ⟨ns, a, b, rfl, _⟩ := F; rfl
theorem _root_.RH.Feed.set {R S : Store} (F : Feed R S) (n : Nat) (o : Ob) : Feed (R.set n o) (S.set (n + 1) o) := by
  obtain ⟨ns, a, b, rfl, h⟩ := F
  exact ⟨ns, a, b, rfl, h⟩
theorem _root_.RH.Feed.app {R S : Store} (F : Feed R S) (o : Ob) : Feed (R ++ [o]) (S ++ [o]) := by
  obtain ⟨ns, a, b, rfl, h⟩ := F
  exact ⟨ns, a, b, rfl, h⟩
/-- what was made behind R is left -/
theorem _root_.RH.Feed.take {R T S : Store} (F : Feed (R ++ T) S) : Feed R (S.take (R.length + 1)) := by
  obtain ⟨ns, a, b, rfl, h⟩ := F
  exact ⟨ns, a, b, by simp, h⟩
theorem _root_.RH.Feed.old {R T S0 S : Store} (F0 : Feed R S0) (F : Feed (R ++ T) S) : oldP S0 S := fun i ob hi h => by
  obtain ⟨ns0, a0, b0, rfl, _⟩ := F0
  obtain ⟨ns, a, b, rfl, _⟩ := F
  cases i with
  | zero =>
    simp at h; subst h
    refine .inr ?_
    have : ∀ (n : Nat) (l : List Int), upDs n (l.map .int) = true := fun n l => by
      induction l with
      | nil => simp [upDs]
      | cons x xs ih => simp [upDs, upD, ih]
    simp [Ob.vals, upDs, upD, this]
  | succ i =>
    simp at hi h ⊢
    rw [List.getElem?_append_left (by omega)] at h
    exact .inl h
/-- a def's end over the feed: a list made in the store, handed back -/
theorem _root_.RH.Feed.endNew {R S0 S : Store} {T : Store} {fr f : Bool} {ds : List D} {n : Nat} {P : D → Store → Prop} (F0 : Feed R S0) (F : Feed (R ++ T) S) (hn : S0.length ≤ n) (h : S[n]? = some (.lst ds)) (up : upDs S0.length ds = true) (q : ∀ S', Feed R S' → P (.lst ds) S') : eDef fr S0 P (.rt f (.ptr n)) S :=
  eDef_new hn h (F0.old F) up (q _ (by rw [F0.len]; exact F.take))
/-- .. any other answer -/
theorem _root_.RH.Feed.endOld {R S0 S : Store} {T : Store} {fr f : Bool} {d : D} {P : D → Store → Prop} (F0 : Feed R S0) (F : Feed (R ++ T) S) (hd : ∀ n, d ≠ .ptr n) (up : upD S0.length d = true) (hf : fr = true → f = true) (q : ∀ S', Feed R S' → P d S') : eDef fr S0 P (.rt f d) S :=
  eDef_old (fun n e => absurd e (hd n)) (F0.old F) up ⟨hf, q _ (by rw [F0.len]; exact F.take)⟩
theorem _root_.RH.Feed.endSame {R S0 S : Store} {fr f : Bool} {d : D} {P : D → Store → Prop} (F0 : Feed R S0) (F : Feed R S) (hd : ∀ n, d ≠ .ptr n) (hf : fr = true → f = true) (q : P d S) : eDef fr S0 P (.rt f d) S :=
  eDef_same (by rw [F0.len, F.len]; omega) (fun n e => absurd e (hd n)) ⟨hf, q⟩
theorem up_of {n : Nat} {ds : List D} (h : ∀ d, d ∈ ds → upD n d = true) : upDs n ds = true := by
  induction ds with
  | nil => simp [upDs]
  | cons d ds ih => unfold upDs; rw [h d (by simp), ih fun d hd => h d (List.mem_cons_of_mem _ hd)]; rfl
mutual
theorem up_pln {n : Nat} : ∀ {d : D}, pln d = true → upD n d = true
  | .non, _ => by simp [upD]
  | .bl _, _ => by simp [upD]
  | .int _, _ => by simp [upD]
  | .str _, _ => by simp [upD]
  | .tup ds, h => by unfold upD; unfold pln at h; exact ups_pln h
  | .lst ds, h => by unfold upD; unfold pln at h; exact ups_pln h
  | .ptr _, h => by unfold pln at h; cases h
  | .scr _, h => by unfold pln at h; cases h
  | .exn _ _ _, h => by unfold pln at h; cases h
theorem ups_pln {n : Nat} : ∀ {ds : List D}, plns ds = true → upDs n ds = true
  | [], _ => by simp [upDs]
  | d :: ds, h => by
    unfold plns at h
    simp only [Bool.and_eq_true] at h
    unfold upDs
    rw [up_pln h.1, ups_pln h.2]; rfl
end
@[simp] theorem bi_lstS {ns : List Int} : biD .lst [.scr ns] = some (.lst (ns.map .int)) := (rfl)
/-- how often a law turns -/
theorem turns {a b l : Int} (ha : 0 ≤ a) (hab : a ≤ b) (hb : b ≤ 1000) (hl : 0 ≤ l) : ∃ n : Nat, (if a < (if l < b then l else b) then (if l < b then l else b) else a) = (n : Int) ∧ (n : Int) ≤ b ∧ a ≤ n := by
  refine ⟨(if a < (if l < b then l else b) then (if l < b then l else b) else a).toNat, ?_, ?_, ?_⟩ <;> split <;> split <;> omega
theorem feed0 (ns : List Int) : Feed [] [.lst [.lst (ns.map .int), .int 0, .int 0]] := ⟨ns, 0, 0, rfl, by omega, by omega⟩
end RL

set_option Elab.async false
set_option linter.all false
set_option maxRecDepth 100000
set_option maxHeartbeats 1000000
namespace RL
open PySem PySem.Spec PyProof.Rows L2 RH
@[simp] theorem isn_non {d : D} : cmpB .isn d .non = some (!RH.isNon d) := by cases d <;> rfl
@[simp] theorem is_non {d : D} : cmpB .is d .non = some (RH.isNon d) := by cases d <;> rfl
@[simp] theorem isNon_non : RH.isNon .non = true := (rfl)
@[simp] theorem isNon_lst {ds : List D} : RH.isNon (.lst ds) = false := (rfl)
@[simp] theorem isNon_ptr {n : Nat} : RH.isNon (.ptr n) = false := (rfl)
/-! ### slices -/
theorem cut_ab {α : Type} {xs : List α} {a b : Nat} (h : a ≤ b) : cutG xs (some (a : Int)) (some (b : Int)) = (xs.drop a).take (b - a) := by
  unfold cutG
  rw [HT.sIx_nat, HT.sIx_nat]
  by_cases ha : a ≤ xs.length
  · rw [Nat.min_eq_left ha]
    by_cases hb : b ≤ xs.length
    · rw [Nat.min_eq_left hb]
    · rw [Nat.min_eq_right (by omega), List.take_of_length_le (by simp), List.take_of_length_le (by simp; omega)]
  · rw [List.drop_of_length_le (i := a) (by omega), List.drop_of_length_le (i := min a xs.length) (by omega)]
    simp
theorem cut_a {α : Type} {xs : List α} {a : Nat} : cutG xs (some (a : Int)) none = xs.drop a := by
  unfold cutG
  rw [HT.sIx_nat, HT.sIx_none]
  by_cases ha : a ≤ xs.length
  · rw [Nat.min_eq_left ha, List.take_of_length_le (by simp)]
  · rw [List.drop_of_length_le (i := a) (by omega), List.drop_of_length_le (i := min a xs.length) (by omega)]
    simp
theorem cut_b {α : Type} {xs : List α} {b : Nat} : cutG xs none (some (b : Int)) = xs.take b := by
  unfold cutG
  rw [HT.sIx_nat, HT.sIx_none]
  simp only [List.drop_zero, Nat.sub_zero]
  by_cases hb : b ≤ xs.length
  · rw [Nat.min_eq_left hb]
  · rw [Nat.min_eq_right (by omega), List.take_of_length_le (by simp), List.take_of_length_le (by omega)]
theorem cut_all {α : Type} {xs : List α} : cutG xs none none = xs := by
  unfold cutG
  rw [HT.sIx_none, HT.sIx_none]
  simp
@[simp] theorem sl_str {z : List Nat} {i j : Option Int} : sliceD (.str z) i j = if z.length ≤ 16777216 then some (.str (cutG z i j)) else none := (rfl)
@[simp] theorem sl_lst {z : List D} {i j : Option Int} : sliceD (.lst z) i j = some (.lst (cutG z i j)) := (rfl)
@[simp] theorem sl_tup {z : List D} {i j : Option Int} : sliceD (.tup z) i j = some (.tup (cutG z i j)) := (rfl)
theorem wp_rangeF {X : Exn → Store → Prop} {body : D → List Cell → Store → Out} {P : Flw → Store → Prop} {n : Nat} {f : Nat → D} (Inv : Nat → List Cell → Store → Prop) (he : ∀ ρ S, Inv n ρ S → P (.nx ρ) S)
    (hs : ∀ (i : Nat) ρ S, i < n → Inv i ρ S → wp X (body (f i) ρ S) (aft (Inv (i + 1)) P)) (ρ : List Cell) (S : Store) (h0 : Inv 0 ρ S) : wp X (loopF [] body ((List.range n).map f) ρ S) P := by
  refine wp_loop (fun ds ρ S => ∃ i, i ≤ n ∧ ds = (List.range' i (n - i)).map f ∧ Inv i ρ S) (fun ρ S h => ?_) (fun d ds ρ S h => ?_) _ ρ S ⟨0, Nat.zero_le _, by rw [List.range_eq_range']; rfl, h0⟩
  · obtain ⟨i, hi, e, h⟩ := h
    have hn : n - i = 0 := by
      cases q : n - i with
      | zero => rfl
      | succ m => rw [q, List.range'_succ] at e; cases e
    have : i = n := by omega
    subst this
    exact he ρ S h
  · obtain ⟨i, hi, e, h⟩ := h
    cases q : n - i with
    | zero => rw [q] at e; cases e
    | succ m =>
      rw [q, List.range'_succ, List.map_cons] at e
      cases e
      refine wp_mono (hs i ρ S (by omega) h) fun g S' h' => ?_
      have st : ∀ ρ' S', Inv (i + 1) ρ' S' → ∃ j, j ≤ n ∧ (List.range' (i + 1) m).map f = (List.range' j (n - j)).map f ∧ Inv j ρ' S' := fun ρ' S' h => ⟨i + 1, by omega, by rw [show n - (i + 1) = m by omega], h⟩
      cases g with
      | nx ρ' => exact st _ _ h'
      | ct ρ' => exact st _ _ h'
      | bk ρ' => exact h'
      | rt b d => exact h'
theorem add_str {a b : List Nat} (h : a.length + b.length ≤ 16777216) : binD .add (.str a) (.str b) = some (.str (a ++ b)) := by
  show (if a.length + b.length ≤ 16777216 then _ else _) = _
  rw [if_pos h]
@[simp] theorem c_insg {c : Nat} {z : List Nat} : cmpB .inn (.str [c]) (.str z) = some (decide (c ∈ z)) := (rfl)
theorem ixN_last {n : Nat} (h : 0 < n) : ixN n (-1) = some (n - 1) := by
  unfold ixN
  rw [if_neg (by omega), if_pos (by omega)]
  congr 1
  omega
theorem at_last {α : Type} {xs : List α} {x : α} (h : xs.getLast? = some x) : atI xs (-1) = some x := by
  rw [List.getLast?_eq_getElem?] at h
  have hl := (List.getElem?_eq_some_iff.mp h).1
  unfold atI
  rw [ixN_last (by omega)]
  exact h
theorem last_split {α : Type} {xs : List α} {x : α} (h : xs.getLast? = some x) : xs = xs.dropLast ++ [x] := by
  have hne : xs ≠ [] := fun z => by subst z; simp at h
  rw [List.getLast?_eq_some_getLast hne] at h
  conv => lhs; rw [← List.dropLast_concat_getLast hne]
  rw [Option.some.inj h]
theorem if_no {X : Exn → Store → Prop} {Φ : Nat → Fn} {ρ : List Cell} {S : Store} {c : CE} {a b : CB} {P : Flw → Store → Prop} (hc : wp X (evE Φ c ρ S) (fun x S' => wo (asB x) (fun b => b = false ∧ S' = S))) (hf : wp X (evBk Φ b ρ S) P) : wp X (evS Φ (.ife c a b) ρ S) P :=
  if_cut (fun b S' => b = false ∧ S' = S) hc (fun S h => by cases h.1) (fun S' h => by rw [h.2]; exact hf)
theorem okG_app' {S : Store} {g g' : List (Nat × List D)} (h : okG S g) (h' : okG S g') : okG S (g ++ g') := by
  induction g with
  | nil => exact h'
  | cons x g ih => exact ⟨h.1, ih h.2⟩
theorem gd_of {S : Store} {x d : D} (h : drf S x = some d) : okG S (grd S x) := by
  unfold drf at h
  cases x with
  | ptr n =>
    simp only at h
    split at h
    · rename_i ds e
      simp only [grd, e, okG, and_true]
    · cases h
  | _ => trivial
theorem zip_self : ∀ (fs : List D) (d : D), d ∈ zipD fs fs → ∃ x, x ∈ fs ∧ d = .tup [x, x]
  | [], d, h => by simp [zipD] at h
  | f :: fs, d, h => by
    simp [zipD] at h
    rcases h with rfl | h
    · exact ⟨f, by simp, rfl⟩
    · obtain ⟨x, h1, h2⟩ := zip_self fs d h
      exact ⟨x, List.mem_cons_of_mem _ h1, h2⟩
theorem strI_num (n : Nat) : strI (n : Int) = TL.numL n := by
  have := TL.tl_num n
  rw [← this, str_ofString]
  unfold strI TL.tl
  simp
theorem str_of {n : Nat} (h : n < 10 ^ 9) : biD .str [.int (n : Int)] = some (.str (TL.numL n)) := by
  show (if ((n : Nat) : Int).natAbs.log2 < 1920 then some (D.str (strI (n : Int))) else none) = _
  rw [if_pos, strI_num]
  rw [Int.natAbs_natCast]
  by_cases z : n = 0
  · subst z; decide
  · exact (Nat.log2_lt z).mpr (Nat.lt_of_lt_of_le h (Nat.le_trans (show 10 ^ 9 ≤ 2 ^ 30 by decide) (Nat.pow_le_pow_right (by omega) (by omega))))
theorem str_of' {n : Nat} (h : n < 2 ^ 1000) : biD .str [.int (n : Int)] = some (.str (TL.numL n)) := by
  show (if ((n : Nat) : Int).natAbs.log2 < 1920 then some (D.str (strI (n : Int))) else none) = _
  rw [if_pos, strI_num]
  rw [Int.natAbs_natCast]
  by_cases z : n = 0
  · subst z; decide
  · exact (Nat.log2_lt z).mpr (Nat.lt_of_lt_of_le h (Nat.pow_le_pow_right (by omega) (by omega)))
@[simp] theorem bi_all {ds : List D} : biD .all [.lst ds] = (boolsOf ds).map fun bs => .bl (bs.all id) := (rfl)
theorem boolsOf_map (bs : List Bool) : boolsOf (bs.map .bl) = some bs := by
  induction bs with
  | nil => rfl
  | cons b bs ih => rw [List.map_cons, boolsOf, ih]; rfl
end RL

set_option Elab.async false
set_option linter.all false
set_option maxRecDepth 100000
set_option maxHeartbeats 1000000
/-! LHall: paths, marks, rows as data; dicts of them. -/
namespace RL
open PySem PySem.Spec PyProof.Rows L2 RH
/-- a path: names -/
abbrev Pth := List (List Nat)
/-- a row: a path and a mark -/
abbrev Rw1 := Pth × Option Int
def pD (p : Pth) : D := .tup (p.map .str)
def mD : Option Int → D
  | none => .non
  | some i => .int i
def rowD (r : Rw1) : D := .tup [pD r.1, mD r.2]
def kvD (r : Rw1) : D × D := (pD r.1, mD r.2)
/-- a set of paths as a dict -/
def kT (p : Pth) : D × D := (pD p, .bl true)
theorem strs_inj : ∀ {p q : Pth}, p.map D.str = q.map D.str → p = q
  | [], [], _ => rfl
  | [], _ :: _, h => by cases h
  | _ :: _, [], h => by cases h
  | a :: p, b :: q, h => by
    rw [List.map_cons, List.map_cons, List.cons.injEq, D.str.injEq] at h
    rw [h.1, strs_inj h.2]
theorem pD_inj {p q : Pth} : pD p = pD q ↔ p = q := ⟨fun h => strs_inj (D.tup.inj h), fun h => by rw [h]⟩
theorem ks_strs : ∀ p : Pth, (ksOf (p.map D.str)).isSome = true
  | [] => rfl
  | a :: p => by
    rw [List.map_cons, ksOf]
    obtain ⟨ks, h⟩ := Option.isSome_iff_exists.mp (ks_strs p)
    rw [h]; rfl
theorem key_p (p : Pth) : keyOk 1 (pD p) = true := ks_strs p
theorem key_r (p : Pth) : keyR 1 (pD p) = true := ks_strs p
theorem key_r3 (p : Pth) : keyR 3 (pD p) = true := ks_strs p
theorem plS (p : Pth) : Pl 1 (pD p) := .tup fun d hd => by
  obtain ⟨x, _, rfl⟩ := List.mem_map.mp hd
  exact .str
theorem plM (m : Option Int) : Pl 0 (mD m) := by
  cases m with
  | none => exact ⟨by unfold mD pln; rfl, by unfold mD dep; omega⟩
  | some i => exact .int
theorem plR (r : Rw1) : Pl 2 (rowD r) := .tup fun d hd => by
  rcases List.mem_cons.mp hd with z | z
  · subst z; exact plS _
  · rcases List.mem_cons.mp z with z | z
    · subst z; exact (plM _).mono (by omega)
    · cases z
theorem plRs (rs : List Rw1) : Pl 3 (.lst (rs.map rowD)) := .lst fun d hd => by
  obtain ⟨r, _, rfl⟩ := List.mem_map.mp hd
  exact plR r
/-! ### == -/
theorem eqbs_strs : ∀ p q : Pth, eqbs (p.map D.str) (q.map D.str) = decide (p = q)
  | [], [] => by unfold eqbs; simp
  | [], _ :: _ => by unfold eqbs; simp
  | _ :: _, [] => by unfold eqbs; simp
  | a :: p, b :: q => by
    rw [List.map_cons, List.map_cons, eqbs, eqbs_strs p q]
    unfold eqb
    by_cases h : a = b
    · subst h; simp
    · simp [h]
theorem eq_pD {p q : Pth} : cmpB .eq (pD p) (pD q) = some (decide (p = q)) := by
  rw [c_eqD]; unfold eqD
  rw [(plS p).ok (by omega), (plS q).ok (by omega)]
  show some (eqb (pD p) (pD q)) = _
  unfold pD eqb
  rw [eqbs_strs]
theorem ne_pD {p q : Pth} : cmpB .ne (pD p) (pD q) = some (!decide (p = q)) := by
  have := eq_pD (p := p) (q := q)
  rw [c_eqD] at this
  rw [c_neD, this]; rfl
/-! ### a dict of rows -/
theorem val_rows (p : Pth) : ∀ rs : List Rw1, valD (rs.map kvD) (pD p) = (rs.lookup p).map mD
  | [] => rfl
  | r :: rs => by
    rw [List.map_cons, List.lookup_cons]
    unfold kvD
    simp only [valD, pD_inj]
    by_cases h : r.1 = p
    · subst h; simp
    · have : (p == r.1) = false := by rw [beq_eq_false_iff_ne]; exact fun z => h z.symm
      rw [if_neg h, this]
      exact val_rows p rs
theorem mem_kv {p : Pth} {rs : List Rw1} : (∃ b, (pD p, b) ∈ rs.map kvD) ↔ p ∈ rs.map (·.1) := by
  constructor
  · rintro ⟨b, h⟩
    obtain ⟨r, hr, e⟩ := List.mem_map.mp h
    unfold kvD at e
    rw [Prod.mk.injEq, pD_inj] at e
    exact List.mem_map.mpr ⟨r, hr, e.1⟩
  · intro h
    obtain ⟨r, hr, e⟩ := List.mem_map.mp h
    exact ⟨mD r.2, List.mem_map.mpr ⟨r, hr, by unfold kvD; rw [e]⟩⟩
theorem put_new {rs : List Rw1} {p : Pth} {m : Option Int} (h : p ∉ rs.map (·.1)) : putD (rs.map kvD) (pD p) (mD m) = (rs ++ [(p, m)]).map kvD := by
  unfold putD
  rw [if_neg (fun z => h (mem_kv.mp z)), List.map_append]
  rfl
theorem lookup_none {p : Pth} : ∀ {rs : List Rw1}, p ∉ rs.map (·.1) → rs.lookup p = none
  | [], _ => rfl
  | r :: rs, h => by
    rw [List.map_cons, List.mem_cons, not_or] at h
    have : (p == r.1) = false := by rw [beq_eq_false_iff_ne]; exact h.1
    rw [List.lookup_cons, this]
    exact lookup_none h.2
theorem lookup_mem {p : Pth} {m : Option Int} : ∀ {rs : List Rw1}, (rs.map (·.1)).Nodup → (p, m) ∈ rs → rs.lookup p = some m
  | r :: rs, nd, h => by
    rw [List.map_cons, List.nodup_cons] at nd
    rw [List.lookup_cons]
    rcases List.mem_cons.mp h with z | z
    · rw [← z]; simp
    · have : (p == r.1) = false := by
        rw [beq_eq_false_iff_ne]
        intro e; exact nd.1 (by rw [← e]; exact List.mem_map.mpr ⟨_, z, rfl⟩)
      rw [this]
      exact lookup_mem nd.2 z
/-- the set of paths -/
theorem val_set (p : Pth) : ∀ ps : List Pth, (valD (ps.map kT) (pD p)).isSome = decide (p ∈ ps)
  | [] => rfl
  | q :: ps => by
    rw [List.map_cons, show kT q = (pD q, .bl true) from rfl]
    simp only [valD, pD_inj]
    by_cases h : q = p
    · subst h; simp
    · rw [if_neg h, val_set p ps]
      have : ¬ p = q := fun z => h z.symm
      simp [this]
theorem rep_set (p : Pth) : ∀ ps : List Pth, (ps.map kT).map (rep1 (pD p) (.bl true)) = ps.map kT
  | [] => rfl
  | q :: ps => by
    rw [List.map_cons, List.map_cons, rep_set p ps]
    unfold kT rep1
    by_cases h : pD q = pD p
    · simp [h]
    · simp [h]
theorem put_set (ps : List Pth) (p : Pth) : putD (ps.map kT) (pD p) (.bl true) = (if p ∈ ps then ps else ps ++ [p]).map kT := by
  unfold putD
  have e : (∃ b, (pD p, b) ∈ ps.map kT) ↔ p ∈ ps := by
    constructor
    · rintro ⟨b, h⟩
      obtain ⟨q, hq, e⟩ := List.mem_map.mp h
      unfold kT at e
      rw [Prod.mk.injEq, pD_inj] at e
      rw [← e.1]; exact hq
    · intro h; exact ⟨.bl true, List.mem_map.mpr ⟨p, h, rfl⟩⟩
  by_cases h : p ∈ ps
  · rw [if_pos (e.mpr h), if_pos h, rep_set]
  · rw [if_neg (fun z => h (e.mp z)), if_neg h, List.map_append]; rfl
/-- dict(rows) -/
theorem prs_rows : ∀ rs : List Rw1, prsD (rs.map rowD) = some (rs.map kvD)
  | [] => rfl
  | r :: rs => by
    rw [List.map_cons]
    unfold rowD
    rw [prsD, show (rs.map fun r => D.tup [pD r.1, mD r.2]) = rs.map rowD from rfl, prs_rows rs]; rfl
theorem merge_rows : ∀ {rs acc : List Rw1}, ((acc ++ rs).map (·.1)).Nodup → mergeD (acc.map kvD) (rs.map kvD) = (acc ++ rs).map kvD
  | [], acc, _ => by rw [List.map_nil, mergeD, List.append_nil]
  | r :: rs, acc, nd => by
    have hn : r.1 ∉ acc.map (·.1) := by
      rw [List.map_append, List.nodup_append] at nd
      intro z
      exact nd.2.2 r.1 z r.1 (by simp) rfl
    rw [List.map_cons, show kvD r = (pD r.1, mD r.2) from rfl, mergeD, put_new hn]
    have := merge_rows (rs := rs) (acc := acc ++ [(r.1, r.2)]) (by simpa using nd)
    rw [this]; simp
theorem keys_ok (rs : List Rw1) : (rs.map kvD).all (fun q => keyOk 1 q.1) = true := by
  rw [List.all_eq_true]
  intro q hq
  obtain ⟨r, _, rfl⟩ := List.mem_map.mp hq
  exact key_p r.1
/-! ### folded -/
/-- a path as it is held against others -/
def fold (b : Bool) (p : Pth) : Pth := if b then p.dropLast ++ [(p.getLast?.getD []).map lo1] else p
/-! ### slices of paths -/
theorem cut_m1 {α : Type} {xs : List α} : cutG xs none (some (-1)) = xs.dropLast := by
  unfold cutG
  rw [HT.sIx_none, List.drop_zero, Nat.sub_zero]
  have : HT.sIx xs.length xs.length (some (-1)) = xs.length - 1 := by
    unfold HT.sIx
    simp
    omega
  rw [this, List.dropLast_eq_take]
theorem sl_pD {p : Pth} : sliceD (pD p) none (some (-1)) = some (pD p.dropLast) := by
  unfold pD
  rw [sl_tup, cut_m1]
  simp [List.map_dropLast]
theorem at_pD {p : Pth} (h : p ≠ []) : idxD (pD p) (.int (-1)) = some (.str (p.getLast?.getD [])) := by
  unfold pD
  rw [RH.ix_tup]
  refine at_last ?_
  rw [List.getLast?_map]
  cases hx : p.getLast? with
  | none => exact absurd (List.getLast?_eq_none_iff.mp hx) h
  | some x => rfl
/-! ### sorted -/
theorem alike_strs : ∀ p q : Pth, PySem.W.alikeAll (toPys (p.map .str)) (toPys (q.map .str)) = true
  | [], _ => by simp [toPys, PySem.W.alikeAll]
  | _ :: _, [] => by simp [toPys, PySem.W.alikeAll]
  | a :: p, b :: q => by
    simp only [List.map_cons, toPys, toPy, PySem.W.alikeAll, PySem.W.alike, Bool.true_and]
    exact alike_strs p q
/-- paths sorted -/
noncomputable def srt (ps : List Pth) : List D := (ps.map pD).mergeSort (PySem.W.dataLe false toPy)
theorem srt_ok {ps : List Pth} (h : ∀ p, p ∈ ps → p ≠ []) (hl : ps.length ≤ 16777216) : srtD (ps.map pD) = some (.lst (srt ps)) := by
  unfold srtD
  have e1 : (ps.map pD).all okD = true := by
    rw [List.all_eq_true]; intro d hd
    obtain ⟨p, _, rfl⟩ := List.mem_map.mp hd
    exact (plS p).ok (by omega)
  have e2 : ((ps.map pD).all fun d => (ps.map pD).all fun e => PySem.W.alike (toPy d) (toPy e)) = true := by
    rw [List.all_eq_true]; intro d hd
    rw [List.all_eq_true]; intro e he
    obtain ⟨p, _, rfl⟩ := List.mem_map.mp hd
    obtain ⟨q, _, rfl⟩ := List.mem_map.mp he
    simp only [pD, toPy, PySem.W.alike]
    exact alike_strs p q
  have e3 : (ps.map pD).all headT = true := by
    rw [List.all_eq_true]; intro d hd
    obtain ⟨p, hp, rfl⟩ := List.mem_map.mp hd
    cases p with
    | nil => exact absurd rfl (h [] hp)
    | cons a p => rfl
  have e4 : decide ((ps.map pD).length ≤ 16777216) = true := by simpa using hl
  rw [e1, e2, e3, e4]; rfl
theorem mem_srt {ps : List Pth} {d : D} : d ∈ srt ps ↔ ∃ p, p ∈ ps ∧ d = pD p := by
  unfold srt
  rw [List.mem_mergeSort, List.mem_map]
  constructor
  · rintro ⟨p, h, rfl⟩; exact ⟨p, h, rfl⟩
  · rintro ⟨p, h, rfl⟩; exact ⟨p, h, rfl⟩
/-- a comprehension over things told as data -/
theorem wp_compEnc {α : Type} {X : Exn → Store → Prop} {g0 : List (Nat × List D)} {step : D → Store → Res (Option D)} {S : Store} {xs : List α} {P : D → Store → Prop} (enc : α → D) (f : α → Option D) (hg : okG S g0) (h : ∀ x, x ∈ xs → wp XF (step (enc x) S) (fun o S' => o = f x ∧ S' = S)) (hl : xs.length ≤ 16777216) (q : P (.lst (xs.filterMap f)) S) : wp X (compL g0 step (xs.map enc) S []) P := by
  refine wp_compG (g := g0) (fun ds S' acc => S' = S ∧ ∃ done rest, xs = done ++ rest ∧ ds = rest.map enc ∧ acc = done.filterMap f) (fun ds S' acc h0 => by rw [h0.1]; exact hg) (fun S' acc h0 => ?_) (fun d ds S' acc h0 => ?_) _ _ _ ⟨rfl, [], xs, rfl, rfl, rfl⟩
  · obtain ⟨rfl, done, rest, e1, e2, rfl⟩ := h0
    have : rest = [] := by simpa using e2.symm
    subst this
    rw [List.append_nil] at e1
    subst e1; exact q
  · obtain ⟨rfl, done, rest, e1, e2, rfl⟩ := h0
    cases rest with
    | nil => cases e2
    | cons x rest =>
      cases e2
      refine wp_mono (h x (by rw [e1]; simp)) fun o S'' h1 => ?_
      obtain ⟨rfl, rfl⟩ := h1
      have hlen : (done.filterMap f).length < 16777216 := by
        have h1 := List.length_filterMap_le f done
        have h2 : done.length + (rest.length + 1) = xs.length := by rw [e1]; simp
        omega
      cases hf : f x with
      | some y => exact ⟨hlen, rfl, done ++ [x], rest, by rw [e1]; simp, rfl, by simp [hf]⟩
      | none => exact ⟨rfl, done ++ [x], rest, by rw [e1]; simp, rfl, by simp [hf]⟩
end RL

set_option Elab.async false
set_option linter.all false
set_option maxRecDepth 100000
set_option maxHeartbeats 1000000
/-! LRows: drawn names, rows of halls, mixed. -/
namespace RL
open PySem PySem.Spec PyProof.Rows L2 RH
/-- a name -/
def Nm (l : List Nat) : Prop := 1 ≤ l.length ∧ l.length ≤ 12 ∧ ∀ c, c ∈ l → c ∈ sNS
theorem lname_wp {X : Exn → Store → Prop} {k : Nat} {R S0 : Store} {P : D → Store → Prop} (F : Feed R S0) (q : ∀ l S', Nm l → Feed R S' → P (.str l) S') : wp X ((Phi G (k + 2) 89).m [.ptr 0] S0) P := by
  refine wp_def (d := d_law_name) rfl rfl ?_
  simp only [d_law_name, c_law_name, List.map_cons, List.map_nil, List.length_cons, List.length_nil, Nat.reduceAdd, Nat.reduceSub, List.replicate, List.cons_append, List.nil_append]
  simp [-ws_ife]
  refine dr F (by decide) (by decide) fun r S1 r0 r1 F1 => ?_
  simp [-ws_ife]
  refine st_cut (fun ρ S => ∃ (signs : List Nat) (n : Int), ρ = [.sh (.ptr 0), .sh (.str signs), .sh (.int n), .u] ∧ 0 < signs.length ∧ signs.length ≤ 100 ∧ (∀ c, c ∈ signs → c ∈ sNS) ∧ 1 ≤ n ∧ n ≤ 12 ∧ Feed R S) ?_ (fun ρ S h => ?_)
  · refine if_cut (fun b S => Feed R S) ?_ (fun S F2 => ?_) (fun S F2 => ?_)
    · simp
      refine dr F1 (by decide) (by decide) fun r2 S2 _ _ F2 => ?_
      simp
      exact F2
    · simp
      refine dr F2 (by decide) (by decide) fun r2 S2 _ _ F2 => ?_
      simp
      refine ⟨[97, 65, 98], _, ⟨rfl, rfl⟩, by decide, by decide, by decide, by omega, by omega, F2⟩
    · simp
      refine ⟨sNS, _, ⟨rfl, rfl⟩, by decide, by decide, fun _ h => h, by omega, by omega, F2⟩
  · obtain ⟨signs, n, rfl, h1, h2, h3, n1, n2, F2⟩ := h
    simp [w62_of (i := n) (by omega) (by omega)]
    refine wp_compRange (fun i S acc => Feed R S ∧ ∃ l : List Nat, acc = l.map (fun c => .str [c]) ∧ l.length = i ∧ ∀ c, c ∈ l → c ∈ sNS) (fun S acc h => ?_) (fun i S acc hi h => ?_) _ ⟨F2, [], rfl, rfl, by simp⟩
    · obtain ⟨F', l, rfl, hl, hm⟩ := h
      simp only [drf_lst, wo_some]
      rw [join_signs (by omega)]
      simp only [wo_some]
      exact F.endSame F' (fun _ z => by cases z) (fun _ => rfl) (q l S ⟨by omega, by omega, hm⟩ F')
    · obtain ⟨F', l, rfl, hl, hm⟩ := h
      simp [show signs.length ≤ 16777216 by omega]
      refine dr F' (by omega) (by omega) fun r S' r0 r1 F' => ?_
      rw [RH.ix_str, if_pos (show signs.length ≤ 16777216 by omega), at_nn r0, List.getElem?_eq_getElem (by omega)]
      simp
      exact ⟨by omega, F', l ++ [signs[r.toNat]'(by omega)], by simp, by simp [hl], fun c hc => by
        rcases List.mem_append.mp hc with z | z
        · exact hm c z
        · simp at z; subst z; exact h3 _ (List.getElem_mem _)⟩
theorem pD_np {p : Pth} {n : Nat} : pD p ≠ .ptr n := by unfold pD; intro z; cases z
theorem folded_wp {X : Exn → Store → Prop} {k : Nat} {S : Store} {p : Pth} {b : Bool} {P : D → Store → Prop} (hp : p ≠ []) (hl : p.length ≤ 100) (hn : ∀ l, l ∈ p → l.length ≤ 100) (q : P (pD (fold b p)) S) : wp X ((Phi G (k + 1) 90).m [pD p, .bl b] S) P := by
  refine wp_def (d := d_law_folded) rfl rfl ?_
  simp only [d_law_folded, c_law_folded, List.map_cons, List.map_nil, List.length_cons, List.length_nil, Nat.reduceAdd, Nat.reduceSub, List.replicate, List.cons_append, List.nil_append]
  have hlast : (p.getLast?.getD []).length ≤ 5592405 := by
    cases hx : p.getLast? with
    | none => simp
    | some x =>
      have := hn x (List.mem_of_getLast? hx)
      simp only [Option.getD_some]; omega
  cases b with
  | false =>
    simp
    exact eDef_same (Nat.le_refl _) (fun _ z => absurd z pD_np) ⟨(fun z => by cases z), q⟩
  | true =>
    have e : binD .add (pD p.dropLast) (.tup [.str ((p.getLast?.getD []).map lo1)]) = some (pD (fold true p)) := by
      have : binD .add (pD p.dropLast) (.tup [.str ((p.getLast?.getD []).map lo1)]) = if (p.dropLast.map D.str).length + 1 ≤ 16777216 then some (.tup ((p.dropLast.map D.str) ++ [.str ((p.getLast?.getD []).map lo1)])) else none := rfl
      rw [this, if_pos (by simp; omega)]
      simp [fold, pD]
    simp [drf_pl (plS p), sl_pD, at_pD hp, m0D, hlast, drf_pl (plS p.dropLast), e]
    exact eDef_same (Nat.le_refl _) (fun _ z => absurd z pD_np) ⟨(fun z => by cases z), q⟩
/-- rows of a hall, drawers ahead -/
structure Rows (b : Bool) (rs : List Rw1) : Prop where
  nd : (rs.map fun r => fold b r.1).Nodup
  ok : ∀ r, r ∈ rs → r.1 ≠ [] ∧ r.1.length ≤ 6 ∧ (∀ l, l ∈ r.1 → Nm l) ∧ ∀ i, r.2 = some i → 0 ≤ i ∧ i ≤ 1000000000
  dr : ∀ r, r ∈ rs → r.1.dropLast = [] ∨ (r.1.dropLast, none) ∈ rs
theorem _root_.RH.Feed.apps {R S : Store} (F : Feed R S) (T : Store) : Feed (R ++ T) (S ++ T) := by
  obtain ⟨ns, a, b, rfl, h⟩ := F
  exact ⟨ns, a, b, rfl, h⟩
theorem _root_.RH.Feed.at {R T S : Store} (F : Feed (R ++ T) S) (i : Nat) : S[R.length + 1 + i]? = T[i]? := by
  have := F.get (R.length + i)
  rw [show R.length + i + 1 = R.length + 1 + i by omega] at this
  rw [this, List.getElem?_append_right (by omega)]
  congr 1; omega
theorem _root_.RH.Feed.put {R T S : Store} (F : Feed (R ++ T) S) (i : Nat) (o : Ob) : Feed (R ++ T.set i o) (S.set (R.length + 1 + i) o) := by
  have := F.set (R.length + i) o
  rw [show R.length + i + 1 = R.length + 1 + i by omega] at this
  rw [List.set_append_right _ _ (by omega)] at this
  simpa using this
theorem fold_nil {b : Bool} {p q : Pth} (hp : p ≠ []) (hq : q ≠ []) (h : fold b p = fold b q) : p.dropLast = q.dropLast := by
  unfold fold at h
  cases b with
  | false => simp at h; rw [h]
  | true =>
    simp at h
    exact h.1
/-- what is held -/
def heldD (b : Bool) (rs : List Rw1) : List (D × D) := (rs.map fun r => fold b r.1).map kT
theorem held_val {b : Bool} {rs : List Rw1} {p : Pth} : (valD (heldD b rs) (pD p)).isSome = decide (p ∈ rs.map fun r => fold b r.1) := val_set _ _
theorem held_put {b : Bool} {rs : List Rw1} {r : Rw1} (h : fold b r.1 ∉ rs.map fun r => fold b r.1) : putD (heldD b rs) (pD (fold b r.1)) (.bl true) = heldD b (rs ++ [r]) := by
  unfold heldD
  rw [put_set, if_neg h]; simp
theorem held_len {b : Bool} {rs : List Rw1} : (heldD b rs).length = rs.length := by simp [heldD]
theorem rows_wp {X : Exn → Store → Prop} {k : Nat} {R S0 : Store} {b : Bool} {most : Nat} {P : D → Store → Prop} (F : Feed R S0) (hm : most ≤ 1000) (q : ∀ rs S', Rows b rs → rs.length ≤ most → Feed R S' → P (.lst (rs.map rowD)) S') : wp X ((Phi G (k + 3) 91).m [.ptr 0, .bl b, .int (most : Nat)] S0) P := by
  refine wp_def (d := d_law_rows) rfl rfl ?_
  simp only [d_law_rows, c_law_rows, List.map_cons, List.map_nil, List.length_cons, List.length_nil, Nat.reduceAdd, Nat.reduceSub, List.replicate, List.cons_append, List.nil_append]
  simp [-ws_ife]
  rw [F.len]
  refine dr (F.apps _) (by omega) (by omega) fun n S n0 n1 F2 => ?_
  simp [-ws_ife, w62_of (i := n) (by omega) (by omega)]
  refine wp_range (fun i ρ S => ∃ (rs : List Rw1) (ds : List Pth) (c6 c7 c8 : Cell), ρ = [.sh (.ptr 0), .sh (.bl b), .sh (.int (most : Nat)), .sh (.ptr (R.length + 1)), .sh (.ptr (R.length + 1 + 1)), .sh (.ptr (R.length + 1 + 1 + 1)), c6, c7, c8] ∧ Feed (R ++ [.lst (rs.map rowD), .lst (ds.map pD), .dct 1 (heldD b rs)]) S ∧ Rows b rs ∧ rs.length ≤ i ∧ 0 < ds.length ∧ ds.length ≤ i + 1 ∧ ∀ d, d ∈ ds → d.length < 6 ∧ (∀ l, l ∈ d → Nm l) ∧ (d = [] ∨ (d, none) ∈ rs)) (fun ρ S h => ?_) (fun i ρ S hi h => ?_) _ _ ⟨[], [[]], _, _, _, rfl, by simpa [pD, heldD] using F2, ⟨by simp, by simp, by simp⟩, by simp, by simp, by simp, by simp⟩
  · obtain ⟨rs, ds, c6, c7, c8, rfl, F3, hr, h1, h2, h3, h4⟩ := h
    have hat : S[R.length + 1]? = some (.lst (rs.map rowD)) := F3.at 0
    simp [-ws_ife]
    refine F.endNew F3 (by rw [F.len]; omega) hat (up_of fun d hd => ?_) fun S' F' => q rs S' hr (by omega) F'
    obtain ⟨r, _, rfl⟩ := List.mem_map.mp hd
    exact up_pln (plR r).1
  · obtain ⟨rs, ds, c6, c7, c8, rfl, F3, hr, h1, h2, h3, h4⟩ := h
    have hat1 : S[R.length + 1 + 1]? = some (.lst (ds.map pD)) := F3.at 1
    simp [-ws_ife, drf_at hat1]
    refine dr F3 (by omega) (by omega) fun r S1 r0 r1 F4 => ?_
    have hat1 : S1[R.length + 1 + 1]? = some (.lst (ds.map pD)) := F4.at 1
    have hj : r.toNat < ds.length := by omega
    simp [-ws_ife, drf_at hat1, at_nn r0, List.getElem?_eq_getElem hj]
    refine lname_wp F4 fun l S2 hl F5 => ?_
    have hd := h4 _ (List.getElem_mem hj)
    generalize hdd : ds[r.toNat] = dd at hd
    have eadd : binD .add (pD dd) (.tup [.str l]) = some (pD (dd ++ [l])) := by
      have : binD .add (pD dd) (.tup [.str l]) = if (dd.map D.str).length + 1 ≤ 16777216 then some (.tup ((dd.map D.str) ++ [.str l])) else none := rfl
      rw [this, if_pos (by simp; omega)]
      simp [pD]
    simp [-ws_ife, drf_pl (plS dd), eadd]
    refine dr F5 (by decide) (by decide) fun a S3 a0 a1 F6 => ?_
    refine dr F6 (by decide) (by decide) fun c S4 c0 c1 F7 => ?_
    refine dr F7 (by decide) (by decide) fun e S5 e0 e1 F8 => ?_
    have hmk : ∃ v : Int, atI [D.int a, D.int c] e = some (.int v) ∧ 0 ≤ v ∧ v ≤ 1000000000 := by
      have : e = 0 ∨ e = 1 := by omega
      rcases this with rfl | rfl
      · exact ⟨a, rfl, a0, by omega⟩
      · exact ⟨c, rfl, c0, by omega⟩
    obtain ⟨v, ev, v0, v1⟩ := hmk
    simp [-ws_ife, ev]
    refine st_cut (fun ρ S => ∃ (mk : Option Int), ρ = [.sh (.ptr 0), .sh (.bl b), .sh (.int (most : Nat)), .sh (.ptr (R.length + 1)), .sh (.ptr (R.length + 1 + 1)), .sh (.ptr (R.length + 1 + 1 + 1)), .sh (.int (i : Nat)), .sh (pD (dd ++ [l])), .sh (mD mk)] ∧ Feed (R ++ [.lst (rs.map rowD), .lst (ds.map pD), .dct 1 (heldD b rs)]) S ∧ ∀ i, mk = some i → 0 ≤ i ∧ i ≤ 1000000000) ?_ (fun ρ S h => ?_)
    · refine if_cut (fun _ S => Feed (R ++ [.lst (rs.map rowD), .lst (ds.map pD), .dct 1 (heldD b rs)]) S) ?_ (fun S F2 => ?_) (fun S F2 => ?_)
      · simp
        refine dr F8 (by decide) (by decide) fun r2 S2 _ _ F2 => ?_
        simp
        exact F2
      · simp
        exact ⟨none, rfl, F2, by simp⟩
      · simp
        exact ⟨some v, rfl, F2, fun i e => by cases e; exact ⟨v0, v1⟩⟩
    · clear F2 F3 F4 F5 F6 F7 F8 hat1
      obtain ⟨mk, rfl, F2, hmk⟩ := h
      have hpne : dd ++ [l] ≠ [] := by simp
      have hpl : (dd ++ [l]).length ≤ 100 := by simp; omega
      have hpn : ∀ x, x ∈ dd ++ [l] → Nm x := fun x hx => by
        rcases List.mem_append.mp hx with z | z
        · exact hd.2.1 x z
        · have : x = l := by simpa using z
          subst this; exact hl
      have hpn' : ∀ x, x ∈ dd ++ [l] → x.length ≤ 100 := fun x hx => by have := (hpn x hx).2.1; omega
      have hat2 : S[R.length + 1 + 1 + 1]? = some (.dct 1 (heldD b rs)) := F2.at 2
      simp [-ws_ife]
      refine if_cut (fun c S' => S' = S ∧ c = !decide (fold b (dd ++ [l]) ∈ rs.map fun r => fold b r.1)) ?_ (fun S' h => ?_) (fun S' h => ?_)
      · simp
        refine folded_wp hpne hpl hpn' ?_
        rw [look_at hat2 (key_p _)]
        simp
        rw [← Option.not_isSome, held_val]
      · obtain ⟨rfl, h⟩ := h
        have hnew : fold b (dd ++ [l]) ∉ rs.map fun r => fold b r.1 := by simpa using h.symm
        simp [-ws_ife]
        refine folded_wp hpne hpl hpn' ?_
        rw [dct_at hat2]
        simp [-ws_ife, key_p, held_len, show rs.length < 16777216 by omega]
        have F3 : Feed (R ++ [.lst (rs.map rowD), .lst (ds.map pD), .dct 1 (heldD b (rs ++ [(dd ++ [l], mk)]))]) (S'.set (R.length + 1 + 1 + 1) (.dct 1 (putD (heldD b rs) (pD (fold b (dd ++ [l]))) (.bl true)))) := by
          have := held_put (r := (dd ++ [l], mk)) hnew
          rw [this]; exact F2.put 2 _
        generalize S'.set (R.length + 1 + 1 + 1) (.dct 1 (putD (heldD b rs) (pD (fold b (dd ++ [l]))) (.bl true))) = S6 at F3 ⊢
        have hat : S6[R.length + 1]? = some (.lst (rs.map rowD)) := F3.at 0
        simp only [hat, lsO_lst]
        refine ⟨by simp; omega, ?_⟩
        have F4 : Feed (R ++ [.lst ((rs ++ [(dd ++ [l], mk)]).map rowD), .lst (ds.map pD), .dct 1 (heldD b (rs ++ [(dd ++ [l], mk)]))]) (S6.set (R.length + 1) (.lst (rs.map rowD ++ [.tup [pD (dd ++ [l]), mD mk]]))) := by
          have := F3.put 0 (.lst (rs.map rowD ++ [.tup [pD (dd ++ [l]), mD mk]]))
          simpa [rowD] using this
        generalize S6.set (R.length + 1) (.lst (rs.map rowD ++ [.tup [pD (dd ++ [l]), mD mk]])) = S7 at F4 ⊢
        have hr' : Rows b (rs ++ [(dd ++ [l], mk)]) := by
          refine ⟨?_, fun r hr1 => ?_, fun r hr1 => ?_⟩
          · rw [List.map_append, List.nodup_append]
            refine ⟨hr.nd, by simp, fun x hx y hy => ?_⟩
            have : y = fold b (dd ++ [l]) := by simpa using hy
            rw [this]
            intro z; exact hnew (by rw [← z]; exact hx)
          · rcases List.mem_append.mp hr1 with z | z
            · exact hr.ok r z
            · have : r = (dd ++ [l], mk) := by simpa using z
              subst this
              exact ⟨hpne, by simp; omega, hpn, hmk⟩
          · rcases List.mem_append.mp hr1 with z | z
            · rcases hr.dr r z with w | w
              · exact .inl w
              · exact .inr (List.mem_append_left _ w)
            · have : r = (dd ++ [l], mk) := by simpa using z
              subst this
              simp only [List.dropLast_concat]
              rcases hd.2.2 with w | w
              · exact .inl w
              · exact .inr (List.mem_append_left _ w)
        have hat1 : S7[R.length + 1 + 1]? = some (.lst (ds.map pD)) := F4.at 1
        refine if_cut (fun c S' => S' = S7 ∧ c = decide (mk = none ∧ (dd ++ [l]).length < 6)) ?_ (fun S' h => ?_) (fun S' h => ?_)
        · have elen : biD .len [pD (dd ++ [l])] = some (.int ((dd ++ [l]).length : Nat)) := by unfold pD; simp
          cases mk with
          | some j => simp [mD, RH.isNon]
          | none =>
            simp [mD, drf_pl (plS _), elen]
            omega
        · obtain ⟨rfl, h⟩ := h
          have h := of_decide_eq_true h.symm
          simp [hat1, lsO_lst]
          refine ⟨by omega, rs ++ [(dd ++ [l], mk)], ds ++ [dd ++ [l]], ?_, hr', by simp; omega, by simp, by simp; omega, fun d hd1 => ?_⟩
          · have := F4.put 1 (.lst (ds.map pD ++ [pD (dd ++ [l])]))
            simpa using this
          · rcases List.mem_append.mp hd1 with z | z
            · refine ⟨(h4 d z).1, (h4 d z).2.1, ?_⟩
              rcases (h4 d z).2.2 with w | w
              · exact .inl w
              · exact .inr (List.mem_append_left _ w)
            · have : d = dd ++ [l] := by simpa using z
              subst this
              exact ⟨h.2, hpn, .inr (List.mem_append_right _ (by rw [h.1]; simp))⟩
        · obtain ⟨rfl, h⟩ := h
          simp
          refine ⟨rs ++ [(dd ++ [l], mk)], ds, F4, hr', by simp; omega, h2, by omega, fun d z => ⟨(h4 d z).1, (h4 d z).2.1, ?_⟩⟩
          rcases (h4 d z).2.2 with w | w
          · exact .inl w
          · exact .inr (List.mem_append_left _ w)
      · obtain ⟨rfl, h⟩ := h
        simp
        exact ⟨rs, ds, F2, hr, by omega, h2, by omega, h4⟩
theorem erase_map {α β : Type} (f : α → β) : ∀ (l : List α) (i : Nat), (l.map f).eraseIdx i = (l.eraseIdx i).map f
  | [], _ => rfl
  | _ :: _, 0 => rfl
  | a :: l, i + 1 => by simp [erase_map f l i]
theorem erase_perm {α : Type} : ∀ {l : List α} {i : Nat} (h : i < l.length), (l[i] :: l.eraseIdx i).Perm l
  | a :: l, 0, _ => by simp
  | a :: l, i + 1, h => by
    simp only [List.getElem_cons_succ, List.eraseIdx_cons_succ]
    exact (List.Perm.swap a _ _).trans ((erase_perm (l := l) (i := i) (by simpa using h)).cons a)
theorem mixed_wp {X : Exn → Store → Prop} {k : Nat} {R S0 : Store} {rs : List Rw1} {P : D → Store → Prop} (F : Feed R S0) (hl : rs.length < 1000) (q : ∀ (ms : List Rw1) S', ms.Perm rs → Feed R S' → P (.lst (ms.map rowD)) S') : wp X ((Phi G (k + 2) 92).m [.ptr 0, .lst (rs.map rowD)] S0) P := by
  refine wp_def (d := d_law_mixed) rfl rfl ?_
  simp only [d_law_mixed, c_law_mixed, List.map_cons, List.map_nil, List.length_cons, List.length_nil, Nat.reduceAdd, Nat.reduceSub, List.replicate, List.cons_append, List.nil_append]
  simp [-ws_ife]
  rw [F.len]
  refine wp_loopW (fun n ρ S => ∃ (ls ms : List Rw1), ρ = [.sh (.ptr 0), .sh (.lst (rs.map rowD)), .sh (.ptr (R.length + 1)), .sh (.ptr (R.length + 1 + 1))] ∧ n = ls.length ∧ (ms ++ ls).Perm rs ∧ Feed (R ++ [.lst (ls.map rowD), .lst (ms.map rowD)]) S) (fun n ρ S h => ?_) rs.length 1000 _ _ hl ⟨rs, [], rfl, rfl, by simp, by simpa using F.apps [.lst (rs.map rowD), .lst []]⟩
  obtain ⟨ls, ms, rfl, rfl, hp, F2⟩ := h
  have hat0 : S[R.length + 1]? = some (.lst (ls.map rowD)) := F2.at 0
  have hat1 : S[R.length + 1 + 1]? = some (.lst (ms.map rowD)) := F2.at 1
  have hlen : ls.length ≤ rs.length := by have := hp.length_eq; simp at this; omega
  have hlen2 : ms.length + ls.length = rs.length := by have := hp.length_eq; simpa using this
  simp [drf_at hat0, c_ne_nil (plRs ls) (by omega)]
  cases ls with
  | nil =>
    simp
    refine F.endNew F2 (by rw [F.len]; omega) hat1 (up_of fun d hd => ?_) fun S' F' => q ms S' (by simpa using hp) F'
    obtain ⟨r, _, rfl⟩ := List.mem_map.mp hd
    exact up_pln (plR r).1
  | cons x xs =>
    generalize hls : x :: xs = ls at hat0 hp F2 hlen hlen2
    have hpos : 0 < ls.length := by rw [← hls]; simp
    rw [if_neg (by rw [← hls]; simp)]
    refine ⟨ls.length - 1, by omega, ?_⟩
    simp only [hat1, hat0, lsO_lst]
    refine dr F2 (by omega) (by omega) fun r S2 r0 r1 F3 => ?_
    have hj : r.toNat < ls.length := by omega
    have hat0 : S2[R.length + 1]? = some (.lst (ls.map rowD)) := F3.at 0
    have hat1 : S2[R.length + 1 + 1]? = some (.lst (ms.map rowD)) := F3.at 1
    have hpop : pop1V (ls.map rowD) (.int r) = some (rowD ls[r.toNat], (ls.eraseIdx r.toNat).map rowD) := by
      have e1 : w62 r = true := w62_of (by omega) (by omega)
      have e2 : ixN (ls.map rowD).length r = some r.toNat := by
        unfold ixN
        rw [if_pos r0, if_pos (by simp; omega)]
      have e3 : (ls.map rowD)[r.toNat]? = some (rowD ls[r.toNat]) := by simp [hj]
      have e4 : (ls.map rowD).eraseIdx r.toNat = (ls.eraseIdx r.toNat).map rowD := by
        rw [erase_map]
      simp only [pop1V, e1, e2, e3, e4, if_true]
    simp only [hat0, lsO_lst, hpop, wo_some, hat1]
    refine ⟨by simp; omega, ls.eraseIdx r.toNat, by rw [List.length_eraseIdx_of_lt hj], ms ++ [ls[r.toNat]], ?_, ?_⟩
    · refine List.Perm.trans ?_ hp
      rw [List.append_assoc]
      refine List.Perm.append_left ms ?_
      exact erase_perm hj
    · have := (F3.put 0 (.lst ((ls.eraseIdx r.toNat).map rowD))).put 1 (.lst (ms.map rowD ++ [rowD ls[r.toNat]]))
      simpa using this
end RL

set_option Elab.async false
set_option linter.all false
set_option maxRecDepth 100000
set_option maxHeartbeats 1000000
/-! LHallM: a hall's methods. -/
namespace RL
open PySem PySem.Spec PyProof.Rows L2 RH
/-- a hall: blind or not, where its dict stands -/
def hallOb (b : Bool) (m : Nat) : Ob := .ins "Hall" [("blind", .bl b), ("marks", .ptr m)]
theorem mb_ne : (("marks" : Str) == ("blind" : Str)) = false := by decide +kernel
theorem lk_marks {x y : D} : List.lookup ("marks" : Str) [(("blind" : Str), x), (("marks" : Str), y)] = some y := by
  simp only [List.lookup_cons, mb_ne, beq_self_eq_true]
theorem lk_blind {x y : D} : List.lookup ("blind" : Str) [(("blind" : Str), x), (("marks" : Str), y)] = some x := by
  simp only [List.lookup_cons, beq_self_eq_true]
theorem lookup_is {p : Pth} : ∀ {rs : List Rw1}, (rs.lookup p).isSome = decide (p ∈ rs.map (·.1))
  | [] => rfl
  | r :: rs => by
    rw [List.lookup_cons]
    by_cases e : p = r.1
    · subst e; simp
    · have : (p == r.1) = false := by rw [beq_eq_false_iff_ne]; exact e
      rw [this, List.map_cons]
      simp only [List.mem_cons, e, false_or]
      exact lookup_is
theorem alike_wp {X : Exn → Store → Prop} {k : Nat} {S : Store} {a b : List Nat} {P : D → Store → Prop} (ha : a.length ≤ 100) (hb : b.length ≤ 100) (q : P (.bl (a.map lo1 == b.map lo1)) S) : wp X ((Phi G (k + 1) 1).m [.str a, .str b] S) P := by
  refine wp_def (d := d_alike) rfl rfl ?_
  simp only [d_alike, c_alike, List.map_cons, List.map_nil, List.length_cons, List.length_nil, Nat.reduceAdd, Nat.reduceSub, List.replicate, List.cons_append, List.nil_append]
  simp [m0D, show a.length ≤ 5592405 by omega, show b.length ≤ 5592405 by omega]
  exact eDef_same (Nat.le_refl _) (fun _ z => by cases z) ⟨fun _ => by simp [kE], q⟩
/-- what lies at a place -/
def alk (p q : Pth) : Bool := decide (p.dropLast = q.dropLast) && ((p.getLast?.getD []).map lo1 == (q.getLast?.getD []).map lo1)
def thereR (b : Bool) (ps : List Pth) (q : Pth) : Option Pth := if q ∈ ps then some q else if b then ps.find? (fun p => alk p q) else none
def oD : Option Pth → D
  | some p => pD p
  | none => .non
/-- paths as they come -/
def Okp (p : Pth) : Prop := p ≠ [] ∧ p.length ≤ 100 ∧ ∀ l, l ∈ p → l.length ≤ 100
theorem Okp.last {p : Pth} (h : Okp p) : (p.getLast?.getD []).length ≤ 100 := by
  cases hx : p.getLast? with
  | none => simp
  | some x => exact h.2.2 x (List.mem_of_getLast? hx)
theorem set_self {S : Store} {m : Nat} {o : Ob} (h : S[m]? = some o) : S.set m o = S := by
  apply List.ext_getElem?
  intro j
  by_cases e : m = j
  · subst e
    rw [List.getElem?_set_self (List.getElem?_eq_some_iff.mp h).1, h]
  · rw [List.getElem?_set_ne e]
theorem keys_kv (rs : List Rw1) : (rs.map kvD).map (·.1) = (rs.map (·.1)).map pD := by
  rw [List.map_map, List.map_map]; rfl
theorem oD_np {o : Option Pth} {n : Nat} : oD o ≠ .ptr n := by
  cases o with
  | none => intro z; cases z
  | some p => unfold oD pD; intro z; cases z
theorem there_wp {X : Exn → Store → Prop} {k h m : Nat} {S : Store} {b : Bool} {rs : List Rw1} {p : Pth} {P : D → Store → Prop} (h1 : S[h]? = some (hallOb b m)) (h2 : S[m]? = some (.dct 1 (rs.map kvD))) (hp : Okp p) (hr : ∀ r, r ∈ rs → Okp r.1) (q : P (oD (thereR b (rs.map (·.1)) p)) S) : wp X ((Phi G (k + 2) 536).m [.ptr h, pD p] S) P := by
  have hne : h ≠ m := fun z => by rw [z, h2] at h1; cases h1
  refine wp_def (d := d_Hall_there) rfl rfl ?_
  simp only [d_Hall_there, c_Hall_there, List.map_cons, List.map_nil, List.length_cons, List.length_nil, Nat.reduceAdd, Nat.reduceSub, List.replicate, List.cons_append, List.nil_append]
  have fM : ∀ {S : Store}, S[h]? = some (hallOb b m) → fldD S "marks" ["Hall"] (.ptr h) = some (.ptr m) := fun h1 => fld_at h1 (by simp) lk_marks
  have fB : ∀ {S : Store}, S[h]? = some (hallOb b m) → fldD S "blind" ["Hall"] (.ptr h) = some (.bl b) := fun h1 => fld_at h1 (by simp) lk_blind
  have hin : (valD (rs.map kvD) (pD p)).isSome = decide (p ∈ rs.map (·.1)) := by
    rw [val_rows, Option.isSome_map, lookup_is]
  simp [-ws_ife]
  refine if_cut (fun c S' => S' = S ∧ c = decide (p ∈ rs.map (·.1))) ?_ (fun S' hh => ?_) (fun S' hh => ?_)
  · simp [fM h1, look_at h2 (key_p p), hin]
  · obtain ⟨rfl, hh⟩ := hh
    have hh := of_decide_eq_true hh.symm
    simp
    refine eDef_same (Nat.le_refl _) (fun _ z => absurd z (by unfold pD; intro z; cases z)) ⟨(fun z => by cases z), ?_⟩
    unfold thereR at q
    rw [if_pos hh] at q
    exact q
  · obtain ⟨rfl, hh⟩ := hh
    have hh : p ∉ rs.map (·.1) := of_decide_eq_false hh.symm
    simp [-ws_ife]
    refine if_cut (fun c S1 => S1 = S' ∧ c = b) ?_ (fun S1 h0 => ?_) (fun S1 h0 => ?_)
    · simp [fB h1]
    · obtain ⟨rfl, hb⟩ := h0
      subst hb
      have hk : ∀ {S : Store}, S[h]? = some (hallOb true m) → evE (Phi G (k + 1)) (.fld (.var 0) "marks" ["Hall"]) [.sh (.ptr h), .sh (pD p), .u] S = .ok (.ptr m) S := fun h1 => ev_fld (i := 0) rfl h1 (by simp) lk_marks
      have h1' : (S1.set m (.dct (1 + 2) (rs.map kvD)))[h]? = some (hallOb true m) := by rw [List.getElem?_set_ne (Ne.symm hne)]; exact h1
      have hml : m < S1.length := (List.getElem?_eq_some_iff.mp h2).1
      simp [-ws_ife]
      refine wp_forKe (n := m) (k := 1) (kvs := rs.map kvD) (hk h1) (hk h1') h2 (by omega) ?_
      rw [keys_kv]
      refine wp_loop (fun ds ρ S' => S' = S1.set m (.dct (1 + 2) (rs.map kvD)) ∧ ∃ (ps : List Pth) (c : Cell), ds = ps.map pD ∧ ρ = [.sh (.ptr h), .sh (pD p), c] ∧ (∀ x, x ∈ ps → Okp x) ∧ (rs.map (·.1)).find? (fun x => alk x p) = ps.find? (fun x => alk x p)) (fun ρ S' h0 => ?_) (fun d ds ρ S' h0 => ?_) _ _ _ ⟨rfl, rs.map (·.1), _, rfl, rfl, fun x hx => by
        obtain ⟨r, hr1, rfl⟩ := List.mem_map.mp hx
        exact hr r hr1, rfl⟩
      · obtain ⟨rfl, ps, c, e, rfl, hps, hf⟩ := h0
        have : ps = [] := by simpa using e.symm
        subst this
        have es : (S1.set m (.dct (1 + 2) (rs.map kvD))).set m (.dct 1 (rs.map kvD)) = S1 := by rw [List.set_set]; exact set_self h2
        refine ⟨List.getElem?_set_self hml, rfl, ?_⟩
        rw [es]
        simp
        refine eDef_same (Nat.le_refl _) (fun _ z => by cases z) ⟨(fun z => by cases z), ?_⟩
        unfold thereR at q
        rw [if_neg hh, if_pos rfl, hf] at q
        exact q
      · obtain ⟨rfl, ps, c, e, rfl, hps, hf⟩ := h0
        cases ps with
        | nil => cases e
        | cons x ps =>
          cases e
          have hx := hps x (by simp)
          have es : (S1.set m (.dct (1 + 2) (rs.map kvD))).set m (.dct 1 (rs.map kvD)) = S1 := by rw [List.set_set]; exact set_self h2
          simp [-ws_ife]
          refine if_cut (fun cc S' => S' = S1.set m (.dct (1 + 2) (rs.map kvD)) ∧ cc = alk x p) ?_ (fun S' h0 => ?_) (fun S' h0 => ?_)
          · simp [drf_pl (plS x), drf_pl (plS p), sl_pD, drf_pl (plS x.dropLast), drf_pl (plS p.dropLast), eq_pD, at_pD hx.1, at_pD hp.1]
            unfold alk
            by_cases z : x.dropLast = p.dropLast
            · simp [z]
              refine alike_wp hx.last hp.last ?_
              simp
            · simp [z]
          · obtain ⟨rfl, h0⟩ := h0
            simp
            refine ⟨List.getElem?_set_self hml, rfl, ?_⟩
            rw [set_self h2]
            refine eDef_same (Nat.le_refl _) (fun _ z => absurd z (by unfold pD; intro z; cases z)) ⟨(fun z => by cases z), ?_⟩
            unfold thereR at q
            rw [if_neg hh, if_pos rfl, hf, List.find?_cons, ← h0] at q
            exact q
          · obtain ⟨rfl, h0⟩ := h0
            simp [-List.find?_map]
            refine ⟨ps, rfl, fun y hy => hps y (List.mem_cons_of_mem _ hy), ?_⟩
            rw [← List.find?_map, hf, List.find?_cons, ← h0]
    · obtain ⟨rfl, hb⟩ := h0
      subst hb
      simp
      refine eDef_same (Nat.le_refl _) (fun _ z => by cases z) ⟨(fun z => by cases z), ?_⟩
      unfold thereR at q
      rw [if_neg hh] at q
      exact q
/-! ### making -/
/-- d is the list ds, by its pointer or not -/
def LA (S : Store) (d : D) (ds : List D) : Prop := d = .lst ds ∨ ∃ r, d = .ptr r ∧ S[r]? = some (.lst ds)
theorem LA.drf {S : Store} {d : D} {ds : List D} (h : LA S d ds) : drf S d = some (.lst ds) := by
  rcases h with rfl | ⟨r, rfl, h⟩
  · rfl
  · exact drf_at h
theorem LA.grd {S S' : Store} {d : D} {ds : List D} (h : LA S d ds) (h' : LA S' d ds) : okG S' (RH.grd S d) := by
  rcases h with rfl | ⟨r, rfl, h⟩
  · simp
  · rw [grd_at h]
    rcases h' with z | ⟨r', z, h'⟩
    · cases z
    · cases z; simp [h']
/-- another place was written, more was laid -/
theorem LA.ext {S T : Store} {d : D} {ds : List D} {h : Nat} {o o' : Ob} (l : LA S d ds) (hh : S[h]? = some o) (no : ∀ ds, o ≠ .lst ds) : LA (S.set h o' ++ T) d ds := by
  rcases l with rfl | ⟨r, rfl, l⟩
  · exact .inl rfl
  · refine .inr ⟨r, rfl, ?_⟩
    have hne : h ≠ r := fun z => by rw [z, l] at hh; cases hh; exact no _ rfl
    rw [List.getElem?_append_left (by simp; exact (List.getElem?_eq_some_iff.mp l).1), List.getElem?_set_ne hne]
    exact l
/-- the drawers among rows, the hall's own path ahead -/
def drs (rs : List Rw1) : List Pth := rs.foldl (fun ps r => if r.2 = none ∧ r.1 ∉ ps then ps ++ [r.1] else ps) [[]]
def okRow (b : Bool) (rs pre : List Rw1) (r : Rw1) : Prop := r.1.dropLast ∈ drs rs ∧ thereR b (pre.map (·.1)) r.1 = none
/-- a hall just made: what was laid -/
def madeS (S : Store) (h : Nat) (b : Bool) (kvs ps : List (D × D)) : Store := S.set h (hallOb b S.length) ++ [.dct 1 kvs, .dct 1 ps]
theorem made_h {S : Store} {h : Nat} {b : Bool} {kvs ps : List (D × D)} (hh : h < S.length) : (madeS S h b kvs ps)[h]? = some (hallOb b S.length) := by
  unfold madeS
  rw [List.getElem?_append_left (by simpa using hh), List.getElem?_set_self hh]
theorem made_m {S : Store} {h : Nat} {b : Bool} {kvs ps : List (D × D)} : (madeS S h b kvs ps)[S.length]? = some (.dct 1 kvs) := by
  unfold madeS
  rw [List.getElem?_append_right (by simp)]; simp
theorem made_d {S : Store} {h : Nat} {b : Bool} {kvs ps : List (D × D)} : (madeS S h b kvs ps)[S.length + 1]? = some (.dct 1 ps) := by
  unfold madeS
  rw [List.getElem?_append_right (by simp)]; simp
theorem made_setm {S : Store} {h : Nat} {b : Bool} {kvs ps kvs' : List (D × D)} : (madeS S h b kvs ps).set S.length (.dct 1 kvs') = madeS S h b kvs' ps := by
  unfold madeS
  rw [List.set_append_right _ _ (by simp)]; simp
theorem made_setd {S : Store} {h : Nat} {b : Bool} {kvs ps ps' : List (D × D)} : (madeS S h b kvs ps).set (S.length + 1) (.dct 1 ps') = madeS S h b kvs ps' := by
  unfold madeS
  rw [List.set_append_right _ _ (by simp)]; simp
theorem eDef_keepN {fr : Bool} {S0 S : Store} {ρ : List Cell} {P : D → Store → Prop} (h : ¬ oldP S0 S) (q : P .non S) : eDef fr S0 P (.nx ρ) S := by
  show P .non (@ite Store (oldP S0 S) (Classical.propDecidable _) (S.take S0.length) S)
  rw [if_neg h]
  exact q
theorem drs_len (rs : List Rw1) : (drs rs).length ≤ rs.length + 1 := by
  have : ∀ (rs : List Rw1) (ps : List Pth), (rs.foldl (fun ps r => if r.2 = none ∧ r.1 ∉ ps then ps ++ [r.1] else ps) ps).length ≤ ps.length + rs.length := by
    intro rs
    induction rs with
    | nil => intro ps; simp
    | cons r rs ih =>
      intro ps
      rw [List.foldl_cons]
      have := ih (if r.2 = none ∧ r.1 ∉ ps then ps ++ [r.1] else ps)
      have h2 : (if r.2 = none ∧ r.1 ∉ ps then ps ++ [r.1] else ps).length ≤ ps.length + 1 := by split <;> simp
      simp only [List.length_cons]; omega
  have := this rs [[]]
  unfold drs
  simp at this ⊢
  omega
theorem ins_hall {S : Store} {h m : Nat} {b : Bool} {f : Str} (h1 : S[h]? = some (hallOb b m)) (hb : (f == ("blind" : Str)) = false) (hm : (f == ("marks" : Str)) = false) : insD S "Hall" f (.ptr h) = some h := ins_of h1 (by
  simp only [List.lookup_cons, hb, hm]; rfl)
theorem made_old {S : Store} {h : Nat} {b : Bool} {kvs ps : List (D × D)} (hh : S[h]? = some (.ins "Hall" [])) : ¬ oldP S (madeS S h b kvs ps) := fun z => by
  have hlt : h < S.length := (List.getElem?_eq_some_iff.mp hh).1
  rcases z h _ hlt (made_h hlt) with w | w
  · rw [hh] at w; cases w
  · simp [hallOb, Ob.vals, upDs, upD] at w
theorem init_wp {X : Exn → Store → Prop} {k h : Nat} {S : Store} {b : Bool} {rs : List Rw1} {d : D} {P : D → Store → Prop} (hh : S[h]? = some (.ins "Hall" [])) (hd : LA S d (rs.map rowD)) (hl : rs.length ≤ 1000) (hr : ∀ r, r ∈ rs → Okp r.1)
    (q1 : (∀ i r, rs[i]? = some r → okRow b rs (rs.take i) r) → P .non (madeS S h b (rs.map kvD) ((drs rs).map kT)))
    (q2 : ∀ i r, rs[i]? = some r → (∀ j r, j < i → rs[j]? = some r → okRow b rs (rs.take j) r) → ¬ okRow b rs (rs.take i) r → ∀ o T, X ⟨"NoHall", [.int (i : Nat)]⟩ (S.set h o ++ T)) :
    wp X ((Phi G (k + 3) 533).m [.ptr h, d, .bl b] S) P := by
  have hlt : h < S.length := (List.getElem?_eq_some_iff.mp hh).1
  refine wp_def (d := d_Hall_init) rfl rfl ?_
  simp only [d_Hall_init, c_Hall_init, List.map_cons, List.map_nil, List.length_cons, List.length_nil, Nat.reduceAdd, Nat.reduceSub, List.replicate, List.cons_append, List.nil_append]
  simp [-ws_ife]
  refine wp_fstF hh (by simp) (by simp) ?_
  simp [-ws_ife]
  have e1 : (S.set h (.ins "Hall" (putS "blind" (.bl b) [])) ++ [.dct 1 []])[h]? = some (.ins "Hall" [("blind", .bl b)]) := by
    rw [List.getElem?_append_left (by simpa using hlt), List.getElem?_set_self hlt]; rfl
  refine wp_fstF e1 (by simp) (by simp) ?_
  have e2 : (S.set h (.ins "Hall" (putS "blind" (.bl b) [])) ++ [Ob.dct 1 []]).set h (.ins "Hall" (putS "marks" (.ptr S.length) [(("blind" : Str), D.bl b)])) ++ [Ob.dct 1 [(.tup [], .bl true)]] = madeS S h b ([].map kvD) ((drs []).map kT) := by
    rw [List.set_append_left _ _ (by simpa using hlt), List.set_set]
    have : putS "marks" (.ptr S.length) [(("blind" : Str), D.bl b)] = [(("blind" : Str), D.bl b), (("marks" : Str), D.ptr S.length)] := by
      have hn : ¬ ("blind" : Str) = ("marks" : Str) := by decide +kernel
      simp only [putS, if_neg hn]
    rw [this]
    simp [madeS, hallOb, kT, pD, drs]
  have ed : ∀ kvs ps, LA (madeS S h b kvs ps) d (rs.map rowD) := fun kvs ps => hd.ext hh (fun _ z => by cases z)
  have erest : ∀ (kvs ps : List (D × D)) (i : Nat), i < S.length → True := fun _ _ _ _ => trivial
  simp [-ws_ife]
  rw [e2, (ed _ _).drf]
  simp only [wo_some, sq_lst]
  refine wp_loopF (fun ds ρ S' => ∃ (done rest : List Rw1) (c4 c5 : Cell), ds = rest.map rowD ∧ rs = done ++ rest ∧ ρ = [.sh (.ptr h), .sh d, .sh (.bl b), .sh (.ptr (S.length + 1)), c4, c5, .u] ∧ S' = madeS S h b ([].map kvD) ((drs done).map kT)) (fun ds ρ S' h0 => ?_) (fun ρ S' h0 => ?_) (fun x ds ρ S' h0 => ?_) _ _ _ ⟨[], rs, _, _, rfl, rfl, rfl, rfl⟩
  · obtain ⟨done, rest, c4, c5, _, _, _, rfl⟩ := h0
    exact (ed _ _).grd (ed _ _)
  · obtain ⟨done, rest, c4, c5, e, e3, rfl, rfl⟩ := h0
    have : rest = [] := by simpa using e.symm
    subst this
    rw [List.append_nil] at e3
    subst e3
    simp [-ws_ife]
    rw [(ed _ _).drf]
    simp [-ws_ife]
    refine wp_loopF (fun ds ρ S' => ∃ (i : Nat) (c4 c5 c6 : Cell), ds = enumD i ((rs.drop i).map rowD) ∧ i ≤ rs.length ∧ ρ = [.sh (.ptr h), .sh d, .sh (.bl b), .sh (.ptr (S.length + 1)), c4, c5, c6] ∧ S' = madeS S h b ((rs.take i).map kvD) ((drs rs).map kT) ∧ (∀ j r, j < i → rs[j]? = some r → okRow b rs (rs.take j) r)) (fun ds ρ S' h0 => ?_) (fun ρ S' h0 => ?_) (fun x ds ρ S' h0 => ?_) _ _ _ ⟨0, _, _, _, by simp, by omega, rfl, by simp, by simp⟩
    · obtain ⟨i, c4, c5, c6, _, _, _, rfl, _⟩ := h0
      exact (ed _ _).grd (ed _ _)
    · obtain ⟨i, c4, c5, c6, e, hi, rfl, rfl, hok⟩ := h0
      have hi' : rs.length ≤ i := by
        by_cases z : i < rs.length
        · have ez : rs.drop i = rs[i] :: rs.drop (i + 1) := List.drop_eq_getElem_cons z
          rw [ez, List.map_cons, enumD] at e
          cases e
        · omega
      have ht : rs.take i = rs := List.take_of_length_le hi'
      rw [ht]
      simp
      refine eDef_keepN (made_old hh) (q1 fun i' r hi2 => hok i' r ?_ hi2)
      have := (List.getElem?_eq_some_iff.mp hi2).1
      omega
    · obtain ⟨i, c4, c5, c6, e, hi, rfl, rfl, hok⟩ := h0
      by_cases z : i < rs.length
      · have ez : rs.drop i = rs[i] :: rs.drop (i + 1) := List.drop_eq_getElem_cons z
        rw [ez, List.map_cons, enumD] at e
        cases e
        have hri := hr rs[i] (List.getElem_mem z)
        have hgi : rs[i]? = some rs[i] := List.getElem?_eq_getElem z
        generalize rs[i] = r at hri hgi ez ⊢
        simp [-ws_ife, rowD]
        refine st_cut (fun ρ S' => okRow b rs (rs.take i) r ∧ ρ = [.sh (.ptr h), .sh d, .sh (.bl b), .sh (.ptr (S.length + 1)), .sh (pD r.1), .sh (mD r.2), .sh (.int (i : Nat))] ∧ S' = madeS S h b ((rs.take i).map kvD) ((drs rs).map kT)) ?_ (fun ρ S' h0 => ?_)
        · refine if_cut (fun c S' => S' = madeS S h b ((rs.take i).map kvD) ((drs rs).map kT) ∧ (c = true ↔ ¬ okRow b rs (rs.take i) r)) ?_ (fun S' h0 => ?_) (fun S' h0 => ?_)
          · simp [drf_pl (plS r.1), sl_pD, look_at made_d (key_p _), ins_hall (made_h hlt) (f := "there") (by decide +kernel) (by decide +kernel)]
            have evn : valD ((drs rs).map kT) (pD r.1.dropLast) = none ↔ r.1.dropLast ∉ drs rs := by
              have := val_set r.1.dropLast (drs rs)
              rw [← Option.not_isSome_iff_eq_none, this]; simp
            split
            · rename_i w
              exact ⟨fun _ z => evn.mp w z.1, fun _ => w⟩
            · rename_i w
              have w : r.1.dropLast ∈ drs rs := by
                by_cases z : r.1.dropLast ∈ drs rs
                · exact z
                · exact absurd (evn.mpr z) w
              refine there_wp (rs := rs.take i) (made_h hlt) (by rw [List.map_take]; exact made_m) hri (fun r' hr' => hr r' (List.mem_of_mem_take hr')) ⟨rfl, ?_⟩
              unfold okRow
              cases hth : thereR b ((rs.take i).map (·.1)) r.1 with
              | none => simp [oD, w]
              | some p => simp [oD, pD, RH.isNon, w]
          · obtain ⟨rfl, h0⟩ := h0
            have h0 := h0.mp rfl
            simp
            have q3 := q2 i r hgi hok h0
            unfold eErr
            split
            · unfold madeS
              rw [List.take_left' (by simp)]
              simpa using q3 (hallOb b S.length) []
            · exact q3 _ _
          · obtain ⟨rfl, h0⟩ := h0
            simp
            by_cases w : okRow b rs (rs.take i) r
            · simpa [okRow] using w
            · exact absurd (h0.mpr w) (by decide)
        · obtain ⟨h0, rfl, rfl⟩ := h0
          have hnk : r.1 ∉ (rs.take i).map (·.1) := fun z => by
            have := h0.2
            unfold thereR at this
            rw [if_pos z] at this
            cases this
          have fM : fldD (madeS S h b ((rs.take i).map kvD) ((drs rs).map kT)) "marks" ["Hall"] (.ptr h) = some (.ptr S.length) := fld_at (made_h hlt) (by simp) lk_marks
          have etk : rs.take i ++ [(r.1, r.2)] = rs.take (i + 1) := by
            rw [List.take_add_one, hgi]; rfl
          simp [-List.map_take, fM, dct_at made_m, key_p, put_new hnk, made_setm]
          refine ⟨by omega, i + 1, rfl, by omega, ?_, fun j a b' hj hr' => ?_⟩
          · rw [← List.map_take, ← etk, List.map_append]; rfl
          by_cases hji : j = i
          · subst hji
            rw [hgi] at hr'; cases hr'
            exact h0
          · exact hok j (a, b') (by omega) hr'
      · exfalso
        rw [List.drop_of_length_le (by omega), List.map_nil, enumD] at e
        cases e
  · obtain ⟨done, rest, c4, c5, e, e3, rfl, rfl⟩ := h0
    cases rest with
    | nil => cases e
    | cons r rest =>
      cases e
      simp [-ws_ife, rowD]
      have edr : drs (done ++ [r]) = if r.2 = none ∧ r.1 ∉ drs done then drs done ++ [r.1] else drs done := by
        unfold drs; rw [List.foldl_append]; rfl
      refine if_cut (fun c S' => S' = madeS S h b ([].map kvD) ((drs done).map kT) ∧ c = decide (r.2 = none)) ?_ (fun S' h0 => ?_) (fun S' h0 => ?_)
      · simp
        cases r.2 <;> simp [mD, RH.isNon]
      · obtain ⟨rfl, h0⟩ := h0
        have h0 := of_decide_eq_true h0.symm
        simp [dct_at made_d, key_p]
        refine ⟨?_, done ++ [r], rest, rfl, by rw [e3]; simp, ?_⟩
        · have := drs_len done
          have : rs.length = done.length + (rest.length + 1) := by rw [e3]; simp
          omega
        · rw [put_set, made_setd, edr]
          by_cases z : r.1 ∈ drs done
          · simp [z]
          · simp [z, h0]
      · obtain ⟨rfl, h0⟩ := h0
        have h0 := of_decide_eq_false h0.symm
        simp
        refine ⟨done ++ [r], rest, rfl, by rw [e3]; simp, ?_⟩
        rw [edr, if_neg (fun z => h0 z.1)]
end RL

set_option Elab.async false
set_option linter.all false
set_option maxRecDepth 100000
set_option maxHeartbeats 1000000
/-! LHallR: a hall's rows. -/
namespace RL
open PySem PySem.Spec PyProof.Rows L2 RH
/-- a hall stands -/
structure HAt (S : Store) (h m : Nat) (b : Bool) (rs : List Rw1) : Prop where
  h1 : S[h]? = some (hallOb b m)
  h2 : S[m]? = some (.dct 1 (rs.map kvD))
/-- the rows, sorted -/
noncomputable def sRows (rs : List Rw1) : List D := (srt (rs.map (·.1))).map fun d => .tup [d, (valD (rs.map kvD) d).getD .non]
theorem srow_mem {rs : List Rw1} {x : D} (h : x ∈ sRows rs) : ∃ r, x = rowD r ∧ r.1 ∈ rs.map (·.1) := by
  unfold sRows at h
  obtain ⟨d, hd, rfl⟩ := List.mem_map.mp h
  obtain ⟨p, hp, rfl⟩ := mem_srt.mp hd
  rw [val_rows]
  have : (rs.lookup p).isSome = true := by rw [lookup_is]; simpa using hp
  obtain ⟨m, hm⟩ := Option.isSome_iff_exists.mp this
  rw [hm]
  exact ⟨(p, m), rfl, hp⟩
theorem plSR (rs : List Rw1) : Pl 3 (.lst (sRows rs)) := .lst fun d hd => by
  obtain ⟨r, rfl, _⟩ := srow_mem hd
  exact plR r
theorem srt_len (ps : List Pth) : (srt ps).length = ps.length := by unfold srt; simp
def keysD (rs : List Rw1) : List D := (rs.map (·.1)).map pD
theorem hrows_wp {X : Exn → Store → Prop} {k h m : Nat} {S : Store} {b : Bool} {rs : List Rw1} {P : D → Store → Prop} (H : HAt S h m b rs) (hr : ∀ r, r ∈ rs → r.1 ≠ []) (hl : rs.length ≤ 10000) (q : P (.lst (sRows rs)) S) : wp X ((Phi G (k + 1) 534).m [.ptr h] S) P := by
  refine wp_def (d := d_Hall_rows) rfl rfl ?_
  simp only [d_Hall_rows, c_Hall_rows, List.map_cons, List.map_nil, List.length_cons, List.length_nil, Nat.reduceAdd, Nat.reduceSub, List.replicate, List.cons_append, List.nil_append]
  have fM : fldD S "marks" ["Hall"] (.ptr h) = some (.ptr m) := fld_at H.h1 (by simp) lk_marks
  have es : srtS S (.ptr m) = some (keysD rs) := by
    simp only [srtS, H.h2, keys_kv]; rfl
  have eo : srtD (keysD rs) = some (.lst (srt (rs.map (·.1)))) := srt_ok (fun p hp => by
    obtain ⟨r, hr1, rfl⟩ := List.mem_map.mp hp
    exact hr r hr1) (by simp; omega)
  simp [fM, es, eo]
  refine wp_compMap (g := fun d => .tup [d, (valD (rs.map kvD) d).getD .non]) (by simp) (fun d hd => ?_) (by rw [srt_len]; simp; omega) ?_
  · obtain ⟨p, hp, rfl⟩ := mem_srt.mp hd
    have : (rs.lookup p).isSome = true := by rw [lookup_is]; simpa using hp
    obtain ⟨mk, hm⟩ := Option.isSome_iff_exists.mp this
    simp [fM, look_at H.h2 (key_p p), val_rows, hm]
  · exact eDef_same (Nat.le_refl _) (fun _ z => by cases z) ⟨fun _ => by simp [kE], q⟩
theorem blind_wp {X : Exn → Store → Prop} {k h m : Nat} {S : Store} {b : Bool} {rs : List Rw1} {P : D → Store → Prop} (H : HAt S h m b rs) (q : P (.bl b) S) : wp X ((Phi G (k + 1) 535).m [.ptr h] S) P := by
  refine wp_def (d := d_Hall_is_blind) rfl rfl ?_
  simp only [d_Hall_is_blind, c_Hall_is_blind, List.map_cons, List.map_nil, List.length_cons, List.length_nil, Nat.reduceAdd, Nat.reduceSub, List.replicate, List.cons_append, List.nil_append]
  have fB : fldD S "blind" ["Hall"] (.ptr h) = some (.bl b) := fld_at H.h1 (by simp) lk_blind
  simp [fB]
  exact eDef_same (Nat.le_refl _) (fun _ z => by cases z) ⟨(fun z => by cases z), q⟩
end RL

set_option Elab.async false
set_option linter.all false
set_option maxRecDepth 100000
set_option maxHeartbeats 1000000
/-! LRowsOk: rows of a hall, in any order, make a hall. -/
namespace RL
open PySem PySem.Spec PyProof.Rows L2 RH
theorem mem_drs {p : Pth} {rs : List Rw1} : p ∈ drs rs ↔ p = [] ∨ (p, none) ∈ rs := by
  have : ∀ (rs : List Rw1) (ps : List Pth), p ∈ rs.foldl (fun ps r => if r.2 = none ∧ r.1 ∉ ps then ps ++ [r.1] else ps) ps ↔ p ∈ ps ∨ (p, none) ∈ rs := by
    intro rs
    induction rs with
    | nil => intro ps; simp
    | cons r rs ih =>
      intro ps
      rw [List.foldl_cons, ih]
      obtain ⟨a, m⟩ := r
      by_cases h : m = none ∧ a ∉ ps
      · rw [if_pos h]
        obtain ⟨rfl, h⟩ := h
        simp only [List.mem_append, List.mem_singleton, List.mem_cons, Prod.mk.injEq, List.not_mem_nil, or_false]
        constructor
        · rintro ((z | z) | z)
          · exact .inl z
          · exact .inr (.inl ⟨z, trivial⟩)
          · exact .inr (.inr z)
        · rintro (z | ⟨z, _⟩ | z)
          · exact .inl (.inl z)
          · exact .inl (.inr z)
          · exact .inr z
      · rw [if_neg h]
        simp only [List.mem_cons, Prod.mk.injEq]
        constructor
        · rintro (z | z)
          · exact .inl z
          · exact .inr (.inr z)
        · rintro (z | ⟨rfl, rfl⟩ | z)
          · exact .inl z
          · left
            by_cases w : p ∈ ps
            · exact w
            · exact absurd ⟨rfl, w⟩ h
          · exact .inr z
  unfold drs
  rw [this]; simp
theorem alk_fold {p q : Pth} (h : alk p q = true) : fold true p = fold true q := by
  unfold alk at h
  simp only [Bool.and_eq_true, decide_eq_true_eq, beq_iff_eq] at h
  unfold fold
  simp only [if_true]
  rw [h.1, h.2]
theorem Rows.okp {b : Bool} {rs : List Rw1} (h : Rows b rs) {ms : List Rw1} (hp : ms.Perm rs) : ∀ r, r ∈ ms → Okp r.1 := fun r hr => by
  obtain ⟨h1, h2, h3, _⟩ := h.ok r (hp.mem_iff.mp hr)
  exact ⟨h1, by omega, fun l hl => by have := (h3 l hl).2.1; omega⟩
theorem Rows.okRow {b : Bool} {rs ms : List Rw1} (h : Rows b rs) (hp : ms.Perm rs) : ∀ i r, ms[i]? = some r → okRow b ms (ms.take i) r := fun i r hi => by
  have hm : r ∈ ms := List.mem_of_getElem? hi
  refine ⟨?_, ?_⟩
  · rw [mem_drs]
    rcases h.dr r (hp.mem_iff.mp hm) with z | z
    · exact .inl z
    · exact .inr (hp.mem_iff.mpr z)
  · have nd : (ms.map fun r => fold b r.1).Nodup := (hp.map _).nodup_iff.mpr h.nd
    have hlt : i < ms.length := (List.getElem?_eq_some_iff.mp hi).1
    have ne : ∀ r', r' ∈ ms.take i → fold b r'.1 ≠ fold b r.1 := fun r' hr' e => by
      obtain ⟨j, hj⟩ := List.mem_iff_getElem?.mp hr'
      have hji : j < i := by
        have := (List.getElem?_eq_some_iff.mp hj).1
        simp at this; omega
      rw [List.getElem?_take_of_lt hji] at hj
      have e1 : (ms.map fun r => fold b r.1)[j]? = some (fold b r'.1) := by rw [List.getElem?_map, hj]; rfl
      have e2 : (ms.map fun r => fold b r.1)[i]? = some (fold b r.1) := by rw [List.getElem?_map, hi]; rfl
      obtain ⟨l1, g1⟩ := List.getElem?_eq_some_iff.mp e1
      obtain ⟨l2, g2⟩ := List.getElem?_eq_some_iff.mp e2
      have := (List.getElem_inj nd).mp (g1.trans (e.trans g2.symm))
      omega
    unfold thereR
    rw [if_neg]
    · cases b with
      | false => rfl
      | true =>
        rw [if_pos rfl, List.find?_eq_none]
        intro p hp' hal
        obtain ⟨r', hr', rfl⟩ := List.mem_map.mp hp'
        exact ne r' hr' (alk_fold hal)
    · intro z
      obtain ⟨r', hr', e⟩ := List.mem_map.mp z
      exact ne r' hr' (by rw [e])
theorem nd_of_map {α β : Type} {f : α → β} : ∀ {l : List α}, (l.map f).Nodup → l.Nodup
  | [], _ => List.nodup_nil
  | a :: l, h => by
    rw [List.map_cons, List.nodup_cons] at h
    rw [List.nodup_cons]
    exact ⟨fun z => h.1 (List.mem_map.mpr ⟨a, z, rfl⟩), nd_of_map h.2⟩
theorem Rows.keys {b : Bool} {rs ms : List Rw1} (h : Rows b rs) (hp : ms.Perm rs) : (ms.map (·.1)).Nodup := by
  have nd : (ms.map fun r => fold b r.1).Nodup := (hp.map _).nodup_iff.mpr h.nd
  have e : (ms.map fun r => fold b r.1) = (ms.map (·.1)).map (fold b) := by rw [List.map_map]; rfl
  rw [e] at nd
  exact nd_of_map nd
theorem dof_rows {X : Exn → Store → Prop} {S : Store} {rs : List Rw1} {P : D → Store → Prop} (nd : (rs.map (·.1)).Nodup) (q : P (.ptr S.length) (S ++ [.dct 1 (rs.map kvD)])) : wp X (dofF 1 (.lst (rs.map rowD)) S) P := by
  have e : mergeD [] (rs.map kvD) = rs.map kvD := by simpa using merge_rows (acc := []) (rs := rs) (by simpa using nd)
  simp only [dofF, prs_rows, keys_ok, e]
  simp
  exact q
end RL

set_option Elab.async false
set_option linter.all false
set_option maxRecDepth 100000
set_option maxHeartbeats 1000000
namespace RL
open PySem PySem.Spec PyProof.Rows L2 RH
theorem bool_mD (m : Option Int) : isiD .bool (mD m) = some false := by cases m <;> rfl
theorem tup_pD (p : Pth) : isiD .tuple (pD p) = some true := rfl
theorem drf_pD {S : Store} {p : Pth} : drf S (pD p) = some (pD p) := rfl
theorem drf_mD {S : Store} {m : Option Int} : drf S (mD m) = some (mD m) := by cases m <;> rfl
theorem right_wp {X : Exn → Store → Prop} {k h m mm : Nat} {S : Store} {b : Bool} {rs : List Rw1} {P : D → Store → Prop} (H : HAt S h m b rs) (h3 : S[mm]? = some (.dct 1 (rs.map kvD))) (hr : ∀ r, r ∈ rs → r.1 ≠ []) (hl : rs.length ≤ 10000) (q : P (.bl true) S) : wp X ((Phi G (k + 2) 529).m [.ptr h, .ptr mm] S) P := by
  refine wp_def (d := d_law_rows_right_4) rfl rfl ?_
  simp only [d_law_rows_right_4, c_law_rows_right_4, List.map_cons, List.map_nil, List.length_cons, List.length_nil, Nat.reduceAdd, Nat.reduceSub, List.replicate, List.cons_append, List.nil_append]
  have es : srtS S (.ptr mm) = some (keysD rs) := by
    simp only [srtS, h3, keys_kv]; rfl
  have eo : srtD (keysD rs) = some (.lst (srt (rs.map (·.1)))) := srt_ok (fun p hp => by
    obtain ⟨r, hr1, rfl⟩ := List.mem_map.mp hp
    exact hr r hr1) (by simp; omega)
  simp [-ws_ife, ins_hall H.h1 (f := "rows") (by decide +kernel) (by decide +kernel)]
  refine hrows_wp H hr hl ?_
  refine if_no ?_ ?_
  · simp [es, eo]
    refine wp_compMap (g := fun d => .tup [d, (valD (rs.map kvD) d).getD .non]) (by simp) (fun d hd => ?_) (by rw [srt_len]; simp; omega) ?_
    · obtain ⟨p, hp, rfl⟩ := mem_srt.mp hd
      have : (rs.lookup p).isSome = true := by rw [lookup_is]; simpa using hp
      obtain ⟨mk, hm⟩ := Option.isSome_iff_exists.mp this
      simp [look_at h3 (key_p p), val_rows, hm]
    · show wo _ _
      rw [show ((srt (rs.map (·.1))).map fun d => D.tup [d, (valD (rs.map kvD) d).getD .non]) = sRows rs from rfl]
      simp [c_ne_self (plSR rs) (by omega)]
  · simp [-ws_ife]
    refine wp_loop (fun ds ρ S' => S' = S ∧ (∀ x, x ∈ ds → x ∈ sRows rs) ∧ ∃ c3, ρ = [.sh (.ptr h), .sh (.ptr mm), .sh (.lst (sRows rs)), c3, .u]) (fun ρ S' h0 => ?_) (fun x ds ρ S' h0 => ?_) _ _ _ ⟨rfl, fun _ h => h, _, rfl⟩
    · obtain ⟨rfl, _, c3, rfl⟩ := h0
      simp
      exact eDef_same (Nat.le_refl _) (fun _ z => by cases z) ⟨fun _ => by simp [kE], q⟩
    · obtain ⟨rfl, hm, c3, rfl⟩ := h0
      obtain ⟨r, rfl, _⟩ := srow_mem (hm x (by simp))
      simp [-ws_ife]
      refine if_no ?_ ?_
      · simp [rowD, drf_pD, drf_mD, tup_pD, bool_mD]
      · simp
        exact fun x hx => hm x (List.mem_cons_of_mem _ hx)
end RL

set_option Elab.async false
set_option linter.all false
set_option maxRecDepth 100000
set_option maxHeartbeats 1000000
/-! LAny: any rows, spoilt ones. -/
namespace RL
open PySem PySem.Spec PyProof.Rows L2 RH
/-- a path, as these laws draw them -/
def G6 (p : Pth) : Prop := p ≠ [] ∧ p.length ≤ 6 ∧ ∀ l, l ∈ p → l.length ≤ 12
theorem G6.okp {p : Pth} (h : G6 p) : Okp p := ⟨h.1, by have := h.2.1; omega, fun l hl => by have := h.2.2 l hl; omega⟩
theorem add_pD {p : Pth} {ls : List (List Nat)} (h : p.length + ls.length ≤ 100) : binD .add (pD p) (.tup (ls.map .str)) = some (pD (p ++ ls)) := by
  have : binD .add (pD p) (.tup (ls.map .str)) = if (p.map D.str).length + (ls.map D.str).length ≤ 16777216 then some (.tup ((p.map D.str) ++ (ls.map D.str))) else none := rfl
  rw [this, if_pos (by simp; omega)]
  simp [pD]
theorem anyrows_wp {X : Exn → Store → Prop} {k : Nat} {R S0 : Store} {P : D → Store → Prop} (F : Feed R S0) (q : ∀ (rs : List Rw1) S', (∀ r, r ∈ rs → G6 r.1) → rs.length ≤ 60 → Feed R S' → P (.lst (rs.map rowD)) S') : wp X ((Phi G (k + 2) 97).m [.ptr 0] S0) P := by
  refine wp_def (d := d_law_any_rows) rfl rfl ?_
  simp only [d_law_any_rows, c_law_any_rows, List.map_cons, List.map_nil, List.length_cons, List.length_nil, Nat.reduceAdd, Nat.reduceSub, List.replicate, List.cons_append, List.nil_append]
  simp [-ws_ife]
  refine dr (F.apps _) (by decide) (by decide) fun r S1 r0 r1 F1 => ?_
  have hmost : ∃ n : Nat, n ≤ 61 ∧ 0 < n ∧ idxD (.lst [.int 4, .int 9, .int 61]) (.int r) = some (.int (n : Nat)) := by
    have : r = 0 ∨ r = 1 ∨ r = 2 := by omega
    rcases this with rfl | rfl | rfl
    · exact ⟨4, by omega, by omega, rfl⟩
    · exact ⟨9, by omega, by omega, rfl⟩
    · exact ⟨61, by omega, by omega, rfl⟩
  obtain ⟨n, hn, hn0, en⟩ := hmost
  simp only [en, wo_some]
  refine dr F1 (by omega) (by omega) fun a S2 a0 a1 F2 => ?_
  rw [F.len]
  simp [-ws_ife, w62_of (i := a) (by omega) (by omega)]
  refine wp_range (fun i ρ S => ∃ (rs : List Rw1) (c2 c3 c4 : Cell), ρ = [.sh (.ptr 0), .sh (.ptr (R.length + 1)), c2, c3, c4] ∧ Feed (R ++ [.lst (rs.map rowD)]) S ∧ (∀ r, r ∈ rs → G6 r.1) ∧ rs.length = i) (fun ρ S h => ?_) (fun i ρ S hi h => ?_) _ _ ⟨[], _, _, _, rfl, by simpa using F2, by simp, rfl⟩
  · obtain ⟨rs, c2, c3, c4, rfl, F3, hg, hl⟩ := h
    have hat : S[R.length + 1]? = some (.lst (rs.map rowD)) := F3.at 0
    simp [-ws_ife]
    refine F.endNew F3 (by rw [F.len]; omega) hat (up_of fun d hd => ?_) fun S' F' => q rs S' hg (by omega) F'
    obtain ⟨r, _, rfl⟩ := List.mem_map.mp hd
    exact up_pln (plR r).1
  · obtain ⟨rs, c2, c3, c4, rfl, F3, hg, hl⟩ := h
    simp [-ws_ife]
    refine dr F3 (by decide) (by decide) fun c S3 c0 c1 F4 => ?_
    simp [-ws_ife, w62_of (i := 1 + c) (by omega) (by omega)]
    refine wp_range (fun j ρ S => ∃ (p : Pth) (c4 : Cell), ρ = [.sh (.ptr 0), .sh (.ptr (R.length + 1)), .sh (.int (i : Nat)), .sh (pD p), c4] ∧ Feed (R ++ [.lst (rs.map rowD)]) S ∧ p.length = j ∧ ∀ l, l ∈ p → l.length ≤ 12) (fun ρ S h => ?_) (fun j ρ S hj h => ?_) _ _ ⟨[], _, rfl, F4, rfl, by simp⟩
    · obtain ⟨p, c4, rfl, F5, hpl, hpn⟩ := h
      simp [-ws_ife]
      have hat : S[R.length + 1]? = some (.lst (rs.map rowD)) := F5.at 0
      simp only [hat, lsO_lst]
      refine dr F5 (by decide) (by decide) fun e S4 e0 e1 F6 => ?_
      have hmk : ∃ mk : Option Int, idxD (.lst [.non, .non, .int 7]) (.int e) = some (mD mk) := by
        have : e = 0 ∨ e = 1 ∨ e = 2 := by omega
        rcases this with rfl | rfl | rfl
        · exact ⟨none, rfl⟩
        · exact ⟨none, rfl⟩
        · exact ⟨some 7, rfl⟩
      obtain ⟨mk, em⟩ := hmk
      have hat : S4[R.length + 1]? = some (.lst (rs.map rowD)) := F6.at 0
      simp only [em, wo_some, hat, lsO_lst]
      refine ⟨by simp; omega, rs ++ [(p, mk)], ?_, fun a b hr => ?_, by simp [hl]⟩
      · have := F6.put 0 (.lst (rs.map rowD ++ [.tup [pD p, mD mk]]))
        simpa [rowD] using this
      · rcases List.mem_append.mp hr with z | z
        · exact hg (a, b) z
        · have : a = p ∧ b = mk := by simpa using z
          obtain ⟨rfl, rfl⟩ := this
          exact ⟨fun z => by rw [z] at hpl; simp at hpl; omega, by rw [hpl]; omega, hpn⟩
    · obtain ⟨p, c4, rfl, F5, hpl, hpn⟩ := h
      simp [-ws_ife]
      refine dr F5 (by decide) (by decide) fun e S4 e0 e1 F6 => ?_
      have hnm : ∃ l : List Nat, l.length ≤ 12 ∧ idxD (.lst [.str [97], .str [65], .str [98], .str [99]]) (.int e) = some (.str l) := by
        have : e = 0 ∨ e = 1 ∨ e = 2 ∨ e = 3 := by omega
        rcases this with rfl | rfl | rfl | rfl
        · exact ⟨[97], by decide, rfl⟩
        · exact ⟨[65], by decide, rfl⟩
        · exact ⟨[98], by decide, rfl⟩
        · exact ⟨[99], by decide, rfl⟩
      obtain ⟨l, hl', el⟩ := hnm
      have ea := add_pD (p := p) (ls := [l]) (by simp; omega)
      simp at ea
      simp [el, drf_pl (plS p), ea]
      exact ⟨p ++ [l], rfl, F6, by simp [hpl], fun x hx => by
        rcases List.mem_append.mp hx with z | z
        · exact hpn x z
        · have : x = l := by simpa using z
          subst this; exact hl'⟩
theorem turned_wp {X : Exn → Store → Prop} {k : Nat} {S : Store} {l : List Nat} {P : D → Store → Prop} (hl : l.length ≤ 100) (q : ∀ l' : List Nat, l'.length = l.length → P (.str l') S) : wp X ((Phi G (k + 1) 98).m [.str l] S) P := by
  refine wp_def (d := d_law_turned_name) rfl rfl ?_
  simp only [d_law_turned_name, c_law_turned_name, List.map_cons, List.map_nil, List.length_cons, List.length_nil, Nat.reduceAdd, Nat.reduceSub, List.replicate, List.cons_append, List.nil_append]
  simp [-ws_ife]
  refine wp_loop (fun ds ρ S' => S' = S ∧ ∃ (l' rest : List Nat) (c2 c3 : Cell), ds = rest.map (fun c => .str [c]) ∧ l'.length + rest.length = l.length ∧ ρ = [.sh (.str l), .sh (.str l'), c2, c3]) (fun ρ S' h0 => ?_) (fun x ds ρ S' h0 => ?_) _ _ _ ⟨rfl, [], l, _, _, rfl, by simp, rfl⟩
  · obtain ⟨rfl, l', rest, c2, c3, e, hl', rfl⟩ := h0
    have : rest = [] := by simpa using e.symm
    subst this
    simp
    exact eDef_same (Nat.le_refl _) (fun _ z => by cases z) ⟨(fun z => by cases z), q l' (by simpa using hl')⟩
  · obtain ⟨rfl, l', rest, c2, c3, e, hl', rfl⟩ := h0
    cases rest with
    | nil => cases e
    | cons c rest =>
      cases e
      simp [-ws_ife, m0D]
      refine st_cut (fun ρ S'' => S'' = S' ∧ ∃ c' : Nat, ρ = [.sh (.str l), .sh (.str l'), .sh (.str [c]), .sh (.str [c'])]) ?_ (fun ρ S'' h0 => ?_)
      · refine if_cut (fun b S'' => S'' = S') ?_ (fun S'' h => ?_) (fun S'' h => ?_)
        · simp
        · subst h; simp [m0D]
        · subst h; simp
      · obtain ⟨rfl, c', rfl⟩ := h0
        have hl2 : l'.length + 1 ≤ 16777216 := by simp at hl'; omega
        simp [add_str (a := l') (b := [c']) (by simpa using hl2)]
        simp at hl'
        exact ⟨l' ++ [c'], rest, rfl, by simp; omega, rfl⟩
/-- the last six names -/
theorem cut6 {α : Type} {xs : List α} : cutG xs (some (-6)) none = xs.drop (xs.length - 6) := by
  unfold cutG
  have : HT.sIx xs.length 0 (some (-6)) = xs.length - 6 := by
    unfold HT.sIx
    simp
    omega
  rw [this, HT.sIx_none, List.take_of_length_le (by simp)]
theorem sl6 {p : Pth} : sliceD (pD p) (some (-6)) none = some (pD (p.drop (p.length - 6))) := by
  unfold pD
  rw [sl_tup, cut6]
  simp [List.map_drop]
theorem addL {a b : List D} (h : a.length + b.length ≤ 16777216) : binD .add (.lst a) (.lst b) = some (.lst (a ++ b)) := by
  have : binD .add (.lst a) (.lst b) = if a.length + b.length ≤ 16777216 then some (.lst (a ++ b)) else none := rfl
  rw [this, if_pos h]
theorem c_eq_nil {es : List D} {n : Nat} (h : Pl n (.lst es)) (l : n ≤ 60) : cmpB .eq (.lst es) (.lst []) = some es.isEmpty := by
  have := c_ne_nil h l
  rw [c_neD] at this
  rw [c_eqD]
  cases e : eqD (.lst es) (.lst []) with
  | none => rw [e] at this; cases this
  | some b =>
    rw [e] at this
    have h2 : (!b) = !es.isEmpty := by simpa using this
    congr 1
    revert h2
    cases b <;> cases es.isEmpty <;> simp
/-- what stays where a drawer is left out -/
def keepR (p : Pth) (r : Rw1) : Bool := !decide (r.1 = p) || r.2.isSome
open Classical in
noncomputable def keepD (p : Pth) (d : D) : Prop := ∃ r : Rw1, d = rowD r ∧ keepR p r = true
theorem mD_inj {a b : Option Int} (h : mD a = mD b) : a = b := by
  cases a <;> cases b <;> simp [mD] at h <;> first | rfl | (rw [h])
theorem rowD_inj {a b : Rw1} (h : rowD a = rowD b) : a = b := by
  unfold rowD at h
  rw [D.tup.injEq, List.cons.injEq, List.cons.injEq, pD_inj] at h
  exact Prod.ext h.1 (mD_inj h.2.1)
theorem keepD_row {p : Pth} {r : Rw1} : keepD p (rowD r) ↔ keepR p r = true := ⟨fun ⟨r', e, h⟩ => by rw [rowD_inj e]; exact h, fun h => ⟨r, rfl, h⟩⟩
open Classical in
theorem keep_map {p : Pth} : ∀ rs : List Rw1, ((rs.map rowD).filterMap fun d => if keepD p d then some d else none) = (rs.filter (keepR p)).map rowD
  | [] => rfl
  | r :: rs => by
    rw [List.map_cons, List.filterMap_cons, keep_map rs]
    by_cases h : keepR p r = true
    · rw [if_pos (keepD_row.mpr h), List.filter_cons_of_pos h]; rfl
    · rw [if_neg (fun z => h (keepD_row.mp z)), List.filter_cons_of_neg h]
/-- a row put in -/
def putAt (rs : List Rw1) (n : Nat) (r : Rw1) : List Rw1 := rs.take n ++ [r] ++ rs.drop n
theorem putAt_ok {rs : List Rw1} {n : Nat} {r : Rw1} (hg : ∀ r, r ∈ rs → G6 r.1) (hr : G6 r.1) : (∀ x, x ∈ putAt rs n r → G6 x.1) ∧ (putAt rs n r).length ≤ rs.length + 1 := by
  unfold putAt
  refine ⟨fun x hx => ?_, by simp; omega⟩
  rcases List.mem_append.mp hx with z | z
  · rcases List.mem_append.mp z with z | z
    · exact hg x (List.mem_of_mem_take z)
    · have : x = r := by simpa using z
      subst this; exact hr
  · exact hg x (List.mem_of_mem_drop z)
theorem putAt_D {rs : List Rw1} {n : Nat} {r : Rw1} (hl : rs.length ≤ 1000) : ∃ z, binD .add (.lst ((rs.map rowD).take n)) (.lst [rowD r]) = some z ∧ (∀ S, drf S z = some z) ∧ binD .add z (.lst ((rs.map rowD).drop n)) = some (.lst ((putAt rs n r).map rowD)) := by
  refine ⟨_, addL (by simp; omega), fun _ => rfl, ?_⟩
  rw [addL (by simp; omega)]
  simp [putAt, List.map_take, List.map_drop]
open Classical in
/-- one more row, or some less -/
theorem spoilt_wp {X : Exn → Store → Prop} {k : Nat} {R S0 : Store} {rs : List Rw1} {P : D → Store → Prop} (F : Feed R S0) (hg : ∀ r, r ∈ rs → G6 r.1) (hl : rs.length ≤ 1000) (q : ∀ (ms : List Rw1) S', (∀ r, r ∈ ms → G6 r.1) → ms.length ≤ rs.length + 1 → Feed R S' → P (.lst (ms.map rowD)) S') : wp X ((Phi G (k + 2) 99).m [.ptr 0, .lst (rs.map rowD)] S0) P := by
  refine wp_def (d := d_law_spoilt_2) rfl rfl ?_
  simp only [d_law_spoilt_2, c_law_spoilt_2, List.map_cons, List.map_nil, List.length_cons, List.length_nil, Nat.reduceAdd, Nat.reduceSub, List.replicate, List.cons_append, List.nil_append]
  simp [-ws_ife]
  refine dr F (by omega) (by omega) fun a S1 a0 a1 F1 => ?_
  obtain ⟨n, rfl⟩ := Int.eq_ofNat_of_zero_le a0
  refine dr F1 (by decide) (by decide) fun w S2 w0 w1 F2 => ?_
  have fin : ∀ {S : Store} {f : Bool} {ms : List Rw1}, Feed R S → f = true → (∀ r, r ∈ ms → G6 r.1) → ms.length ≤ rs.length + 1 → eDef true S0 P (.rt f (.lst (ms.map rowD))) S := fun {S f ms} F' hf h1 h2 => F.endSame F' (fun _ z => by cases z) (fun _ => hf) (q ms S h1 h2 F')
  refine if_cut (fun c S' => S' = S2 ∧ c = rs.isEmpty) ?_ (fun S' h => ?_) (fun S' h => ?_)
  · simp [c_eq_nil (plRs rs) (by omega)]
  · obtain ⟨rfl, h⟩ := h
    simp
    have := fin (f := decide (2 ≤ kE (Phi G (k + 1)) (.lst (.cons (.tup (.cons (.tup (.cons (.lit (.str [120])) (.cons (.lit (.str [121])) .nil))) (.cons (.lit (.int 1)) .nil))) .nil)))) (ms := [([[120], [121]], some 1)]) F2 (by simp [kE]) (fun r hr => by
      have : r = ([[120], [121]], some 1) := by simpa using hr
      subst this
      exact ⟨by decide, by decide, by decide⟩) (by simp)
    exact this
  · obtain ⟨rfl, h⟩ := h
    have hne : 0 < rs.length := by
      cases rs with
      | nil => cases h
      | cons _ _ => simp
    simp [-ws_ife]
    refine dr F2 (by omega) (by omega) fun j S3 j0 j1 F3 => ?_
    have hj : j.toNat < rs.length := by omega
    have hgj := hg _ (List.getElem_mem hj)
    rw [RH.ix_lst, at_nn j0, List.getElem?_map, List.getElem?_eq_getElem hj]
    generalize rs[j.toNat] = r at hgj ⊢
    obtain ⟨p, m⟩ := r
    simp only [Option.map_some, wo_some, rowD]
    simp [-ws_ife]
    have put : ∀ (r : Rw1), G6 r.1 → ∃ z, binD .add (.lst ((rs.map rowD).take n)) (.lst [.tup [pD r.1, mD r.2]]) = some z ∧ (∀ S, drf S z = some z) ∧ binD .add z (.lst ((rs.map rowD).drop n)) = some (.lst ((putAt rs n r).map rowD)) ∧ (∀ x, x ∈ putAt rs n r → G6 x.1) ∧ (putAt rs n r).length ≤ rs.length + 1 := fun r hr => by
      obtain ⟨z, e1, e2, e3⟩ := putAt_D (r := r) (n := n) hl
      exact ⟨z, e1, e2, e3, putAt_ok hg hr⟩
    have hgj : G6 p := hgj
    have hpl := hgj.2.1
    refine if_cut (fun c S' => S' = S3 ∧ c = (w == 0)) (by simp) (fun S' h => ?_) (fun S' h => ?_)
    · obtain ⟨rfl, h⟩ := h
      obtain ⟨z, e1, e2, e3, e4, e5⟩ := put (p, some 5) hgj
      simp only [mD] at e1
      simp [cut_b, cut_a, e1, e2, e3, drf_pl (plS p)]
      exact fin F3 (by simp [kE]) e4 e5
    obtain ⟨rfl, _⟩ := h
    simp [-ws_ife]
    refine if_cut (fun c S1 => S1 = S' ∧ c = (w == 1)) (by simp) (fun S1 h => ?_) (fun S1 h => ?_)
    · obtain ⟨rfl, h⟩ := h
      simp [cut_b, cut_a, drf_pl (plS p), sl_pD, at_pD hgj.1, drf_pl (plS p.dropLast)]
      have hlast := hgj.okp.last
      refine turned_wp hlast fun l' hl' => ?_
      have hl12 : l'.length ≤ 12 := by
        rw [hl']
        cases hx : p.getLast? with
        | none => simp
        | some x => exact hgj.2.2 x (List.mem_of_getLast? hx)
      have ea := add_pD (p := p.dropLast) (ls := [l']) (by simp; omega)
      simp only [List.map_cons, List.map_nil] at ea
      obtain ⟨z, e1, e2, e3, e4, e5⟩ := put (p.dropLast ++ [l'], some 5) ⟨by simp, by simp; omega, fun l hl => by
        rcases List.mem_append.mp hl with z | z
        · exact hgj.2.2 l (List.dropLast_subset _ z)
        · have : l = l' := by simpa using z
          subst this; exact hl12⟩
      simp only [mD] at e1
      simp [cut_b, cut_a, ea, e1, e2, e3]
      exact fin F3 (by simp [kE]) e4 e5
    obtain ⟨rfl, _⟩ := h
    simp [-ws_ife]
    refine if_cut (fun c S' => S' = S1 ∧ c = (w == 2)) (by simp) (fun S' h => ?_) (fun S' h => ?_)
    · obtain ⟨rfl, h⟩ := h
      have ea := add_pD (p := p) (ls := [[110, 111], [122]]) (by simp; omega)
      simp only [List.map_cons, List.map_nil] at ea
      obtain ⟨z, e1, e2, e3, e4, e5⟩ := put ((p ++ [[110, 111], [122]]).drop ((p ++ [[110, 111], [122]]).length - 6), none) ⟨by simp [List.drop_eq_nil_iff]; omega, by simp; omega, fun l hl => by
        rcases List.mem_append.mp (List.mem_of_mem_drop hl) with z | z
        · exact hgj.2.2 l z
        · have : l = [110, 111] ∨ l = [122] := by simpa using z
          rcases this with rfl | rfl <;> decide⟩
      simp only [mD] at e1
      simp [-List.length_append, cut_b, cut_a, drf_pl (plS p), ea, drf_pl (plS (p ++ [[110, 111], [122]])), sl6, e1, e2, e3]
      exact fin F3 (by simp [kE]) e4 e5
    obtain ⟨rfl, _⟩ := h
    simp [-ws_ife]
    refine if_cut (fun c S1 => S1 = S' ∧ c = (w == 3)) (by simp) (fun S1 h => ?_) (fun S1 h => ?_)
    · obtain ⟨rfl, h⟩ := h
      have ea := add_pD (p := p) (ls := [[122]]) (by simp; omega)
      simp only [List.map_cons, List.map_nil] at ea
      obtain ⟨z, e1, e2, e3, e4, e5⟩ := put ((p ++ [[122]]).drop ((p ++ [[122]]).length - 6), some 1) ⟨by simp [List.drop_eq_nil_iff]; omega, by simp; omega, fun l hl => by
        rcases List.mem_append.mp (List.mem_of_mem_drop hl) with z | z
        · exact hgj.2.2 l z
        · have : l = [122] := by simpa using z
          subst this; decide⟩
      simp only [mD] at e1
      simp [-List.length_append, cut_b, cut_a, drf_pl (plS p), ea, drf_pl (plS (p ++ [[122]])), sl6, e1, e2, e3]
      exact fin F3 (by simp [kE]) e4 e5
    obtain ⟨rfl, _⟩ := h
    simp
    refine wp_compFm (g := fun d => if keepD p d then some d else none) trivial (fun d hd => ?_) (by simp; omega) ?_
    · obtain ⟨r, hr, rfl⟩ := List.mem_map.mp hd
      rw [keepD_row]
      simp [rowD, drf_pl (plS r.1), drf_pl (plS p), ne_pD]
      by_cases z : r.1 = p
      · cases hm : r.2 with
        | none => simp [z, mD, keepR, hm]
        | some i => simp [z, mD, RH.isNon, keepR, hm]
      · simp [z, keepR]
    · rw [keep_map]
      exact fin F3 (by simp [kE]) (fun r hr => hg r (List.mem_filter.mp hr).1) (Nat.le_trans (List.length_filter_le _ _) (by omega))
end RL

set_option Elab.async false
set_option linter.all false
set_option maxRecDepth 100000
set_option maxHeartbeats 1000000
namespace RL
open PySem PySem.Spec PyProof.Rows L2 RH
/-- a row that can be there, as the law asks it -/
def okF (b : Bool) (rs pre : List Rw1) (r : Rw1) : Prop := (r.1.dropLast = [] ∨ (r.1.dropLast, none) ∈ rs) ∧ fold b r.1 ∉ pre.map fun x => fold b x.1
theorem okF_iff {b : Bool} {rs pre : List Rw1} {r : Rw1} (hp : r.1 ≠ []) (hpre : ∀ x, x ∈ pre → x.1 ≠ []) : okF b rs pre r ↔ okRow b rs pre r := by
  unfold okF okRow
  rw [mem_drs]
  refine and_congr Iff.rfl ?_
  unfold thereR
  constructor
  · intro h
    rw [if_neg (fun z => by
      obtain ⟨x, hx, e⟩ := List.mem_map.mp z
      exact h (List.mem_map.mpr ⟨x, hx, by rw [e]⟩))]
    cases b with
    | false => rfl
    | true =>
      rw [if_pos rfl, List.find?_eq_none]
      intro p hp' hal
      obtain ⟨x, hx, rfl⟩ := List.mem_map.mp hp'
      exact h (List.mem_map.mpr ⟨x, hx, alk_fold hal⟩)
  · intro h z
    obtain ⟨x, hx, e⟩ := List.mem_map.mp z
    by_cases w : r.1 ∈ pre.map (·.1)
    · rw [if_pos w] at h; cases h
    · rw [if_neg w] at h
      cases b with
      | false =>
        unfold fold at e
        simp at e
        exact w (List.mem_map.mpr ⟨x, hx, e⟩)
      | true =>
        rw [if_pos rfl, List.find?_eq_none] at h
        refine h x.1 (List.mem_map.mpr ⟨x, hx, rfl⟩) ?_
        unfold fold at e
        simp at e
        unfold alk
        simp [e.1, e.2]
theorem in_paths {S : Store} {p : Pth} {ps : List Pth} : cmpB .inn (pD p) (.lst (ps.map pD)) = some (decide (p ∈ ps)) := by
  have pls : Pl 2 (.lst (ps.map pD)) := .lst fun d hd => by
    obtain ⟨x, _, rfl⟩ := List.mem_map.mp hd
    exact plS x
  have : cmpB .inn (pD p) (.lst (ps.map pD)) = if okD (pD p) && okD (.lst (ps.map pD)) then some ((ps.map pD).any fun z => eqb z (pD p)) else none := rfl
  rw [this, (plS p).ok (by omega), pls.ok (by omega)]
  simp only [Bool.and_self, if_true]
  congr 1
  rw [Bool.eq_iff_iff, List.any_eq_true, decide_eq_true_eq]
  constructor
  · rintro ⟨z, hz, e⟩
    obtain ⟨x, hx, rfl⟩ := List.mem_map.mp hz
    unfold pD eqb at e
    rw [eqbs_strs] at e
    have := of_decide_eq_true e
    subst this; exact hx
  · intro h
    refine ⟨pD p, List.mem_map.mpr ⟨p, h, rfl⟩, ?_⟩
    unfold pD eqb
    rw [eqbs_strs]; simp
theorem nin_paths {S : Store} {p : Pth} {ps : List Pth} : cmpB .nin (pD p) (.lst (ps.map pD)) = some (!decide (p ∈ ps)) := by
  have := in_paths (S := S) (p := p) (ps := ps)
  have e : cmpB .nin (pD p) (.lst (ps.map pD)) = (cmpB .inn (pD p) (.lst (ps.map pD))).map (!·) := rfl
  rw [e, this]; rfl
/-- the drawers among rows -/
def dwr (rs : List Rw1) : List Pth := (rs.filter fun r => r.2.isNone).map (·.1)
theorem dwr_map : ∀ rs : List Rw1, (rs.filterMap fun r => if r.2.isNone then some (pD r.1) else none) = (dwr rs).map pD
  | [] => rfl
  | r :: rs => by
    have ih := dwr_map rs
    unfold dwr at ih ⊢
    cases hm : r.2 <;> simp [List.filter_cons, hm] at ih ⊢ <;> exact ih
theorem dwr_len (rs : List Rw1) : (dwr rs).length ≤ rs.length := by
  unfold dwr; rw [List.length_map]; exact List.length_filter_le _ _
theorem mem_dwr {rs : List Rw1} {p : Pth} : p ∈ [] :: dwr rs ↔ p = [] ∨ (p, none) ∈ rs := by
  unfold dwr
  rw [List.mem_cons, List.mem_map]
  refine or_congr Iff.rfl ⟨?_, fun h => ⟨(p, none), List.mem_filter.mpr ⟨h, rfl⟩, rfl⟩⟩
  rintro ⟨⟨a, m⟩, h, rfl⟩
  rw [List.mem_filter] at h
  cases m with
  | none => exact h.1
  | some i => cases h.2
/-- what is held -/
def hdL (b : Bool) (pre : List Rw1) : List D := (pre.map fun x => fold b x.1).map pD
theorem in_hdL {b : Bool} {pre : List Rw1} {p : Pth} : cmpB .inn (pD p) (.lst (hdL b pre)) = some (decide (p ∈ pre.map fun x => fold b x.1)) := in_paths (S := [])
theorem hdL_snoc {b : Bool} {pre : List Rw1} {r : Rw1} : hdL b (pre ++ [r]) = hdL b pre ++ [pD (fold b r.1)] := by simp [hdL]
theorem hdL_len {b : Bool} {pre : List Rw1} : (hdL b pre).length = pre.length := by simp [hdL]
theorem due_wp {X : Exn → Store → Prop} {k : Nat} {S : Store} {b : Bool} {rs : List Rw1} {P : D → Store → Prop} (hg : ∀ r, r ∈ rs → Okp r.1) (hl : rs.length ≤ 1000)
    (q1 : (∀ i r, rs[i]? = some r → okF b rs (rs.take i) r) → P .non S)
    (q2 : ∀ i r, rs[i]? = some r → (∀ j r, j < i → rs[j]? = some r → okF b rs (rs.take j) r) → ¬ okF b rs (rs.take i) r → P (.int (i : Nat)) S) : wp X ((Phi G (k + 2) 100).m [.lst (rs.map rowD), .bl b] S) P := by
  refine wp_def (d := d_law_due_2) rfl rfl ?_
  simp only [d_law_due_2, c_law_due_2, List.map_cons, List.map_nil, List.length_cons, List.length_nil, Nat.reduceAdd, Nat.reduceSub, List.replicate, List.cons_append, List.nil_append]
  simp [-ws_ife]
  refine wp_compEnc rowD (fun r => if r.2.isNone then some (pD r.1) else none) trivial (fun r hr => ?_) (by omega) ?_
  · simp [rowD]
    cases hm : r.2 with
    | none => simp [mD]
    | some i => simp [mD, RH.isNon]
  · have e : (rs.filterMap fun r => if r.2.isNone then some (pD r.1) else none) = (dwr rs).map pD := dwr_map rs
    rw [e]
    have ea : binD .add (.lst [.tup []]) (.lst ((dwr rs).map pD)) = some (.lst (([] :: dwr rs).map pD)) := by
      rw [addL (by have := dwr_len rs; simp; omega)]; rfl
    simp [-ws_ife, -List.map_cons, ea]
    refine wp_loop (fun ds ρ S' => ∃ (i : Nat) (c4 c5 c6 : Cell), ds = enumD i ((rs.drop i).map rowD) ∧ i ≤ rs.length ∧ ρ = [.sh (.lst (rs.map rowD)), .sh (.bl b), .sh (.lst (([] :: dwr rs).map pD)), .sh (.ptr S.length), c4, c5, c6] ∧ S' = S ++ [.lst (hdL b (rs.take i))] ∧ (∀ j r, j < i → rs[j]? = some r → okF b rs (rs.take j) r)) (fun ρ S' h0 => ?_) (fun x ds ρ S' h0 => ?_) _ _ _ ⟨0, _, _, _, by simp, by omega, rfl, by simp [hdL], by simp⟩
    · obtain ⟨i, c4, c5, c6, e, hi, rfl, rfl, hok⟩ := h0
      have hi' : rs.length ≤ i := by
        by_cases z : i < rs.length
        · have ez : rs.drop i = rs[i] :: rs.drop (i + 1) := List.drop_eq_getElem_cons z
          rw [ez, List.map_cons, enumD] at e
          cases e
        · omega
      simp [-List.map_cons]
      refine eDef_old (fun _ z => by cases z) old_app (by simp [upD]) ⟨(fun z => by cases z), ?_⟩
      rw [List.take_left]
      refine q1 fun i' r hi2 => hok i' r ?_ hi2
      have := (List.getElem?_eq_some_iff.mp hi2).1
      omega
    · obtain ⟨i, c4, c5, c6, e, hi, rfl, rfl, hok⟩ := h0
      by_cases z : i < rs.length
      · have ez : rs.drop i = rs[i] :: rs.drop (i + 1) := List.drop_eq_getElem_cons z
        rw [ez, List.map_cons, enumD] at e
        cases e
        have hri := hg rs[i] (List.getElem_mem z)
        have hgi : rs[i]? = some rs[i] := List.getElem?_eq_getElem z
        generalize rs[i] = r at hri hgi ez ⊢
        simp [-ws_ife, -List.map_cons, rowD]
        refine if_cut (fun c S' => S' = S ++ [.lst (hdL b (rs.take i))] ∧ (c = true ↔ ¬ okF b rs (rs.take i) r)) ?_ (fun S' h0 => ?_) (fun S' h0 => ?_)
        · have hat : (S ++ [Ob.lst (hdL b (rs.take i))])[S.length]? = some (.lst (hdL b (rs.take i))) := by simp
          simp [-List.map_cons, -List.map_map, -List.map_take, drf_pl (plS r.1), sl_pD, drf_pl (plS r.1.dropLast), nin_paths (S := S)]
          split
          · rename_i w
            refine ⟨fun _ z => ?_, fun _ => w⟩
            have := mem_dwr.mpr z.1
            rw [List.mem_cons] at this
            rcases this with y | y
            · exact w.1 y
            · exact w.2 y
          · rename_i w
            refine folded_wp hri.1 hri.2.1 hri.2.2 ?_
            have hw : r.1.dropLast = [] ∨ (r.1.dropLast, none) ∈ rs := by
              refine mem_dwr.mp (List.mem_cons.mpr ?_)
              by_cases y : r.1.dropLast = []
              · exact .inl y
              · by_cases y2 : r.1.dropLast ∈ dwr rs
                · exact .inr y2
                · exact absurd ⟨y, y2⟩ w
            rw [drf_pl (plS _), drf_at hat]
            simp only [wo_some, in_hdL, true_and]
            unfold okF
            simp [hw]
        · obtain ⟨rfl, h0⟩ := h0
          have h0 := h0.mp rfl
          simp [-List.map_cons]
          refine eDef_old (fun _ z => by cases z) old_app (by simp [upD]) ⟨(fun z => by cases z), ?_⟩
          rw [List.take_left]
          exact q2 i r hgi hok h0
        · obtain ⟨rfl, h0⟩ := h0
          have h0 : okF b rs (rs.take i) r := by
            by_cases w : okF b rs (rs.take i) r
            · exact w
            · exact absurd (h0.mpr w) (by decide)
          simp [-List.map_cons, -List.map_map, -List.map_take]
          refine folded_wp hri.1 hri.2.1 hri.2.2 ?_
          have hat : (S ++ [Ob.lst (hdL b (rs.take i))])[S.length]? = some (.lst (hdL b (rs.take i))) := by simp
          have etk : rs.take (i + 1) = rs.take i ++ [r] := by
            rw [List.take_add_one, hgi]; rfl
          rw [hat]
          simp only [lsO_lst]
          refine ⟨by rw [hdL_len]; simp; omega, i + 1, rfl, by omega, ?_, fun j a b' hj hr' => ?_⟩
          · rw [etk, hdL_snoc]; simp
          · by_cases hji : j = i
            · subst hji
              rw [hgi] at hr'; cases hr'
              exact h0
            · exact hok j (a, b') (by omega) hr'
      · exfalso
        rw [List.drop_of_length_le (by omega), List.map_nil, enumD] at e
        cases e
theorem made_app {S : Store} {b : Bool} {kvs ps : List (D × D)} : madeS (S ++ [Ob.ins "Hall" []]) S.length b kvs ps = S ++ [hallOb b (S.length + 1), .dct 1 kvs, .dct 1 ps] := by
  unfold madeS
  rw [List.set_append_right _ _ (Nat.le_refl _)]
  simp
/-- a new object within what is handed back: all stays -/
theorem eDef_keepT {fr f : Bool} {S0 S : Store} {ds : List D} {P : D → Store → Prop} (hu : upDs S0.length ds = false) (hf : fr = true → f = true) (q : P (.tup ds) S) : eDef fr S0 P (.rt f (.tup ds)) S := by
  have : RH.cutD S0 (.tup ds) S = none := by
    unfold RH.cutD
    split
    · have : upD S0.length (.tup ds) = false := by unfold upD; exact hu
      simp [this]
    · rfl
  show (match RH.cutD S0 (.tup ds) S with
      | some (d', S') => (fr = true → f = true ∨ newB S0.length (.tup ds) = true) ∧ P d' S'
      | none => (fr = true → f = true) ∧ P (.tup ds) S)
  rw [this]
  exact ⟨hf, q⟩
theorem told_wp {X : Exn → Store → Prop} {k : Nat} {S : Store} {b : Bool} {rs : List Rw1} {P : D → Store → Prop} (hg : ∀ r, r ∈ rs → Okp r.1) (hl : rs.length ≤ 1000)
    (q1 : (∀ i r, rs[i]? = some r → okRow b rs (rs.take i) r) → P (.tup [.ptr S.length, .non]) (S ++ [hallOb b (S.length + 1), .dct 1 (rs.map kvD), .dct 1 ((drs rs).map kT)]))
    (q2 : ∀ i r, rs[i]? = some r → (∀ j r, j < i → rs[j]? = some r → okRow b rs (rs.take j) r) → ¬ okRow b rs (rs.take i) r → P (.tup [.non, .int (i : Nat)]) S) : wp X ((Phi G (k + 4) 537).m [.lst (rs.map rowD), .bl b] S) P := by
  refine wp_def (d := d_law_told_12) rfl rfl ?_
  simp only [d_law_told_12, c_law_told_12, List.map_cons, List.map_nil, List.length_cons, List.length_nil, Nat.reduceAdd, Nat.reduceSub, List.replicate, List.cons_append, List.nil_append]
  simp [-ws_ife, asgB, asgS]
  refine init_wp (rs := rs) (by simp) (.inl rfl) hl hg (fun hok => ?_) (fun i r hi hb hn o T => ?_)
  · simp
    rw [made_app]
    exact eDef_keepT (by simp [upDs, upD]) (fun _ => by simp [kE]) (q1 hok)
  · refine wh_yes (fs := ["at"]) (x := ⟨"NoHall", [.int (i : Nat)]⟩) rfl ?_
    simp [xaD, xisD, xflD, RH.isNon, isiD]
    refine eDef_old (fun _ z => by cases z) old_app (by simp [upD, upDs]) ⟨fun _ => by simp [kE], ?_⟩
    rw [List.take_left]
    exact q2 i r hi hb hn
theorem if_yes {X : Exn → Store → Prop} {Φ : Nat → Fn} {ρ : List Cell} {S : Store} {c : CE} {a b : CB} {P : Flw → Store → Prop} (hc : wp X (evE Φ c ρ S) (fun x S' => wo (asB x) (fun b => b = true ∧ S' = S))) (hf : wp X (evBk Φ a ρ S) P) : wp X (evS Φ (.ife c a b) ρ S) P :=
  if_cut (fun b S' => b = true ∧ S' = S) hc (fun S' h => by rw [h.2]; exact hf) (fun S' h => absurd h.1 (by decide))
theorem keys_nd {b : Bool} {rs : List Rw1} (h : ∀ i r, rs[i]? = some r → okF b rs (rs.take i) r) : (rs.map (·.1)).Nodup := by
  unfold List.Nodup
  rw [List.pairwise_iff_getElem]
  intro i j hi hj hij e
  rw [List.length_map] at hi hj
  rw [List.getElem_map, List.getElem_map] at e
  refine (h j rs[j] (List.getElem?_eq_getElem hj)).2 (List.mem_map.mpr ⟨rs[i], ?_, by rw [e]⟩)
  refine List.mem_of_getElem? (i := i) ?_
  rw [List.getElem?_take_of_lt hij, List.getElem?_eq_getElem hi]
theorem one_wp {X : Exn → Store → Prop} {k : Nat} {R S0 : Store} {P : D → Store → Prop} (F : Feed R S0) (q : ∀ S', Feed R S' → P (.bl true) S') : wp X ((Phi G (k + 6) 538).m [.ptr 0] S0) P := by
  refine wp_def (d := d_law_one_29) rfl rfl ?_
  simp only [d_law_one_29, c_law_one_29, List.map_cons, List.map_nil, List.length_cons, List.length_nil, Nat.reduceAdd, Nat.reduceSub, List.replicate, List.cons_append, List.nil_append]
  simp [-ws_ife]
  refine dr F (by decide) (by decide) fun r S1 r0 r1 F1 => ?_
  simp [-ws_ife]
  generalize (r == 0) = b
  refine anyrows_wp (k := k + 3) F1 fun rs S2 hg hl F2 => ?_
  refine st_cut (fun ρ S => ∃ (rs : List Rw1) (c4 : Cell), ρ = [.sh (.ptr 0), .sh (.bl b), .sh (.lst (rs.map rowD)), .u, c4, .u, .u] ∧ (∀ r, r ∈ rs → G6 r.1) ∧ rs.length ≤ 100 ∧ Feed R S) ?_ (fun ρ S h => ?_)
  · refine if_cut (fun _ S => Feed R S) ?_ (fun S F3 => ?_) (fun S F3 => ?_)
    · simp
      refine dr F2 (by decide) (by decide) fun r S3 r0 r1 F3 => ?_
      simp
      exact F3
    · simp [-ws_ife]
      refine dr F3 (by decide) (by decide) fun r S4 r0 r1 F4 => ?_
      have hmost : ∃ n : Nat, n ≤ 50 ∧ idxD (.lst [.int 4, .int 12, .int 50]) (.int r) = some (.int (n : Nat)) := by
        have : r = 0 ∨ r = 1 ∨ r = 2 := by omega
        rcases this with rfl | rfl | rfl
        · exact ⟨4, by omega, rfl⟩
        · exact ⟨12, by omega, rfl⟩
        · exact ⟨50, by omega, rfl⟩
      obtain ⟨n, hn, en⟩ := hmost
      simp only [en, wo_some]
      refine rows_wp (k := k + 2) F4 (by omega) fun rs S5 hR hrl F5 => ?_
      refine mixed_wp F5 (by omega) fun ms S6 hp F6 => ?_
      have hml : ms.length ≤ 50 := by have := hp.length_eq; omega
      have hg : ∀ r, r ∈ ms → G6 r.1 := fun r hr => by
        obtain ⟨h1, h2, h3, _⟩ := hR.ok r (hp.mem_iff.mp hr)
        exact ⟨h1, h2, fun l hl => (h3 l hl).2.1⟩
      refine dr F6 (by decide) (by decide) fun c S7 c0 c1 F7 => ?_
      simp [-ws_ife, w62_of (i := c) (by omega) (by omega)]
      refine wp_range (fun i ρ S => ∃ (rs : List Rw1) (c4 : Cell), ρ = [.sh (.ptr 0), .sh (.bl b), .sh (.lst (rs.map rowD)), .u, c4, .u, .u] ∧ (∀ r, r ∈ rs → G6 r.1) ∧ rs.length ≤ 50 + i ∧ Feed R S) (fun ρ S h => ?_) (fun i ρ S hi h => ?_) _ _ ⟨ms, _, rfl, hg, by omega, F7⟩
      · obtain ⟨rs, c4, rfl, h1, h2, h3⟩ := h
        simp
        exact ⟨rs, rfl, fun a b hr => h1 (a, b) hr, by omega, h3⟩
      · obtain ⟨rs, c4, rfl, h1, h2, h3⟩ := h
        simp [-ws_ife]
        refine spoilt_wp (k := k + 3) h3 h1 (by omega) fun ms S h4 h5 h6 => ?_
        simp
        exact ⟨ms, rfl, fun a b hr => h4 (a, b) hr, by omega, h6⟩
    · simp
      exact ⟨rs, rfl, fun a b hr => hg (a, b) hr, by omega, F3⟩
  · clear F1 F2 hg hl
    obtain ⟨rs, c4, rfl, hg, hl, F2⟩ := h
    have hokp : ∀ r, r ∈ rs → Okp r.1 := fun r hr => (hg r hr).okp
    have hiff : ∀ i r, rs[i]? = some r → (okF b rs (rs.take i) r ↔ okRow b rs (rs.take i) r) := fun i r hi => okF_iff (hokp r (List.mem_of_getElem? hi)).1 fun x hx => (hokp x (List.mem_of_mem_take hx)).1
    simp [-ws_ife]
    refine due_wp (k := k + 3) hokp (by omega) (fun hok => ?_) (fun i r hi hb hn => ?_)
    · refine told_wp (k := k + 1) hokp (by omega) (fun _ => ?_) (fun i r hi hb hn => absurd ((hiff i r hi).mp (hok i r hi)) hn)
      have nd := keys_nd hok
      have F3 := F2.apps [hallOb b (S.length + 1), .dct 1 (rs.map kvD), .dct 1 ((drs rs).map kT)]
      have H3 : HAt (S ++ [hallOb b (S.length + 1), .dct 1 (rs.map kvD), .dct 1 ((drs rs).map kT)]) S.length (S.length + 1) b rs := ⟨by simp, by simp⟩
      generalize S ++ [hallOb b (S.length + 1), .dct 1 (rs.map kvD), .dct 1 ((drs rs).map kT)] = S3 at F3 H3 ⊢
      simp [-ws_ife]
      refine if_no (by simp [RH.isNon]) ?_
      simp [RH.isNon]
      refine dof_rows nd ?_
      have F4 := F3.apps [.dct 1 (rs.map kvD)]
      have H4 : HAt (S3 ++ [.dct 1 (rs.map kvD)]) S.length (S.length + 1) b rs := ⟨by rw [List.getElem?_append_left (List.getElem?_eq_some_iff.mp H3.h1).1]; exact H3.h1, by rw [List.getElem?_append_left (List.getElem?_eq_some_iff.mp H3.h2).1]; exact H3.h2⟩
      have m4 : (S3 ++ [Ob.dct 1 (rs.map kvD)])[S3.length]? = some (.dct 1 (rs.map kvD)) := by simp
      refine right_wp H4 m4 (fun r hr => (hokp r hr).1) (by omega) ?_
      simp [ins_hall H4.h1 (f := "is_blind") (by decide +kernel) (by decide +kernel)]
      refine blind_wp H4 ?_
      have plb : Pl 0 (.bl b) := ⟨by unfold pln; rfl, by unfold dep; omega⟩
      simp [c_eq_self plb (by omega)]
      rw [List.append_assoc] at F4
      exact F.endOld F4 (fun _ z => by cases z) (by simp [upD]) (fun _ => by simp [kE]) q
    · refine told_wp (k := k + 1) hokp (by omega) (fun hok => absurd ((hiff i r hi).mpr (hok i r hi)) hn) (fun j r' hj hb' hn' => ?_)
      have hji : j = i := by
        rcases Nat.lt_trichotomy j i with z | z | z
        · exact absurd ((hiff j r' hj).mp (hb j r' z hj)) hn'
        · exact z
        · exact absurd ((hiff i r hi).mpr (hb' i r z hi)) hn
      subst hji
      simp [-ws_ife]
      refine if_yes (by simp [RH.isNon]) ?_
      have pli : Pl 0 (.int (j : Nat)) := ⟨by unfold pln; rfl, by unfold dep; omega⟩
      simp [RH.isNon, c_eq_self pli (by omega)]
      exact F.endSame F2 (fun _ z => by cases z) (fun _ => by simp [kE]) (q _ F2)
theorem law_run : ∀ ns : List Int, ns.length ≤ 63 → ∃ S, (Phi G (40 + 1) 539).m [.scr ns] [] = .ok (.bl true) S := fun ns hn => by
  suffices h : wp XF ((Phi G (40 + 1) 539).m [.scr ns] []) (fun d _ => d = .bl true) by
    obtain ⟨a, S, e, rfl⟩ := wp_of h
    exact ⟨S, e⟩
  refine wp_def (d := d_law_87) rfl rfl ?_
  simp only [d_law_87, c_law_87, List.map_cons, List.map_nil, List.length_cons, List.length_nil, Nat.reduceAdd, Nat.reduceSub, List.replicate, List.cons_append, List.nil_append]
  obtain ⟨n, e, hn2, _⟩ := turns (a := 6) (b := 12) (l := (ns.length : Int)) (by omega) (by omega) (by omega) (by omega)
  simp [-ws_ife]
  rw [e]
  simp [-ws_ife, w62_of (i := (n : Int)) (by omega) (by omega)]
  refine wp_range (fun i ρ S => ∃ c2, Feed [] S ∧ ρ = [.sh (.scr ns), .sh (.ptr 0), c2]) (fun ρ S h => ?_) (fun i ρ S hi h => ?_) _ _ ⟨_, feed0 ns, rfl⟩
  · obtain ⟨c2, F, rfl⟩ := h
    simp
    exact eDef_old (fun _ z => by cases z) (fun i ob hi => by simp at hi) (by simp [upD]) ⟨fun _ => rfl, rfl⟩
  · obtain ⟨c2, F, rfl⟩ := h
    simp [-ws_ife]
    refine if_cut (fun c S' => Feed [] S' ∧ c = false) ?_ (fun S' h => ?_) (fun S' h => ?_)
    · simp
      refine one_wp (k := 34) F fun S' F' => ?_
      simp
      exact F'
    · exact absurd h.2 (by decide)
    · simp
      exact h.1
end RL

set_option Elab.async false
set_option linter.all false
set_option maxRecDepth 100000
set_option maxHeartbeats 0
namespace RL
open PySem PySem.Spec PyProof.Rows L2 RH
def tab : Ids := [(1, 27), (2, 31), (89, 32), (90, 33), (91, 34), (92, 35), (529, 36), (97, 37), (98, 38), (99, 39), (100, 40), (537, 41), (538, 42), (539, 43)]
def x_0 : Xc := ⟨"NoHall", 6, 0, "NoHall.__init__", ["self", "at"], ["at"]⟩
def xs : List Xc := [x_0]
def m_Hall_init : Md := ⟨533, 29, 0, "Hall", "__init__", "Hall.__init__", 3, [(.bl false)]⟩
def m_Hall_rows : Md := ⟨534, 29, 1, "Hall", "rows", "Hall.rows", 1, []⟩
def m_Hall_is_blind : Md := ⟨535, 29, 2, "Hall", "is_blind", "Hall.is_blind", 1, []⟩
def m_Hall_there : Md := ⟨536, 29, 3, "Hall", "there", "Hall.there", 2, []⟩
def T : Tab := ⟨tab.map fun p => (p.1, nmOf G p.1), [], ["ValueError", "bool", "dict", "enumerate", "int", "isinstance", "len", "list", "max", "min", "range", "sorted", "tuple"], xs.map fun x => (x.name, x.ar), [], false, [("NoHall", ["at"], [("Broken", false), ("Busy", false), ("Fixed", false), ("Full", false), ("HallError", true), ("Meets", false), ("NoBook", false), ("NoDoer", false), ("NoDrawer", false), ("NoHall", true), ("NoLine", false), ("NoPattern", false), ("NoPlace", false), ("NoRule", false), ("NoRules", false), ("NoSame", false), ("NoTemplate", false), ("NoText", false), ("NoThing", false), ("NoWish", false), ("NotEmpty", false), ("Strayed", false), ("Taken", false), ("TooMuch", false), ("ValueError", true)])], [], [("Hall", ["blind", "marks"])], [m_Hall_init, m_Hall_rows, m_Hall_is_blind, m_Hall_there]⟩
abbrev prg : Program := PySem.Challenge.pw_renamehall_k21_no_hall
theorem gm_Hall_init : GoodM prg T G m_Hall_init d_Hall_init := ⟨rfl, ⟨rfl, rfl, rfl, by decide +kernel, rfl, by decide +kernel, by decide +kernel⟩, rfl, rfl, by decide +kernel, by decide +kernel, fun h => absurd rfl h, fun h => absurd h (List.cons_ne_nil _ _), fun _ j hj _ _ _ _ _ _ _ us its hu hi => match j, hj, us, its, hu, hi with | 0, _, [_, _], [_], _, _ => ⟨_, rfl, rfl⟩ | 1, _, [_, _, _], [_], _, _ => ⟨_, rfl, rfl⟩, by decide +kernel, fun k => by kernel_rfl⟩
theorem gm_Hall_rows : GoodM prg T G m_Hall_rows d_Hall_rows := ⟨rfl, ⟨rfl, rfl, rfl, by decide +kernel, rfl, by decide +kernel, by decide +kernel⟩, rfl, rfl, by decide +kernel, by decide +kernel, fun _ => rfl, fun _ _ _ _ _ _ _ us hl => match us, hl with | [_], _ => rfl, fun h => absurd rfl h, by decide +kernel, fun k => by kernel_rfl⟩
theorem gm_Hall_is_blind : GoodM prg T G m_Hall_is_blind d_Hall_is_blind := ⟨rfl, ⟨rfl, rfl, rfl, by decide +kernel, rfl, by decide +kernel, by decide +kernel⟩, rfl, rfl, by decide +kernel, by decide +kernel, fun _ => rfl, fun _ _ _ _ _ _ _ us hl => match us, hl with | [_], _ => rfl, fun h => absurd rfl h, by decide +kernel, fun k => by kernel_rfl⟩
theorem gm_Hall_there : GoodM prg T G m_Hall_there d_Hall_there := ⟨rfl, ⟨rfl, rfl, rfl, by decide +kernel, rfl, by decide +kernel, by decide +kernel⟩, rfl, rfl, by decide +kernel, by decide +kernel, fun _ => rfl, fun _ _ _ _ _ _ _ us hl => match us, hl with | [_, _], _ => rfl, fun h => absurd rfl h, by decide +kernel, fun k => by kernel_rfl⟩
theorem g_alike : Good prg T G (1, 27) d_alike := ⟨rfl, ⟨rfl, rfl, rfl, by decide +kernel, rfl, by decide +kernel, by decide +kernel⟩, rfl, fun _ _ _ _ _ _ us hl => match us, hl with | [_, _], _ => rfl, fun k => by kernel_rfl⟩
theorem g_law_draw : Good prg T G (2, 31) d_law_draw := ⟨rfl, ⟨rfl, rfl, rfl, by decide +kernel, rfl, by decide +kernel, by decide +kernel⟩, rfl, fun _ _ _ _ _ _ us hl => match us, hl with | [_, _], _ => rfl, fun k => by kernel_rfl⟩
theorem g_law_name : Good prg T G (89, 32) d_law_name := ⟨rfl, ⟨rfl, rfl, rfl, by decide +kernel, rfl, by decide +kernel, by decide +kernel⟩, rfl, fun _ _ _ _ _ _ us hl => match us, hl with | [_], _ => rfl, fun k => by kernel_rfl⟩
theorem g_law_folded : Good prg T G (90, 33) d_law_folded := ⟨rfl, ⟨rfl, rfl, rfl, by decide +kernel, rfl, by decide +kernel, by decide +kernel⟩, rfl, fun _ _ _ _ _ _ us hl => match us, hl with | [_, _], _ => rfl, fun k => by kernel_rfl⟩
theorem g_law_rows : Good prg T G (91, 34) d_law_rows := ⟨rfl, ⟨rfl, rfl, rfl, by decide +kernel, rfl, by decide +kernel, by decide +kernel⟩, rfl, fun _ _ _ _ _ _ us hl => match us, hl with | [_, _, _], _ => rfl, fun k => by kernel_rfl⟩
theorem g_law_mixed : Good prg T G (92, 35) d_law_mixed := ⟨rfl, ⟨rfl, rfl, rfl, by decide +kernel, rfl, by decide +kernel, by decide +kernel⟩, rfl, fun _ _ _ _ _ _ us hl => match us, hl with | [_, _], _ => rfl, fun k => by kernel_rfl⟩
theorem g_law_rows_right_4 : Good prg T G (529, 36) d_law_rows_right_4 := ⟨rfl, ⟨rfl, rfl, rfl, by decide +kernel, rfl, by decide +kernel, by decide +kernel⟩, rfl, fun _ _ _ _ _ _ us hl => match us, hl with | [_, _], _ => rfl, fun k => by kernel_rfl⟩
theorem g_law_any_rows : Good prg T G (97, 37) d_law_any_rows := ⟨rfl, ⟨rfl, rfl, rfl, by decide +kernel, rfl, by decide +kernel, by decide +kernel⟩, rfl, fun _ _ _ _ _ _ us hl => match us, hl with | [_], _ => rfl, fun k => by kernel_rfl⟩
theorem g_law_turned_name : Good prg T G (98, 38) d_law_turned_name := ⟨rfl, ⟨rfl, rfl, rfl, by decide +kernel, rfl, by decide +kernel, by decide +kernel⟩, rfl, fun _ _ _ _ _ _ us hl => match us, hl with | [_], _ => rfl, fun k => by kernel_rfl⟩
theorem g_law_spoilt_2 : Good prg T G (99, 39) d_law_spoilt_2 := ⟨rfl, ⟨rfl, rfl, rfl, by decide +kernel, rfl, by decide +kernel, by decide +kernel⟩, rfl, fun _ _ _ _ _ _ us hl => match us, hl with | [_, _], _ => rfl, fun k => by kernel_rfl⟩
theorem g_law_due_2 : Good prg T G (100, 40) d_law_due_2 := ⟨rfl, ⟨rfl, rfl, rfl, by decide +kernel, rfl, by decide +kernel, by decide +kernel⟩, rfl, fun _ _ _ _ _ _ us hl => match us, hl with | [_, _], _ => rfl, fun k => by kernel_rfl⟩
theorem g_law_told_12 : Good prg T G (537, 41) d_law_told_12 := ⟨rfl, ⟨rfl, rfl, rfl, by decide +kernel, rfl, by decide +kernel, by decide +kernel⟩, rfl, fun _ _ _ _ _ _ us hl => match us, hl with | [_, _], _ => rfl, fun k => by kernel_rfl⟩
theorem g_law_one_29 : Good prg T G (538, 42) d_law_one_29 := ⟨rfl, ⟨rfl, rfl, rfl, by decide +kernel, rfl, by decide +kernel, by decide +kernel⟩, rfl, fun _ _ _ _ _ _ us hl => match us, hl with | [_], _ => rfl, fun k => by kernel_rfl⟩
theorem g_law_87 : Good prg T G (539, 43) d_law_87 := ⟨rfl, ⟨rfl, rfl, rfl, by decide +kernel, rfl, by decide +kernel, by decide +kernel⟩, rfl, fun _ _ _ _ _ _ us hl => match us, hl with | [_], _ => rfl, fun k => by kernel_rfl⟩
theorem gx_0 : x_0.fs ≠ [] → GoodX prg x_0 := fun _ => ⟨⟨rfl, rfl, rfl, by decide +kernel, rfl, by decide +kernel, by decide +kernel⟩, rfl, by decide, fun _ _ _ _ _ _ us hl => match us, hl with | [_, _], _ => rfl, by kernel_rfl⟩
theorem goodx : ∀ x, x ∈ xs → x.fs ≠ [] → GoodX prg x := List.forall_mem_cons.mpr ⟨gx_0, List.forall_mem_nil _⟩
theorem good : ∀ p, p ∈ tab → ∃ d, Good prg T G p d := List.forall_mem_cons.mpr ⟨⟨_, g_alike⟩, List.forall_mem_cons.mpr ⟨⟨_, g_law_draw⟩, List.forall_mem_cons.mpr ⟨⟨_, g_law_name⟩, List.forall_mem_cons.mpr ⟨⟨_, g_law_folded⟩, List.forall_mem_cons.mpr ⟨⟨_, g_law_rows⟩, List.forall_mem_cons.mpr ⟨⟨_, g_law_mixed⟩, List.forall_mem_cons.mpr ⟨⟨_, g_law_rows_right_4⟩, List.forall_mem_cons.mpr ⟨⟨_, g_law_any_rows⟩, List.forall_mem_cons.mpr ⟨⟨_, g_law_turned_name⟩, List.forall_mem_cons.mpr ⟨⟨_, g_law_spoilt_2⟩, List.forall_mem_cons.mpr ⟨⟨_, g_law_due_2⟩, List.forall_mem_cons.mpr ⟨⟨_, g_law_told_12⟩, List.forall_mem_cons.mpr ⟨⟨_, g_law_one_29⟩, List.forall_mem_cons.mpr ⟨⟨_, g_law_87⟩, List.forall_mem_nil _⟩⟩⟩⟩⟩⟩⟩⟩⟩⟩⟩⟩⟩⟩
theorem goodm : ∀ m, m ∈ T.md → ∃ d, GoodM prg T G m d := List.forall_mem_cons.mpr ⟨⟨_, gm_Hall_init⟩, List.forall_mem_cons.mpr ⟨⟨_, gm_Hall_rows⟩, List.forall_mem_cons.mpr ⟨⟨_, gm_Hall_is_blind⟩, List.forall_mem_cons.mpr ⟨⟨_, gm_Hall_there⟩, List.forall_mem_nil _⟩⟩⟩⟩
end RL

set_option Elab.async false
set_option linter.all false
set_option maxRecDepth 100000
set_option maxHeartbeats 0
namespace RL
open PySem PySem.Spec PyProof.Rows L2 RH
abbrev R : PySem.W.OpenRow := PySem.W.OpenLaw.row PySem.Challenge.rw_renamehall_k21_no_hall
def fns : List He.DefD := fnOf prg G tab xs T.md
def fas : List He.Fa := faOf T G tab xs
abbrev hk : PySem.W.Hook := hookM 6 fas fns xs T
def ob (s : PySem.W.SharedT) : He.AlD := obsMG 6 fas fns xs T (HandSHeadRun.getT s)
theorem ob_eq (s : PySem.W.SharedT) : ob s = hk.obs s.abs := obsMG_eq (HandSHeadRun.getT_eq s)
def loose : List Str := "_wall" :: "HallError" :: "NoPattern" :: "NoTemplate" :: "NoRule" :: "NoHall" :: "NoThing" :: "NoDrawer" :: "Taken" :: "Fixed" :: "NotEmpty" :: "Full" :: "NoWish" :: "Meets" :: "NoPlace" :: "Broken" :: "NoBook" :: "Strayed" :: "NoSame" :: "TooMuch" :: "NoText" :: "NoLine" :: "Busy" :: "NoDoer" :: "NoRules" :: "alike" :: "Hall" :: "_law_draw" :: "_law_name" :: "_law_folded" :: "_law_rows" :: "_law_mixed" :: "_law_rows_right" :: "_law_any_rows" :: "_law_turned_name" :: "_law_spoilt" :: "_law_due" :: "_law_told" :: "_law_one" :: []
theorem run (w : World) : HandSHeadRun.RunEq R (PySem.W.view R.prog [43]) hk ob 14000 loose w := by
  intro os
  kernel_rfl
end RL
open PySem PySem.W PySem.Calls PyProof.Rows L2 RH
theorem PySem.Challenge.cw_renamehall_k21_no_hall_holds : PySem.Challenge.rw_renamehall_k21_no_hall.Holds := by
  w_on; o_law
  refine HandSHeadRun.head_any (r := RL.R) (q := view RL.R.prog [43]) (H := RL.hk) (ob := RL.ob) (M := 14000) (loose := RL.loose) (d := HandSHeadRun.topDef RL.R.prog 43) (kwd := []) RL.ob_eq
    (by kernel_rfl) (fun s => by kernel_rfl) RL.run (by kernel_rfl) (by kernel_rfl) (by kernel_rfl) (by rfl) (by first | assumption | decide +kernel) (by decide +kernel) ⟨rfl, rfl, rfl, rfl, rfl, by decide +kernel⟩ ?hw ?hc
  case hw => w_witness2
  case hc =>
    exact law_walk (l := PySem.Challenge.rw_renamehall_k21_no_hall) (n := 63) (k := 40) (p := (539, 43)) (x := "_law_script") (e := RL.d_law_87) rfl (by decide) (by kernel_rfl) ⟨rfl, by decide, by decide⟩ (by decide) RL.g_law_87 (by kernel_rfl) rfl rfl rfl rfl (by decide +kernel) (by decide +kernel) (by kernel_rfl) RL.good RL.goodm RL.goodx RL.law_run
