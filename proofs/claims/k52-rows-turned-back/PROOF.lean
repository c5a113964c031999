import PyProof.Rows.All
import Wide.All
import OpenK.AllK
import Wide.FinOn
import HandS.ForMost
import HandS.ForExc
import HandS.Deep
import HandS.TupAny
import HandS.TupLe
import HandS.IsInst
import HandS.StrMore
import HandS.Style
import HandS.Replace
import HandS.CallSlots
import HandS.More
import HandS.Defaults
import KE.KStateDown
import HandS.Base
import HandS.Call
import HandS.Ends
import HandS.Words
import HandS.WordsExc
import HandS.Head0
import HandS.Head1
import HandS.Head2
import HandS.HeadEnd
import HandS.HeadHook1
import HandS.HeadHook2
import PySem.Challenge.RW_renamehall_k52_rows_turned_back
set_option Elab.async false
set_option linter.all false
set_option maxRecDepth 100000
/-! RHCore: pure data D, its place in an abstract heap (Rp), the frame (Ext), the state of a body (Bd). -/
namespace RH
open PySem PySem.Spec PyProof.Rows L2

/-- pure data; ptr n: the n-th object of the store; scr: the script -/
inductive D where
  | non | bl (b : Bool) | int (i : Int) | str (l : List Nat) | tup (ds : List D) | lst (ds : List D) | ptr (n : Nat) | scr (ns : List Int)
/-- a slot: unknown, shared data, an owned list -/
inductive Cell where
  | u | sh (d : D) | ow (ds : List D)
/-- the store: lists that are shared and changed (the feed) -/
abbrev Store := List (List D)
/-- an exception: its class's number, its fields -/
structure Exn where
  cls : Nat
  args : List D
inductive Res (α : Type) where
  | ok (a : α) (S : Store)
  | err (x : Exn) (S : Store)
  | bad

/-! ### == -/
mutual
def eqb : D → D → Bool
  | .non, .non => true
  | .bl a, .bl b => a == b
  | .bl a, .int j => (if a then 1 else 0) == j
  | .int i, .bl b => i == (if b then 1 else 0)
  | .int i, .int j => i == j
  | .str x, .str y => x == y
  | .lst xs, .lst ys => eqbs xs ys
  | .tup xs, .tup ys => eqbs xs ys
  | _, _ => false
def eqbs : List D → List D → Bool
  | [], [] => true
  | x :: xs, y :: ys => eqb x y && eqbs xs ys
  | _, _ => false
end
mutual
def toPy : D → PyData
  | .non => .none
  | .bl b => .bool b
  | .int i => .int i
  | .str l => .str ⟨l.toArray⟩
  | .tup ds => .tuple (toPys ds)
  | .lst ds => .list (toPys ds)
  | .ptr _ => .none
  | .scr _ => .none
def toPys : List D → List PyData
  | [] => []
  | d :: ds => toPy d :: toPys ds
end
mutual
/-- no pointer within -/
def pln : D → Bool
  | .tup ds => plns ds
  | .lst ds => plns ds
  | .ptr _ => false
  | .scr _ => false
  | _ => true
def plns : List D → Bool
  | [] => true
  | d :: ds => pln d && plns ds
end
mutual
def dep : D → Nat
  | .tup ds => deps ds + 1
  | .lst ds => deps ds + 1
  | _ => 0
def deps : List D → Nat
  | [] => 0
  | d :: ds => max (dep d) (deps ds)
end
/-- can be held against others -/
def okD (d : D) : Bool := pln d && decide (dep d ≤ 60)

theorem beq_str (x y : List Nat) : ((⟨x.toArray⟩ : Str) == ⟨y.toArray⟩) = (x == y) := by
  by_cases h : x = y
  · subst h; simp
  · have h1 : (⟨x.toArray⟩ : Str) ≠ ⟨y.toArray⟩ := fun e => h (by simpa using congrArg (fun z : Str => z.cps.toList) e)
    rw [beq_eq_false_iff_ne.mpr h, beq_eq_false_iff_ne.mpr h1]
mutual
theorem eqv_toPy : ∀ d e : D, pln d = true → pln e = true → PyData.eqv (toPy d) (toPy e) = eqb d e
  | .tup xs, .tup ys, h, h' => by simp only [toPy, PyData.eqv, eqb]; exact eqvs_toPys xs ys (by simpa [pln] using h) (by simpa [pln] using h')
  | .lst xs, .lst ys, h, h' => by simp only [toPy, PyData.eqv, eqb]; exact eqvs_toPys xs ys (by simpa [pln] using h) (by simpa [pln] using h')
  | .str x, .str y, _, _ => by simp only [toPy, PyData.eqv, eqb]; exact beq_str x y
  | .non, e, _, h' => by cases e <;> first | rfl | (simp [pln] at h')
  | .bl b, e, _, h' => by cases e <;> first | rfl | (simp [pln] at h')
  | .int b, e, _, h' => by cases e <;> first | rfl | (simp [pln] at h')
  | .str b, .non, _, _ => rfl
  | .str b, .bl _, _, _ => rfl
  | .str b, .int _, _, _ => rfl
  | .str b, .tup _, _, _ => rfl
  | .str b, .lst _, _, _ => rfl
  | .tup b, .non, _, _ => rfl
  | .tup b, .bl _, _, _ => rfl
  | .tup b, .int _, _, _ => rfl
  | .tup b, .str _, _, _ => rfl
  | .tup b, .lst _, _, _ => rfl
  | .lst b, .non, _, _ => rfl
  | .lst b, .bl _, _, _ => rfl
  | .lst b, .int _, _, _ => rfl
  | .lst b, .str _, _, _ => rfl
  | .lst b, .tup _, _, _ => rfl
  | .ptr _, _, h, _ => by simp [pln] at h
  | .str _, .ptr _, _, h => by simp [pln] at h
  | .tup _, .ptr _, _, h => by simp [pln] at h
  | .lst _, .ptr _, _, h => by simp [pln] at h
  | .scr _, _, h, _ => by simp [pln] at h
  | .str _, .scr _, _, h => by simp [pln] at h
  | .tup _, .scr _, _, h => by simp [pln] at h
  | .lst _, .scr _, _, h => by simp [pln] at h
theorem eqvs_toPys : ∀ d e : List D, plns d = true → plns e = true → PyData.eqvAll (toPys d) (toPys e) = eqbs d e
  | [], [], _, _ => rfl
  | [], _ :: _, _, _ => rfl
  | _ :: _, [], _, _ => rfl
  | x :: xs, y :: ys, h, h' => by
    simp only [plns, Bool.and_eq_true] at h h'
    simp only [toPys, PyData.eqvAll, eqbs]
    rw [eqv_toPy x y h.1 h'.1, eqvs_toPys xs ys h.2 h'.2]
end
mutual
theorem dep_toPy : ∀ d : D, (toPy d).depth = dep d
  | .non => rfl
  | .bl _ => rfl
  | .int _ => rfl
  | .str _ => rfl
  | .ptr _ => rfl
  | .scr _ => rfl
  | .tup ds => by simp only [toPy, PyData.depth, dep]; rw [deps_toPys ds]
  | .lst ds => by simp only [toPy, PyData.depth, dep]; rw [deps_toPys ds]
theorem deps_toPys : ∀ ds : List D, PyData.depthAll (toPys ds) = deps ds
  | [] => rfl
  | d :: ds => by simp only [toPys, PyData.depthAll, deps, dep_toPy d, deps_toPys ds]
end
theorem okD_pln {d : D} (h : okD d = true) : pln d = true := by
  simp only [okD, Bool.and_eq_true] at h
  exact h.1

/-! ### data in the heap -/
/-- signs of a text: ASCII alone here -/
def Asc (l : List Nat) : Prop := ∀ c, c ∈ l → c < 128
def ascB (l : List Nat) : Bool := l.all fun c => decide (c < 128)
theorem asc_of {l : List Nat} (h : ascB l = true) : Asc l := fun c hc => of_decide_eq_true (List.all_eq_true.mp h c hc)
theorem asc_strOk {l : List Nat} (h : Asc l) : PyData.strOk ⟨l.toArray⟩ = true := by
  simp only [PyData.strOk, List.all_toArray, List.all_eq_true, decide_eq_true_eq]
  intro c hc
  have := h c hc
  omega
/-- the list that nothing changes -/
def SqF (K : PySem.W.Frag) (H : Hp) (a : Addr) (xs : List V) : Prop := (∃ o, H a = some (.frz o (.lst xs))) ∨ SqL K (fun _ => none) a xs
theorem SqF.sq {K : PySem.W.Frag} {H : Hp} {a : Addr} {xs : List V} (h : SqF K H a xs) : SqL K H a xs := by
  rcases h with ⟨o, h⟩ | h
  · exact .inl (.inr ⟨o, h⟩)
  · rcases h with (h | ⟨o, h⟩) | h
    · cases h
    · cases h
    · exact .inr h
section
variable (K : PySem.W.Frag) (μ : List Addr) (W : Addr → Prop) (H : Hp)
mutual
/-- v is d in H; its lists stand outside of W and of the store μ -/
inductive Rp : D → V → Prop
  | non : Rp .non .non
  | bl (b : Bool) : Rp (.bl b) (.bl b)
  | int (i : Int) : Rp (.int i) (.int i)
  | str {l : List Nat} : Asc l → Rp (.str l) (.str ⟨l.toArray⟩)
  | tup {a : Addr} {vs : List V} {ds : List D} : SqT K H a vs → Rps ds vs → Rp (.tup ds) (.ref a)
  | lst {a : Addr} {vs : List V} {ds : List D} : H a = some (.lst vs) → ¬ W a → a ∉ μ → Rps ds vs → Rp (.lst ds) (.ref a)
  | ptr {a : Addr} {n : Nat} : μ[n]? = some a → Rp (.ptr n) (.ref a)
  | scr {a : Addr} {ns : List Int} : SqF K H a (ns.map V.int) → Rp (.scr ns) (.ref a)
inductive Rps : List D → List V → Prop
  | nil : Rps [] []
  | cons {d : D} {v : V} {ds : List D} {vs : List V} : Rp d v → Rps ds vs → Rps (d :: ds) (v :: vs)
end
end
/-- what stays whatever happens -/
def Im : HO → Prop
  | .tup _ => True
  | .frz _ _ => True
  | _ => False
/-- all that is tracked but the store's objects stays -/
def Ext (μ : List Addr) (H H' : Hp) : Prop := ∀ b o, H b = some o → (b ∉ μ ∨ Im o) → H' b = some o
/-- the store's objects: those that were, and new ones -/
def Gr (μ : List Addr) (H : Hp) (μ' : List Addr) : Prop := (∃ more, μ' = μ ++ more) ∧ ∀ b, b ∈ μ' → b ∉ μ → H b = none

theorem Ext.refl {μ : List Addr} {H : Hp} : Ext μ H H := fun _ _ h _ => h
theorem Gr.refl {μ : List Addr} {H : Hp} : Gr μ H μ := ⟨⟨[], by simp⟩, fun b h h' => absurd h h'⟩
theorem Gr.sub {μ μ' : List Addr} {H : Hp} (g : Gr μ H μ') : ∀ b, b ∈ μ → b ∈ μ' := fun b h => by
  obtain ⟨⟨m, rfl⟩, _⟩ := g
  exact List.mem_append_left _ h
theorem Ext.trans {μ μ' : List Addr} {H H1 H2 : Hp} (a : Ext μ H H1) (g : Gr μ H μ') (b : Ext μ' H1 H2) : Ext μ H H2 := fun c o h q => by
  have h1 := a c o h q
  refine b c o h1 ?_
  rcases q with q | q
  · by_cases hc : c ∈ μ'
    · have := g.2 c hc q
      rw [h] at this; cases this
    · exact .inl hc
  · exact .inr q
theorem Ext.free {μ : List Addr} {H H' : Hp} (a : Ext μ H H') {b : Addr} (hb : b ∉ μ) (h : H' b = none) : H b = none := by
  cases q : H b with
  | none => rfl
  | some o => rw [a b o q (.inl hb)] at h; cases h
theorem Gr.trans {μ μ' μ'' : List Addr} {H H1 : Hp} (g : Gr μ H μ') (a : Ext μ H H1) (g' : Gr μ' H1 μ'') : Gr μ H μ'' := by
  obtain ⟨⟨m, rfl⟩, h1⟩ := g
  obtain ⟨⟨m', rfl⟩, h2⟩ := g'
  refine ⟨⟨m ++ m', by simp⟩, fun b hb hn => ?_⟩
  by_cases hc : b ∈ μ ++ m
  · exact h1 b hc hn
  · exact a.free hn (h2 b hb hc)
theorem Ext.of_same {μ : List Addr} {H H' : Hp} (h : Same H H') : Ext μ H H' := fun b o e _ => h b o e
theorem same_new {H : Hp} {p : Addr} {o : HO} (h : H p = none) : Same H (upd H p o) := fun b x e => by
  rw [upd_ne (ne_of_none e h)]
  exact e
theorem Ext.new {μ : List Addr} {H : Hp} {p : Addr} {o : HO} (h : H p = none) : Ext μ H (upd H p o) := .of_same (same_new h)

section
variable {K : PySem.W.Frag} {μ μ' : List Addr} {W W' : Addr → Prop} {H H' : Hp}
theorem SqT.ext {a : Addr} {vs : List V} (h : SqT K H a vs) (x : Ext μ H H') : SqT K H' a vs := by
  rcases h with (h | ⟨o, h⟩) | h
  · exact .inl (.inl (x _ _ h (.inr trivial)))
  · exact .inl (.inr ⟨o, x _ _ h (.inr trivial)⟩)
  · exact .inr h
theorem Rd.ext {a : Addr} {u : HO} (h : Rd H a u) (x : Ext μ H H') (ha : a ∉ μ) : Rd H' a u := by
  rcases h with h | ⟨o, h⟩
  · exact .inl (x _ _ h (.inl ha))
  · exact .inr ⟨o, x _ _ h (.inl ha)⟩
theorem rd_there {a : Addr} {u : HO} (h : Rd H a u) : H a ≠ none := by
  rcases h with h | ⟨o, h⟩ <;> (rw [h]; intro z; cases z)
mutual
theorem Rp.ext (x : Ext μ H H') (g : Gr μ H μ') (w : ∀ b, H b ≠ none → W' b → W b) : ∀ {d : D} {v : V}, Rp K μ W H d v → Rp K μ' W' H' d v
  | _, _, .non => .non
  | _, _, .bl b => .bl b
  | _, _, .int b => .int b
  | _, _, .str b => .str b
  | _, _, .tup h r => .tup (SqT.ext h x) (Rps.ext x g w r)
  | _, _, .lst h nw nm r => .lst (x _ _ h (.inl nm)) (fun z => nw (w _ (rd_there (.inl h)) z)) (fun z => rd_there (.inl h) (g.2 _ z nm)) (Rps.ext x g w r)
  | _, _, .scr h => .scr (h.imp (fun ⟨o, h⟩ => ⟨o, x _ _ h (.inr trivial)⟩) id)
  | _, _, .ptr h => .ptr (by
      obtain ⟨⟨m, rfl⟩, _⟩ := g
      rw [List.getElem?_append_left (List.getElem?_eq_some_iff.mp h).1]
      exact h)
theorem Rps.ext (x : Ext μ H H') (g : Gr μ H μ') (w : ∀ b, H b ≠ none → W' b → W b) : ∀ {ds : List D} {vs : List V}, Rps K μ W H ds vs → Rps K μ' W' H' ds vs
  | _, _, .nil => .nil
  | _, _, .cons h r => .cons (Rp.ext x g w h) (Rps.ext x g w r)
end
theorem Rp.ext' {d : D} {v : V} (h : Rp K μ W H d v) (x : Ext μ H H') (g : Gr μ H μ') : Rp K μ' W H' d v := Rp.ext x g (fun _ _ z => z) h
theorem Rps.ext' {d : List D} {v : List V} (h : Rps K μ W H d v) (x : Ext μ H H') (g : Gr μ H μ') : Rps K μ' W H' d v := Rps.ext x g (fun _ _ z => z) h
theorem Rps.length : ∀ {ds : List D} {vs : List V}, Rps K μ W H ds vs → ds.length = vs.length
  | _, _, .nil => rfl
  | _, _, .cons _ r => congrArg (· + 1) r.length
theorem Rps.get : ∀ {ds : List D} {vs : List V} {i : Nat} {d : D}, Rps K μ W H ds vs → ds[i]? = some d → ∃ v, vs[i]? = some v ∧ Rp K μ W H d v
  | _, _, _, _, .nil, e => by simp at e
  | _, _, 0, _, .cons h _, e => by simp at e; subst e; exact ⟨_, rfl, h⟩
  | _, _, i + 1, d, .cons _ r, e => by
    obtain ⟨v, h1, h2⟩ := Rps.get (i := i) (d := d) r (by simpa using e)
    exact ⟨v, by simpa using h1, h2⟩
theorem Rps.getV : ∀ {ds : List D} {vs : List V} {i : Nat} {v : V}, Rps K μ W H ds vs → vs[i]? = some v → ∃ d, ds[i]? = some d ∧ Rp K μ W H d v
  | _, _, _, _, .nil, e => by simp at e
  | _, _, 0, _, .cons h _, e => by simp at e; subst e; exact ⟨_, rfl, h⟩
  | _, _, i + 1, v, .cons _ r, e => by
    obtain ⟨d, h1, h2⟩ := Rps.getV (i := i) (v := v) r (by simpa using e)
    exact ⟨d, by simpa using h1, h2⟩
theorem Rps.append : ∀ {ds es : List D} {vs us : List V}, Rps K μ W H ds vs → Rps K μ W H es us → Rps K μ W H (ds ++ es) (vs ++ us)
  | _, _, _, _, .nil, s => s
  | _, _, _, _, .cons h r, s => .cons h (Rps.append r s)
theorem Rps.drop : ∀ {ds : List D} {vs : List V} (n : Nat), Rps K μ W H ds vs → Rps K μ W H (ds.drop n) (vs.drop n)
  | _, _, 0, r => r
  | _, _, _ + 1, .nil => .nil
  | _, _, n + 1, .cons _ r => Rps.drop n r
theorem Rps.take : ∀ {ds : List D} {vs : List V} (n : Nat), Rps K μ W H ds vs → Rps K μ W H (ds.take n) (vs.take n)
  | _, _, 0, _ => .nil
  | _, _, _ + 1, .nil => .nil
  | _, _, n + 1, .cons h r => .cons h (Rps.take n r)
theorem Rps.set : ∀ {ds : List D} {vs : List V} {d : D} {v : V} (i : Nat), Rps K μ W H ds vs → Rp K μ W H d v → Rps K μ W H (ds.set i d) (vs.set i v)
  | _, _, _, _, _, .nil, _ => .nil
  | _, _, _, _, 0, .cons _ r, h => .cons h r
  | _, _, _, _, i + 1, .cons q r, h => .cons q (Rps.set i r h)
theorem Rps.reverse : ∀ {ds : List D} {vs : List V}, Rps K μ W H ds vs → Rps K μ W H ds.reverse vs.reverse
  | _, _, .nil => .nil
  | _, _, .cons h r => by
    rw [List.reverse_cons, List.reverse_cons]
    exact (Rps.reverse r).append (.cons h .nil)
mutual
theorem Rp.dp : ∀ {d : D} {v : V}, Rp K μ W H d v → pln d = true → Dp K H v (toPy d)
  | _, _, .non, _ => by simp only [toPy]; exact .non
  | _, _, .bl b, _ => by simp only [toPy]; exact .bl b
  | _, _, .int b, _ => by simp only [toPy]; exact .int b
  | _, _, .str b, _ => by simp only [toPy]; exact .str _
  | _, _, .tup h r, p => by simp only [toPy]; exact .tup h (Rps.dp r (by simpa [pln] using p))
  | _, _, .lst h _ _ r, p => by simp only [toPy]; exact .lst (.inl (.inl h)) (Rps.dp r (by simpa [pln] using p))
  | _, _, .ptr _, p => by simp [pln] at p
  | _, _, .scr _, p => by simp [pln] at p
theorem Rps.dp : ∀ {ds : List D} {vs : List V}, Rps K μ W H ds vs → plns ds = true → DpAll K H vs (toPys ds)
  | _, _, .nil, _ => by simp only [toPys]; exact .nil
  | _, _, .cons h r, p => by
    simp only [plns, Bool.and_eq_true] at p
    simp only [toPys]
    exact .cons (Rp.dp h p.1) (Rps.dp r p.2)
end
mutual
theorem Rp.lay : ∀ {d : D} {v : V}, Rp K μ W H d v → (toPy d).canLay0 = true
  | _, _, .non => by simp [toPy, PyData.canLay0]
  | _, _, .bl _ => by simp [toPy, PyData.canLay0]
  | _, _, .int _ => by simp [toPy, PyData.canLay0]
  | _, _, .ptr _ => by simp [toPy, PyData.canLay0]
  | _, _, .scr _ => by simp [toPy, PyData.canLay0]
  | _, _, .str h => by simp only [toPy, PyData.canLay0]; exact asc_strOk h
  | _, _, .tup _ r => by simp only [toPy, PyData.canLay0]; exact Rps.lay r
  | _, _, .lst _ _ _ r => by simp only [toPy, PyData.canLay0]; exact Rps.lay r
theorem Rps.lay : ∀ {ds : List D} {vs : List V}, Rps K μ W H ds vs → PyData.canLayAll0 (toPys ds) = true
  | _, _, .nil => by simp [toPys, PyData.canLayAll0]
  | _, _, .cons h r => by simp only [toPys, PyData.canLayAll0, Rp.lay h, Rps.lay r, Bool.and_self]
end
theorem Rp.shaped {d : D} {v : V} (r : Rp K μ W H d v) (h : okD d = true) : SeqAt.shaped (toPy d) = true := by
  simp only [okD, Bool.and_eq_true, decide_eq_true_eq] at h
  simp only [SeqAt.shaped, r.lay, dep_toPy, Bool.true_and, decide_eq_true_eq]
  omega
end
/-- the store's objects stand -/
structure SOk (K : PySem.W.Frag) (μ : List Addr) (W : Addr → Prop) (H : Hp) (S : Store) : Prop where
  len : μ.length = S.length
  nd : μ.Nodup
  nw : ∀ b, b ∈ μ → ¬ W b
  at_ : ∀ (n : Nat) (a : Addr) (ds : List D), μ[n]? = some a → S[n]? = some ds → ∃ vs, H a = some (.lst vs) ∧ Rps K μ W H ds vs
theorem SOk.keep {K : PySem.W.Frag} {μ : List Addr} {W W' : Addr → Prop} {H H' : Hp} {S : Store} (s : SOk K μ W H S) (k : ∀ b o, H b = some o → b ∈ μ → H' b = some o) (x : Ext μ H H') (w : ∀ b, H b ≠ none → W' b → W b) : SOk K μ W' H' S :=
  ⟨s.len, s.nd, fun b h z => by
    obtain ⟨n, hn⟩ := List.mem_iff_getElem?.mp h
    have hl : n < S.length := by rw [← s.len]; exact (List.getElem?_eq_some_iff.mp hn).1
    obtain ⟨vs, e, _⟩ := s.at_ n b _ hn (List.getElem?_eq_getElem hl)
    exact s.nw b h (w b (by rw [e]; intro q; cases q) z), fun n a ds h1 h2 => by
    obtain ⟨vs, e, r⟩ := s.at_ n a ds h1 h2
    exact ⟨vs, k a _ e (List.mem_of_getElem? h1), Rps.ext x .refl w r⟩⟩
theorem SOk.same {K : PySem.W.Frag} {μ : List Addr} {W : Addr → Prop} {H H' : Hp} {S : Store} (s : SOk K μ W H S) (k : Same H H') : SOk K μ W H' S :=
  s.keep (fun b o h _ => k b o h) (.of_same k) (fun _ _ z => z)
section
variable {K : PySem.W.Frag} {μ : List Addr} {S : Store} {H : Hp}
theorem Rp.less {W W' : Addr → Prop} {d : D} {v : V} (h : Rp K μ W H d v) (w : ∀ b, W' b → W b) : Rp K μ W' H d v := Rp.ext .refl .refl (fun b _ z => w b z) h
theorem Rps.less {W W' : Addr → Prop} {d : List D} {v : List V} (h : Rps K μ W H d v) (w : ∀ b, W' b → W b) : Rps K μ W' H d v := Rps.ext .refl .refl (fun b _ z => w b z) h
theorem SOk.less {W W' : Addr → Prop} (h : SOk K μ W H S) (w : ∀ b, W' b → W b) : SOk K μ W' H S := h.keep (fun _ _ h _ => h) .refl (fun b _ z => w b z)
end
/-- the addresses that nothing shared holds: those of W0 and the owned slots -/
def Wo (W0 : Addr → Prop) (os : Nat → Option Addr) : Addr → Prop := fun b => W0 b ∨ ∃ i, os i = some b
/-- one slot -/
def SlotOk (K : PySem.W.Frag) (μ : List Addr) (W : Addr → Prop) (H : Hp) (o : Option Addr) (x : Option (Option V)) : Cell → Prop
  | .u => o = none
  | .sh d => o = none ∧ ∃ v, x = some (some v) ∧ Rp K μ W H d v
  | .ow ds => ∃ a vs, o = some a ∧ x = some (some (.ref a)) ∧ H a = some (.lst vs) ∧ Rps K μ W H ds vs
/-- what a body keeps in sight: the addresses that its callers own (W0: no argument holds them; Ws: nor does the store), the store and the heap at its entry, data that stays -/
structure Fx where
  W0 : Addr → Prop
  Ws : Addr → Prop
  μ0 : List Addr
  H0 : Hp
  pn : List (D × V)
/-- the state of a body -/
structure Bd (K : PySem.W.Frag) (F : Fx) (μ : List Addr) (S : Store) (os : Nat → Option Addr) (σ : L2.St) (ρ : List Cell) (H : Hp) : Prop where
  sub : ∀ b, F.W0 b → F.Ws b
  dom : ∀ b, F.Ws b → H b ≠ none
  st : SOk K μ (Wo F.Ws os) H S
  len : σ.length = ρ.length
  out : ∀ i, ρ.length ≤ i → os i = none
  inj : ∀ i j a, os i = some a → os j = some a → i = j
  ow0 : ∀ i a, os i = some a → ¬ F.Ws a
  own : ∀ i a, os i = some a → F.H0 a = none
  ext : Ext F.μ0 F.H0 H
  gr : Gr F.μ0 F.H0 μ
  pin : ∀ p, p ∈ F.pn → Rp K μ (Wo F.W0 os) H p.1 p.2
  slot : ∀ i c, ρ[i]? = some c → SlotOk K μ (Wo F.W0 os) H (os i) σ[i]? c
section
variable {K : PySem.W.Frag} {F : Fx} {μ μ' : List Addr} {S S' : Store} {os : Nat → Option Addr} {σ : L2.St} {ρ : List Cell} {H H' : Hp}
theorem Bd.osl (b : Bd K F μ S os σ ρ H) {i : Nat} {a : Addr} (h : os i = some a) : ∃ ds vs, ρ[i]? = some (.ow ds) ∧ H a = some (.lst vs) ∧ σ[i]? = some (some (.ref a)) ∧ Rps K μ (Wo F.W0 os) H ds vs := by
  by_cases hi : i < ρ.length
  · have q := b.slot i ρ[i] (List.getElem?_eq_getElem hi)
    cases e : ρ[i] with
    | u => rw [e] at q; rw [show os i = none from q] at h; cases h
    | sh d => rw [e] at q; rw [q.1] at h; cases h
    | ow ds =>
      rw [e] at q
      obtain ⟨a', vs, h1, h2, h3, h4⟩ := q
      rw [h] at h1; cases h1
      exact ⟨ds, vs, by rw [List.getElem?_eq_getElem hi, e], h3, h2, h4⟩
  · rw [b.out i (Nat.le_of_not_lt hi)] at h; cases h
theorem Bd.wos (b : Bd K F μ S os σ ρ H) : ∀ a, Wo F.W0 os a → Wo F.Ws os a := fun a h => by
  rcases h with h | h
  · exact .inl (b.sub a h)
  · exact .inr h
theorem Bd.wdom (b : Bd K F μ S os σ ρ H) : ∀ a, Wo F.Ws os a → H a ≠ none := fun a h => by
  rcases h with h | ⟨i, h⟩
  · exact b.dom a h
  · obtain ⟨_, vs, _, e, _⟩ := b.osl h
    rw [e]; intro z; cases z
theorem SOk.there {W : Addr → Prop} (s : SOk K μ W H S) : ∀ b, b ∈ μ → ∃ vs, H b = some (.lst vs) := fun b h => by
  obtain ⟨n, hn⟩ := List.mem_iff_getElem?.mp h
  have hl : n < S.length := by rw [← s.len]; exact (List.getElem?_eq_some_iff.mp hn).1
  obtain ⟨vs, e, _⟩ := s.at_ n b _ hn (List.getElem?_eq_getElem hl)
  exact ⟨vs, e⟩
/-- an expression was evaluated -/
theorem Bd.step (b : Bd K F μ S os σ ρ H) (x : Ext μ H H') (g : Gr μ H μ') (s : SOk K μ' (Wo F.Ws os) H' S') : Bd K F μ' S' os σ ρ H' where
  sub := b.sub
  dom := fun a h => by
    have h1 := b.dom a h
    have : a ∉ μ := fun z => b.st.nw a z (.inl h)
    cases e : H a with
    | none => exact absurd e h1
    | some o => rw [x a o e (.inl this)]; intro z; cases z
  st := s
  len := b.len
  out := b.out
  inj := b.inj
  ow0 := b.ow0
  own := b.own
  ext := b.ext.trans b.gr x
  gr := b.gr.trans b.ext g
  pin := fun p hp => (b.pin p hp).ext' x g
  slot := fun i c h => by
    have q := b.slot i c h
    cases c with
    | u => exact q
    | sh d =>
      obtain ⟨h0, v, h1, h2⟩ := q
      exact ⟨h0, v, h1, h2.ext' x g⟩
    | ow ds =>
      obtain ⟨a, vs, h0, h1, h2, h3⟩ := q
      exact ⟨a, vs, h0, h1, x a _ h2 (.inl fun z => b.st.nw a z (.inr ⟨i, h0⟩)), h3.ext' x g⟩
theorem Bd.same (b : Bd K F μ S os σ ρ H) (k : Same H H') : Bd K F μ S os σ ρ H' := b.step (.of_same k) .refl (b.st.same k)
end
end RH

set_option Elab.async false
set_option linter.all false
set_option maxRecDepth 100000
/-! RHOps: the operators and built-ins over D, each held against the layer's rule. -/
namespace RH
open PySem PySem.Spec PyProof.Rows L2

def Dm (μ : List Addr) (W : Addr → Prop) (H : Hp) : Prop := (∀ b, W b → H b ≠ none) ∧ ∀ b, b ∈ μ → H b ≠ none
/-- a value that is read only: its topmost list may be an owned one -/
def Rw (K : PySem.W.Frag) (μ : List Addr) (W : Addr → Prop) (H : Hp) (d : D) (v : V) : Prop :=
  Rp K μ W H d v ∨ ∃ a vs ds, d = .lst ds ∧ v = .ref a ∧ H a = some (.lst vs) ∧ Rps K μ W H ds vs
/-- a list that nothing else holds -/
def Fsh (K : PySem.W.Frag) (μ : List Addr) (W : Addr → Prop) (H0 H : Hp) (d : D) (v : V) : Prop :=
  ∀ ds, d = .lst ds → ∃ a vs, v = .ref a ∧ H0 a = none ∧ H a = some (.lst vs) ∧ a ∉ μ ∧ Rps K μ (fun b => W b ∨ b = a) H ds vs
/-- what follows takes the value d, whatever it stands at -/
def Po (K : PySem.W.Frag) (μ : List Addr) (W : Addr → Prop) (H : Hp) (d : D) (Q : VK) : Prop :=
  ∀ v H', Same H H' → Rp K μ W H' d v → Fsh K μ W H H' d v → Q v H'
section
variable {K : PySem.W.Frag} {μ : List Addr} {W : Addr → Prop} {H : Hp} {d : D} {v : V} {Q : VK}
theorem Rp.w (h : Rp K μ W H d v) : Rw K μ W H d v := .inl h
theorem Fsh.triv {H0 : Hp} (nl : ∀ ds, d ≠ .lst ds) : Fsh K μ W H0 H d v := fun ds e => absurd e (nl ds)
theorem Po.val (h : Po K μ W H d Q) (r : Rp K μ W H d v) (nl : ∀ ds, d ≠ .lst ds := by intro _ z; cases z) : Q v H := h v H (Same.refl H) r (.triv nl)
theorem Po.newL {ds : List D} {vs : List V} (h : Po K μ W H (.lst ds) Q) (dm : Dm μ W H) (r : Rps K μ W H ds vs) : ∀ p, H p = none → Q (.ref p) (upd H p (.lst vs)) := fun p hp => by
  have x : Ext μ H (upd H p (.lst vs)) := Ext.new hp
  have nm : p ∉ μ := fun z => dm.2 p z hp
  refine h _ _ (same_new hp) (.lst upd_same (fun z => dm.1 p z hp) nm (r.ext' x .refl)) fun ds' e => ?_
  cases e
  exact ⟨p, vs, rfl, hp, upd_same, nm, Rps.ext x .refl (fun b hb z => by
    rcases z with z | z
    · exact z
    · subst z; exact absurd hp hb) r⟩
theorem Po.newT {ds : List D} {vs : List V} (h : Po K μ W H (.tup ds) Q) (r : Rps K μ W H ds vs) : ∀ p, H p = none → Q (.ref p) (upd H p (.tup vs)) := fun p hp =>
  h _ _ (same_new hp) (.tup (.inl (.inl upd_same)) (r.ext' (Ext.new hp) .refl)) (.triv (by intro _ z; cases z))
theorem Rw.int {i : Int} (h : Rw K μ W H (.int i) v) : v = .int i := by
  rcases h with h | ⟨_, _, _, e, _⟩
  · cases h; rfl
  · cases e
theorem Rw.bl {i : Bool} (h : Rw K μ W H (.bl i) v) : v = .bl i := by
  rcases h with h | ⟨_, _, _, e, _⟩
  · cases h; rfl
  · cases e
theorem Rw.non (h : Rw K μ W H .non v) : v = .non := by
  rcases h with h | ⟨_, _, _, e, _⟩
  · cases h; rfl
  · cases e
theorem Rw.str {l : List Nat} (h : Rw K μ W H (.str l) v) : v = .str ⟨l.toArray⟩ ∧ Asc l := by
  rcases h with h | ⟨_, _, _, e, _⟩
  · cases h with | str a => exact ⟨rfl, a⟩
  · cases e
theorem Rw.tup {ds : List D} (h : Rw K μ W H (.tup ds) v) : ∃ a vs, v = .ref a ∧ SqT K H a vs ∧ Rps K μ W H ds vs := by
  rcases h with h | ⟨_, _, _, e, _⟩
  · cases h with | tup a r => exact ⟨_, _, rfl, a, r⟩
  · cases e
theorem Rw.lst {ds : List D} (h : Rw K μ W H (.lst ds) v) : ∃ a vs, v = .ref a ∧ H a = some (.lst vs) ∧ Rps K μ W H ds vs := by
  rcases h with h | ⟨a, vs, _, e, h1, h2, h3⟩
  · cases h with | lst a _ _ r => exact ⟨_, _, rfl, a, r⟩
  · cases e; exact ⟨a, vs, h1, h2, h3⟩
theorem Rw.scr {ns : List Int} (h : Rw K μ W H (.scr ns) v) : ∃ a, v = .ref a ∧ SqL K H a (ns.map V.int) := by
  rcases h with h | ⟨_, _, _, e, _⟩
  · cases h with | scr a => exact ⟨_, rfl, a.sq⟩
  · cases e
theorem Rw.ptr {n : Nat} (h : Rw K μ W H (.ptr n) v) : ∃ a, v = .ref a ∧ μ[n]? = some a := by
  rcases h with h | ⟨_, _, _, e, _⟩
  · cases h with | ptr a => exact ⟨_, rfl, a⟩
  · cases e
theorem Rw.dp (h : Rw K μ W H d v) (p : pln d = true) : Dp K H v (toPy d) := by
  rcases h with h | ⟨a, vs, ds, rfl, rfl, h2, h3⟩
  · exact h.dp p
  · simp only [toPy]
    exact .lst (.inl (.inl h2)) (h3.dp (by simpa [pln] using p))
theorem Rw.shaped (h : Rw K μ W H d v) (p : okD d = true) : SeqAt.shaped (toPy d) = true := by
  rcases h with h | ⟨a, vs, ds, rfl, rfl, h2, h3⟩
  · exact h.shaped p
  · simp only [okD, Bool.and_eq_true, decide_eq_true_eq] at p
    have e := dep_toPy (.lst ds)
    have l : (toPy (.lst ds)).canLay0 = true := by simp only [toPy, PyData.canLay0]; exact h3.lay
    simp only [SeqAt.shaped, l, e, Bool.true_and, decide_eq_true_eq]
    omega
theorem Rw.ext {μ' : List Addr} {H' : Hp} (h : Rw K μ W H d v) (x : Ext μ H H') (g : Gr μ H μ') (nm : ∀ a, v = .ref a → ∀ vs, H a = some (.lst vs) → a ∉ μ) : Rw K μ' W H' d v := by
  rcases h with h | ⟨a, vs, ds, rfl, rfl, h2, h3⟩
  · exact .inl (h.ext' x g)
  · exact .inr ⟨a, vs, ds, rfl, rfl, x _ _ h2 (.inl (nm a rfl vs h2)), h3.ext' x g⟩
theorem Asc.append {a b : List Nat} (h : Asc a) (h' : Asc b) : Asc (a ++ b) := fun c hc => by
  rcases List.mem_append.mp hc with z | z
  · exact h c z
  · exact h' c z
theorem Asc.cut {a : List Nat} (h : Asc a) (m n : Nat) : Asc ((a.drop m).take n) := fun c hc => h c (List.mem_of_mem_drop (List.mem_of_mem_take hc))
theorem Asc.one {a : List Nat} (h : Asc a) {c : Nat} (hc : c ∈ a) : Asc [c] := fun x hx => by simp at hx; subst hx; exact h _ hc
theorem str_app (a b : List Nat) : (⟨a.toArray⟩ : Str) ++ ⟨b.toArray⟩ = ⟨(a ++ b).toArray⟩ := by
  show (⟨a.toArray ++ b.toArray⟩ : Str) = _
  simp
theorem str_len (a : List Nat) : (⟨a.toArray⟩ : Str).length = a.length := by simp [Str.length]
end

/-! ### binary operators -/
def addD : D → D → Option D
  | .int a, .int b => some (.int (a + b))
  | .str a, .str b => if a.length + b.length ≤ 16777216 then some (.str (a ++ b)) else none
  | .lst a, .lst b => if a.length + b.length ≤ 16777216 then some (.lst (a ++ b)) else none
  | .tup a, .tup b => if a.length + b.length ≤ 16777216 then some (.tup (a ++ b)) else none
  | _, _ => none
def subD : D → D → Option D
  | .int a, .int b => some (.int (a - b))
  | _, _ => none
/-- a number within 64 bits -/
def w64 (i : Int) : Bool := decide (-(18446744073709551616) < i) && decide (i < 18446744073709551616)
def mulD : D → D → Option D
  | .int a, .int b => if w64 a || w64 b then some (.int (a * b)) else none
  | _, _ => none
def fdivD : D → D → Option D
  | .int a, .int b => if 0 < b ∧ b < 1073741824 then some (.int (a / b)) else none
  | _, _ => none
def modD : D → D → Option D
  | .int a, .int b => if 0 < b then some (.int (a % b)) else none
  | _, _ => none
def powD : D → D → Option D
  | .int a, .int b => if 0 ≤ b ∧ b ≤ 1000000 ∧ a.natAbs < 18446744073709551616 then some (.int (a ^ b.toNat)) else none
  | _, _ => none
inductive Bop where
  | add | sub | mul | fdiv | mod | pow
  deriving DecidableEq
def Bop.op : Bop → Operator
  | .add => .Add | .sub => .Sub | .mul => .Mult | .fdiv => .FloorDiv | .mod => .Mod | .pow => .Pow
def binD : Bop → D → D → Option D
  | .add => addD | .sub => subD | .mul => mulD | .fdiv => fdivD | .mod => modD | .pow => powD
/-- the layer's rule for f does what g says -/
def OpD (X : Cx) (f : Value → Value → Sem Value) (g : D → D → Option D) : Prop := ∃ r, OpR X f r ∧ ∀ (μ : List Addr) (W : Addr → Prop) (H : Hp) (d e z : D) (x y : V) (Q : VK), g d e = some z → Dm μ W H → Rw X.K μ W H d x → Rw X.K μ W H e y → Po X.K μ W H z Q → r x y H Q
section
variable {X : Cx}
theorem add_ok : OpD X (binaryOp .Add) addD := by
  refine ⟨_, op_add.or (op_add_str.or (op_cat.or op_catA)), fun μ W H d e z x y Q g dm rx ry q => ?_⟩
  unfold addD at g
  split at g
  · cases g
    cases rx.int
    cases ry.int
    exact .inl ⟨_, _, rfl, rfl, q.val (.int _)⟩
  · rename_i a b
    split at g
    · cases g
      obtain ⟨rfl, ax⟩ := rx.str
      obtain ⟨rfl, ay⟩ := ry.str
      refine .inr (.inl ⟨_, _, rfl, rfl, ?_, ?_⟩)
      · rw [str_len, str_len, sizeLine_eq]; assumption
      · rw [str_app]; exact q.val (.str (ax.append ay))
    · cases g
  · rename_i a b
    split at g
    · cases g
      obtain ⟨p, vs, rfl, hp, rp⟩ := rx.lst
      obtain ⟨p', vs', rfl, hp', rp'⟩ := ry.lst
      refine .inr (.inr (.inl ⟨p, p', vs, vs', rfl, rfl, hp, hp', ?_, q.newL dm (rp.append rp')⟩))
      rw [← rp.length, ← rp'.length, sizeLine_eq]; assumption
    · cases g
  · rename_i a b
    split at g
    · cases g
      obtain ⟨p, vs, rfl, hp, rp⟩ := rx.tup
      obtain ⟨p', vs', rfl, hp', rp'⟩ := ry.tup
      refine .inr (.inr (.inr ⟨p, p', vs, vs', rfl, rfl, hp, hp', ?_, fun e => ?_, fun _ e => ?_, fun _ _ => q.newT (rp.append rp')⟩))
      · rw [← rp.length, ← rp'.length, sizeLine_eq]; assumption
      · subst e
        cases rp
        exact q.val (.tup hp' rp')
      · subst e
        cases rp'
        rw [List.append_nil] at q
        exact q.val (.tup hp rp)
    · cases g
  · cases g
theorem int2_ok {f : Value → Value → Sem Value} {C : Int → Int → Prop} {h : Int → Int → Int} {g : D → D → Option D} (o : OpR X f (rI C fun i j => .int (h i j))) (hg : ∀ d e z, g d e = some z → ∃ i j, d = .int i ∧ e = .int j ∧ C i j ∧ z = .int (h i j)) : OpD X f g := by
  refine ⟨_, o, fun μ W H d e z x y Q ge dm rx ry q => ?_⟩
  obtain ⟨i, j, rfl, rfl, c, rfl⟩ := hg d e z ge
  cases rx.int
  cases ry.int
  exact ⟨i, j, rfl, rfl, c, q.val (.int _)⟩
theorem int2_ok0 {f : Value → Value → Sem Value} {h : Int → Int → Int} {g : D → D → Option D} (o : OpR X f (rI0 fun i j => .int (h i j))) (hg : ∀ d e z, g d e = some z → ∃ i j, d = .int i ∧ e = .int j ∧ z = .int (h i j)) : OpD X f g := by
  refine ⟨_, o, fun μ W H d e z x y Q ge dm rx ry q => ?_⟩
  obtain ⟨i, j, rfl, rfl, rfl⟩ := hg d e z ge
  cases rx.int
  cases ry.int
  exact ⟨i, j, rfl, rfl, q.val (.int _)⟩
theorem w64_ok {i : Int} (h : w64 i = true) : -(2 ^ 64) < i ∧ i < 2 ^ 64 := by
  simp only [w64, Bool.and_eq_true, decide_eq_true_eq] at h
  exact ⟨by omega, by omega⟩
theorem bin_ok : ∀ b : Bop, OpD X (binaryOp b.op) (binD b)
  | .add => add_ok
  | .sub => int2_ok0 (h := fun i j => i - j) op_sub fun d e z g => by
      simp only [binD] at g
      unfold subD at g; split at g
      · cases g; exact ⟨_, _, rfl, rfl, rfl⟩
      · cases g
  | .mul => int2_ok (h := fun i j => i * j) op_mul fun d e z g => by
      simp only [binD] at g
      unfold mulD at g; split at g
      · split at g
        · rename_i h
          cases g
          refine ⟨_, _, rfl, rfl, ?_, rfl⟩
          rcases Bool.or_eq_true _ _ ▸ h with h | h
          · exact .inl (w64_ok h)
          · exact .inr (w64_ok h)
        · cases g
      · cases g
  | .fdiv => int2_ok (h := fun i j => i / j) op_fdiv fun d e z g => by
      simp only [binD] at g
      unfold fdivD at g; split at g
      · split at g
        · rename_i h
          cases g
          exact ⟨_, _, rfl, rfl, h, rfl⟩
        · cases g
      · cases g
  | .mod => int2_ok (h := fun i j => i % j) op_mod fun d e z g => by
      simp only [binD] at g
      unfold modD at g; split at g
      · split at g
        · rename_i h
          cases g
          exact ⟨_, _, rfl, rfl, h, rfl⟩
        · cases g
      · cases g
  | .pow => int2_ok (h := fun i j => i ^ j.toNat) op_pow fun d e z g => by
      simp only [binD] at g
      unfold powD at g; split at g
      · split at g
        · rename_i h
          cases g
          exact ⟨_, _, rfl, rfl, h, rfl⟩
        · cases g
      · cases g
end

/-! ### comparisons -/
inductive Cop where
  | eq | ne | lt | le | gt | ge | inn | nin | is | isn
  deriving DecidableEq
def Cop.op : Cop → CmpOp
  | .eq => .Eq | .ne => .NotEq | .lt => .Lt | .le => .LtE | .gt => .Gt | .ge => .GtE | .inn => .In | .nin => .NotIn | .is => .Is | .isn => .IsNot
def eqD (d e : D) : Option Bool := if okD d && okD e then some (eqb d e) else none
def flatD : D → Bool
  | .non => true | .bl _ => true | .int _ => true | .str _ => true | _ => false
def inD : D → D → Option Bool
  | .str [c], .str z => some (decide (c ∈ z))
  | d, .lst ds => if okD d && okD (.lst ds) then some (ds.any fun z => eqb z d) else none
  | d, .tup ds => if flatD d && ds.all flatD then some (ds.any fun z => eqb z d) else none
  | _, _ => none
def ltI (f : Int → Int → Bool) : D → D → Option Bool
  | .int a, .int b => some (f a b)
  | _, _ => none
def isNon : D → Bool
  | .non => true
  | _ => false
def isD : D → D → Option Bool
  | d, .non => some (isNon d)
  | .bl a, .bl b => some (decide (a = b))
  | _, _ => none
def cmpB : Cop → D → D → Option Bool
  | .eq, d, e => eqD d e
  | .ne, d, e => (eqD d e).map (!·)
  | .lt, d, e => ltI (fun a b => decide (a < b)) d e
  | .le, d, e => ltI (fun a b => decide (a ≤ b)) d e
  | .gt, d, e => ltI (fun a b => decide (b < a)) d e
  | .ge, d, e => ltI (fun a b => decide (b ≤ a)) d e
  | .inn, d, e => inD d e
  | .nin, d, e => (inD d e).map (!·)
  | .is, d, e => isD d e
  | .isn, d, e => (isD d e).map (!·)
def cmpD (c : Cop) (d e : D) : Option D := (cmpB c d e).map .bl
section
variable {X : Cx}
theorem OpD.bool {f : Value → Value → Sem Value} {g : D → D → Option Bool} {r : R2} (o : OpR X f r) (h : ∀ (μ : List Addr) (W : Addr → Prop) (H : Hp) (d e : D) (k : Bool) (x y : V) (Q : VK), g d e = some k → Rw X.K μ W H d x → Rw X.K μ W H e y → Q (.bl k) H → r x y H Q) : OpD X f (fun d e => (g d e).map .bl) := by
  refine ⟨_, o, fun μ W H d e z x y Q ge dm rx ry q => ?_⟩
  cases k : g d e with
  | none => simp only [k] at ge; cases ge
  | some b =>
    simp only [k] at ge
    cases ge
    exact h μ W H d e b x y Q k rx ry (q.val (.bl _))
theorem lt_ok {f : Value → Value → Sem Value} {p : Int → Int → Bool} (o : OpR X f (rI0 fun i j => .bl (p i j))) : OpD X f (fun d e => (ltI p d e).map .bl) :=
  OpD.bool o fun μ W H d e k x y Q ge rx ry q => by
    unfold ltI at ge; split at ge
    · cases ge
      cases rx.int
      cases ry.int
      exact ⟨_, _, rfl, rfl, q⟩
    · cases ge
theorem eq_ok (hu : X.A.units + 64 < cLine) : OpD X (compareOp .Eq) (fun d e => (eqD d e).map .bl) :=
  OpD.bool (op_eqD hu) fun μ W H d e k x y Q ge rx ry q => by
    unfold eqD at ge; split at ge
    · rename_i h
      simp only [Bool.and_eq_true] at h
      cases ge
      refine ⟨_, _, rx.dp (okD_pln h.1), ry.dp (okD_pln h.2), rx.shaped h.1, ry.shaped h.2, ?_⟩
      rw [eqv_toPy _ _ (okD_pln h.1) (okD_pln h.2)]
      exact q
    · cases ge
theorem ne_ok (hu : X.A.units + 64 < cLine) : OpD X (compareOp .NotEq) (fun d e => ((eqD d e).map (!·)).map .bl) :=
  OpD.bool (op_neD hu) fun μ W H d e k x y Q ge rx ry q => by
    unfold eqD at ge; split at ge
    · rename_i h
      simp only [Bool.and_eq_true] at h
      cases ge
      refine ⟨_, _, rx.dp (okD_pln h.1), ry.dp (okD_pln h.2), rx.shaped h.1, ry.shaped h.2, ?_⟩
      rw [eqv_toPy _ _ (okD_pln h.1) (okD_pln h.2)]
      exact q
    · cases ge
theorem any_toPys (d : D) (p : pln d = true) : ∀ ds : List D, plns ds = true → ((toPys ds).any fun z => PyData.eqv z (toPy d)) = ds.any fun z => eqb z d
  | [], _ => rfl
  | z :: zs, h => by
    simp only [plns, Bool.and_eq_true] at h
    simp only [toPys, List.any_cons, eqv_toPy z d h.1 p, any_toPys d p zs h.2]
theorem flat_rp {K : PySem.W.Frag} {μ : List Addr} {W : Addr → Prop} {H : Hp} {d : D} {v : V} (r : Rp K μ W H d v) (h : flatD d = true) : flatV v = true := by
  cases r <;> first | rfl | (simp [flatD] at h)
theorem flat_eq {K : PySem.W.Frag} {μ : List Addr} {W : Addr → Prop} {H : Hp} {d e : D} {v u : V} (r : Rp K μ W H d v) (r' : Rp K μ W H e u) (h : flatD d = true) (h' : flatD e = true) : eqV v u = eqb d e := by
  cases r <;> first | (simp [flatD] at h; done) | (cases r' <;> first | (simp [flatD] at h'; done) | rfl | exact beq_str _ _)
theorem flat_all {K : PySem.W.Frag} {μ : List Addr} {W : Addr → Prop} {H : Hp} : ∀ {ds : List D} {vs : List V}, Rps K μ W H ds vs → ds.all flatD = true → vs.all flatV = true
  | _, _, .nil, _ => rfl
  | _, _, .cons h r, p => by
    simp only [List.all_cons, Bool.and_eq_true] at p ⊢
    exact ⟨flat_rp h p.1, flat_all r p.2⟩
theorem flat_any {K : PySem.W.Frag} {μ : List Addr} {W : Addr → Prop} {H : Hp} {e : D} {u : V} (r' : Rp K μ W H e u) (h' : flatD e = true) : ∀ {ds : List D} {vs : List V}, Rps K μ W H ds vs → ds.all flatD = true → (vs.any fun y => eqV y u) = ds.any fun z => eqb z e
  | _, _, .nil, _ => rfl
  | _, _, .cons h r, p => by
    simp only [List.all_cons, Bool.and_eq_true] at p
    simp only [List.any_cons, flat_eq h r' p.1 h', flat_any r' h' r p.2]
theorem Rw.flat {K : PySem.W.Frag} {μ : List Addr} {W : Addr → Prop} {H : Hp} {d : D} {v : V} (r : Rw K μ W H d v) (h : flatD d = true) : Rp K μ W H d v := by
  rcases r with r | ⟨_, _, _, rfl, _⟩
  · exact r
  · simp [flatD] at h
theorem in_cases {d e : D} {k : Bool} (h : inD d e = some k) : (∃ c z, d = .str [c] ∧ e = .str z ∧ k = decide (c ∈ z)) ∨ (∃ ds, e = .lst ds ∧ okD d = true ∧ okD (.lst ds) = true ∧ k = ds.any fun z => eqb z d) ∨
    (∃ ds, e = .tup ds ∧ flatD d = true ∧ ds.all flatD = true ∧ k = ds.any fun z => eqb z d) := by
  unfold inD at h
  split at h
  · cases h; exact .inl ⟨_, _, rfl, rfl, rfl⟩
  · split at h
    · rename_i q
      simp only [Bool.and_eq_true] at q
      cases h; exact .inr (.inl ⟨_, rfl, q.1, q.2, rfl⟩)
    · cases h
  · split at h
    · rename_i q
      simp only [Bool.and_eq_true] at q
      cases h; exact .inr (.inr ⟨_, rfl, q.1, q.2, rfl⟩)
    · cases h
  · cases h
theorem in_ok (hu : X.A.units + 65 < cLine) : OpD X (compareOp .In) (fun d e => (inD d e).map .bl) :=
  OpD.bool (op_in_sign.or ((op_inD hu).or op_in_seq)) fun μ W H d e k x y Q ge rx ry q => by
    rcases in_cases ge with ⟨c, z, rfl, rfl, rfl⟩ | ⟨ds, rfl, h1, h2, rfl⟩ | ⟨ds, rfl, h1, h2, rfl⟩
    · obtain ⟨rfl, _⟩ := rx.str
      obtain ⟨rfl, _⟩ := ry.str
      exact .inl ⟨c, _, rfl, rfl, q⟩
    · have p := okD_pln h2
      simp only [pln] at p
      refine .inr (.inl ⟨_, toPys ds, rx.dp (okD_pln h1), ?_, rx.shaped h1, ?_, ?_⟩)
      · have := ry.dp (okD_pln h2); simp only [toPy] at this; exact this
      · have := ry.shaped h2; simp only [toPy] at this; exact this
      · rw [any_toPys d (okD_pln h1) ds p]; exact q
    · obtain ⟨a, vs, rfl, hs, r⟩ := ry.tup
      refine .inr (.inr ⟨a, vs, rfl, .inr hs, flat_rp (rx.flat h1) h1, flat_all r h2, ?_⟩)
      show Q (.bl (inV x vs)) H
      rw [inV, flat_any (rx.flat h1) h1 r h2]
      exact q
theorem nin_ok (hu : X.A.units + 65 < cLine) : OpD X (compareOp .NotIn) (fun d e => ((inD d e).map (!·)).map .bl) :=
  OpD.bool (g := fun d e => (inD d e).map (!·)) (op_notIn_sign.or ((op_notInD hu).or op_notIn_seq)) fun μ W H d e k x y Q ge rx ry q => by
    cases hk : inD d e with
    | none => simp only [hk] at ge; cases ge
    | some k' =>
    simp only [hk] at ge
    cases ge
    rcases in_cases hk with ⟨c, z, rfl, rfl, rfl⟩ | ⟨ds, rfl, h1, h2, rfl⟩ | ⟨ds, rfl, h1, h2, rfl⟩
    · obtain ⟨rfl, _⟩ := rx.str
      obtain ⟨rfl, _⟩ := ry.str
      exact .inl ⟨c, _, rfl, rfl, q⟩
    · have p := okD_pln h2
      simp only [pln] at p
      refine .inr (.inl ⟨_, toPys ds, rx.dp (okD_pln h1), ?_, rx.shaped h1, ?_, ?_⟩)
      · have := ry.dp (okD_pln h2); simp only [toPy] at this; exact this
      · have := ry.shaped h2; simp only [toPy] at this; exact this
      · rw [any_toPys d (okD_pln h1) ds p]; exact q
    · obtain ⟨a, vs, rfl, hs, r⟩ := ry.tup
      refine .inr (.inr ⟨a, vs, rfl, .inr hs, flat_rp (rx.flat h1) h1, flat_all r h2, ?_⟩)
      show Q (.bl (!inV x vs)) H
      rw [inV, flat_any (rx.flat h1) h1 r h2]
      exact q
theorem is_cases {d e : D} {k : Bool} (h : isD d e = some k) : (e = .non ∧ k = isNon d) ∨ (∃ a b, d = .bl a ∧ e = .bl b ∧ k = decide (a = b)) := by
  unfold isD at h
  split at h
  · cases h; exact .inl ⟨rfl, rfl⟩
  · cases h; exact .inr ⟨_, _, rfl, rfl, rfl⟩
  · cases h
theorem Rw.isnon {K : PySem.W.Frag} {μ : List Addr} {W : Addr → Prop} {H : Hp} {d : D} {v : V} (r : Rw K μ W H d v) : decide (v = .non) = isNon d := by
  rcases r with r | ⟨_, _, _, rfl, rfl, _⟩
  · cases r <;> rfl
  · rfl
theorem is_ok : OpD X (compareOp .Is) (fun d e => (isD d e).map .bl) :=
  OpD.bool (op_isN.or op_isBl) fun μ W H d e k x y Q ge rx ry q => by
    rcases is_cases ge with ⟨rfl, rfl⟩ | ⟨a, b, rfl, rfl, rfl⟩
    · refine .inl ⟨ry.non, ?_⟩
      rw [rx.isnon]; exact q
    · cases rx.bl; cases ry.bl
      exact .inr ⟨_, _, rfl, rfl, q⟩
theorem isn_ok : OpD X (compareOp .IsNot) (fun d e => ((isD d e).map (!·)).map .bl) :=
  OpD.bool (g := fun d e => (isD d e).map (!·)) (op_notN.or op_notBl) fun μ W H d e k x y Q ge rx ry q => by
    cases hk : isD d e with
    | none => simp only [hk] at ge; cases ge
    | some k' =>
    simp only [hk] at ge
    cases ge
    rcases is_cases hk with ⟨rfl, rfl⟩ | ⟨a, b, rfl, rfl, rfl⟩
    · refine .inl ⟨ry.non, ?_⟩
      rw [rx.isnon]; exact q
    · cases rx.bl; cases ry.bl
      exact .inr ⟨_, _, rfl, rfl, q⟩
theorem cmp_ok (hu : X.A.units + 65 < cLine) : ∀ c : Cop, OpD X (compareOp c.op) (cmpD c)
  | .eq => eq_ok (by omega)
  | .ne => ne_ok (by omega)
  | .lt => lt_ok op_lt
  | .le => lt_ok op_le
  | .gt => lt_ok op_gt
  | .ge => lt_ok op_ge
  | .inn => in_ok hu
  | .nin => nin_ok hu
  | .is => is_ok
  | .isn => isn_ok
end
end RH

set_option Elab.async false
set_option linter.all false
set_option maxRecDepth 100000
/-! RHOps2: subscripts, slices, built-in functions, methods of textsOf over D. -/
namespace RH
open PySem PySem.Spec PyProof.Rows L2

/-! ### subscripts, slices -/
def idxD : D → D → Option D
  | .lst ds, .int i => atI ds i
  | .tup ds, .int i => atI ds i
  | .str z, .int i => if z.length ≤ 16777216 then (atI z i).map fun c => .str [c] else none
  | _, _ => none
def cutG {α : Type} (xs : List α) (lo hi : Option Int) : List α := (xs.drop (HT.sIx xs.length 0 lo)).take (HT.sIx xs.length xs.length hi - HT.sIx xs.length 0 lo)
def sliceD (d : D) (lo hi : Option Int) : Option D :=
  match d with
  | .lst ds => some (.lst (cutG ds lo hi))
  | .tup ds => some (.tup (cutG ds lo hi))
  | .str z => if z.length ≤ 16777216 then some (.str (cutG z lo hi)) else none
  | _ => none
section
variable {X : Cx} {K : PySem.W.Frag} {μ : List Addr} {W : Addr → Prop} {H : Hp}
theorem Rps.atI {ds : List D} {vs : List V} {i : Int} {d : D} (r : Rps K μ W H ds vs) (h : atI ds i = some d) : ∃ v, L2.atI vs i = some v ∧ Rp K μ W H d v := by
  unfold L2.atI at h ⊢
  rw [r.length] at h
  cases e : ixN vs.length i with
  | none => rw [e] at h; cases h
  | some j =>
    rw [e] at h
    obtain ⟨v, h1, h2⟩ := r.get (show ds[j]? = some d from h)
    exact ⟨v, h1, h2⟩
theorem atI_mem {α : Type} {xs : List α} {i : Int} {x : α} (h : atI xs i = some x) : x ∈ xs := by
  obtain ⟨j, _, h, _⟩ := atI_get h
  exact List.mem_of_getElem? h
theorem ix_ok : ∃ r, IxR X r ∧ ∀ (μ : List Addr) (W : Addr → Prop) (H : Hp) (d e z : D) (x y : V) (Q : VK), idxD d e = some z → Rw X.K μ W H d x → Rw X.K μ W H e y → (∀ v, Rp X.K μ W H z v → Q v H) → r x y H Q := by
  refine ⟨_, ix_seq, fun μ W H d e z x y Q g rx ry q => ?_⟩
  unfold idxD at g
  split at g
  · cases ry.int
    obtain ⟨a, vs, rfl, h1, h2⟩ := rx.lst
    obtain ⟨v, h3, h4⟩ := h2.atI g
    exact .inl ⟨a, vs, _, v, rfl, rfl, .of h1, h3, q v h4⟩
  · cases ry.int
    obtain ⟨a, vs, rfl, h1, h2⟩ := rx.tup
    obtain ⟨v, h3, h4⟩ := h2.atI g
    exact .inr (.inl ⟨a, vs, _, v, rfl, rfl, h1, h3, q v h4⟩)
  · split at g
    · rename_i hz
      cases ry.int
      obtain ⟨rfl, ha⟩ := rx.str
      obtain ⟨c, e, rfl⟩ := Option.map_eq_some_iff.mp g
      exact .inr (.inr ⟨_, _, c, rfl, rfl, by rw [str_len, sizeLine_eq]; exact hz, e, q _ (.str (ha.one (atI_mem e)))⟩)
    · cases g
  · cases g
theorem Rps.cut {ds : List D} {vs : List V} (r : Rps K μ W H ds vs) (lo hi : Option Int) : Rps K μ W H (cutG ds lo hi) (cutV vs lo hi) := by
  unfold cutG cutV
  rw [r.length]
  exact (r.drop _).take _
theorem cutG_whole {α : Type} {xs : List α} {lo hi : Option Int} (h : HT.sIx xs.length 0 lo = 0 ∧ HT.sIx xs.length xs.length hi = xs.length) : cutG xs lo hi = xs := by
  unfold cutG
  rw [h.1, h.2]
  simp
theorem sl_ok : ∃ r, SlR X r ∧ ∀ (μ : List Addr) (W : Addr → Prop) (H : Hp) (d z : D) (lo hi : Option Int) (x : V) (Q : VK), sliceD d lo hi = some z → Dm μ W H → Rw X.K μ W H d x → Po X.K μ W H z Q → r x lo hi H Q := by
  refine ⟨_, sl_list.or (sl_tupA.or sl_str), fun μ W H d z lo hi x Q g dm rx q => ?_⟩
  unfold sliceD at g
  split at g
  · cases g
    obtain ⟨a, vs, rfl, h1, h2⟩ := rx.lst
    exact .inl ⟨a, vs, rfl, .of h1, q.newL dm (h2.cut lo hi)⟩
  · cases g
    obtain ⟨a, vs, rfl, h1, h2⟩ := rx.tup
    refine .inr (.inl ⟨a, vs, rfl, h1, fun e => ?_, fun _ => q.newT (h2.cut lo hi)⟩)
    rw [cutG_whole (by rw [h2.length]; exact e)] at q
    exact q.val (.tup h1 h2)
  · split at g
    · rename_i hz
      cases g
      obtain ⟨rfl, ha⟩ := rx.str
      refine .inr (.inr ⟨_, rfl, by rw [str_len, sizeLine_eq]; exact hz, ?_⟩)
      exact q.val (v := .str (cutS _ lo hi)) (.str (ha.cut _ _))
    · cases g
  · cases g
end

/-! ### built-in functions -/
inductive Bi where
  | len | lst | tup | min | max | str | int | all | any | sum | rng
  deriving DecidableEq
def strI (i : Int) : List Nat := (toString i).toList.map Char.toNat
def boolsOf : List D → Option (List Bool)
  | [] => some []
  | .bl b :: r => (boolsOf r).map (b :: ·)
  | _ => none
def intsOf : List D → Option (List Int)
  | [] => some []
  | .int b :: r => (intsOf r).map (b :: ·)
  | _ => none
def textsOf : List D → Option (List (List Nat))
  | [] => some []
  | .str b :: r => (textsOf r).map (b :: ·)
  | _ => none
def biD : Bi → List D → Option D
  | .len, [.lst ds] => some (.int ds.length)
  | .len, [.tup ds] => some (.int ds.length)
  | .len, [.scr ds] => some (.int ds.length)
  | .len, [.str l] => if l.length ≤ 16777216 then some (.int l.length) else none
  | .lst, [.lst ds] => some (.lst ds)
  | .lst, [.tup ds] => some (.lst ds)
  | .lst, [.scr ns] => some (.lst (ns.map .int))
  | .tup, [.lst ds] => some (.tup ds)
  | .tup, [.tup ds] => some (.tup ds)
  | .min, [.int i, .int j] => some (.int (if j < i then j else i))
  | .max, [.int i, .int j] => some (.int (if j > i then j else i))
  | .str, [.int i] => if i.natAbs.log2 < 1920 then some (.str (strI i)) else none
  | .int, [.int i] => some (.int i)
  | .int, [.bl k] => some (.int (if k then 1 else 0))
  | .int, [.str l] => if l.length ≤ 640 then (PySem.intText? ⟨l.toArray⟩).map .int else none
  | .all, [.lst ds] => (boolsOf ds).map fun bs => .bl (bs.all id)
  | .any, [.lst ds] => (boolsOf ds).map fun bs => .bl (bs.any id)
  | .sum, [.lst ds] => (intsOf ds).map fun ns => .int ns.sum
  | _, _ => none
inductive Rws (K : PySem.W.Frag) (μ : List Addr) (W : Addr → Prop) (H : Hp) : List D → List V → Prop
  | nil : Rws K μ W H [] []
  | cons {d : D} {v : V} {ds : List D} {vs : List V} : Rw K μ W H d v → Rws K μ W H ds vs → Rws K μ W H (d :: ds) (v :: vs)
def CallD (X : Cx) (f : Value) (g : List D → Option D) : Prop := ∃ r, CallR X f r ∧ ∀ (μ : List Addr) (W : Addr → Prop) (H : Hp) (ds : List D) (z : D) (vs : List V) (Q : VK), g ds = some z → Dm μ W H → Rws X.K μ W H ds vs → Po X.K μ W H z Q → r vs H Q
section
variable {X : Cx} {K : PySem.W.Frag} {μ : List Addr} {W : Addr → Prop} {H : Hp}
theorem Rws.one {d : D} {vs : List V} (h : Rws K μ W H [d] vs) : ∃ v, vs = [v] ∧ Rw K μ W H d v := by
  cases h with | cons h r => cases r; exact ⟨_, rfl, h⟩
theorem Rws.two {d e : D} {vs : List V} (h : Rws K μ W H [d, e] vs) : ∃ v u, vs = [v, u] ∧ Rw K μ W H d v ∧ Rw K μ W H e u := by
  cases h with | cons h r => cases r with | cons h' r => cases r; exact ⟨_, _, rfl, h, h'⟩
theorem bools_rps : ∀ {ds : List D} {vs : List V} {bs : List Bool}, Rps K μ W H ds vs → boolsOf ds = some bs → vs = bs.map V.bl
  | _, _, _, .nil, e => by cases e; rfl
  | _, _, bs, .cons (d := d) (ds := ds) h r, e => by
    cases h <;> first | (simp [boolsOf] at e; done) | skip
    rename_i b
    simp only [boolsOf] at e
    cases q : boolsOf ds with
    | none => rw [q] at e; cases e
    | some bs' =>
      rw [q] at e
      cases e
      rw [bools_rps r q]; rfl
theorem ints_rps : ∀ {ds : List D} {vs : List V} {bs : List Int}, Rps K μ W H ds vs → intsOf ds = some bs → vs = bs.map V.int
  | _, _, _, .nil, e => by cases e; rfl
  | _, _, bs, .cons (d := d) (ds := ds) h r, e => by
    cases h <;> first | (simp [intsOf] at e; done) | skip
    rename_i b
    simp only [intsOf] at e
    cases q : intsOf ds with
    | none => rw [q] at e; cases e
    | some bs' =>
      rw [q] at e
      cases e
      rw [ints_rps r q]; rfl
theorem texts_rps : ∀ {ds : List D} {vs : List V} {bs : List (List Nat)}, Rps K μ W H ds vs → textsOf ds = some bs → vs = (bs.map fun l => (⟨l.toArray⟩ : Str)).map V.str ∧ ∀ l ∈ bs, Asc l
  | _, _, _, .nil, e => by cases e; exact ⟨rfl, fun _ z => nomatch z⟩
  | _, _, bs, .cons (d := d) (ds := ds) h r, e => by
    cases h <;> first | (simp [textsOf] at e; done) | skip
    rename_i b ha
    simp only [textsOf] at e
    cases q : textsOf ds with
    | none => rw [q] at e; cases e
    | some bs' =>
      rw [q] at e
      cases e
      obtain ⟨h1, h2⟩ := texts_rps r q
      refine ⟨by rw [h1]; rfl, fun l hl => ?_⟩
      rcases List.mem_cons.mp hl with rfl | hl
      · exact ha
      · exact h2 l hl
theorem rps_ints : ∀ (ns : List Int), Rps K μ W H (ns.map .int) (ns.map V.int)
  | [] => .nil
  | n :: ns => .cons (.int n) (rps_ints ns)
theorem strI_asc (i : Int) : Asc (strI i) := by
  have nat : ∀ n : Nat, Asc ((toString n).toList.map Char.toNat) := fun n c hc => by
    have e : (toString n).toList.map Char.toNat = TL.numL n := by
      show (Nat.repr n).toList.map Char.toNat = _
      unfold TL.numL Nat.repr
      simp
    rw [e] at hc
    have := TL.numL_digits n c hc
    omega
  unfold strI
  cases i with
  | ofNat n => exact nat n
  | negSucc n =>
    intro c hc
    have e : toString (Int.negSucc n) = "-" ++ toString (n + 1) := rfl
    rw [e, String.toList_append, List.map_append] at hc
    rcases List.mem_append.mp hc with z | z
    · have : c ∈ ([45] : List Nat) := z
      simp at this; omega
    · exact nat (n + 1) c z
theorem str_ofString (s : String) : Str.ofString s = ⟨(s.toList.map Char.toNat).toArray⟩ := Str.ofString_eq_toList s
def Bi.val : Bi → Value
  | .len => .builtin "len" | .lst => .type "list" | .tup => .type "tuple" | .min => .builtin "min" | .max => .builtin "max" | .str => .type "str" | .int => .type "int"
  | .all => .builtin "all" | .any => .builtin "any" | .sum => .builtin "sum" | .rng => .type "range"
theorem bi_ok (hc : X.calm = true) : ∀ b : Bi, CallD X b.val (biD b)
  | .len => by
    refine ⟨_, call_len, fun μ W H ds z vs Q g dm r q => ?_⟩
    unfold biD at g
    split at g <;> first | (rename_i h0; cases h0; done) | skip
    all_goals first | (cases g; done) | skip
    · obtain ⟨v, rfl, r1⟩ := r.one
      cases g
      obtain ⟨a, ws, rfl, h1, h2⟩ := r1.lst
      exact ⟨_, ws.length, rfl, .inl ⟨ws, .of h1, rfl⟩, by rw [← h2.length]; exact q.val (.int _)⟩
    · obtain ⟨v, rfl, r1⟩ := r.one
      cases g
      obtain ⟨a, ws, rfl, h1, h2⟩ := r1.tup
      exact ⟨_, ws.length, rfl, .inr ⟨ws, h1, rfl⟩, by rw [← h2.length]; exact q.val (.int _)⟩
    · obtain ⟨v, rfl, r1⟩ := r.one
      cases g
      obtain ⟨a, rfl, h1⟩ := r1.scr
      exact ⟨_, _, rfl, .inl ⟨_, h1, rfl⟩, by rw [List.length_map]; exact q.val (.int _)⟩
    · obtain ⟨v, rfl, r1⟩ := r.one
      split at g
      · rename_i hz
        cases g
        obtain ⟨rfl, _⟩ := r1.str
        refine ⟨_, _, rfl, ⟨by rw [str_len, sizeLine_eq]; exact hz, rfl⟩, ?_⟩
        rw [str_len]; exact q.val (.int _)
      · cases g
  | .lst => by
    refine ⟨_, call_list_of, fun μ W H ds z vs Q g dm r q => ?_⟩
    unfold biD at g
    split at g <;> first | (rename_i h0; cases h0; done) | skip
    all_goals first | (cases g; done) | skip
    · obtain ⟨v, rfl, r1⟩ := r.one
      cases g
      obtain ⟨a, ws, rfl, h1, h2⟩ := r1.lst
      exact ⟨a, ws, rfl, .inl (.of h1), q.newL dm h2⟩
    · obtain ⟨v, rfl, r1⟩ := r.one
      cases g
      obtain ⟨a, ws, rfl, h1, h2⟩ := r1.tup
      exact ⟨a, ws, rfl, .inr h1, q.newL dm h2⟩
    · obtain ⟨v, rfl, r1⟩ := r.one
      cases g
      obtain ⟨a, rfl, h1⟩ := r1.scr
      exact ⟨a, _, rfl, .inl h1, q.newL dm (rps_ints _)⟩
  | .tup => by
    refine ⟨_, call_tuple_of, fun μ W H ds z vs Q g dm r q => ?_⟩
    unfold biD at g
    split at g <;> first | (rename_i h0; cases h0; done) | skip
    all_goals first | (cases g; done) | skip
    · obtain ⟨v, rfl, r1⟩ := r.one
      cases g
      obtain ⟨a, ws, rfl, h1, h2⟩ := r1.lst
      exact ⟨a, ws, rfl, .inl ⟨.of h1, q.newT h2⟩⟩
    · obtain ⟨v, rfl, r1⟩ := r.one
      cases g
      obtain ⟨a, ws, rfl, h1, h2⟩ := r1.tup
      exact ⟨a, ws, rfl, .inr ⟨h1, q.val (.tup h1 h2)⟩⟩
  | .min => by
    refine ⟨_, call_min2 hc, fun μ W H ds z vs Q g dm r q => ?_⟩
    unfold biD at g
    split at g <;> first | (rename_i h0; cases h0; done) | skip
    all_goals first | (cases g; done) | skip
    · obtain ⟨v, u, rfl, r1, r2⟩ := r.two
      cases g
      cases r1.int
      cases r2.int
      exact ⟨_, _, rfl, q.val (.int _)⟩
  | .max => by
    refine ⟨_, call_max2 hc, fun μ W H ds z vs Q g dm r q => ?_⟩
    unfold biD at g
    split at g <;> first | (rename_i h0; cases h0; done) | skip
    all_goals first | (cases g; done) | skip
    · obtain ⟨v, u, rfl, r1, r2⟩ := r.two
      cases g
      cases r1.int
      cases r2.int
      exact ⟨_, _, rfl, q.val (.int _)⟩
  | .str => by
    refine ⟨_, call_str_int, fun μ W H ds z vs Q g dm r q => ?_⟩
    unfold biD at g
    split at g <;> first | (rename_i h0; cases h0; done) | skip
    all_goals first | (cases g; done) | skip
    · obtain ⟨v, rfl, r1⟩ := r.one
      split at g
      · rename_i hz
        cases g
        cases r1.int
        refine ⟨_, rfl, hz, ?_⟩
        rw [str_ofString]
        exact q.val (.str (strI_asc _))
      · cases g
  | .int => by
    refine ⟨_, call_int1.or call_int_str, fun μ W H ds z vs Q g dm r q => ?_⟩
    unfold biD at g
    split at g <;> first | (rename_i h0; cases h0; done) | skip
    all_goals first | (cases g; done) | skip
    · obtain ⟨v, rfl, r1⟩ := r.one
      cases g
      cases r1.int
      exact .inl (.inl ⟨_, rfl, q.val (.int _)⟩)
    · obtain ⟨v, rfl, r1⟩ := r.one
      cases g
      cases r1.bl
      exact .inl (.inr ⟨_, rfl, q.val (.int _)⟩)
    · obtain ⟨v, rfl, r1⟩ := r.one
      split at g
      · rename_i hz
        obtain ⟨rfl, _⟩ := r1.str
        obtain ⟨n, e, rfl⟩ := Option.map_eq_some_iff.mp g
        exact .inr ⟨_, n, rfl, e, by rw [str_len]; exact hz, q.val (.int _)⟩
      · cases g
  | .all => by
    refine ⟨_, cr_all hc, fun μ W H ds z vs Q g dm r q => ?_⟩
    unfold biD at g
    split at g <;> first | (rename_i h0; cases h0; done) | skip
    all_goals first | (cases g; done) | skip
    · obtain ⟨v, rfl, r1⟩ := r.one
      obtain ⟨a, ws, rfl, h1, h2⟩ := r1.lst
      obtain ⟨bs, e, rfl⟩ := Option.map_eq_some_iff.mp g
      exact ⟨a, bs, rfl, by rw [← bools_rps h2 e]; exact .of h1, q.val (.bl _)⟩
  | .any => by
    refine ⟨_, cr_any hc, fun μ W H ds z vs Q g dm r q => ?_⟩
    unfold biD at g
    split at g <;> first | (rename_i h0; cases h0; done) | skip
    all_goals first | (cases g; done) | skip
    · obtain ⟨v, rfl, r1⟩ := r.one
      obtain ⟨a, ws, rfl, h1, h2⟩ := r1.lst
      obtain ⟨bs, e, rfl⟩ := Option.map_eq_some_iff.mp g
      exact ⟨a, bs, rfl, by rw [← bools_rps h2 e]; exact .of h1, q.val (.bl _)⟩
  | .sum => by
    refine ⟨_, cr_sum hc, fun μ W H ds z vs Q g dm r q => ?_⟩
    unfold biD at g
    split at g <;> first | (rename_i h0; cases h0; done) | skip
    all_goals first | (cases g; done) | skip
    · obtain ⟨v, rfl, r1⟩ := r.one
      obtain ⟨a, ws, rfl, h1, h2⟩ := r1.lst
      obtain ⟨bs, e, rfl⟩ := Option.map_eq_some_iff.mp g
      exact ⟨a, bs, rfl, by rw [← ints_rps h2 e]; exact .of h1, q.val (.int _)⟩
  | .rng => ⟨fun _ _ _ => False, fun _ _ _ _ _ _ _ _ _ h => h.elim, fun μ W H ds z vs Q g dm r q => by
    unfold biD at g
    split at g <;> first | (rename_i h0; cases h0; done) | (cases g; done)⟩
end
end RH

set_option Elab.async false
set_option linter.all false
set_option maxRecDepth 100000
/-! RHRun: the code language, its run over D, its check against the syntax. -/
namespace RH
open PySem PySem.Spec PyProof.Rows L2

/-! ### methods of texts -/
inductive M0 where
  | lower | upper
  deriving DecidableEq
inductive M1 where
  | join | split | index
  deriving DecidableEq
def m0D : M0 → D → Option D
  | .lower, .str l => if l.length ≤ 5592405 then some (.str (l.map lo1)) else none
  | .upper, .str l => if l.length ≤ 5592405 then some (.str (l.map up1)) else none
  | _, _ => none
def lens (ps : List (List Nat)) : Nat := (ps.map List.length).sum
def joinD (s : List Nat) (ds : List D) : Option D :=
  match textsOf ds with
  | some ps => if lens ps + ps.length * s.length ≤ 16777216 then some (.str (TL.joinL s ps)) else none
  | none => none
def asS : D → Option (List Nat)
  | .str l => some l
  | _ => none
def m1D : M1 → List Nat → D → Option D
  | .join, s, .lst ds => joinD s ds
  | .join, s, .tup ds => joinD s ds
  | .split, l, .str [c] => if l.length + 2 ≤ 16777216 ∧ c < 128 then some (.lst ((TL.spl [c] 0 [] l).map .str)) else none
  | .index, l, .str s => match Builtin.Str.occurrences ⟨l.toArray⟩ ⟨s.toArray⟩ 0 l.length 1 with
    | i :: _ => some (.int (i : Nat))
    | [] => none
  | _, _, _ => none
/-- a built-in class asked by isinstance -/
inductive Ty where
  | int | bool | str | list | tuple
  deriving DecidableEq
def isiD : Ty → D → Option Bool
  | .int, .int _ => some true | .int, .bl _ => some true | .int, .non => some false | .int, .str _ => some false | .int, .lst _ => some false | .int, .tup _ => some false
  | .bool, .int _ => some false | .bool, .bl _ => some true | .bool, .non => some false | .bool, .str _ => some false | .bool, .lst _ => some false | .bool, .tup _ => some false
  | .str, .int _ => some false | .str, .bl _ => some false | .str, .non => some false | .str, .str _ => some true | .str, .lst _ => some false | .str, .tup _ => some false
  | .list, .int _ => some false | .list, .bl _ => some false | .list, .non => some false | .list, .str _ => some false | .list, .lst _ => some true | .list, .tup _ => some false
  | .tuple, .int _ => some false | .tuple, .bl _ => some false | .tuple, .non => some false | .tuple, .str _ => some false | .tuple, .lst _ => some false | .tuple, .tup _ => some true
  | _, _ => none

def w62 (i : Int) : Bool := decide (-(4611686018427387904) ≤ i) && decide (i < 4611686018427387904)
/-- a method that changes an owned list -/
inductive Lm where
  | insert | reverse | pop | popAt | clear | extend
  deriving DecidableEq
def lmD : Lm → List D → List D → Option (List D)
  | .insert, ds, [.int i, d] => if ds.length < 16777216 ∧ 0 ≤ i ∧ i < 9223372036854775808 then some (ds.take i.toNat ++ [d] ++ ds.drop i.toNat) else none
  | .reverse, ds, [] => some ds.reverse
  | .clear, _, [] => some []
  | .pop, ds, [] => if ds.isEmpty then none else some ds.dropLast
  | .popAt, ds, [.int i] => if w62 i then (match ixN ds.length i with
    | some n => some (ds.eraseIdx n)
    | none => none) else none
  | .extend, ds, [.lst es] => if ds.length + es.length ≤ 16777216 then some (ds ++ es) else none
  | _, _, _ => none
/-- what makes a walk -/
inductive Wc where
  | r1 | r2 | r3 | enum | zip | rev
  deriving DecidableEq

/-! ### the code -/
mutual
inductive Tg where
  | name (i : Nat)
  | tup (l : Tgs)
inductive Tgs where
  | nil
  | cons (t : Tg) (r : Tgs)
end
mutual
inductive CE where
  | var (i : Nat)
  | bor (i : Nat)
  | lit (d : D)
  | glb (j : Nat) (d : D)
  | bin (o : Bop) (a b : CE)
  | neg (a : CE)
  | cmp (o : Cop) (a b : CE)
  | chn (o o' : Cop) (a b c : CE)
  | bop (n : Bool) (l : CL)
  | nt (a : CE)
  | ife (c a b : CE)
  | tup (l : CL)
  | lst (l : CL)
  | idx (a b : CE)
  | slc (a : CE) (lo hi : CO)
  | call (f : Nat) (l : CL)
  | lend (f : Nat) (l : CL)
  | bi (b : Bi) (l : CL)
  | m0 (m : M0) (o : CE)
  | m1 (m : M1) (o a : CE)
  | isi (t : Ty) (a : CE)
  | comp (own : List (Str × Nat)) (elt : CE) (t : Tg) (it : CI) (c : CO)
inductive CL where
  | nil
  | cons (a : CE) (r : CL)
inductive CO where
  | no
  | yes (a : CE)
inductive CI where
  | seq (a : CE)
  | wlk (w : Wc) (l : CL)
end
mutual
inductive CS where
  | set (i : Nat) (e : CE)
  | setO (i : Nat) (e : CE)
  | setT (t : Tg) (e : CE)
  | exp (e : CE)
  | app (i : Nat) (e : CE)
  | mth (m : Lm) (i : Nat) (l : CL)
  | six (i : Nat) (j e : CE)
  | sip (i : Nat) (j e : CE)
  | ret (e : CE)
  | retN
  | ife (c : CE) (a b : CB)
  | forr (t : Tg) (it : CI) (b : CB)
  | whl (n : Nat) (c : CE) (b : CB)
  | rai (x : Nat) (l : CL)
  | feed (i j : Nat)
  | pas
  | brk
  | cnt
inductive CB where
  | nil
  | cons (s : CS) (r : CB)
  | frz (i : Nat) (r : CB)
  | drp (i : Nat) (r : CB)
end

/-! ### the run -/
/-- a def's worth: whether what it hands back is a new list, and its answer -/
structure Fn where
  fr : Bool
  m : List D → Store → Res D
def Res.bind {α β : Type} (r : Res α) (f : α → Store → Res β) : Res β :=
  match r with
  | .ok a S => f a S
  | .err x S => .err x S
  | .bad => .bad
def ofO {α : Type} (o : Option α) (S : Store) : Res α :=
  match o with
  | some a => .ok a S
  | none => .bad
def asB : D → Option Bool
  | .bl b => some b
  | _ => none
def asI : D → Option Int
  | .int b => some b
  | _ => none
/-- no way out by an error -/
def Res.nox {α : Type} : Res α → Res α
  | .err _ _ => .bad
  | r => r
mutual
/-- no list within -/
def lfD : D → Bool
  | .lst _ => false
  | .tup ds => lfDs ds
  | .ptr _ => false
  | .scr _ => false
  | _ => true
def lfDs : List D → Bool
  | [] => true
  | d :: ds => lfD d && lfDs ds
end
/-- what a call may hand back that owned lists were lent to -/
def lfL : D → Bool
  | .lst ds => lfDs ds
  | _ => false
def lentF (fr : Bool) : Res D → Res D
  | .ok d S => if lfD d || (fr && lfL d) then .ok d S else .bad
  | .err x S => if lfDs x.args then .err x S else .bad
  | .bad => .bad
/-- a call; one without arguments may not end in an error -/
def callF (f : Fn) (ds : List D) (S : Store) : Res D :=
  match ds with
  | [] => (f.m [] S).nox
  | ds => f.m ds S
mutual
def bindT : Tg → D → List Cell → Option (List Cell)
  | .name i, d, ρ => some (ρ.set i (.sh d))
  | .tup l, .tup ds, ρ => bindTs l ds ρ
  | _, _, _ => none
def bindTs : Tgs → List D → List Cell → Option (List Cell)
  | .nil, [], ρ => some ρ
  | .cons t r, d :: ds, ρ => match bindT t d ρ with
    | some ρ' => bindTs r ds ρ'
    | none => none
  | _, _, _ => none
end
def wipeC (ρ : List Cell) : List Nat → List Cell
  | [] => ρ
  | v :: vs => (wipeC ρ vs).set v .u
/-- none of these slots is owned -/
def noOw (ρ : List Cell) (vs : List Nat) : Bool := vs.all fun v => match ρ[v]? with | some (.ow _) => false | _ => true
/-- a comprehension's turns: step gives an element, or none -/
def compL (step : D → Store → Res (Option D)) : List D → Store → List D → Res D
  | [], S, acc => .ok (.lst acc) S
  | d :: ds, S, acc => match step d S with
    | .ok (some y) S' => if acc.length < 16777216 then compL step ds S' (acc ++ [y]) else .bad
    | .ok none S' => compL step ds S' acc
    | .err _ _ => .bad
    | .bad => .bad
def seqOf : D → Option (List D)
  | .lst ds => some ds
  | .tup ds => some ds
  | .str l => some (l.map fun c => .str [c])
  | _ => none
def zipD : List D → List D → List D
  | a :: as, b :: bs => .tup [a, b] :: zipD as bs
  | _, _ => []
def enumD : Nat → List D → List D
  | _, [] => []
  | n, d :: ds => .tup [.int (n : Nat), d] :: enumD (n + 1) ds
def wcD : Wc → List D → Option (List D)
  | .r1, [.int j] => if w62 j then some ((List.range j.toNat).map fun i => .int ((i : Nat) : Int)) else none
  | .r2, [.int i, .int j] => if w62 i && w62 j then some ((List.range (j - i).toNat).map fun (k : Nat) => .int (i + (k : Int))) else none
  | .r3, [.int i, .int j, .int c] => if w62 i && w62 j && c == -1 then some ((List.range (i - j).toNat).map fun (k : Nat) => .int (i + (k : Int) * -1)) else none
  | .enum, [.lst ds] => some (enumD 0 ds)
  | .zip, [.lst ds, .lst es] => some (zipD ds es)
  | .rev, [.lst ds] => some ds.reverse
  | _, _ => none
/-- a pointer's list -/
def drf (S : Store) : D → Option D
  | .ptr n => (S[n]?).map .lst
  | d => some d
mutual
def evE (Φ : Nat → Fn) : CE → List Cell → Store → Res D
  | .var i, ρ, S => match ρ[i]? with
    | some (.sh d) => .ok d S
    | _ => .bad
  | .bor i, ρ, S => match ρ[i]? with
    | some (.ow ds) => .ok (.lst ds) S
    | _ => .bad
  | .lit d, _, S => .ok d S
  | .glb _ d, _, S => .ok d S
  | .bin o a b, ρ, S => (evE Φ a ρ S).bind fun x S => (evE Φ b ρ S).bind fun y S => ofO (binD o x y) S
  | .neg a, ρ, S => (evE Φ a ρ S).bind fun x S => ofO ((asI x).map fun i => .int (-i)) S
  | .cmp o a b, ρ, S => (evE Φ a ρ S).bind fun x S => (evE Φ b ρ S).bind fun y S => ofO (cmpD o x y) S
  | .chn o o' a b c, ρ, S => (evE Φ a ρ S).bind fun x S => (evE Φ b ρ S).bind fun y S => (ofO (cmpB o x y) S).bind fun k S =>
      if k then (evE Φ c ρ S).bind fun z S => ofO (cmpD o' y z) S else .ok (.bl false) S
  | .bop n l, ρ, S => evB Φ n l ρ S
  | .nt a, ρ, S => (evE Φ a ρ S).bind fun x S => ofO ((asB x).map fun b => .bl (!b)) S
  | .ife c a b, ρ, S => (evE Φ c ρ S).bind fun x S => (ofO (asB x) S).bind fun k S => if k then evE Φ a ρ S else evE Φ b ρ S
  | .tup l, ρ, S => (evL Φ l ρ S).bind fun ds S => if ds.length ≤ 16777216 then .ok (.tup ds) S else .bad
  | .lst l, ρ, S => (evL Φ l ρ S).bind fun ds S => if ds.length ≤ 16777216 then .ok (.lst ds) S else .bad
  | .idx a b, ρ, S => (evE Φ a ρ S).bind fun x S => (evE Φ b ρ S).bind fun y S => (ofO (drf S x) S).bind fun x S => ofO (idxD x y) S
  | .slc a lo hi, ρ, S => (evE Φ a ρ S).bind fun x S => (evO Φ lo ρ S).bind fun i S => (evO Φ hi ρ S).bind fun j S => ofO (sliceD x i j) S
  | .call f l, ρ, S => (evL Φ l ρ S).bind fun ds S => callF (Φ f) ds S
  | .lend f l, ρ, S => (evL Φ l ρ S).bind fun ds S => lentF (Φ f).fr ((Φ f).m ds S)
  | .bi b l, ρ, S => (evL Φ l ρ S).bind fun ds S => ofO (biD b ds) S
  | .m0 m o, ρ, S => (evE Φ o ρ S).bind fun x S => ofO (m0D m x) S
  | .m1 m o a, ρ, S => (evE Φ o ρ S).bind fun x S => (ofO (asS x) S).bind fun l S => (evE Φ a ρ S).bind fun y S => ofO (m1D m l y) S
  | .isi t a, ρ, S => (evE Φ a ρ S).bind fun x S => ofO ((isiD t x).map .bl) S
  | .comp own elt t it c, ρ, S => (evI Φ it ρ S).bind fun ds S => if noOw ρ (own.map (·.2)) then compL (fun d S =>
      (ofO (bindT t d (wipeC ρ (own.map (·.2)))) S).bind fun ρ' S => (evC Φ c ρ' S).bind fun k S => if k then (evE Φ elt ρ' S).bind fun y S => .ok (some y) S else .ok none S) ds S [] else .bad
def evL (Φ : Nat → Fn) : CL → List Cell → Store → Res (List D)
  | .nil, _, S => .ok [] S
  | .cons a r, ρ, S => (evE Φ a ρ S).bind fun x S => (evL Φ r ρ S).bind fun xs S => .ok (x :: xs) S
/-- and, or: bools alone -/
def evB (Φ : Nat → Fn) : Bool → CL → List Cell → Store → Res D
  | _, .nil, _, _ => .bad
  | n, .cons a r, ρ, S => (evE Φ a ρ S).bind fun x S => (ofO (asB x) S).bind fun k S =>
      match r with
      | .nil => .ok (.bl k) S
      | r => if k == n then evB Φ n r ρ S else .ok (.bl k) S
def evO (Φ : Nat → Fn) : CO → List Cell → Store → Res (Option Int)
  | .no, _, S => .ok none S
  | .yes a, ρ, S => (evE Φ a ρ S).bind fun x S => (ofO (asI x) S).bind fun i S => .ok (some i) S
/-- a comprehension's test -/
def evC (Φ : Nat → Fn) : CO → List Cell → Store → Res Bool
  | .no, _, S => .ok true S
  | .yes a, ρ, S => (evE Φ a ρ S).bind fun x S => ofO (asB x) S
/-- what is walked -/
def evI (Φ : Nat → Fn) : CI → List Cell → Store → Res (List D)
  | .seq a, ρ, S => (evE Φ a ρ S).bind fun x S => ofO (seqOf x) S
  | .wlk w l, ρ, S => (evL Φ l ρ S).bind fun ds S => ofO (wcD w ds) S
end
/-- how a statement ends -/
inductive Flw where
  | nx (ρ : List Cell)
  | rt (fr : Bool) (d : D)
  | bk (ρ : List Cell)
  | ct (ρ : List Cell)
abbrev Out := Res Flw
/-- behind a loop's body: on, or out of the loop -/
def after (r : Out) (go : List Cell → Store → Out) : Out :=
  match r with
  | .ok (.nx ρ) S => go ρ S
  | .ok (.ct ρ) S => go ρ S
  | .ok (.bk ρ) S => .ok (.nx ρ) S
  | .ok (.rt fr d) S => .ok (.rt fr d) S
  | .err x S => .err x S
  | .bad => .bad
def loopF (body : D → List Cell → Store → Out) : List D → List Cell → Store → Out
  | [], ρ, S => .ok (.nx ρ) S
  | d :: ds, ρ, S => after (body d ρ S) (loopF body ds)
def loopW (c : List Cell → Store → Res Bool) (body : List Cell → Store → Out) : Nat → List Cell → Store → Out
  | 0, _, _ => .bad
  | n + 1, ρ, S => (c ρ S).bind fun k S => if k then after (body ρ S) (loopW c body n) else .ok (.nx ρ) S
/-- 0: an owned list may be handed on, to be read; 1: shared; 2: new -/
def kE (Φ : Nat → Fn) : CE → Nat
  | .var _ => 1
  | .bor _ => 0
  | .idx _ _ => 1
  | .glb _ _ => 1
  | .call f _ => if (Φ f).fr then 2 else 1
  | .ife _ a b => min (kE Φ a) (kE Φ b)
  | _ => 2
def setF (ρ : List Cell) (i : Nat) (c : Cell) (S : Store) : Out := .ok (.nx (ρ.set i c)) S
def setOF (ρ : List Cell) (i : Nat) : D → Store → Out
  | .lst ds, S => setF ρ i (.ow ds) S
  | _, _ => .bad
def setTF (ρ : List Cell) (t : Tg) (d : D) (S : Store) : Out :=
  match bindT t d ρ with
  | some ρ' => .ok (.nx ρ') S
  | none => .bad
def owOf (ρ : List Cell) (i : Nat) : Option (List D) :=
  match ρ[i]? with
  | some (.ow ds) => some ds
  | _ => none
def ptOf (ρ : List Cell) (i : Nat) : Option Nat :=
  match ρ[i]? with
  | some (.sh (.ptr p)) => some p
  | _ => none
def appF (ρ : List Cell) (i : Nat) (ds : List D) (d : D) (S : Store) : Out := if ds.length < 16777216 then setF ρ i (.ow (ds ++ [d])) S else .bad
def sixF (ρ : List Cell) (i : Nat) (ds : List D) (d k : D) (S : Store) : Out :=
  match k with
  | .int k => match ixN ds.length k with
    | some n => setF ρ i (.ow (ds.set n d)) S
    | none => .bad
  | _ => .bad
def sipF (ρ : List Cell) (p : Nat) (d k : D) (S : Store) : Out :=
  if lfD d then (match k, S[p]? with
  | .int k, some ds => match ixN ds.length k with
    | some n => .ok (.nx ρ) (S.set p (ds.set n d))
    | none => .bad
  | _, _ => .bad) else .bad
def feedF (ρ : List Cell) (i j : Nat) (S : Store) : Out :=
  match ρ[j]? with
  | some (.sh (.scr ns)) => .ok (.nx (ρ.set i (.sh (.ptr S.length)))) (S ++ [[.lst (ns.map .int), .int 0, .int 0]])
  | _ => .bad
def isBor : CE → Bool
  | .bor _ => true
  | _ => false
def seqB (r : Out) (go : List Cell → Store → Out) : Out :=
  match r with
  | .ok (.nx ρ) S => go ρ S
  | o => o
mutual
def evS (Φ : Nat → Fn) : CS → List Cell → Store → Out
  | .set i e, ρ, S => (evE Φ e ρ S).bind fun d S => setF ρ i (.sh d) S
  | .setO i e, ρ, S => (evE Φ e ρ S).bind fun d S => setOF ρ i d S
  | .setT t e, ρ, S => (evE Φ e ρ S).bind fun d S => setTF ρ t d S
  | .exp e, ρ, S => (evE Φ e ρ S).bind fun _ S => .ok (.nx ρ) S
  | .app i e, ρ, S => (ofO (owOf ρ i) S).bind fun ds S => (evE Φ e ρ S).bind fun d S => appF ρ i ds d S
  | .mth m i l, ρ, S => (ofO (owOf ρ i) S).bind fun ds S => (evL Φ l ρ S).bind fun as S => (ofO (lmD m ds as) S).bind fun es S => setF ρ i (.ow es) S
  | .six i j e, ρ, S => (ofO (owOf ρ i) S).bind fun ds S => (evE Φ e ρ S).bind fun d S => (evE Φ j ρ S).bind fun k S => sixF ρ i ds d k S
  | .sip i j e, ρ, S => (ofO (ptOf ρ i) S).bind fun p S => (evE Φ e ρ S).bind fun d S => (evE Φ j ρ S).bind fun k S => sipF ρ p d k S
  | .ret e, ρ, S => (evE Φ e ρ S).bind fun d S => .ok (.rt (isBor e || decide (2 ≤ kE Φ e)) d) S
  | .retN, _, S => .ok (.rt true .non) S
  | .ife c a b, ρ, S => (evE Φ c ρ S).bind fun x S => (ofO (asB x) S).bind fun k S => if k then evBk Φ a ρ S else evBk Φ b ρ S
  | .forr t it b, ρ, S => (evI Φ it ρ S).bind fun ds S => loopF (fun d ρ S => seqB (setTF ρ t d S) (evBk Φ b)) ds ρ S
  | .whl n c b, ρ, S => loopW (fun ρ S => (evE Φ c ρ S).bind fun x S => ofO (asB x) S) (evBk Φ b) n ρ S
  | .rai x l, ρ, S => (evL Φ l ρ S).bind fun ds S => .err ⟨x, ds⟩ S
  | .feed i j, ρ, S => feedF ρ i j S
  | .pas, ρ, S => .ok (.nx ρ) S
  | .brk, ρ, S => .ok (.bk ρ) S
  | .cnt, ρ, S => .ok (.ct ρ) S
def evBk (Φ : Nat → Fn) : CB → List Cell → Store → Out
  | .nil, ρ, S => .ok (.nx ρ) S
  | .cons s r, ρ, S => seqB (evS Φ s ρ S) (evBk Φ r)
  | .frz i r, ρ, S => match ρ[i]? with
    | some (.ow ds) => evBk Φ r (ρ.set i (.sh (.lst ds))) S
    | _ => .bad
  | .drp i r, ρ, S => evBk Φ r (ρ.set i .u) S
end
/-- a def's end -/
def endD (fr : Bool) : Out → Res D
  | .ok (.nx _) S => .ok .non S
  | .ok (.rt f d) S => if fr && !f then .bad else .ok d S
  | .err x S => .err x S
  | _ => .bad
/-- a def of np parameters and n slots -/
def runDef (Φ : Nat → Fn) (fr : Bool) (np n : Nat) (b : CB) (ds : List D) (S : Store) : Res D :=
  if ds.length = np then endD fr (evBk Φ b (ds.map .sh ++ List.replicate (n - ds.length) .u) S) else .bad
end RH

set_option Elab.async false
set_option linter.all false
set_option maxRecDepth 100000
/-! RHSnd1: what a run promises (spD), the readings tX, tT, tL of code, and the rules for expressions. -/
namespace RH
open PySem PySem.Spec PyProof.Rows L2

/-- exception classes by number: where the class stands, its fields' names -/
structure XT where
  cl : Nat → Addr
  fl : Nat → List Str
def XRep (E : XT) (K : PySem.W.Frag) (μ : List Addr) (W : Addr → Prop) (H : Hp) (x : Exn) (c : Value) (dd : Option Addr) : Prop :=
  c = .ref (E.cl x.cls) ∧ match E.fl x.cls with
    | [] => dd = none
    | fs => ∃ d vs, dd = some d ∧ H d = some (.xd (fs.zip vs)) ∧ Rps K μ W H x.args vs

/-- the store does not hold the list v -/
def NSt (K : PySem.W.Frag) (μ : List Addr) (W : Addr → Prop) (H : Hp) (S : Store) (d : D) (v : V) : Prop := ∀ ds a, d = .lst ds → v = .ref a → SOk K μ (fun b => W b ∨ b = a) H S
def RR (fr : Bool) (K : PySem.W.Frag) (μ : List Addr) (W Ws : Addr → Prop) (H0 H : Hp) (S : Store) (d : D) (v : V) : Prop := Rp K μ W H d v ∧ (fr = true → Fsh K μ W H0 H d v ∧ NSt K μ Ws H S d v)
/-- the promise of a def -/
def spD (E : XT) (K : PySem.W.Frag) (f : Fn) : Sp := fun vs H Q X => ∃ (W Ws : Addr → Prop) (μ : List Addr) (S : Store) (ds : List D), (∀ b, W b → Ws b) ∧ (∀ b, Ws b → H b ≠ none) ∧ SOk K μ Ws H S ∧ Rps K μ W H ds vs ∧
  match f.m ds S with
  | .ok d S' => ∀ v H' μ', Ext μ H H' → Gr μ H μ' → SOk K μ' Ws H' S' → RR f.fr K μ' W Ws H H' S' d v → Q v H'
  | .err x S' => ∀ c dd H' μ', Ext μ H H' → Gr μ H μ' → SOk K μ' Ws H' S' → XRep E K μ' W H' x c dd → X c dd H'
  | .bad => False

/-- an owned list may be read -/
def Rb (K : PySem.W.Frag) (μ : List Addr) (W : Addr → Prop) (H : Hp) (d : D) (v : V) : Prop :=
  Rp K μ W H d v ∨ ∃ a vs ds, d = .lst ds ∧ v = .ref a ∧ H a = some (.lst vs) ∧ a ∉ μ ∧ Rps K μ W H ds vs
def RK (k : Nat) (K : PySem.W.Frag) (μ : List Addr) (W Ws : Addr → Prop) (H0 H : Hp) (S : Store) (d : D) (v : V) : Prop :=
  Rb K μ W H d v ∧ (1 ≤ k → Rp K μ W H d v) ∧ (2 ≤ k → Fsh K μ W H0 H d v ∧ NSt K μ Ws H S d v)
section
variable {K : PySem.W.Frag} {μ μ' : List Addr} {W Ws : Addr → Prop} {H0 H H' : Hp} {S : Store} {d : D} {v : V} {k : Nat}
theorem Rb.w (h : Rb K μ W H d v) : Rw K μ W H d v := by
  rcases h with h | ⟨a, vs, ds, h1, h2, h3, _, h5⟩
  · exact .inl h
  · exact .inr ⟨a, vs, ds, h1, h2, h3, h5⟩
theorem Rb.ext (h : Rb K μ W H d v) (x : Ext μ H H') (g : Gr μ H μ') : Rb K μ' W H' d v := by
  rcases h with h | ⟨a, vs, ds, h1, h2, h3, h4, h5⟩
  · exact .inl (h.ext' x g)
  · exact .inr ⟨a, vs, ds, h1, h2, x _ _ h3 (.inl h4), (fun z => by rw [g.2 a z h4] at h3; cases h3), h5.ext' x g⟩
theorem RK.w (h : RK k K μ W Ws H0 H S d v) : Rw K μ W H d v := h.1.w
theorem RK.rp (h : RK k K μ W Ws H0 H S d v) (hk : 1 ≤ k) : Rp K μ W H d v := h.2.1 hk
theorem RK.of (h : Rp K μ W H d v) (f : Fsh K μ W H0 H d v) (n : NSt K μ Ws H S d v) : RK k K μ W Ws H0 H S d v := ⟨.inl h, fun _ => h, fun _ => ⟨f, n⟩⟩
theorem Fsh.back {H1 : Hp} (f : Fsh K μ' W H1 H' d v) (x : Ext μ H0 H1) (sub : ∀ b, b ∈ μ → b ∈ μ') : Fsh K μ' W H0 H' d v := fun ds e => by
  obtain ⟨a, vs, h1, h2, h3, h4, h5⟩ := f ds e
  exact ⟨a, vs, h1, x.free (fun z => h4 (sub a z)) h2, h3, h4, h5⟩
end

/-- the end of a run in a body: P for its result, EW for an error -/
def Fin (K : PySem.W.Frag) (E : XT) (EW : WX) (F : Fx) (os : Nat → Option Addr) (σ : L2.St) (ρ : List Cell) {α : Type} (P : α → Store → List Addr → Hp → Prop) (μ : List Addr) (H : Hp) : Res α → Prop
  | .ok a S => P a S μ H
  | .err x S => ∀ c dd H' μ', Ext μ H H' → Gr μ H μ' → Bd K F μ' S os σ ρ H' → XRep E K μ' (Wo F.W0 os) H' x c dd → EW c dd σ H'
  | .bad => False
/-- P can be asked later -/
def Tr {α : Type} (P : α → Store → List Addr → Hp → Prop) : Prop := ∀ a S μ H μ1 H1, P a S μ H → Ext μ H H1 → Gr μ H μ1 → P a S μ1 H1
section
variable {K : PySem.W.Frag} {E : XT} {EW : WX} {F : Fx} {os : Nat → Option Addr} {σ : L2.St} {ρ : List Cell}
theorem Fin.later {α : Type} {P : α → Store → List Addr → Hp → Prop} {μ μ1 : List Addr} {H H1 : Hp} {r : Res α} (tr : Tr P) (h : Fin K E EW F os σ ρ P μ H r) (x : Ext μ H H1) (g : Gr μ H μ1) : Fin K E EW F os σ ρ P μ1 H1 r := by
  cases r with
  | ok a S => exact tr a S μ H μ1 H1 h x g
  | err y S => exact fun c dd H' μ' x' g' b r => h c dd H' μ' (x.trans g x') (g.trans x g') b r
  | bad => exact h
end
/-- what an expression's value is wanted for -/
def PE1 (K : PySem.W.Frag) (F : Fx) (os : Nat → Option Addr) (σ : L2.St) (ρ : List Cell) (k : Nat) (Q : VK) : D → Store → List Addr → Hp → Prop := fun d S μ H =>
  ∀ v H' μ', Ext μ H H' → Gr μ H μ' → Bd K F μ' S os σ ρ H' → RK k K μ' (Wo F.W0 os) (Wo F.Ws os) H H' S d v → Q v H'
theorem PE1.tr {K : PySem.W.Frag} {F : Fx} {os : Nat → Option Addr} {σ : L2.St} {ρ : List Cell} {k : Nat} {Q : VK} : Tr (PE1 K F os σ ρ k Q) := fun d S μ H μ1 H1 h x g v H' μ' x' g' b r =>
  h v H' μ' (x.trans g x') (g.trans x g') b ⟨r.1, r.2.1, fun hk => ⟨(r.2.2 hk).1.back x (fun a ha => g'.sub a (g.sub a ha)), (r.2.2 hk).2⟩⟩
/-- the reading of an expression's code -/
def tX (K : PySem.W.Frag) (E : XT) (EW : WX) (k : Nat) (m : List Cell → Store → Res D) : TE := fun σ H Q => ∃ F μ S os ρ, Bd K F μ S os σ ρ H ∧ Fin K E EW F os σ ρ (PE1 K F os σ ρ k Q) μ H (m ρ S)
/-- .. of a test's -/
def PT1 (K : PySem.W.Frag) (F : Fx) (os : Nat → Option Addr) (σ : L2.St) (ρ : List Cell) (Q : Bool → Hp → Prop) : Bool → Store → List Addr → Hp → Prop := fun b S μ H =>
  ∀ H' μ', Ext μ H H' → Gr μ H μ' → Bd K F μ' S os σ ρ H' → Q b H'
theorem PT1.tr {K : PySem.W.Frag} {F : Fx} {os : Nat → Option Addr} {σ : L2.St} {ρ : List Cell} {Q : Bool → Hp → Prop} : Tr (PT1 K F os σ ρ Q) := fun d S μ H μ1 H1 h x g H' μ' x' g' b =>
  h H' μ' (x.trans g x') (g.trans x g') b
def tT (K : PySem.W.Frag) (E : XT) (EW : WX) (m : List Cell → Store → Res Bool) : TT := fun σ H Q => ∃ F μ S os ρ, Bd K F μ S os σ ρ H ∧ Fin K E EW F os σ ρ (PT1 K F os σ ρ Q) μ H (m ρ S)
/-- .. of arguments' -/
inductive RKs (st : Bool) (K : PySem.W.Frag) (μ : List Addr) (W : Addr → Prop) (H : Hp) : List D → List V → Prop
  | nil : RKs st K μ W H [] []
  | cons {d : D} {v : V} {ds : List D} {vs : List V} : Rb K μ W H d v → (st = true → Rp K μ W H d v) → RKs st K μ W H ds vs → RKs st K μ W H (d :: ds) (v :: vs)
def PL1 (K : PySem.W.Frag) (F : Fx) (os : Nat → Option Addr) (σ : L2.St) (ρ : List Cell) (st : Bool) (Q : List V → Hp → Prop) : List D → Store → List Addr → Hp → Prop := fun ds S μ H =>
  ∀ vs H' μ', Ext μ H H' → Gr μ H μ' → Bd K F μ' S os σ ρ H' → RKs st K μ' (Wo F.W0 os) H' ds vs → Q vs H'
theorem PL1.tr {K : PySem.W.Frag} {F : Fx} {os : Nat → Option Addr} {σ : L2.St} {ρ : List Cell} {st : Bool} {Q : List V → Hp → Prop} : Tr (PL1 K F os σ ρ st Q) := fun d S μ H μ1 H1 h x g vs H' μ' x' g' b r =>
  h vs H' μ' (x.trans g x') (g.trans x g') b r
def tL (K : PySem.W.Frag) (E : XT) (EW : WX) (st : Bool) (m : List Cell → Store → Res (List D)) : TA := fun σ H Q => ∃ F μ S os ρ, Bd K F μ S os σ ρ H ∧ Fin K E EW F os σ ρ (PL1 K F os σ ρ st Q) μ H (m ρ S)
/-- .. of an optional int's -/
def PO1 (K : PySem.W.Frag) (F : Fx) (os : Nat → Option Addr) (σ : L2.St) (ρ : List Cell) (Q : Option Int → Hp → Prop) : Option Int → Store → List Addr → Hp → Prop := fun i S μ H =>
  ∀ H' μ', Ext μ H H' → Gr μ H μ' → Bd K F μ' S os σ ρ H' → Q i H'
def tO (K : PySem.W.Frag) (E : XT) (EW : WX) (m : List Cell → Store → Res (Option Int)) : TO := fun σ H Q => ∃ F μ S os ρ, Bd K F μ S os σ ρ H ∧ Fin K E EW F os σ ρ (PO1 K F os σ ρ Q) μ H (m ρ S)
section
variable {K : PySem.W.Frag} {E : XT} {EW : WX} {F : Fx} {os : Nat → Option Addr} {σ : L2.St} {ρ : List Cell} {μ : List Addr} {S : Store} {H : Hp} {β : Type} {P : β → Store → List Addr → Hp → Prop}
theorem RKs.ext {st : Bool} {W : Addr → Prop} {μ' : List Addr} {H' : Hp} (x : Ext μ H H') (g : Gr μ H μ') : ∀ {ds : List D} {vs : List V}, RKs st K μ W H ds vs → RKs st K μ' W H' ds vs
  | _, _, .nil => .nil
  | _, _, .cons h s r => .cons (h.ext x g) (fun e => (s e).ext' x g) (RKs.ext x g r)
theorem RKs.rws {st : Bool} {W : Addr → Prop} : ∀ {ds : List D} {vs : List V}, RKs st K μ W H ds vs → Rws K μ W H ds vs
  | _, _, .nil => .nil
  | _, _, .cons h s r => .cons h.w (RKs.rws r)
theorem RKs.rps {W : Addr → Prop} : ∀ {ds : List D} {vs : List V}, RKs true K μ W H ds vs → Rps K μ W H ds vs
  | _, _, .nil => .nil
  | _, _, .cons h s r => .cons (s rfl) (RKs.rps r)
theorem tX.bind {k : Nat} {m : List Cell → Store → Res D} {f : D → Store → Res β} {R : VK} (tr : Tr P) (B : Bd K F μ S os σ ρ H) (h : Fin K E EW F os σ ρ P μ H ((m ρ S).bind f))
    (hR : ∀ d S1 v H1 μ1, Ext μ H H1 → Gr μ H μ1 → Bd K F μ1 S1 os σ ρ H1 → RK k K μ1 (Wo F.W0 os) (Wo F.Ws os) H H1 S1 d v → Fin K E EW F os σ ρ P μ1 H1 (f d S1) → R v H1) : tX K E EW k m σ H R := by
  refine ⟨F, μ, S, os, ρ, B, ?_⟩
  cases e : m ρ S with
  | ok d S1 =>
    rw [e] at h
    exact fun v H1 μ1 x g B1 r => hR d S1 v H1 μ1 x g B1 r (Fin.later tr h x g)
  | err y S1 => rw [e] at h; exact h
  | bad => rw [e] at h; exact h
theorem tT.bind {m : List Cell → Store → Res Bool} {f : Bool → Store → Res β} {R : Bool → Hp → Prop} (tr : Tr P) (B : Bd K F μ S os σ ρ H) (h : Fin K E EW F os σ ρ P μ H ((m ρ S).bind f))
    (hR : ∀ b S1 H1 μ1, Ext μ H H1 → Gr μ H μ1 → Bd K F μ1 S1 os σ ρ H1 → Fin K E EW F os σ ρ P μ1 H1 (f b S1) → R b H1) : tT K E EW m σ H R := by
  refine ⟨F, μ, S, os, ρ, B, ?_⟩
  cases e : m ρ S with
  | ok d S1 =>
    rw [e] at h
    exact fun H1 μ1 x g B1 => hR d S1 H1 μ1 x g B1 (Fin.later tr h x g)
  | err y S1 => rw [e] at h; exact h
  | bad => rw [e] at h; exact h
theorem tL.bind {st : Bool} {m : List Cell → Store → Res (List D)} {f : List D → Store → Res β} {R : List V → Hp → Prop} (tr : Tr P) (B : Bd K F μ S os σ ρ H) (h : Fin K E EW F os σ ρ P μ H ((m ρ S).bind f))
    (hR : ∀ ds S1 vs H1 μ1, Ext μ H H1 → Gr μ H μ1 → Bd K F μ1 S1 os σ ρ H1 → RKs st K μ1 (Wo F.W0 os) H1 ds vs → Fin K E EW F os σ ρ P μ1 H1 (f ds S1) → R vs H1) : tL K E EW st m σ H R := by
  refine ⟨F, μ, S, os, ρ, B, ?_⟩
  cases e : m ρ S with
  | ok d S1 =>
    rw [e] at h
    exact fun v H1 μ1 x g B1 r => hR d S1 v H1 μ1 x g B1 r (Fin.later tr h x g)
  | err y S1 => rw [e] at h; exact h
  | bad => rw [e] at h; exact h
theorem tO.bind {m : List Cell → Store → Res (Option Int)} {f : Option Int → Store → Res β} {R : Option Int → Hp → Prop} (tr : Tr P) (B : Bd K F μ S os σ ρ H) (h : Fin K E EW F os σ ρ P μ H ((m ρ S).bind f))
    (hR : ∀ b S1 H1 μ1, Ext μ H H1 → Gr μ H μ1 → Bd K F μ1 S1 os σ ρ H1 → Fin K E EW F os σ ρ P μ1 H1 (f b S1) → R b H1) : tO K E EW m σ H R := by
  refine ⟨F, μ, S, os, ρ, B, ?_⟩
  cases e : m ρ S with
  | ok d S1 =>
    rw [e] at h
    exact fun H1 μ1 x g B1 => hR d S1 H1 μ1 x g B1 (Fin.later tr h x g)
  | err y S1 => rw [e] at h; exact h
  | bad => rw [e] at h; exact h
/-- an operation's end -/
theorem Fin.ofO {o : Option β} (h : Fin K E EW F os σ ρ P μ H (ofO o S)) : ∃ b, o = some b ∧ P b S μ H := by
  cases o with
  | none => exact h.elim
  | some b => exact ⟨b, rfl, h⟩
theorem Bd.dm (B : Bd K F μ S os σ ρ H) : Dm μ (Wo F.W0 os) H := ⟨fun b z => B.wdom b (B.wos b z), fun b hb z => by
  obtain ⟨vs, e⟩ := B.st.there b hb
  rw [e] at z; cases z⟩
/-- a value made of what stands -/
theorem PE1.po {k : Nat} {Q : VK} {d : D} (B : Bd K F μ S os σ ρ H) (h : PE1 K F os σ ρ k Q d S μ H) : Po K μ (Wo F.W0 os) H d Q := fun v H' s r f =>
  h v H' μ (.of_same s) .refl (B.same s) (.of r f fun ds a e e' => by
    obtain ⟨a', vs, h1, h2, h3, _⟩ := f ds e
    subst e'
    cases h1
    exact B.st.keep (fun b o h _ => s b o h) (.of_same s) fun b hb z => by
      rcases z with z | z
      · exact z
      · subst z; exact absurd h2 hb)
/-- a value that stands -/
theorem PE1.rp {k : Nat} {Q : VK} {d : D} {v : V} (B : Bd K F μ S os σ ρ H) (h : PE1 K F os σ ρ k Q d S μ H) (hk : k < 2) (r : Rp K μ (Wo F.W0 os) H d v) : Q v H :=
  h v H μ .refl .refl B ⟨.inl r, fun _ => r, fun z => by omega⟩
end

/-! ### judgements weakened -/
section
variable {X : Cx} {e : Expr}
theorem _root_.L2.PE.imp {t t' : TE} (h : PE X e t) (i : ∀ σ H Q, t' σ H Q → t σ H Q) : PE X e t' := ⟨fun pins s σ H Q I q => h.run pins s σ H Q I (i σ H Q q)⟩
theorem _root_.L2.PT.imp {t t' : TT} (h : PT X e t) (i : ∀ σ H Q, t' σ H Q → t σ H Q) : PT X e t' := ⟨fun pins s σ H Q I q => h.run pins s σ H Q I (i σ H Q q)⟩
theorem _root_.L2.PW.imp {t t' : TT} (h : PW X e t) (i : ∀ σ H Q, t' σ H Q → t σ H Q) : PW X e t' := ⟨fun w pins s σ H Q I q => h.run w pins s σ H Q I (i σ H Q q)⟩
theorem _root_.L2.PA.imp {es : List Expr} {t t' : TA} (h : PA X es t) (i : ∀ σ H Q, t' σ H Q → t σ H Q) : PA X es t' := ⟨fun p pins s σ H Q I q => h.run p pins s σ H Q I (i σ H Q q)⟩
theorem _root_.L2.PO.imp {o : Option Expr} {t t' : TO} (h : PO X o t) (i : ∀ σ H Q, t' σ H Q → t σ H Q) : PO X o t' := ⟨fun pins s σ H Q I q => h.run pins s σ H Q I (i σ H Q q)⟩
theorem _root_.L2.PI.imp {tg it : Expr} {t t' : TI} (h : PI X tg it t) (i : ∀ σ H Q, t' σ H Q → t σ H Q) : PI X tg it t' := ⟨fun pins s σ H Q I q => h.run pins s σ H Q I (i σ H Q q)⟩
theorem _root_.L2.PI.or {tg it : Expr} {t t' : TI} (h : PI X tg it t) (h' : PI X tg it t') : PI X tg it (fun σ H Q => t σ H Q ∨ t' σ H Q) := ⟨fun pins s σ H Q I q => by
  rcases q with q | q
  · exact h.run pins s σ H Q I q
  · exact h'.run pins s σ H Q I q⟩
theorem _root_.L2.PS.imp {st : Stmt} {t t' : TS} (h : PS X st t) (i : ∀ D σ H, t' D σ H → t D σ H) : PS X st t' := ⟨fun pins s σ H D I q => h.run pins s σ H D I (i D σ H q)⟩
theorem _root_.L2.PSs.imp {st : List Stmt} {t t' : TS} (h : PSs X st t) (i : ∀ D σ H, t' D σ H → t D σ H) : PSs X st t' := ⟨fun pins s σ H D I q => h.run pins s σ H D I (i D σ H q)⟩
end
end RH

set_option Elab.async false
set_option linter.all false
set_option maxRecDepth 100000
/-! RHSnd2: one rule for each form of expression. -/
namespace RH
open PySem PySem.Spec PyProof.Rows L2
section
variable {X : Cx} {E : XT} {EW : WX} {Φ : Nat → Fn} {pos : Pos}
theorem s_var {i : Nat} {x : Str} (hN : X.N[i]? = some x) (hv : Vis X.env.scope x) (hd : (x == ("__debug__" : Str)) = false) (hcd : (x == ("__classdict__" : Str)) = false) : PE X (.Name x pos) (tX X.K E EW 1 (evE Φ (.var i))) := by
  refine (pe_var hN hv hd hcd).imp fun σ H Q h => ?_
  obtain ⟨F, μ, S, os, ρ, B, h⟩ := h
  simp only [evE] at h
  split at h
  · rename_i d e
    obtain ⟨_, v, h1, h2⟩ := B.slot i _ e
    exact ⟨v, h1, PE1.rp B h (by decide) h2⟩
  · exact h.elim
theorem s_bor {i : Nat} {x : Str} (hN : X.N[i]? = some x) (hv : Vis X.env.scope x) (hd : (x == ("__debug__" : Str)) = false) (hcd : (x == ("__classdict__" : Str)) = false) : PE X (.Name x pos) (tX X.K E EW 0 (evE Φ (.bor i))) := by
  refine (pe_var hN hv hd hcd).imp fun σ H Q h => ?_
  obtain ⟨F, μ, S, os, ρ, B, h⟩ := h
  simp only [evE] at h
  split at h
  · rename_i ds e
    obtain ⟨a, vs, h0, h1, h2, h3⟩ := B.slot i _ e
    exact ⟨_, h1, h _ _ _ .refl .refl B ⟨.inr ⟨a, vs, ds, rfl, rfl, h2, fun z => B.st.nw a z (.inr ⟨i, h0⟩), h3⟩, fun z => by omega, fun z => by omega⟩⟩
  · exact h.elim
theorem s_val {e : Expr} {d : D} {v : V} {c : CE} {k : Nat} (h : PE X e (tC v)) (he : ∀ ρ S, evE Φ c ρ S = .ok d S) (hr : ∀ μ W H, Rp X.K μ W H d v) (hk : k < 2 ∨ ∀ ds, d ≠ .lst ds) : PE X e (tX X.K E EW k (evE Φ c)) := by
  refine h.imp fun σ H Q h => ?_
  obtain ⟨F, μ, S, os, ρ, B, h⟩ := h
  rw [he] at h
  refine h _ _ _ .refl .refl B ⟨.inl (hr _ _ _), fun _ => hr _ _ _, fun z => ?_⟩
  rcases hk with hk | hk
  · omega
  · exact ⟨.triv hk, fun ds a e => absurd e (hk ds)⟩
theorem s_bin {o : Bop} {a b : Expr} {ca cb : CE} {ka kb k : Nat} (ha : PE X a (tX X.K E EW ka (evE Φ ca))) (hb : PE X b (tX X.K E EW kb (evE Φ cb))) : PE X (.BinOp a o.op b pos) (tX X.K E EW k (evE Φ (.bin o ca cb))) := by
  obtain ⟨r, hr, hq⟩ := bin_ok (X := X) o
  refine (pe_op hr ha hb).imp fun σ H Q h => ?_
  obtain ⟨F, μ, S, os, ρ, B, h⟩ := h
  simp only [evE] at h
  refine tX.bind PE1.tr B h fun d S1 v H1 μ1 x1 g1 B1 r1 h => ?_
  refine tX.bind PE1.tr B1 h fun e S2 u H2 μ2 x2 g2 B2 r2 h => ?_
  obtain ⟨z, hz, h⟩ := Fin.ofO h
  exact hq μ2 _ H2 d e z v u Q hz B2.dm (r1.1.ext x2 g2).w r2.w (h.po B2)
theorem s_neg {a : Expr} {ca : CE} {ka k : Nat} (ha : PE X a (tX X.K E EW ka (evE Φ ca))) : PE X (.UnaryOp .USub a pos) (tX X.K E EW k (evE Φ (.neg ca))) := by
  refine (pe_un un_neg ha).imp fun σ H Q h => ?_
  obtain ⟨F, μ, S, os, ρ, B, h⟩ := h
  simp only [evE] at h
  refine tX.bind PE1.tr B h fun d S1 v H1 μ1 x1 g1 B1 r1 h => ?_
  obtain ⟨z, hz, h⟩ := Fin.ofO h
  cases d <;> simp [asI] at hz
  subst hz
  cases r1.w.int
  exact ⟨_, rfl, (h.po B1).val (.int _)⟩
theorem s_cmp (hu : X.A.units + 65 < cLine) {o : Cop} {a b : Expr} {ca cb : CE} {ka kb k : Nat} (ha : PE X a (tX X.K E EW ka (evE Φ ca))) (hb : PE X b (tX X.K E EW kb (evE Φ cb))) (hm : behindInMarks o.op b = false) : PE X (.Compare a [o.op] [b] pos) (tX X.K E EW k (evE Φ (.cmp o ca cb))) := by
  obtain ⟨r, hr, hq⟩ := cmp_ok (X := X) hu o
  refine (pe_cmpR hr ha hb hm).imp fun σ H Q h => ?_
  obtain ⟨F, μ, S, os, ρ, B, h⟩ := h
  simp only [evE] at h
  refine tX.bind PE1.tr B h fun d S1 v H1 μ1 x1 g1 B1 r1 h => ?_
  refine tX.bind PE1.tr B1 h fun e S2 u H2 μ2 x2 g2 B2 r2 h => ?_
  obtain ⟨z, hz, h⟩ := Fin.ofO h
  exact hq μ2 _ H2 d e z v u Q hz B2.dm (r1.1.ext x2 g2).w r2.w (h.po B2)
theorem cmpD_bl {o : Cop} {d e z : D} (h : cmpD o d e = some z) : ∃ b, z = .bl b ∧ cmpB o d e = some b := by
  unfold cmpD at h
  obtain ⟨b, h1, rfl⟩ := Option.map_eq_some_iff.mp h
  exact ⟨b, rfl, h1⟩
/-- the test's run of a code -/
def evT (Φ : Nat → Fn) (c : CE) (ρ : List Cell) (S : Store) : Res Bool := (evE Φ c ρ S).bind fun x S => ofO (asB x) S
theorem Res.bind_assoc {α β γ : Type} (r : Res α) (f : α → Store → Res β) (g : β → Store → Res γ) : (r.bind f).bind g = r.bind fun a S => (f a S).bind g := by cases r <;> rfl
theorem s_cmpT (hu : X.A.units + 65 < cLine) {o : Cop} {a b : Expr} {ca cb : CE} {ka kb : Nat} (ha : PE X a (tX X.K E EW ka (evE Φ ca))) (hb : PE X b (tX X.K E EW kb (evE Φ cb))) (hm : behindInMarks o.op b = false) : PT X (.Compare a [o.op] [b] pos) (tT X.K E EW (evT Φ (.cmp o ca cb))) := by
  obtain ⟨r, hr, hq⟩ := cmp_ok (X := X) hu o
  refine (pt_cmpR hr ha hb hm).imp fun σ H Q h => ?_
  obtain ⟨F, μ, S, os, ρ, B, h⟩ := h
  simp only [evT, evE, Res.bind_assoc] at h
  refine tX.bind PT1.tr B h fun d S1 v H1 μ1 x1 g1 B1 r1 h => ?_
  refine tX.bind PT1.tr B1 h fun e S2 u H2 μ2 x2 g2 B2 r2 h => ?_
  cases hz : cmpD o d e with
  | none => rw [hz] at h; exact h.elim
  | some z =>
    obtain ⟨k, rfl, _⟩ := cmpD_bl hz
    rw [hz] at h
    refine hq μ2 _ H2 d e _ v u _ hz B2.dm (r1.1.ext x2 g2).w r2.w (fun v H' s r f => ?_)
    cases r
    exact ⟨k, rfl, h H' μ2 (.of_same s) .refl (B2.same s)⟩
theorem s_chn (hu : X.A.units + 65 < cLine) {o o' : Cop} {a b c : Expr} {ca cb cc : CE} {ka kb kc k : Nat} (ha : PE X a (tX X.K E EW ka (evE Φ ca))) (hb : PE X b (tX X.K E EW kb (evE Φ cb))) (hc : PE X c (tX X.K E EW kc (evE Φ cc))) (hm : lastMarks [o.op, o'.op] [b, c] = false) :
    PE X (.Compare a [o.op, o'.op] [b, c] pos) (tX X.K E EW k (evE Φ (.chn o o' ca cb cc))) := by
  obtain ⟨r, hr, hq⟩ := cmp_ok (X := X) hu o
  obtain ⟨r', hr', hq'⟩ := cmp_ok (X := X) hu o'
  refine (pe_chain hr hr' ha hb hc hm).imp fun σ H Q h => ?_
  obtain ⟨F, μ, S, os, ρ, B, h⟩ := h
  simp only [evE] at h
  refine tX.bind PE1.tr B h fun d S1 v H1 μ1 x1 g1 B1 r1 h => ?_
  refine tX.bind PE1.tr B1 h fun e S2 u H2 μ2 x2 g2 B2 r2 h => ?_
  cases hz : cmpB o d e with
  | none => rw [hz] at h; exact h.elim
  | some kk =>
    rw [hz] at h
    refine hq μ2 _ H2 d e (.bl kk) v u _ (by unfold cmpD; rw [hz]; rfl) B2.dm (r1.1.ext x2 g2).w r2.w (fun w H3 s r f => ?_)
    cases r
    refine ⟨kk, rfl, ?_⟩
    have B3 := B2.same s
    have x3 : Ext μ2 H2 H3 := .of_same s
    cases kk with
    | false =>
      have h : PE1 X.K F os σ ρ k Q (.bl false) S2 μ2 H2 := h
      rw [if_neg (by decide)]
      exact ((PE1.tr _ _ _ _ _ _ h x3 .refl).po B3).val (.bl _)
    | true =>
      have h : Fin X.K E EW F os σ ρ (PE1 X.K F os σ ρ k Q) μ2 H2 ((evE Φ cc ρ S2).bind fun z S => ofO (cmpD o' e z) S) := h
      rw [if_pos rfl]
      refine tX.bind PE1.tr B3 (Fin.later PE1.tr h x3 .refl) fun y S4 w H4 μ4 x4 g4 B4 r4 h => ?_
      obtain ⟨z, hz, h⟩ := Fin.ofO h
      exact hq' μ4 _ H4 e y z u w Q hz B4.dm ((r2.1.ext x3 .refl).ext x4 g4).w r4.w (h.po B4)
theorem s_chnT (hu : X.A.units + 65 < cLine) {o o' : Cop} {a b c : Expr} {ca cb cc : CE} {ka kb kc : Nat} (ha : PE X a (tX X.K E EW ka (evE Φ ca))) (hb : PE X b (tX X.K E EW kb (evE Φ cb))) (hc : PE X c (tX X.K E EW kc (evE Φ cc))) (hm : lastMarks [o.op, o'.op] [b, c] = false) :
    PT X (.Compare a [o.op, o'.op] [b, c] pos) (tT X.K E EW (evT Φ (.chn o o' ca cb cc))) := by
  obtain ⟨r, hr, hq⟩ := cmp_ok (X := X) hu o
  obtain ⟨r', hr', hq'⟩ := cmp_ok (X := X) hu o'
  refine (pt_chain hr hr' ha hb hc hm).imp fun σ H Q h => ?_
  obtain ⟨F, μ, S, os, ρ, B, h⟩ := h
  simp only [evT, evE, Res.bind_assoc] at h
  refine tX.bind PT1.tr B h fun d S1 v H1 μ1 x1 g1 B1 r1 h => ?_
  refine tX.bind PT1.tr B1 h fun e S2 u H2 μ2 x2 g2 B2 r2 h => ?_
  cases hz : cmpB o d e with
  | none => rw [hz] at h; exact h.elim
  | some kk =>
    rw [hz] at h
    refine hq μ2 _ H2 d e (.bl kk) v u _ (by unfold cmpD; rw [hz]; rfl) B2.dm (r1.1.ext x2 g2).w r2.w (fun w H3 s r f => ?_)
    cases r
    refine ⟨kk, rfl, ?_⟩
    have B3 := B2.same s
    have x3 : Ext μ2 H2 H3 := .of_same s
    cases kk with
    | false =>
      have h : PT1 X.K F os σ ρ Q false S2 μ2 H2 := h
      rw [if_neg (by decide)]
      exact ⟨false, rfl, h H3 μ2 x3 .refl B3⟩
    | true =>
      have h : Fin X.K E EW F os σ ρ (PT1 X.K F os σ ρ Q) μ2 H2 (((evE Φ cc ρ S2).bind fun z S => ofO (cmpD o' e z) S).bind fun x S => ofO (asB x) S) := h
      rw [if_pos rfl]
      rw [Res.bind_assoc] at h
      refine tX.bind PT1.tr B3 (Fin.later PT1.tr h x3 .refl) fun y S4 w H4 μ4 x4 g4 B4 r4 h => ?_
      cases hz : cmpD o' e y with
      | none => rw [hz] at h; exact h.elim
      | some z =>
        obtain ⟨k, rfl, _⟩ := cmpD_bl hz
        rw [hz] at h
        refine hq' μ4 _ H4 e y _ u w _ hz B4.dm ((r2.1.ext x3 .refl).ext x4 g4).w r4.w (fun v H' s r f => ?_)
        cases r
        exact ⟨k, rfl, h H' μ4 (.of_same s) .refl (B4.same s)⟩
/-- a test by its value -/
theorem s_test {e : Expr} {c : CE} {k : Nat} (h : PE X e (tX X.K E EW k (evE Φ c))) (he : ∀ whole, isTrue e X.env whole = (do let v ← whole; standAt e.pos; holding [v] (truthy v))) : PT X e (tT X.K E EW (evT Φ c)) := by
  refine (pt_val h he).imp fun σ H Q h => ?_
  obtain ⟨F, μ, S, os, ρ, B, h⟩ := h
  simp only [evT] at h
  refine tX.bind PT1.tr B h fun d S1 v H1 μ1 x1 g1 B1 r1 h => ?_
  obtain ⟨b, hb, h⟩ := Fin.ofO h
  cases d <;> simp [asB] at hb
  subst hb
  cases r1.w.bl
  exact ⟨_, rfl, h _ _ .refl .refl B1⟩
theorem s_nt {a : Expr} {ca : CE} {ka k : Nat} (ha : PE X a (tX X.K E EW ka (evE Φ ca))) : PE X (.UnaryOp .Not a pos) (tX X.K E EW k (evE Φ (.nt ca))) := by
  refine (pe_not ha).imp fun σ H Q h => ?_
  obtain ⟨F, μ, S, os, ρ, B, h⟩ := h
  simp only [evE] at h
  refine tX.bind PE1.tr B h fun d S1 v H1 μ1 x1 g1 B1 r1 h => ?_
  obtain ⟨z, hz, h⟩ := Fin.ofO h
  cases d <;> simp [asB] at hz
  subst hz
  cases r1.w.bl
  exact ⟨_, rfl, (h.po B1).val (.bl _)⟩
theorem s_ntT {a : Expr} {ca : CE} (ha : PT X a (tT X.K E EW (evT Φ ca))) : PT X (.UnaryOp .Not a pos) (tT X.K E EW (evT Φ (.nt ca))) := by
  refine (pt_not ha).imp fun σ H Q h => ?_
  obtain ⟨F, μ, S, os, ρ, B, h⟩ := h
  have e : evT Φ (.nt ca) ρ S = (evT Φ ca ρ S).bind fun b S => .ok (!b) S := by
    simp only [evT, evE, Res.bind_assoc]
    cases evE Φ ca ρ S with
    | ok d S1 => cases d <;> rfl
    | err _ _ => rfl
    | bad => rfl
  rw [e] at h
  refine tT.bind PT1.tr B h fun b S1 H1 μ1 x1 g1 B1 h => ?_
  exact h _ _ .refl .refl B1
theorem s_ife {c a b : Expr} {cc ca cb : CE} {ka kb k : Nat} (hc : PT X c (tT X.K E EW (evT Φ cc))) (ha : PE X a (tX X.K E EW ka (evE Φ ca))) (hb : PE X b (tX X.K E EW kb (evE Φ cb))) (hka : k ≤ ka) (hkb : k ≤ kb) : PE X (.IfExp c a b pos) (tX X.K E EW k (evE Φ (.ife cc ca cb))) := by
  refine (pe_ifExp hc ha hb).imp fun σ H Q h => ?_
  obtain ⟨F, μ, S, os, ρ, B, h⟩ := h
  have e : evE Φ (.ife cc ca cb) ρ S = (evT Φ cc ρ S).bind fun k S => if k then evE Φ ca ρ S else evE Φ cb ρ S := by simp only [evT, evE, Res.bind_assoc]
  rw [e] at h
  refine tT.bind PE1.tr B h fun b S1 H1 μ1 x1 g1 B1 h => ?_
  have wk : ∀ {k' : Nat} {r : Res D}, k ≤ k' → Fin X.K E EW F os σ ρ (PE1 X.K F os σ ρ k Q) μ1 H1 r → Fin X.K E EW F os σ ρ (PE1 X.K F os σ ρ k' Q) μ1 H1 r := fun {k' r} hk h => by
    cases r with
    | ok d S => exact fun v H' μ' x g b r => h v H' μ' x g b ⟨r.1, fun z => r.2.1 (by omega), fun z => r.2.2 (by omega)⟩
    | err _ _ => exact h
    | bad => exact h
  cases b with
  | true => rw [if_pos rfl]; rw [if_pos rfl] at h; exact ⟨F, μ1, S1, os, ρ, B1, wk hka h⟩
  | false => rw [if_neg (by decide)]; rw [if_neg (by decide)] at h; exact ⟨F, μ1, S1, os, ρ, B1, wk hkb h⟩
/-! arguments -/
theorem s_nil {st : Bool} : PA X [] (tL X.K E EW st (evL Φ .nil)) := by
  refine pa_nil.imp fun σ H Q h => ?_
  obtain ⟨F, μ, S, os, ρ, B, h⟩ := h
  exact h _ _ _ .refl .refl B .nil
theorem s_cons {st : Bool} {e : Expr} {es : List Expr} {c : CE} {r : CL} {k : Nat} (he : PE X e (tX X.K E EW k (evE Φ c))) (hr : PA X es (tL X.K E EW st (evL Φ r))) (hk : st = true → 1 ≤ k) (hs : starEach (e :: es) X.env = (false, eval e X.env) :: starEach es X.env) :
    PA X (e :: es) (tL X.K E EW st (evL Φ (.cons c r))) := by
  refine (pa_cons he hr hs).imp fun σ H Q h => ?_
  obtain ⟨F, μ, S, os, ρ, B, h⟩ := h
  simp only [evL] at h
  refine tX.bind PL1.tr B h fun d S1 v H1 μ1 x1 g1 B1 r1 h => ?_
  refine tL.bind (st := st) PL1.tr B1 h fun ds S2 vs H2 μ2 x2 g2 B2 r2 h => ?_
  exact h _ _ _ .refl .refl B2 (.cons (r1.1.ext x2 g2) (fun z => (r1.rp (hk z)).ext' x2 g2) r2)
theorem s_tup {l : CL} {es : List Expr} {x1 k : Nat} (h : PA X es (tL X.K E EW true (evL Φ l))) : PE X (.Tuple es x1 pos) (tX X.K E EW k (evE Φ (.tup l))) := by
  refine (pe_tup h).imp fun σ H Q h => ?_
  obtain ⟨F, μ, S, os, ρ, B, h⟩ := h
  simp only [evE] at h
  refine tL.bind (st := true) PE1.tr B h fun ds S1 vs H1 μ1 x1 g1 B1 r1 h => ?_
  split at h
  · rename_i hl
    exact ⟨by rw [sizeLine_eq, ← r1.rps.length]; exact hl, (PE1.po B1 h).newT r1.rps⟩
  · exact h.elim
theorem s_lst {l : CL} {es : List Expr} {k : Nat} (h : PA X es (tL X.K E EW true (evL Φ l))) : PE X (.List es pos) (tX X.K E EW k (evE Φ (.lst l))) := by
  refine (pe_lst h).imp fun σ H Q h => ?_
  obtain ⟨F, μ, S, os, ρ, B, h⟩ := h
  simp only [evE] at h
  refine tL.bind (st := true) PE1.tr B h fun ds S1 vs H1 μ1 x1 g1 B1 r1 h => ?_
  split at h
  · rename_i hl
    exact ⟨by rw [sizeLine_eq, ← r1.rps.length]; exact hl, (PE1.po B1 h).newL B1.dm r1.rps⟩
  · exact h.elim
theorem s_idx {a b : Expr} {ca cb : CE} {ka kb k : Nat} (hk : k < 2) (ha : PE X a (tX X.K E EW ka (evE Φ ca))) (hb : PE X b (tX X.K E EW kb (evE Φ cb))) (hs : PlainIx b) : PE X (.Subscript a b pos) (tX X.K E EW k (evE Φ (.idx ca cb))) := by
  obtain ⟨r, hr, hq⟩ := ix_ok (X := X)
  refine (pe_ix hr ha hb hs).imp fun σ H Q h => ?_
  obtain ⟨F, μ, S, os, ρ, B, h⟩ := h
  simp only [evE] at h
  refine tX.bind PE1.tr B h fun d S1 v H1 μ1 x1 g1 B1 r1 h => ?_
  refine tX.bind PE1.tr B1 h fun e S2 u H2 μ2 x2 g2 B2 r2 h => ?_
  cases hd : drf S2 d with
  | none => rw [hd] at h; exact h.elim
  | some d' =>
    rw [hd] at h
    obtain ⟨z, hz, h⟩ := Fin.ofO (show Fin X.K E EW F os σ ρ _ μ2 H2 (ofO (idxD d' e) S2) from h)
    refine hq μ2 (Wo F.W0 os) H2 d' e z v u Q hz ?_ r2.w (fun w rw => PE1.rp B2 h hk rw)
    have rd := (r1.1.ext x2 g2)
    unfold drf at hd
    split at hd
    · rename_i n
      obtain ⟨ds, hn, rfl⟩ := Option.map_eq_some_iff.mp hd
      obtain ⟨p, rfl, hp⟩ := rd.w.ptr
      obtain ⟨vs, e1, e2⟩ := B2.st.at_ n p ds hp hn
      exact .inr ⟨p, vs, ds, rfl, rfl, e1, e2.less B2.wos⟩
    · cases hd; exact rd.w
theorem s_no : PO X none (tO X.K E EW (evO Φ .no)) := by
  refine po_none.imp fun σ H Q h => ?_
  obtain ⟨F, μ, S, os, ρ, B, h⟩ := h
  exact h _ _ .refl .refl B
theorem PO1.tr {K : PySem.W.Frag} {F : Fx} {os : Nat → Option Addr} {σ : L2.St} {ρ : List Cell} {Q : Option Int → Hp → Prop} : Tr (PO1 K F os σ ρ Q) := fun d S μ H μ1 H1 h x g H' μ' x' g' b =>
  h H' μ' (x.trans g x') (g.trans x g') b
theorem s_yes {e : Expr} {c : CE} {k : Nat} (h : PE X e (tX X.K E EW k (evE Φ c))) : PO X (some e) (tO X.K E EW (evO Φ (.yes c))) := by
  refine (po_some h).imp fun σ H Q h => ?_
  obtain ⟨F, μ, S, os, ρ, B, h⟩ := h
  simp only [evO] at h
  refine tX.bind PO1.tr B h fun d S1 v H1 μ1 x1 g1 B1 r1 h => ?_
  cases d with
  | int i => cases r1.w.int; exact ⟨i, rfl, h _ _ .refl .refl B1⟩
  | _ => exact h.elim
theorem s_slc {a : Expr} {lo hi : Option Expr} {ca : CE} {cl ch : CO} {ka k : Nat} {p2 : Pos} (ha : PE X a (tX X.K E EW ka (evE Φ ca))) (hl : PO X lo (tO X.K E EW (evO Φ cl))) (hh : PO X hi (tO X.K E EW (evO Φ ch))) : PE X (.Subscript a (.Slice lo hi none p2) pos) (tX X.K E EW k (evE Φ (.slc ca cl ch))) := by
  obtain ⟨r, hr, hq⟩ := sl_ok (X := X)
  refine (pe_slice hr ha hl hh).imp fun σ H Q h => ?_
  obtain ⟨F, μ, S, os, ρ, B, h⟩ := h
  simp only [evE] at h
  refine tX.bind PE1.tr B h fun d S1 v H1 μ1 x1 g1 B1 r1 h => ?_
  refine tO.bind PE1.tr B1 h fun i S2 H2 μ2 x2 g2 B2 h => ?_
  refine tO.bind PE1.tr B2 h fun j S3 H3 μ3 x3 g3 B3 h => ?_
  obtain ⟨z, hz, h⟩ := Fin.ofO h
  exact hq μ3 _ H3 d z i j v Q hz B3.dm ((r1.1.ext x2 g2).ext x3 g3).w (h.po B3)
theorem s_bi {b : Bi} {x : Str} {p : Pos} {e : Expr} {es : List Expr} {l : CL} {k : Nat} (hcalm : X.calm = true) (hg : Gl X x) (hm : X.mg x = none) (hx : x ≠ "__name__") (hdb : (x == ("__debug__" : Str)) = false) (hv : bootBuiltins x = some b.val)
    (ha : PA X (e :: es) (tL X.K E EW false (evL Φ l))) (he : starEach (e :: es) X.env = (false, eval e X.env) :: starEach es X.env) (hpl : (backTo pos (starEach es X.env)).any (·.1) = false) : PE X (.Call (.Name x p) (e :: es) [] pos) (tX X.K E EW k (evE Φ (.bi b l))) := by
  obtain ⟨r, hr, hq⟩ := bi_ok (X := X) hcalm b
  have go : PE X (.Call (.Name x p) (e :: es) [] pos) (tCB r (tL X.K E EW false (evL Φ l))) := by
    cases b <;> first | exact pe_callB hr hg hm hv ha hx hdb he hpl | exact pe_callTy hr hg hm hv ha hx hdb he hpl
  refine go.imp fun σ H Q h => ?_
  obtain ⟨F, μ, S, os, ρ, B, h⟩ := h
  simp only [evE] at h
  refine tL.bind (st := false) PE1.tr B h fun ds S1 vs H1 μ1 x1 g1 B1 r1 h => ?_
  obtain ⟨z, hz, h⟩ := Fin.ofO h
  exact hq μ1 _ H1 ds z vs Q hz B1.dm r1.rws (h.po B1)
end
end RH

set_option Elab.async false
set_option linter.all false
set_option maxRecDepth 100000
/-! RHSnd3: and, or; calls; methods of texts; isinstance. -/
namespace RH
open PySem PySem.Spec PyProof.Rows L2
section
variable {X : Cx} {E : XT} {EW : WX} {Φ : Nat → Fn} {pos : Pos}
/-! ### and, or -/
def bopOf : Bool → BoolOp
  | true => .And
  | false => .Or
theorem evB_one (n : Bool) (a : CE) (ρ : List Cell) (S : Store) : evB Φ n (.cons a .nil) ρ S = (evT Φ a ρ S).bind fun k S => .ok (.bl k) S := by
  simp only [evB, evT, Res.bind_assoc]
theorem evB_cons (n : Bool) (a b : CE) (r : CL) (ρ : List Cell) (S : Store) : evB Φ n (.cons a (.cons b r)) ρ S = (evT Φ a ρ S).bind fun k S => if k == n then evB Φ n (.cons b r) ρ S else .ok (.bl k) S := by
  rw [evB, evT, Res.bind_assoc]
theorem s_bop1 {n : Bool} {a : Expr} {ca : CE} {ka k : Nat} (ha : PE X a (tX X.K E EW ka (evE Φ ca))) : PE X (.BoolOp (bopOf n) [a] pos) (tX X.K E EW k (evB Φ n (.cons ca .nil))) := by
  refine (pe_one ha).imp fun σ H Q h => ?_
  obtain ⟨F, μ, S, os, ρ, B, h⟩ := h
  rw [evB_one, evT, Res.bind_assoc] at h
  refine tX.bind PE1.tr B h fun d S1 v H1 μ1 x1 g1 B1 r1 h => ?_
  cases d with
  | bl b =>
    cases r1.w.bl
    exact (PE1.po B1 h).val (.bl _)
  | _ => exact h.elim
theorem s_bopC {n : Bool} {a b : Expr} {rest : List Expr} {ca cb : CE} {r : CL} {ka k : Nat} (ha : PE X a (tX X.K E EW ka (evE Φ ca))) (hb : PE X (.BoolOp (bopOf n) (b :: rest) pos) (tX X.K E EW k (evB Φ n (.cons cb r)))) : PE X (.BoolOp (bopOf n) (a :: b :: rest) pos) (tX X.K E EW k (evB Φ n (.cons ca (.cons cb r)))) := by
  cases n with
  | true =>
    refine (pe_and ha hb).imp fun σ H Q h => ?_
    obtain ⟨F, μ, S, os, ρ, B, h⟩ := h
    rw [evB_cons, evT, Res.bind_assoc] at h
    refine tX.bind PE1.tr B h fun d S1 v H1 μ1 x1 g1 B1 r1 h => ?_
    cases d with
    | bl b =>
      cases r1.w.bl
      refine ⟨b, rfl, ?_⟩
      cases b with
      | true => rw [if_pos rfl]; exact ⟨F, μ1, S1, os, ρ, B1, h⟩
      | false => rw [if_neg (by decide)]; exact (PE1.po B1 h).val (.bl _)
    | _ => exact h.elim
  | false =>
    refine (pe_or ha hb).imp fun σ H Q h => ?_
    obtain ⟨F, μ, S, os, ρ, B, h⟩ := h
    rw [evB_cons, evT, Res.bind_assoc] at h
    refine tX.bind PE1.tr B h fun d S1 v H1 μ1 x1 g1 B1 r1 h => ?_
    cases d with
    | bl b =>
      cases r1.w.bl
      refine ⟨b, rfl, ?_⟩
      cases b with
      | true => rw [if_pos rfl]; exact (PE1.po B1 h).val (.bl _)
      | false => rw [if_neg (by decide)]; exact ⟨F, μ1, S1, os, ρ, B1, h⟩
    | _ => exact h.elim
/-- the test's run of and, or -/
def evBT (Φ : Nat → Fn) (n : Bool) (l : CL) (ρ : List Cell) (S : Store) : Res Bool := (evB Φ n l ρ S).bind fun x S => ofO (asB x) S
theorem evT_bop (n : Bool) (l : CL) : evT Φ (.bop n l) = evBT Φ n l := by funext ρ S; simp only [evT, evBT, evE]
theorem evBT_one (n : Bool) (a : CE) (ρ : List Cell) (S : Store) : evBT Φ n (.cons a .nil) ρ S = evT Φ a ρ S := by
  rw [evBT, evB_one, Res.bind_assoc]
  cases evT Φ a ρ S <;> rfl
theorem evBT_cons (n : Bool) (a b : CE) (r : CL) (ρ : List Cell) (S : Store) : evBT Φ n (.cons a (.cons b r)) ρ S = (evT Φ a ρ S).bind fun k S => if k == n then evBT Φ n (.cons b r) ρ S else .ok k S := by
  rw [evBT, evB_cons, Res.bind_assoc]
  congr 1
  funext k S
  cases h : k == n <;> simp [evBT, Res.bind, ofO, asB]
theorem s_bopT1 {n : Bool} {a : Expr} {ca : CE} (ha : PT X a (tT X.K E EW (evT Φ ca))) : PW X (.BoolOp (bopOf n) [a] pos) (tT X.K E EW (evBT Φ n (.cons ca .nil))) := by
  have go : PW X (.BoolOp (bopOf n) [a] pos) (tT X.K E EW (evT Φ ca)) := by
    cases n with
    | true => exact pw_and1 ha
    | false => exact pw_or1 ha
  refine go.imp fun σ H Q h => ?_
  obtain ⟨F, μ, S, os, ρ, B, h⟩ := h
  rw [evBT_one] at h
  exact ⟨F, μ, S, os, ρ, B, h⟩
theorem s_bopTC {n : Bool} {a b : Expr} {rest : List Expr} {ca cb : CE} {r : CL} (ha : PT X a (tT X.K E EW (evT Φ ca))) (hb : PW X (.BoolOp (bopOf n) (b :: rest) pos) (tT X.K E EW (evBT Φ n (.cons cb r)))) : PW X (.BoolOp (bopOf n) (a :: b :: rest) pos) (tT X.K E EW (evBT Φ n (.cons ca (.cons cb r)))) := by
  cases n with
  | true =>
    refine (pw_and ha hb).imp fun σ H Q h => ?_
    obtain ⟨F, μ, S, os, ρ, B, h⟩ := h
    rw [evBT_cons] at h
    refine tT.bind PT1.tr B h fun b S1 H1 μ1 x1 g1 B1 h => ?_
    cases b with
    | true => rw [if_pos rfl]; exact ⟨F, μ1, S1, os, ρ, B1, h⟩
    | false => rw [if_neg (by decide)]; exact h _ _ .refl .refl B1
  | false =>
    refine (pw_or ha hb).imp fun σ H Q h => ?_
    obtain ⟨F, μ, S, os, ρ, B, h⟩ := h
    rw [evBT_cons] at h
    refine tT.bind PT1.tr B h fun b S1 H1 μ1 x1 g1 B1 h => ?_
    cases b with
    | true => rw [if_pos rfl]; exact h _ _ .refl .refl B1
    | false => rw [if_neg (by decide)]; exact ⟨F, μ1, S1, os, ρ, B1, h⟩

/-! ### calls of the program's defs -/
theorem s_call {k kk : Nat} {f : Addr} {fd : FuncData} {ps : List Str} {fn : Nat} {x : Str} {p : Pos} {e : Expr} {es : List Expr} {c : CE} {l : CL} (G : FnOk X.prog X.w X.K X.mg X.base (L2.CX X.prog X.w) k f fd ps (spD E X.K (Φ fn))) (hr : Room k X.A) (hg : Gl X x) (hm : X.mg x = some (.ref f)) (hk : PySem.W.keepIn X.K (.ref f) = true) (hb : Binds X.K fd ps [])
    (tk : Takes X EW) (ha : PA X (e :: es) (tL X.K E EW true (evL Φ (.cons c l)))) (hdb : (x == ("__debug__" : Str)) = false) (he : starEach (e :: es) X.env = (false, eval e X.env) :: starEach es X.env) (hpl : (backTo pos (starEach es X.env)).any (·.1) = false) (hkk : kk ≤ if (Φ fn).fr then 2 else 1) :
    PE X (.Call (.Name x p) (e :: es) [] pos) (tX X.K E EW kk (evE Φ (.call fn (.cons c l)))) := by
  refine (pe_callSD G hr hg hm hk hb .nil (fun σ => passAt tk σ) ha hdb he hpl).imp fun σ H Q h => ?_
  obtain ⟨F, μ, S, os, ρ, B, h⟩ := h
  rw [evE] at h
  refine tL.bind (st := true) PE1.tr B h fun ds S1 vs H1 μ1 x1 g1 B1 r1 h => ?_
  rw [List.append_nil]
  cases hds : ds with
  | nil =>
    subst hds
    refine ⟨Wo F.W0 os, Wo F.Ws os, μ1, S1, [], B1.wos, B1.wdom, B1.st, r1.rps, ?_⟩
    simp only [callF] at h
    cases hm : (Φ fn).m [] S1 with
    | ok d S' =>
      rw [hm] at h
      exact fun v H' μ' x g s rr => h v H' μ' x g (B1.step x g s) ⟨.inl rr.1, fun _ => rr.1, fun hk => rr.2 (by
        cases q : (Φ fn).fr with
        | true => rfl
        | false => rw [q] at hkk; simp at hkk; omega)⟩
    | err y S' => rw [hm] at h; exact h.elim
    | bad => rw [hm] at h; exact h.elim
  | cons d0 dr =>
    refine ⟨Wo F.W0 os, Wo F.Ws os, μ1, S1, ds, B1.wos, B1.wdom, B1.st, r1.rps, ?_⟩
    have h : Fin X.K E EW F os σ ρ (PE1 X.K F os σ ρ kk Q) μ1 H1 ((Φ fn).m ds S1) := by
      rw [hds] at h ⊢
      exact h
    cases hm : (Φ fn).m ds S1 with
    | ok d S' =>
      rw [hm] at h
      exact fun v H' μ' x g s rr => h v H' μ' x g (B1.step x g s) ⟨.inl rr.1, fun _ => rr.1, fun hk => rr.2 (by
        cases q : (Φ fn).fr with
        | true => rfl
        | false => rw [q] at hkk; simp at hkk; omega)⟩
    | err y S' =>
      rw [hm] at h
      exact fun cc dd H' μ' x g s xr => h cc dd H' μ' x g (B1.step x g s) xr
    | bad => rw [hm] at h; exact h.elim
theorem s_call0 {k kk : Nat} {f : Addr} {fd : FuncData} {ps : List Str} {fn : Nat} {x : Str} {p : Pos} (G : FnOk X.prog X.w X.K X.mg X.base (L2.CX X.prog X.w) k f fd ps (spD E X.K (Φ fn))) (hr : Room k X.A) (hg : Gl X x) (hm : X.mg x = some (.ref f)) (hk : PySem.W.keepIn X.K (.ref f) = true) (hb : Binds X.K fd ps [])
    (hdb : (x == ("__debug__" : Str)) = false) (hkk : kk ≤ if (Φ fn).fr then 2 else 1) : PE X (.Call (.Name x p) [] [] pos) (tX X.K E EW kk (evE Φ (.call fn .nil))) := by
  refine (pe_call0 G hr hg hm hk hb .nil passL hdb).imp fun σ H Q h => ?_
  obtain ⟨F, μ, S, os, ρ, B, h⟩ := h
  rw [evE, evL] at h
  refine ⟨Wo F.W0 os, Wo F.Ws os, μ, S, [], B.wos, B.wdom, B.st, .nil, ?_⟩
  have h : Fin X.K E EW F os σ ρ (PE1 X.K F os σ ρ kk Q) μ H (((Φ fn).m [] S).nox) := h
  cases hm : (Φ fn).m [] S with
  | ok d S' =>
    rw [hm] at h
    exact fun v H' μ' x g s rr => h v H' μ' x g (B.step x g s) ⟨.inl rr.1, fun _ => rr.1, fun hk => rr.2 (by
      cases q : (Φ fn).fr with
      | true => rfl
      | false => rw [q] at hkk; simp at hkk; omega)⟩
  | err y S' => rw [hm] at h; exact h.elim
  | bad => rw [hm] at h; exact h.elim

/-! ### methods of texts -/
def M0.name : M0 → Str
  | .lower => "lower" | .upper => "upper"
def M1.name : M1 → Str
  | .join => "join" | .split => "split" | .index => "index"
theorem asc_map {l : List Nat} {f : Nat → Nat} (hf : ∀ c, c < 128 → f c < 128) (h : Asc l) : Asc (l.map f) := fun c hc => by
  obtain ⟨a, ha, rfl⟩ := List.mem_map.mp hc
  exact hf a (h a ha)
theorem lo1_lt : ∀ c, c < 128 → lo1 c < 128 := by decide
theorem up1_lt : ∀ c, c < 128 → up1 c < 128 := by decide
theorem lower_l {l : List Nat} (h : Asc l) : Txt.lower ⟨l.toArray⟩ = ⟨(l.map lo1).toArray⟩ := by
  rw [lower_ascii (x := ⟨l.toArray⟩) (fun c hc => h c (by simpa using hc))]; simp
theorem upper_l {l : List Nat} (h : Asc l) : Txt.upper ⟨l.toArray⟩ = ⟨(l.map up1).toArray⟩ := by
  rw [upper_ascii (x := ⟨l.toArray⟩) (fun c hc => h c (by simpa using hc))]; simp
theorem s_m0 {m : M0} {o : Expr} {co : CE} {ko k : Nat} {apos : Pos} (ho : PE X o (tX X.K E EW ko (evE Φ co))) (hbase : attributeBase o m.name X.env (eval o X.env) = eval o X.env) (hline : (apos.endLine == pos.line) = true) :
    PE X (.Call (.Attribute o m.name apos) [] [] pos) (tX X.K E EW k (evE Φ (.m0 m co))) := by
  have all : ∀ {r : V → List V → Hp → VK → Prop}, (∀ (l : List Nat) (z : D) (H : Hp) (Q : VK), Asc l → m0D m (.str l) = some z → (∀ v, (∀ μ W H, Rp X.K μ W H z v) → Q v H) → r (.str ⟨l.toArray⟩) [] H Q) → (∀ d z, m0D m d = some z → (∃ l, d = .str l) ∧ ∀ ds, z ≠ .lst ds) →
      ∀ σ H Q, tX X.K E EW k (evE Φ (.m0 m co)) σ H Q → tM0 r (tX X.K E EW ko (evE Φ co)) σ H Q := fun {r} hr hd σ H Q h => by
    obtain ⟨F, μ, S, os, ρ, B, h⟩ := h
    simp only [evE] at h
    refine tX.bind PE1.tr B h fun d S1 v H1 μ1 x1 g1 B1 r1 h => ?_
    obtain ⟨z, hz, h2⟩ := Fin.ofO h
    obtain ⟨⟨l, rfl⟩, hl⟩ := hd d z hz
    obtain ⟨rfl, ha⟩ := r1.w.str
    exact ⟨⟨_, rfl⟩, hr l z H1 Q ha hz fun v rv => (PE1.po B1 h2).val (rv _ _ _) hl⟩
  cases m with
  | lower =>
    refine (pe_lower ho hbase hline).imp (all (fun l z H Q ha hz q => ?_) fun d z hz => ?_)
    · simp only [m0D] at hz
      split at hz
      · cases hz
        refine ⟨_, rfl, rfl, by rw [str_len]; assumption, ?_⟩
        rw [lower_l ha]
        exact q _ fun _ _ _ => .str (asc_map lo1_lt ha)
      · cases hz
    · unfold m0D at hz
      split at hz <;> first | (rename_i h0; cases h0; done) | (cases hz; done) | skip
      split at hz
      · cases hz; exact ⟨⟨_, rfl⟩, fun _ z => nomatch z⟩
      · cases hz
  | upper =>
    refine (pe_upper ho hbase hline).imp (all (fun l z H Q ha hz q => ?_) fun d z hz => ?_)
    · simp only [m0D] at hz
      split at hz
      · cases hz
        refine ⟨_, rfl, rfl, by rw [str_len]; assumption, ?_⟩
        rw [upper_l ha]
        exact q _ fun _ _ _ => .str (asc_map up1_lt ha)
      · cases hz
    · unfold m0D at hz
      split at hz <;> first | (rename_i h0; cases h0; done) | (cases hz; done) | skip
      split at hz
      · cases hz; exact ⟨⟨_, rfl⟩, fun _ z => nomatch z⟩
      · cases hz
theorem joinL_mem {s : List Nat} {c : Nat} : ∀ {ps : List (List Nat)}, c ∈ TL.joinL s ps → c ∈ s ∨ ∃ p ∈ ps, c ∈ p
  | [], h => by simp [TL.joinL] at h
  | [p], h => .inr ⟨p, by simp, by simpa [TL.joinL] using h⟩
  | p :: q :: r, h => by
    simp only [TL.joinL, List.mem_append] at h
    rcases h with h1 | h1 | h1
    · exact .inr ⟨p, by simp, h1⟩
    · exact .inl h1
    · rcases joinL_mem (ps := q :: r) h1 with h | ⟨t, ht, hc⟩
      · exact .inl h
      · exact .inr ⟨t, List.mem_cons_of_mem _ ht, hc⟩
theorem join_l (s : List Nat) (ps : List (List Nat)) : Txt.join ⟨s.toArray⟩ (ps.map fun l => (⟨l.toArray⟩ : Str)) = ⟨(TL.joinL s ps).toArray⟩ := by
  rw [TL.join_eq]
  apply TL.ext_tl
  rw [TL.tl_join]
  show TL.joinL s ((ps.map fun l => (⟨l.toArray⟩ : Str)).map TL.tl) = TL.joinL s ps
  rw [List.map_map]
  congr 1
  conv => rhs; rw [← List.map_id ps]
  rfl
theorem spl_mem {c : Nat} : ∀ {l acc : List Nat} {k : Nat} {p : List Nat} {x : Nat}, p ∈ TL.spl [c] k acc l → x ∈ p → x ∈ acc ∨ x ∈ l
  | [], acc, k, p, x, h, hx => by
    rw [TL.spl_nil] at h
    simp at h; subst h; exact .inl hx
  | a :: l, acc, 0, p, x, h, hx => by
    cases hp : TL.pre [c] (a :: l) with
    | true =>
      rw [TL.spl_hit hp] at h
      rcases List.mem_cons.mp h with h | h
      · subst h; exact .inl hx
      · rcases spl_mem h hx with z | z
        · simp at z
        · exact .inr (List.mem_cons_of_mem _ z)
    | false =>
      rw [TL.spl_miss hp] at h
      rcases spl_mem h hx with z | z
      · rcases List.mem_append.mp z with z | z
        · exact .inl z
        · simp at z; subst z; exact .inr (by simp)
      · exact .inr (List.mem_cons_of_mem _ z)
  | a :: l, acc, k + 1, p, x, h, hx => by
    rw [TL.spl_pass, List.drop_succ_cons] at h
    have h' : p ∈ TL.spl [c] k acc l := by rw [TL.spl_pass]; exact h
    rcases spl_mem h' hx with z | z
    · exact .inl z
    · exact .inr (List.mem_cons_of_mem _ z)
theorem rps_strs {K : PySem.W.Frag} {μ : List Addr} {W : Addr → Prop} {H : Hp} : ∀ (ps : List (List Nat)), (∀ p ∈ ps, Asc p) → Rps K μ W H (ps.map .str) ((ps.map fun l => (⟨l.toArray⟩ : Str)).map V.str)
  | [], _ => .nil
  | p :: ps, h => .cons (.str (h p (by simp))) (rps_strs ps fun q hq => h q (List.mem_cons_of_mem _ hq))
theorem split_l {l : List Nat} {c : Nat} (hc : c < 128) : (Txt.split ⟨l.toArray⟩ ⟨([c] : List Nat).toArray⟩) = (TL.spl [c] 0 [] l).map fun p => (⟨p.toArray⟩ : Str) := by
  apply TL.map_tl_inj
  rw [TL.split_spl _ _ (by simp [TL.tl]) (TL.kind_ok (by simp; omega)), List.map_map]
  show TL.spl [c] 0 [] l = _
  conv => lhs; rw [← List.map_id (TL.spl [c] 0 [] l)]
  rfl
theorem s_m1 {m : M1} {o a : Expr} {co ca : CE} {ko ka k : Nat} {apos : Pos} (ho : PE X o (tX X.K E EW ko (evE Φ co))) (ha : PE X a (tX X.K E EW ka (evE Φ ca))) (hs : starEach [a] X.env = [(false, eval a X.env)]) (hbase : attributeBase o m.name X.env (eval o X.env) = eval o X.env) (hline : (apos.endLine == pos.line) = true) :
    PE X (.Call (.Attribute o m.name apos) [a] [] pos) (tX X.K E EW k (evE Φ (.m1 m co ca))) := by
  have all : ∀ {r : V → List V → Hp → VK → Prop}, (∀ (μ : List Addr) (W : Addr → Prop) (l : List Nat) (d z : D) (H : Hp) (y : V) (Q : VK), Asc l → Dm μ W H → Rw X.K μ W H d y → m1D m l d = some z → Po X.K μ W H z Q → r (.str ⟨l.toArray⟩) [y] H Q) →
      ∀ σ H Q, tX X.K E EW k (evE Φ (.m1 m co ca)) σ H Q → tM1 r (tX X.K E EW ko (evE Φ co)) (tX X.K E EW ka (evE Φ ca)) σ H Q := fun {r} hr σ H Q h => by
    obtain ⟨F, μ, S, os, ρ, B, h⟩ := h
    simp only [evE] at h
    refine tX.bind PE1.tr B h fun d S1 v H1 μ1 x1 g1 B1 r1 h => ?_
    cases d with
    | str l =>
      obtain ⟨rfl, hl⟩ := r1.w.str
      refine ⟨⟨_, rfl⟩, ?_⟩
      have h : Fin X.K E EW F os σ ρ (PE1 X.K F os σ ρ k Q) μ1 H1 ((evE Φ ca ρ S1).bind fun y S => ofO (m1D m l y) S) := h
      refine tX.bind PE1.tr B1 h fun e S2 u H2 μ2 x2 g2 B2 r2 h => ?_
      obtain ⟨z, hz, h⟩ := Fin.ofO h
      exact hr μ2 _ l e z H2 u Q hl B2.dm r2.w hz (h.po B2)
    | _ => exact h.elim
  cases m with
  | join =>
    refine (pe_join ho ha hs hbase hline).imp (all fun μ W l d z H y Q hl dm ry hz q => ?_)
    have jn : ∀ ds vs, Rps X.K μ W H ds vs → joinD l ds = some z → ∃ ys : List Str, vs = ys.map V.str ∧ (ys.map (·.length)).sum + ys.length * (⟨l.toArray⟩ : Str).length ≤ 16777216 ∧ Q (.str (Txt.join ⟨l.toArray⟩ ys)) H := fun ds vs rp hj => by
      unfold joinD at hj
      split at hj
      · rename_i ps hps
        split at hj
        · rename_i hsz
          cases hj
          obtain ⟨e1, e2⟩ := texts_rps rp hps
          refine ⟨_, e1, ?_, ?_⟩
          · rw [List.length_map, str_len, List.map_map]
            have : (ps.map ((fun (x : Str) => x.length) ∘ fun l => (⟨l.toArray⟩ : Str))) = ps.map List.length := by
              apply List.map_congr_left; intro a _; simp [Str.length]
            rw [this]; exact hsz
          · rw [join_l]
            refine q.val (.str fun c hc => ?_)
            rcases joinL_mem hc with h | ⟨p, hp, h⟩
            · exact hl c h
            · exact e2 p hp c h
        · cases hj
      · cases hj
    unfold m1D at hz
    split at hz <;> first | (rename_i h0; cases h0; done) | (cases hz; done) | skip
    · obtain ⟨a, vs, rfl, h1, h2⟩ := ry.lst
      obtain ⟨ys, e1, e2, e3⟩ := jn _ _ h2 hz
      exact ⟨_, a, ys, rfl, rfl, .inl (by rw [← e1]; exact .of h1), e2, e3⟩
    · obtain ⟨a, vs, rfl, h1, h2⟩ := ry.tup
      obtain ⟨ys, e1, e2, e3⟩ := jn _ _ h2 hz
      exact ⟨_, a, ys, rfl, rfl, .inr (by rw [← e1]; exact h1), e2, e3⟩
  | split =>
    refine (pe_split ho ha hs hbase hline).imp (all fun μ W l d z H y Q hl dm ry hz q => ?_)
    unfold m1D at hz
    split at hz <;> first | (rename_i h0; cases h0; done) | (cases hz; done) | skip
    split at hz
    · rename_i hsz
      cases hz
      obtain ⟨rfl, _⟩ := ry.str
      refine ⟨_, _, rfl, rfl, by simp [Str.length], by rw [str_len, sizeLine_eq]; exact hsz.1, ?_⟩
      rw [split_l hsz.2]
      intro p hp
      exact q.newL dm (rps_strs _ fun p hp c hc => by
        rcases spl_mem hp hc with h | h
        · simp at h
        · exact hl c h) p hp
    · cases hz
  | index =>
    refine (pe_m1 PySem.F.slot_str_index PySem.F.type_str_index mt_sindex ho ha hs hbase hline).imp (all fun μ W l d z H y Q hl dm ry hz q => ?_)
    unfold m1D at hz
    split at hz <;> first | (rename_i h0; cases h0; done) | (cases hz; done) | skip
    split at hz
    · rename_i i rest ho
      cases hz
      obtain ⟨rfl, _⟩ := ry.str
      exact ⟨_, _, i, rest, rfl, rfl, by rw [str_len]; exact ho, q.val (.int _)⟩
    · cases hz

/-! ### isinstance -/
def Ty.name : Ty → String
  | .int => "int" | .bool => "bool" | .str => "str" | .list => "list" | .tuple => "tuple"
def tyD : D → String
  | .non => "NoneType" | .bl _ => "bool" | .int _ => "int" | .str _ => "str" | .tup _ => "tuple" | _ => "list"
theorem isi_kit : ∀ {t : Ty} {d : D} {b : Bool}, isiD t d = some b → kitB (tyD d) t.name = some b := by
  intro t d b h
  have k : ∀ t : Ty, kitB "NoneType" t.name = some false ∧ kitB "bool" t.name = some (t == .int || t == .bool) ∧ kitB "int" t.name = some (t == .int) ∧ kitB "str" t.name = some (t == .str) ∧ kitB "tuple" t.name = some (t == .tuple) ∧ kitB "list" t.name = some (t == .list) := by
    intro t
    cases t <;> decide +kernel
  obtain ⟨k1, k2, k3, k4, k5, k6⟩ := k t
  cases d <;> cases t <;> simp only [isiD] at h <;> first | (cases h; done) | skip
  all_goals (cases h; first | exact k1 | exact k2 | exact k3 | exact k4 | exact k5 | exact k6)
theorem ty_rw {K : PySem.W.Frag} {μ : List Addr} {W : Addr → Prop} {H : Hp} {t : Ty} {d : D} {v : V} {b : Bool} (h : isiD t d = some b) (r : Rw K μ W H d v) : TyX K H v (.type (tyD d)) := by
  cases d with
  | non => cases r.non; exact .base .non
  | bl _ => cases r.bl; exact .base (.bl _)
  | int _ => cases r.int; exact .base (.int _)
  | str _ => obtain ⟨rfl, _⟩ := r.str; exact .base (.str _)
  | lst _ => obtain ⟨a, vs, rfl, h1, _⟩ := r.lst; exact .base (.lst h1)
  | tup _ =>
    obtain ⟨a, vs, rfl, h1, _⟩ := r.tup
    rcases h1 with (h1 | ⟨o, h1⟩) | ⟨o, its, n, h1, h2, _⟩
    · exact .base (.tup h1)
    · exact .fTuple h1
    · exact .kTuple h1 h2
  | ptr _ => cases t <;> simp [isiD] at h
  | scr _ => cases t <;> simp [isiD] at h
theorem s_isi {t : Ty} {a : Expr} {ca : CE} {ka k : Nat} {p pt : Pos} (hg : Gl X "isinstance") (hm : X.mg "isinstance" = none) (hg' : Gl X (t.name : Str)) (hm' : X.mg (t.name : Str) = none) (ha : PE X a (tX X.K E EW ka (evE Φ ca))) (hs : starEach [a, .Name (t.name : Str) pt] X.env = (false, eval a X.env) :: starEach [.Name (t.name : Str) pt] X.env) :
    PE X (.Call (.Name "isinstance" p) [a, .Name (t.name : Str) pt] [] pos) (tX X.K E EW k (evE Φ (.isi t ca))) := by
  have hty : PE X (.Name (t.name : Str) pt) (tC (.ty t.name)) := by
    cases t with
    | int => exact pe_bltn hg' hm' (u := .type "int") (by decide +kernel) rfl (by decide) (by decide)
    | bool => exact pe_bltn hg' hm' (u := .type "bool") (by decide +kernel) rfl (by decide) (by decide)
    | str => exact pe_bltn hg' hm' (u := .type "str") (by decide +kernel) rfl (by decide) (by decide)
    | list => exact pe_bltn hg' hm' (u := .type "list") (by decide +kernel) rfl (by decide) (by decide)
    | tuple => exact pe_bltn hg' hm' (u := .type "tuple") (by decide +kernel) rfl (by decide) (by decide)
  refine (pe_callB call_isi hg hm boot_isinstance (pa_cons ha (pa_cons hty pa_nil rfl) hs) (by decide) (by decide) hs rfl).imp fun σ H Q h => ?_
  obtain ⟨F, μ, S, os, ρ, B, h⟩ := h
  simp only [evE] at h
  refine tX.bind PE1.tr B h fun d S1 v H1 μ1 x1 g1 B1 r1 h => ?_
  obtain ⟨z, hz, h⟩ := Fin.ofO h
  obtain ⟨b, hb, rfl⟩ := Option.map_eq_some_iff.mp hz
  exact ⟨v, _, _, _, b, rfl, .ty _, ty_rw hb r1.w, kit_ty (isi_kit hb), (h.po B1).val (.bl _)⟩
end
end RH

set_option Elab.async false
set_option linter.all false
set_option maxRecDepth 100000
/-! RHSnd4: slots set, owned, frozen; targets; what is walked; comprehensions. -/
namespace RH
open PySem PySem.Spec PyProof.Rows L2
/-! ### the state when a slot changes -/
def upo (os : Nat → Option Addr) (i : Nat) (o : Option Addr) : Nat → Option Addr := fun j => if j = i then o else os j
section
variable {K : PySem.W.Frag} {F : Fx} {μ : List Addr} {S : Store} {os os' : Nat → Option Addr} {σ : L2.St} {ρ : List Cell} {H : Hp}
mutual
theorem Rp.stay {W : Addr → Prop} {H' : Hp} (kT : ∀ b o, H b = some o → Im o → H' b = some o) (kL : ∀ b xs, H b = some (.lst xs) → ¬ W b → b ∉ μ → H' b = some (.lst xs)) : ∀ {d : D} {v : V}, Rp K μ W H d v → Rp K μ W H' d v
  | _, _, .non => .non
  | _, _, .bl b => .bl b
  | _, _, .int b => .int b
  | _, _, .str b => .str b
  | _, _, .tup h r => .tup (by
      rcases h with (h | ⟨o, h⟩) | h
      · exact .inl (.inl (kT _ _ h trivial))
      · exact .inl (.inr ⟨o, kT _ _ h trivial⟩)
      · exact .inr h) (Rps.stay kT kL r)
  | _, _, .lst h nw nm r => .lst (kL _ _ h nw nm) nw nm (Rps.stay kT kL r)
  | _, _, .scr h => .scr (h.imp (fun ⟨o, h⟩ => ⟨o, kT _ _ h trivial⟩) id)
  | _, _, .ptr h => .ptr h
theorem Rps.stay {W : Addr → Prop} {H' : Hp} (kT : ∀ b o, H b = some o → Im o → H' b = some o) (kL : ∀ b xs, H b = some (.lst xs) → ¬ W b → b ∉ μ → H' b = some (.lst xs)) : ∀ {ds : List D} {vs : List V}, Rps K μ W H ds vs → Rps K μ W H' ds vs
  | _, _, .nil => .nil
  | _, _, .cons h r => .cons (Rp.stay kT kL h) (Rps.stay kT kL r)
end
theorem Wo.none {W0 : Addr → Prop} {i : Nat} {b : Addr} (h : Wo W0 (upo os i .none) b) : Wo W0 os b := by
  rcases h with h | ⟨j, h⟩
  · exact .inl h
  · unfold upo at h
    split at h
    · cases h
    · exact .inr ⟨j, h⟩
mutual
theorem Rp.flat {W W' : Addr → Prop} : ∀ {d : D} {v : V}, Rp K μ W H d v → lfD d = true → Rp K μ W' H d v
  | _, _, .non, _ => .non
  | _, _, .bl b, _ => .bl b
  | _, _, .int b, _ => .int b
  | _, _, .str b, _ => .str b
  | _, _, .tup h r, p => .tup h (Rps.flat r (by unfold lfD at p; exact p))
  | _, _, .lst _ _ _ _, p => by unfold lfD at p; cases p
  | _, _, .scr _, p => by unfold lfD at p; cases p
  | _, _, .ptr _, p => by unfold lfD at p; cases p
theorem Rps.flat {W W' : Addr → Prop} : ∀ {ds : List D} {vs : List V}, Rps K μ W H ds vs → lfDs ds = true → Rps K μ W' H ds vs
  | _, _, .nil, _ => .nil
  | _, _, .cons h r, p => by
    unfold lfDs at p
    simp only [Bool.and_eq_true] at p
    exact .cons (Rp.flat h p.1) (Rps.flat r p.2)
end
theorem SlotOk.less {W W' : Addr → Prop} {o : Option Addr} {x : Option (Option V)} {c : Cell} (h : SlotOk K μ W H o x c) (w : ∀ b, W' b → W b) : SlotOk K μ W' H o x c := by
  cases c with
  | u => exact h
  | sh d => obtain ⟨h0, v, h1, h2⟩ := h; exact ⟨h0, v, h1, h2.less w⟩
  | ow ds => obtain ⟨a, vs, h0, h1, h2, h3⟩ := h; exact ⟨a, vs, h0, h1, h2, h3.less w⟩
/-- slot i holds no owned list any more; its cell c stands -/
theorem Bd.unown (B : Bd K F μ S os σ ρ H) (i : Nat) {σ' : L2.St} {c : Cell} (hl : σ'.length = σ.length) (hσ : ∀ j, j ≠ i → σ'[j]? = σ[j]?) (hc : i < ρ.length → SlotOk K μ (Wo F.W0 (upo os i none)) H none σ'[i]? c) : Bd K F μ S (upo os i none) σ' (ρ.set i c) H where
  sub := B.sub
  dom := B.dom
  st := B.st.less fun _ => Wo.none
  len := by rw [List.length_set, hl]; exact B.len
  out := fun j hj => by
    rw [List.length_set] at hj
    unfold upo; split
    · rfl
    · exact B.out j hj
  inj := fun j k a h1 h2 => by
    unfold upo at h1 h2
    split at h1
    · cases h1
    · split at h2
      · cases h2
      · exact B.inj j k a h1 h2
  ow0 := fun j a h => by
    unfold upo at h; split at h
    · cases h
    · exact B.ow0 j a h
  own := fun j a h => by
    unfold upo at h; split at h
    · cases h
    · exact B.own j a h
  ext := B.ext
  gr := B.gr
  pin := fun p hp => (B.pin p hp).less fun _ => Wo.none
  slot := fun j cj h => by
    by_cases hj : j = i
    · subst hj
      by_cases hlt : j < ρ.length
      · rw [List.getElem?_set_self hlt] at h
        cases h
        have : upo os j none j = none := by simp [upo]
        rw [this]
        exact hc hlt
      · rw [List.getElem?_eq_none (by rw [List.length_set]; omega)] at h; cases h
    · rw [List.getElem?_set_ne (Ne.symm hj)] at h
      have : upo os i none j = os j := by simp [upo, hj]
      rw [this, hσ j hj]
      exact (B.slot j cj h).less fun _ => Wo.none
theorem Bd.set (B : Bd K F μ S os σ ρ H) {d : D} {v : V} (i : Nat) (r : Rp K μ (Wo F.W0 os) H d v) : Bd K F μ S (upo os i none) (σ.set i (some v)) (ρ.set i (.sh d)) H :=
  B.unown i (List.length_set ..) (fun j hj => List.getElem?_set_ne (Ne.symm hj)) fun hi => ⟨rfl, v, List.getElem?_set_self (by rw [B.len]; exact hi), r.less fun _ => Wo.none⟩
theorem Bd.drp (B : Bd K F μ S os σ ρ H) (i : Nat) : Bd K F μ S (upo os i none) σ (ρ.set i .u) H := B.unown i rfl (fun _ _ => rfl) fun _ => rfl
theorem Bd.frz (B : Bd K F μ S os σ ρ H) {i : Nat} {ds : List D} (e : ρ[i]? = some (.ow ds)) : Bd K F μ S (upo os i none) σ (ρ.set i (.sh (.lst ds))) H := by
  obtain ⟨a, vs, h0, h1, h2, h3⟩ := B.slot i _ e
  refine B.unown i rfl (fun _ _ => rfl) fun _ => ⟨rfl, .ref a, h1, .lst h2 ?_ (fun z => B.st.nw a z (.inr ⟨i, h0⟩)) (h3.less fun _ => Wo.none)⟩
  rintro (z | ⟨j, z⟩)
  · exact B.ow0 i a h0 (B.sub a z)
  · unfold upo at z
    split at z
    · cases z
    · rename_i hj; exact hj (B.inj j i a z h0)
/-- slot i owns the list at a, new since Hb -/
theorem Bd.setO {Hb : Hp} {μb : List Addr} {Sb : Store} (B : Bd K F μb Sb os σ ρ Hb) (x : Ext μb Hb H) (g : Gr μb Hb μ) {a : Addr} {vs : List V} {ds : List D} (i : Nat) (hi : i < ρ.length) (na : Hb a = none) (ha : H a = some (.lst vs)) (nm : a ∉ μ) (r : Rps K μ (fun b => Wo F.W0 os b ∨ b = a) H ds vs)
    (st : SOk K μ (fun b => Wo F.Ws os b ∨ b = a) H S) : Bd K F μ S (upo os i (some a)) (σ.set i (some (.ref a))) (ρ.set i (.ow ds)) H := by
  have w1 : ∀ {W0 : Addr → Prop} b, Wo W0 (upo os i (some a)) b → Wo W0 os b ∨ b = a := fun {W0} b z => by
    rcases z with z | ⟨j, z⟩
    · exact .inl (.inl z)
    · unfold upo at z; split at z
      · cases z; exact .inr rfl
      · exact .inl (.inr ⟨j, z⟩)
  have w2 : ∀ b, Hb b ≠ none → Wo F.W0 (upo os i (some a)) b → Wo F.W0 os b := fun b hb z => by
    rcases w1 b z with z | z
    · exact z
    · subst z; exact absurd na hb
  have B2 : Bd K F μ S os σ ρ H := B.step x g (st.less fun _ z => .inl z)
  have nos : ∀ j, os j ≠ some a := fun j z => B.wdom a (.inr ⟨j, z⟩) na
  have h0 : F.H0 a = none := by
    have nm0 : a ∉ F.μ0 := fun z => nm (g.sub _ (B.gr.sub _ z))
    exact B.ext.free nm0 na
  refine ⟨B2.sub, B2.dom, st.less w1, by rw [List.length_set, List.length_set]; exact B.len, fun j hj => ?_, fun j k b h1 h2 => ?_, fun j b h => ?_, fun j b h => ?_, B2.ext, B2.gr, fun p hp => Rp.ext x g w2 (B.pin p hp), fun j c h => ?_⟩
  · rw [List.length_set] at hj
    unfold upo; split
    · omega
    · exact B.out j hj
  · unfold upo at h1 h2
    split at h1 <;> split at h2
    · omega
    · cases h1; exact absurd h2 (nos k)
    · cases h2; exact absurd h1 (nos j)
    · exact B.inj j k b h1 h2
  · unfold upo at h; split at h
    · cases h; exact fun z => B.dom a z na
    · exact B.ow0 j b h
  · unfold upo at h; split at h
    · cases h; exact h0
    · exact B.own j b h
  · by_cases hj : j = i
    · subst hj
      rw [List.getElem?_set_self hi] at h
      cases h
      exact ⟨a, vs, by simp [upo], List.getElem?_set_self (by rw [B.len]; exact hi), ha, r.less w1⟩
    · rw [List.getElem?_set_ne (Ne.symm hj)] at h
      have e1 : upo os i (some a) j = os j := by simp [upo, hj]
      rw [e1, List.getElem?_set_ne (Ne.symm hj)]
      have q := B.slot j c h
      cases c with
      | u => exact q
      | sh d => obtain ⟨h0, v, h1, h2⟩ := q; exact ⟨h0, v, h1, Rp.ext x g w2 h2⟩
      | ow es =>
        obtain ⟨b, us, h0, h1, h2, h3⟩ := q
        exact ⟨b, us, h0, h1, x b _ h2 (.inl fun z => B.st.nw b z (.inr ⟨j, h0⟩)), Rps.ext x g w2 h3⟩
mutual
theorem Rp.push {W : Addr → Prop} {a : Addr} : ∀ {d : D} {v : V}, Rp K μ (fun b => W b ∨ b = a) H d v → Rp K (μ ++ [a]) W H d v
  | _, _, .non => .non
  | _, _, .bl b => .bl b
  | _, _, .int b => .int b
  | _, _, .str b => .str b
  | _, _, .tup h r => .tup h (Rps.push r)
  | _, _, .lst h nw nm r => .lst h (fun z => nw (.inl z)) (fun z => by
      rcases List.mem_append.mp z with z | z
      · exact nm z
      · exact nw (.inr (List.mem_singleton.mp z))) (Rps.push r)
  | _, _, .scr h => .scr h
  | _, _, .ptr h => .ptr (by rw [List.getElem?_append_left (List.getElem?_eq_some_iff.mp h).1]; exact h)
theorem Rps.push {W : Addr → Prop} {a : Addr} : ∀ {ds : List D} {vs : List V}, Rps K μ (fun b => W b ∨ b = a) H ds vs → Rps K (μ ++ [a]) W H ds vs
  | _, _, .nil => .nil
  | _, _, .cons h r => .cons (Rp.push h) (Rps.push r)
end
/-- a new object of the store -/
theorem Bd.setP {Hb : Hp} (B : Bd K F μ S os σ ρ Hb) {a : Addr} {vs : List V} {ds : List D} (i : Nat) (sm : Same Hb H) (na : Hb a = none) (ha : H a = some (.lst vs)) (r : Rps K μ (fun b => Wo F.Ws os b ∨ b = a) H ds vs) :
    Bd K F (μ ++ [a]) (S ++ [ds]) (upo os i none) (σ.set i (some (.ref a))) (ρ.set i (.sh (.ptr S.length))) H := by
  have nm : a ∉ μ := fun z => by
    obtain ⟨ws, e⟩ := B.st.there a z
    rw [na] at e; cases e
  have g : Gr μ Hb (μ ++ [a]) := ⟨⟨[a], rfl⟩, fun b hb hn => by
    rcases List.mem_append.mp hb with z | z
    · exact absurd z hn
    · rw [List.mem_singleton.mp z]; exact na⟩
  have s1 : SOk K μ (fun b => Wo F.Ws os b ∨ b = a) H S := B.st.keep (fun b o h _ => sm b o h) (.of_same sm) fun b hb z => by
    rcases z with z | z
    · exact z
    · subst z; exact absurd na hb
  have s2 : SOk K (μ ++ [a]) (Wo F.Ws os) H (S ++ [ds]) := by
    refine ⟨by simp [B.st.len], ?_, fun b hb z => ?_, fun n p qs h1 h2 => ?_⟩
    · rw [List.nodup_append]
      refine ⟨B.st.nd, by simp, fun x hx y hy => ?_⟩
      rw [List.mem_singleton.mp hy]
      intro z; subst z; exact nm hx
    · rcases List.mem_append.mp hb with q | q
      · exact B.st.nw b q z
      · rw [List.mem_singleton.mp q] at z; exact B.wdom a z na
    · by_cases hn : n < μ.length
      · rw [List.getElem?_append_left hn] at h1
        rw [List.getElem?_append_left (by rw [← B.st.len]; exact hn)] at h2
        obtain ⟨ws, e1, e2⟩ := s1.at_ n p qs h1 h2
        exact ⟨ws, e1, e2.push⟩
      · have hn' : n = μ.length := by
          have := (List.getElem?_eq_some_iff.mp h1).1
          simp at this; omega
        subst hn'
        rw [List.getElem?_append_right (Nat.le_refl _)] at h1
        rw [B.st.len, List.getElem?_append_right (Nat.le_refl _)] at h2
        simp at h1 h2
        subst h1; subst h2
        exact ⟨vs, ha, r.push⟩
  exact (B.step (.of_same sm) g s2).set i (.ptr (by rw [← B.st.len]; simp))
/-- the owned list of slot i is changed -/
theorem Bd.mut (B : Bd K F μ S os σ ρ H) {i : Nat} {ds es : List D} {a : Addr} {us : List V} (e : ρ[i]? = some (.ow ds)) (ha : os i = some a) (r : Rps K μ (Wo F.W0 os) H es us) : Bd K F μ S os σ (ρ.set i (.ow es)) (upd H a (.lst us)) := by
  obtain ⟨a', vs, h0, h1, h2, h3⟩ := B.slot i _ e
  rw [ha] at h0; cases h0
  have nm : a ∉ μ := fun z => B.st.nw a z (.inr ⟨i, ha⟩)
  have kT : ∀ b o, H b = some o → Im o → upd H a (.lst us) b = some o := fun b o hb im => by
    rw [upd_ne (fun z => by subst z; rw [h2] at hb; cases hb; exact im)]; exact hb
  have kL : ∀ b xs, H b = some (.lst xs) → ¬ Wo F.W0 os b → b ∉ μ → upd H a (.lst us) b = some (.lst xs) := fun b xs hb nw _ => by
    rw [upd_ne (fun z => nw (by rw [z]; exact .inr ⟨i, ha⟩))]; exact hb
  have kLs : ∀ b xs, H b = some (.lst xs) → ¬ Wo F.Ws os b → b ∉ μ → upd H a (.lst us) b = some (.lst xs) := fun b xs hb nw _ => by
    rw [upd_ne (fun z => nw (by rw [z]; exact .inr ⟨i, ha⟩))]; exact hb
  have keepP : ∀ {d : D} {v : V}, Rp K μ (Wo F.W0 os) H d v → Rp K μ (Wo F.W0 os) (upd H a (.lst us)) d v := fun h => Rp.stay kT kL h
  have keepS : ∀ {d : List D} {v : List V}, Rps K μ (Wo F.W0 os) H d v → Rps K μ (Wo F.W0 os) (upd H a (.lst us)) d v := fun h => Rps.stay kT kL h
  refine ⟨B.sub, fun b hb => ?_, ⟨B.st.len, B.st.nd, B.st.nw, fun n p qs h1 h2 => ?_⟩, by rw [List.length_set]; exact B.len, fun j hj => B.out j (by rw [List.length_set] at hj; exact hj), B.inj, B.ow0, B.own, fun b o hb q => ?_, B.gr, fun p hp => keepP (B.pin p hp), fun j c h => ?_⟩
  · unfold upd; split
    · intro z; cases z
    · exact B.dom b hb
  · obtain ⟨ws, e1, e2⟩ := B.st.at_ n p qs h1 h2
    exact ⟨ws, by rw [upd_ne (fun z => nm (by rw [← z]; exact List.mem_of_getElem? h1))]; exact e1, Rps.stay kT kLs e2⟩
  · have : b ≠ a := fun z => by subst z; rw [B.own i b ha] at hb; cases hb
    rw [upd_ne this]
    exact B.ext b o hb q
  · by_cases hj : j = i
    · subst hj
      have hlt : j < ρ.length := (List.getElem?_eq_some_iff.mp e).1
      rw [List.getElem?_set_self hlt] at h
      cases h
      exact ⟨a, us, ha, h1, upd_same, keepS r⟩
    · rw [List.getElem?_set_ne (Ne.symm hj)] at h
      have q := B.slot j c h
      cases c with
      | u => exact q
      | sh d => obtain ⟨h0, v, h1, h2⟩ := q; exact ⟨h0, v, h1, keepP h2⟩
      | ow es' =>
        obtain ⟨b, ws, g0, g1, g2, g3⟩ := q
        exact ⟨b, ws, g0, g1, by rw [upd_ne (fun z => hj (B.inj j i a (by rw [g0, z]) ha))]; exact g2, keepS g3⟩
/-- an object of the store is changed -/
theorem Bd.stm (B : Bd K F μ S os σ ρ H) {n : Nat} {a : Addr} {ds : List D} {us : List V} (ha : μ[n]? = some a) (r : Rps K μ (Wo F.Ws os) H ds us) : Bd K F μ (S.set n ds) os σ ρ (upd H a (.lst us)) := by
  have am : a ∈ μ := List.mem_of_getElem? ha
  obtain ⟨vs, h2⟩ := B.st.there a am
  have kT : ∀ b o, H b = some o → Im o → upd H a (.lst us) b = some o := fun b o hb im => by
    rw [upd_ne (fun z => by subst z; rw [h2] at hb; cases hb; exact im)]; exact hb
  have kL : ∀ b xs, H b = some (.lst xs) → ¬ Wo F.W0 os b → b ∉ μ → upd H a (.lst us) b = some (.lst xs) := fun b xs hb _ nm => by
    rw [upd_ne (fun z => nm (by rw [z]; exact am))]; exact hb
  have keepP : ∀ {d : D} {v : V}, Rp K μ (Wo F.W0 os) H d v → Rp K μ (Wo F.W0 os) (upd H a (.lst us)) d v := fun h => Rp.stay kT kL h
  have keepS : ∀ {d : List D} {v : List V}, Rps K μ (Wo F.W0 os) H d v → Rps K μ (Wo F.W0 os) (upd H a (.lst us)) d v := fun h => Rps.stay kT kL h
  have kLs : ∀ b xs, H b = some (.lst xs) → ¬ Wo F.Ws os b → b ∉ μ → upd H a (.lst us) b = some (.lst xs) := fun b xs hb _ nm => by
    rw [upd_ne (fun z => nm (by rw [z]; exact am))]; exact hb
  refine ⟨B.sub, fun b hb => ?_, ⟨by rw [List.length_set]; exact B.st.len, B.st.nd, B.st.nw, fun m p qs h1 h3 => ?_⟩, B.len, B.out, B.inj, B.ow0, B.own, fun b o hb q => ?_, B.gr, fun p hp => keepP (B.pin p hp), fun j c h => ?_⟩
  · unfold upd; split
    · intro z; cases z
    · exact B.dom b hb
  · by_cases hm : m = n
    · subst hm
      rw [ha] at h1; cases h1
      have hl : m < S.length := by rw [← B.st.len]; exact (List.getElem?_eq_some_iff.mp ha).1
      rw [List.getElem?_set_self hl] at h3
      cases h3
      exact ⟨us, upd_same, Rps.stay kT kLs r⟩
    · rw [List.getElem?_set_ne (Ne.symm hm)] at h3
      obtain ⟨ws, e1, e2⟩ := B.st.at_ m p qs h1 h3
      refine ⟨ws, ?_, Rps.stay kT kLs e2⟩
      rw [upd_ne (fun z => hm ?_)]
      · exact e1
      · rw [z] at h1
        obtain ⟨l1, e1⟩ := List.getElem?_eq_some_iff.mp h1
        obtain ⟨l2, e2⟩ := List.getElem?_eq_some_iff.mp ha
        exact (List.getElem_inj B.st.nd).mp (e1.trans e2.symm)
  · by_cases hb' : b = a
    · subst hb'
      rcases q with q | q
      · exact absurd (by
          have h0 := B.ext b o hb (.inl q)
          have := B.gr.2 b am q
          rw [hb] at this; cases this) (fun z : False => z)
      · have h0 := B.ext b o hb (.inr q)
        rw [h2] at h0; cases h0; exact q.elim
    · rw [upd_ne hb']
      exact B.ext b o hb q
  · have q := B.slot j c h
    cases c with
    | u => exact q
    | sh d => obtain ⟨h0, v, h1, h2⟩ := q; exact ⟨h0, v, h1, keepP h2⟩
    | ow es' =>
      obtain ⟨b, ws, g0, g1, g2, g3⟩ := q
      exact ⟨b, ws, g0, g1, by rw [upd_ne (fun z => B.st.nw b (by rw [z]; exact am) (.inr ⟨j, g0⟩))]; exact g2, keepS g3⟩
end
end RH

set_option Elab.async false
set_option linter.all false
set_option maxRecDepth 100000
/-! RHSnd5: targets; what is walked; comprehensions. -/
namespace RH
open PySem PySem.Spec PyProof.Rows L2
/-! ### targets -/
mutual
def tgs : Tg → List Nat
  | .name i => [i]
  | .tup l => tgss l
def tgss : Tgs → List Nat
  | .nil => []
  | .cons t r => tgs t ++ tgss r
end
/-- slots but vs stay -/
def Only (vs : List Nat) (σ σ' : L2.St) : Prop := σ'.length = σ.length ∧ ∀ j, j ∉ vs → σ'[j]? = σ[j]?
def OsSub (os' os : Nat → Option Addr) (vs : List Nat) : Prop := (∀ i a, os' i = some a → os i = some a) ∧ ∀ i, i ∉ vs → os' i = os i
def tG (K : PySem.W.Frag) (t : Tg) : TG := fun v σ H Q => ∃ F μ S os ρ d ρ', Bd K F μ S os σ ρ H ∧ Rp K μ (Wo F.W0 os) H d v ∧ bindT t d ρ = some ρ' ∧ ∀ σ' os', Bd K F μ S os' σ' ρ' H → OsSub os' os (tgs t) → Only (tgs t) σ σ' → Q σ' H
def tGs (K : PySem.W.Frag) (l : Tgs) : TGs := fun vs σ H Q => ∃ F μ S os ρ ds ρ', Bd K F μ S os σ ρ H ∧ Rps K μ (Wo F.W0 os) H ds vs ∧ bindTs l ds ρ = some ρ' ∧ ∀ σ' os', Bd K F μ S os' σ' ρ' H → OsSub os' os (tgss l) → Only (tgss l) σ σ' → Q σ' H
theorem _root_.L2.PG.imp {X : Cx} {e : Expr} {t t' : TG} (h : PG X e t) (i : ∀ v σ H Q, t' v σ H Q → t v σ H Q) : PG X e t' := ⟨fun pins s σ H v u Q I r q => h.run pins s σ H v u Q I r (i v σ H Q q)⟩
theorem _root_.L2.PGs.imp {X : Cx} {e : List Expr} {t t' : TGs} (h : PGs X e t) (i : ∀ v σ H Q, t' v σ H Q → t v σ H Q) : PGs X e t' := ⟨fun pins s σ H v u Q I r q => h.run pins s σ H v u Q I r (i v σ H Q q)⟩
section
variable {X : Cx} {pos : Pos}
theorem OsSub.wo {W0 : Addr → Prop} {os os' : Nat → Option Addr} {vs : List Nat} (h : OsSub os' os vs) {b : Addr} (w : Wo W0 os' b) : Wo W0 os b := by
  rcases w with w | ⟨i, w⟩
  · exact .inl w
  · exact .inr ⟨i, h.1 i b w⟩
theorem g_name {i : Nat} {x : Str} (hN : X.N.Nodup) (hi : X.N[i]? = some x) (hx : Loc X.env.scope x) (hf : X.fn x = true ∨ X.env.scope.names.lookup x = some .local) : PG X (.Name x pos) (tG X.K (.name i)) := by
  refine (pg_name hN hi hx hf).imp fun v σ H Q h => ?_
  obtain ⟨F, μ, S, os, ρ, d, ρ', B, r, e, q⟩ := h
  simp only [bindT] at e
  cases e
  refine q _ _ (B.set i r) ⟨fun j a h => ?_, fun j hj => ?_⟩ ⟨List.length_set .., fun j hj => List.getElem?_set_ne ?_⟩
  · unfold upo at h; split at h
    · cases h
    · exact h
  · simp only [tgs, List.mem_singleton] at hj
    simp [upo, hj]
  · simp only [tgs, List.mem_singleton] at hj
    exact Ne.symm hj
theorem g_nil : PGs X [] (tGs X.K .nil) := by
  refine pgs_nil.imp fun vs σ H Q h => ?_
  obtain ⟨F, μ, S, os, ρ, ds, ρ', B, r, e, q⟩ := h
  cases r with
  | nil =>
    simp only [bindTs] at e
    cases e
    exact ⟨rfl, q σ os B ⟨fun _ _ h => h, fun _ _ => rfl⟩ ⟨rfl, fun _ _ => rfl⟩⟩
  | cons _ _ => simp [bindTs] at e
theorem g_cons {t : Tg} {l : Tgs} {e : Expr} {es : List Expr} (h1 : PG X e (tG X.K t)) (h2 : PGs X es (tGs X.K l)) (hs : (assignEach (e :: es) X.env).map (·.2) = assign e X.env :: (assignEach es X.env).map (·.2)) : PGs X (e :: es) (tGs X.K (.cons t l)) := by
  refine (pgs_cons h1 h2 hs).imp fun vs σ H Q h => ?_
  obtain ⟨F, μ, S, os, ρ, ds, ρ', B, r, eb, q⟩ := h
  cases r with
  | nil => simp [bindTs] at eb
  | cons r rr =>
    rename_i d v ds vs
    simp only [bindTs] at eb
    split at eb
    · rename_i ρ1 e1
      refine ⟨v, vs, rfl, F, μ, S, os, ρ, d, ρ1, B, r, e1, fun σ1 os1 B1 s1 o1 => ?_⟩
      refine ⟨F, μ, S, os1, ρ1, ds, ρ', B1, rr.less fun b w => s1.wo w, eb, fun σ2 os2 B2 s2 o2 => ?_⟩
      refine q σ2 os2 B2 ⟨fun i a h => s1.1 i a (s2.1 i a h), fun j hj => ?_⟩ ⟨o2.1.trans o1.1, fun j hj => ?_⟩
      · simp only [tgss, List.mem_append, not_or] at hj
        exact (s2.2 j hj.2).trans (s1.2 j hj.1)
      · simp only [tgss, List.mem_append, not_or] at hj
        exact (o2.2 j hj.2).trans (o1.2 j hj.1)
    · cases eb
def tgLen : Tgs → Nat
  | .nil => 0
  | .cons _ r => tgLen r + 1
theorem bindTs_tgLen : ∀ {l : Tgs} {ds : List D} {ρ ρ' : List Cell}, bindTs l ds ρ = some ρ' → ds.length = tgLen l
  | .nil, [], _, _, _ => rfl
  | .nil, _ :: _, _, _, h => by simp [bindTs] at h
  | .cons _ _, [], _, _, h => by simp [bindTs] at h
  | .cons t r, d :: ds, ρ, ρ', h => by
    simp only [bindTs] at h
    split at h
    · have := bindTs_tgLen h
      simp only [List.length_cons, tgLen]
      omega
    · cases h
theorem g_tup {l : Tgs} {es : List Expr} {k : Nat} (hc : X.calm = true) (h : PGs X es (tGs X.K l)) (hn : (assignEach es X.env).length = tgLen l) (hst : (assignEach es X.env).findIdx? (·.1) = none) : PG X (.Tuple es k pos) (tG X.K (.tup l)) := by
  refine (pg_tup hc h hn hst).imp fun v σ H Q h => ?_
  obtain ⟨F, μ, S, os, ρ, d, ρ', B, r, e, q⟩ := h
  cases d with
  | tup ds =>
    simp only [bindT] at e
    obtain ⟨a, vs, rfl, h1, h2⟩ := r.w.tup
    exact ⟨a, vs, rfl, h1, by rw [← h2.length]; exact bindTs_tgLen e, F, μ, S, os, ρ, ds, ρ', B, h2, e, q⟩
  | _ => simp [bindT] at e
end

/-! ### what is walked -/
/-- the walk J yields ds, as long as src stands -/
def Wk (K : PySem.W.Frag) (J : It) (src : List (D × V)) (ds : List D) : Prop := ∀ (μ : List Addr) (W : Addr → Prop) (H : Hp), (∀ p, p ∈ src → Rb K μ W H p.1 p.2) → ∀ i,
  (∀ d, ds[i]? = some d → J.go i H ∧ ∀ x H', J.yld i H x H' → Same H H' ∧ Rp K μ W H' d x) ∧ (ds.length ≤ i → J.stop i H)
def PI1 (K : PySem.W.Frag) (F : Fx) (os : Nat → Option Addr) (σ : L2.St) (ρ : List Cell) (st : Bool) (R : It → Hp → Prop) : List D → Store → List Addr → Hp → Prop := fun ds S μ H =>
  ∀ J src H' μ', Ext μ H H' → Gr μ H μ' → Bd K F μ' S os σ ρ H' → (∀ p, p ∈ src → Rb K μ' (Wo F.W0 os) H' p.1 p.2 ∧ (st = true → Rp K μ' (Wo F.W0 os) H' p.1 p.2)) → Wk K J src ds → R J H'
theorem PI1.tr {K : PySem.W.Frag} {F : Fx} {os : Nat → Option Addr} {σ : L2.St} {ρ : List Cell} {st : Bool} {R : It → Hp → Prop} : Tr (PI1 K F os σ ρ st R) := fun d S μ H μ1 H1 h x g J src H' μ' x' g' b r w =>
  h J src H' μ' (x.trans g x') (g.trans x g') b r w
def tIt (K : PySem.W.Frag) (E : XT) (EW : WX) (st : Bool) (m : List Cell → Store → Res (List D)) : TI := fun σ H R => ∃ F μ S os ρ, Bd K F μ S os σ ρ H ∧ Fin K E EW F os σ ρ (PI1 K F os σ ρ st R) μ H (m ρ S)
section
variable {K : PySem.W.Frag}
theorem wk_list {ds : List D} {a : Addr} : Wk K (Itl K a) [(.lst ds, .ref a)] ds := fun μ W H hs i => by
  obtain ⟨a', vs, e, h1, h2⟩ := (hs (.lst ds, .ref a) (by simp)).w.lst
  cases e
  refine ⟨fun d hd => ?_, fun hi => ⟨vs, .of h1, by rw [← h2.length]; exact hi⟩⟩
  obtain ⟨v, h3, h4⟩ := h2.get hd
  refine ⟨⟨vs, v, .of h1, h3⟩, fun x H' y => ?_⟩
  obtain ⟨rfl, y⟩ := y
  have := y vs (.of h1)
  rw [h3] at this; cases this
  exact ⟨Same.refl _, h4⟩
theorem wk_tup {ds : List D} {a : Addr} : Wk K (Itt K a) [(.tup ds, .ref a)] ds := fun μ W H hs i => by
  obtain ⟨a', vs, e, h1, h2⟩ := (hs (.tup ds, .ref a) (by simp)).w.tup
  cases e
  refine ⟨fun d hd => ?_, fun hi => ⟨vs, h1, by rw [← h2.length]; exact hi⟩⟩
  obtain ⟨v, h3, h4⟩ := h2.get hd
  refine ⟨⟨vs, v, h1, h3⟩, fun x H' y => ?_⟩
  obtain ⟨rfl, y⟩ := y
  have := y vs h1
  rw [h3] at this; cases this
  exact ⟨Same.refl _, h4⟩
theorem wk_str {l : List Nat} : Wk K (Its ⟨l.toArray⟩) [(.str l, .str ⟨l.toArray⟩)] (l.map fun c => .str [c]) := fun μ W H hs i => by
  obtain ⟨_, ha⟩ := (hs (.str l, .str ⟨l.toArray⟩) (by simp)).w.str
  refine ⟨fun d hd => ?_, fun hi => by
    show (l.toArray).size ≤ i
    simpa using hi⟩
  rw [List.getElem?_map] at hd
  obtain ⟨c, hc, rfl⟩ := Option.map_eq_some_iff.mp hd
  have hlt : i < l.length := (List.getElem?_eq_some_iff.mp hc).1
  refine ⟨by show i < (l.toArray).size; simpa using hlt, fun x H' y => ?_⟩
  obtain ⟨rfl, c', hc', rfl⟩ := y
  have : (l.toArray)[i]? = some c := by simpa using hc
  rw [this] at hc'; cases hc'
  exact ⟨Same.refl _, .str (ha.one (List.mem_of_getElem? hc))⟩
theorem wk_range {lo : Int} {n : Nat} {src : List (D × V)} : Wk K (Itr lo n) src ((List.range n).map fun (k : Nat) => .int (lo + (k : Int))) := fun μ W H _ i => by
  refine ⟨fun d hd => ?_, fun hi => by show n ≤ i; simpa using hi⟩
  rw [List.getElem?_map] at hd
  obtain ⟨c, hc, rfl⟩ := Option.map_eq_some_iff.mp hd
  obtain ⟨hl, e⟩ := List.getElem?_eq_some_iff.mp hc
  simp at hl e
  subst e
  exact ⟨hl, fun x H' y => by obtain ⟨rfl, rfl⟩ := y; exact ⟨Same.refl _, .int _⟩⟩
theorem wk_rangeC {lo c : Int} {n : Nat} {src : List (D × V)} : Wk K (Itc lo c n) src ((List.range n).map fun (k : Nat) => .int (lo + (k : Int) * c)) := fun μ W H _ i => by
  refine ⟨fun d hd => ?_, fun hi => by show n ≤ i; simpa using hi⟩
  rw [List.getElem?_map] at hd
  obtain ⟨c', hc, rfl⟩ := Option.map_eq_some_iff.mp hd
  obtain ⟨hl, e⟩ := List.getElem?_eq_some_iff.mp hc
  simp at hl e
  subst e
  exact ⟨hl, fun x H' y => by obtain ⟨rfl, rfl⟩ := y; exact ⟨Same.refl _, .int _⟩⟩
theorem enumD_get : ∀ (ds : List D) (n i : Nat), (enumD n ds)[i]? = (ds[i]?).map fun d => .tup [.int ((n + i : Nat) : Int), d]
  | [], n, i => by simp [enumD]
  | d :: ds, n, 0 => by simp [enumD]
  | d :: ds, n, i + 1 => by
    simp only [enumD, List.getElem?_cons_succ]
    rw [enumD_get ds (n + 1) i]
    congr 1
    funext d
    rw [show n + 1 + i = n + (i + 1) by omega]
theorem enumD_len : ∀ (ds : List D) (n : Nat), (enumD n ds).length = ds.length
  | [], _ => rfl
  | d :: ds, n => by simp [enumD, enumD_len ds (n + 1)]
theorem wk_enum {ds : List D} {a : Addr} : Wk K (Ite K a) [(.lst ds, .ref a)] (enumD 0 ds) := fun μ W H hs i => by
  obtain ⟨a', vs, e, h1, h2⟩ := (hs (.lst ds, .ref a) (by simp)).w.lst
  cases e
  refine ⟨fun d hd => ?_, fun hi => ⟨vs, .of h1, by rw [← h2.length]; rw [enumD_len] at hi; exact hi⟩⟩
  rw [enumD_get] at hd
  obtain ⟨d', hd', rfl⟩ := Option.map_eq_some_iff.mp hd
  obtain ⟨v, h3, h4⟩ := h2.get hd'
  refine ⟨⟨vs, v, .of h1, h3⟩, fun x H' y => ?_⟩
  obtain ⟨T, x', rfl, nT, rfl, y⟩ := y
  have := y vs (.of h1)
  rw [h3] at this; cases this
  have e0 : (0 + i : Nat) = i := by omega
  rw [e0]
  exact ⟨same_new nT, .tup (.inl (.inl upd_same)) (.cons (.int _) (.cons (h4.ext' (Ext.new nT) .refl) .nil))⟩
theorem zipD_get : ∀ (ds es : List D) (i : Nat) (x : D), (zipD ds es)[i]? = some x → ∃ d e, ds[i]? = some d ∧ es[i]? = some e ∧ x = .tup [d, e]
  | [], _, i, x, h => by simp [zipD] at h
  | _ :: _, [], i, x, h => by simp [zipD] at h
  | d :: ds, e :: es, 0, x, h => by simp [zipD] at h; exact ⟨d, e, rfl, rfl, h.symm⟩
  | d :: ds, e :: es, i + 1, x, h => by
    simp only [zipD, List.getElem?_cons_succ] at h ⊢
    exact zipD_get ds es i x h
theorem zipD_len : ∀ (ds es : List D), (zipD ds es).length = min ds.length es.length
  | [], es => by simp [zipD]
  | _ :: _, [] => by simp [zipD]
  | d :: ds, e :: es => by simp only [zipD, List.length_cons, zipD_len ds es]; omega
theorem wk_zip {ds es : List D} {a b : Addr} : Wk K (Itz K a b) [(.lst ds, .ref a), (.lst es, .ref b)] (zipD ds es) := fun μ W H hs i => by
  obtain ⟨a', vs, e, h1, h2⟩ := (hs (.lst ds, .ref a) (by simp)).w.lst
  cases e
  obtain ⟨b', us, e, h1', h2'⟩ := (hs (.lst es, .ref b) (by simp)).w.lst
  cases e
  refine ⟨fun d hd => ?_, fun hi => ⟨vs, us, .of h1, .of h1', by rw [← h2.length, ← h2'.length]; rw [zipD_len] at hi; omega⟩⟩
  obtain ⟨d1, d2, e1, e2, rfl⟩ := zipD_get ds es i d hd
  obtain ⟨v, h3, h4⟩ := h2.get e1
  obtain ⟨u, h3', h4'⟩ := h2'.get e2
  refine ⟨⟨vs, us, v, u, .of h1, .of h1', h3, h3'⟩, fun x H' y => ?_⟩
  obtain ⟨T, x1, x2, rfl, nT, rfl, y1, y2⟩ := y
  have q1 := y1 vs (.of h1)
  rw [h3] at q1; cases q1
  have q2 := y2 us (.of h1')
  rw [h3'] at q2; cases q2
  exact ⟨same_new nT, .tup (.inl (.inl upd_same)) (.cons (h4.ext' (Ext.new nT) .refl) (.cons (h4'.ext' (Ext.new nT) .refl) .nil))⟩
theorem wk_rev {ds : List D} {a : Addr} : Wk K (Itv K a ds.length) [(.lst ds, .ref a)] ds.reverse := fun μ W H hs i => by
  obtain ⟨a', vs, e, h1, h2⟩ := (hs (.lst ds, .ref a) (by simp)).w.lst
  cases e
  refine ⟨fun d hd => ?_, fun hi => by show ds.length ≤ i; simpa using hi⟩
  have hl : i < ds.length := by
    have := (List.getElem?_eq_some_iff.mp hd).1
    simpa using this
  rw [List.getElem?_reverse hl] at hd
  obtain ⟨v, h3, h4⟩ := h2.get hd
  refine ⟨⟨hl, vs, v, .of h1, h3⟩, fun x H' y => ?_⟩
  obtain ⟨rfl, y⟩ := y
  have := y vs (.of h1)
  rw [h3] at this; cases this
  exact ⟨Same.refl _, h4⟩
end
section
variable {X : Cx} {E : XT} {EW : WX} {Φ : Nat → Fn} {pos : Pos} {tg : Expr}
theorem i_seq {st : Bool} {a : Expr} {ca : CE} {k : Nat} (hk : st = true → 1 ≤ k) (ha : PE X a (tX X.K E EW k (evE Φ ca))) : PI X tg a (tIt X.K E EW st (evI Φ (.seq ca))) := by
  refine ((pi_list ha).or ((pi_tup ha).or (pi_str ha))).imp fun σ H R h => ?_
  obtain ⟨F, μ, S, os, ρ, B, h⟩ := h
  simp only [evI] at h
  -- which kind it is
  have hd : ∀ (cond : D → Prop) (R' : VK), (∀ d S1 v H1 μ1, Ext μ H H1 → Gr μ H μ1 → Bd X.K F μ1 S1 os σ ρ H1 → RK k X.K μ1 (Wo F.W0 os) (Wo F.Ws os) H H1 S1 d v → Fin X.K E EW F os σ ρ (PI1 X.K F os σ ρ st R) μ1 H1 (ofO (seqOf d) S1) → cond d → R' v H1) →
      (∀ d S1, evE Φ ca ρ S = .ok d S1 → cond d) → tX X.K E EW k (evE Φ ca) σ H R' := fun cond R' hR hc => by
    refine ⟨F, μ, S, os, ρ, B, ?_⟩
    cases e : evE Φ ca ρ S with
    | ok d S1 =>
      rw [e] at h
      exact fun v H1 μ1 x g B1 r => hR d S1 v H1 μ1 x g B1 r (Fin.later PI1.tr h x g) (hc d S1 e)
    | err y S1 => rw [e] at h; exact h
    | bad => rw [e] at h; exact h
  cases e : evE Φ ca ρ S with
  | bad => rw [e] at h; exact h.elim
  | err y S1 => exact .inl (hd (fun _ => False) _ (fun _ _ _ _ _ _ _ _ _ _ z => z.elim) (fun d S1 z => by rw [e] at z; cases z))
  | ok d S1 =>
    have src1 : ∀ {d : D} {S1 : Store} {v : V} {H1 : Hp} {μ1 : List Addr}, RK k X.K μ1 (Wo F.W0 os) (Wo F.Ws os) H H1 S1 d v → ∀ p, p ∈ [(d, v)] → Rb X.K μ1 (Wo F.W0 os) H1 p.1 p.2 ∧ (st = true → Rp X.K μ1 (Wo F.W0 os) H1 p.1 p.2) := fun r p hp => by
      simp at hp; subst hp; exact ⟨r.1, fun z => r.rp (hk z)⟩
    cases d with
    | lst ds =>
      refine .inl (hd (fun z => z = .lst ds) _ (fun d' S' v H1 μ1 x g B1 r h c => ?_) (fun d' S' z => by rw [e] at z; cases z; rfl))
      subst c
      obtain ⟨a', vs, rfl, h1, h2⟩ := r.w.lst
      exact ⟨a', rfl, ⟨vs, .of h1⟩, h _ _ _ _ .refl .refl B1 (src1 r) wk_list⟩
    | tup ds =>
      refine .inr (.inl (hd (fun z => z = .tup ds) _ (fun d' S' v H1 μ1 x g B1 r h c => ?_) (fun d' S' z => by rw [e] at z; cases z; rfl)))
      subst c
      obtain ⟨a', vs, rfl, h1, h2⟩ := r.w.tup
      exact ⟨a', rfl, ⟨vs, h1⟩, h _ _ _ _ .refl .refl B1 (src1 r) wk_tup⟩
    | str l =>
      refine .inr (.inr (hd (fun z => z = .str l) _ (fun d' S' v H1 μ1 x g B1 r h c => ?_) (fun d' S' z => by rw [e] at z; cases z; rfl)))
      subst c
      obtain ⟨rfl, ha⟩ := r.w.str
      exact ⟨_, rfl, h _ _ _ _ .refl .refl B1 (src1 r) wk_str⟩
    | _ => rw [e] at h; exact h.elim
theorem w62_ok {i : Int} (h : w62 i = true) : -(2 ^ 62) ≤ i ∧ i < 2 ^ 62 := by
  simp only [w62, Bool.and_eq_true, decide_eq_true_eq] at h
  exact ⟨by omega, by omega⟩
theorem RKs.c1 {st : Bool} {K : PySem.W.Frag} {μ : List Addr} {W : Addr → Prop} {H : Hp} {d : D} {vs : List V} (h : RKs st K μ W H [d] vs) : ∃ v, vs = [v] ∧ Rb K μ W H d v ∧ (st = true → Rp K μ W H d v) := by
  cases h with | cons h s r => cases r; exact ⟨_, rfl, h, s⟩
theorem RKs.c2 {st : Bool} {K : PySem.W.Frag} {μ : List Addr} {W : Addr → Prop} {H : Hp} {d e : D} {vs : List V} (h : RKs st K μ W H [d, e] vs) : ∃ v u, vs = [v, u] ∧ (Rb K μ W H d v ∧ (st = true → Rp K μ W H d v)) ∧ Rb K μ W H e u ∧ (st = true → Rp K μ W H e u) := by
  cases h with | cons h s r => obtain ⟨u, rfl, q⟩ := r.c1; exact ⟨_, _, rfl, ⟨h, s⟩, q⟩
theorem RKs.c3 {st : Bool} {K : PySem.W.Frag} {μ : List Addr} {W : Addr → Prop} {H : Hp} {d e f : D} {vs : List V} (h : RKs st K μ W H [d, e, f] vs) : ∃ v u w, vs = [v, u, w] ∧ Rb K μ W H d v ∧ Rb K μ W H e u ∧ Rb K μ W H f w := by
  cases h with | cons h s r => obtain ⟨u, w, rfl, q⟩ := r.c2; exact ⟨_, _, _, rfl, h, q.1.1, q.2.1⟩
theorem i_r1 {st : Bool} {a : Expr} {l : CL} {p : Pos} (hg : Gl X "range") (hm : X.mg "range" = none) (ha : PA X [a] (tL X.K E EW st (evL Φ l))) (hs : starEach [a] X.env = [(false, eval a X.env)]) : PI X tg (.Call (.Name "range" p) [a] [] pos) (tIt X.K E EW st (evI Φ (.wlk .r1 l))) := by
  refine (pi_range1 hg hm ha hs).imp fun σ H R h => ?_
  obtain ⟨F, μ, S, os, ρ, B, h⟩ := h
  simp only [evI] at h
  refine tL.bind (st := st) PI1.tr B h fun ds S1 vs H1 μ1 x1 g1 B1 r1 h => ?_
  obtain ⟨z, hz, h⟩ := Fin.ofO h
  unfold wcD at hz
  split at hz <;> first | (rename_i h0; cases h0; done) | (cases hz; done) | skip
  split at hz
  · rename_i w
    cases hz
    obtain ⟨v, rfl, q⟩ := r1.c1
    cases q.1.w.int
    refine ⟨_, rfl, (w62_ok w).1, (w62_ok w).2, h _ [] _ _ .refl .refl B1 (fun _ z => nomatch z) ?_⟩
    have wk0 : ∀ n : Nat, Wk X.K (Itr 0 n) [] ((List.range n).map fun i => .int ((i : Nat) : Int)) := fun n => by
      have := wk_range (K := X.K) (lo := 0) (n := n) (src := [])
      simp only [Int.zero_add] at this
      exact this
    exact wk0 _
  · cases hz
theorem i_r2 {st : Bool} {a b : Expr} {l : CL} {p : Pos} (hg : Gl X "range") (hm : X.mg "range" = none) (ha : PA X [a, b] (tL X.K E EW st (evL Φ l))) (hs : starEach [a, b] X.env = [(false, eval a X.env), (false, eval b X.env)]) (hs2 : starEach [b] X.env = [(false, eval b X.env)]) : PI X tg (.Call (.Name "range" p) [a, b] [] pos) (tIt X.K E EW st (evI Φ (.wlk .r2 l))) := by
  refine (pi_range2 hg hm ha hs hs2).imp fun σ H R h => ?_
  obtain ⟨F, μ, S, os, ρ, B, h⟩ := h
  simp only [evI] at h
  refine tL.bind (st := st) PI1.tr B h fun ds S1 vs H1 μ1 x1 g1 B1 r1 h => ?_
  obtain ⟨z, hz, h⟩ := Fin.ofO h
  unfold wcD at hz
  split at hz <;> first | (rename_i h0; cases h0; done) | (cases hz; done) | skip
  split at hz
  · rename_i w
    simp only [Bool.and_eq_true] at w
    cases hz
    obtain ⟨v, u, rfl, q1, q2⟩ := r1.c2
    cases q1.1.w.int
    cases q2.1.w.int
    exact ⟨_, _, rfl, ⟨(w62_ok w.1).1, (w62_ok w.1).2, (w62_ok w.2).1, (w62_ok w.2).2⟩, h _ [] _ _ .refl .refl B1 (fun _ z => nomatch z) wk_range⟩
  · cases hz
theorem i_r3 {st : Bool} {a b c : Expr} {l : CL} {p : Pos} (hg : Gl X "range") (hm : X.mg "range" = none) (ha : PA X [a, b, c] (tL X.K E EW st (evL Φ l))) (hs : starEach [a, b, c] X.env = (false, eval a X.env) :: starEach [b, c] X.env) (hpl : (backTo pos (starEach [b, c] X.env)).any (·.1) = false) : PI X tg (.Call (.Name "range" p) [a, b, c] [] pos) (tIt X.K E EW st (evI Φ (.wlk .r3 l))) := by
  refine (pi_range3 hg hm ha hs hpl).imp fun σ H R h => ?_
  obtain ⟨F, μ, S, os, ρ, B, h⟩ := h
  simp only [evI] at h
  refine tL.bind (st := st) PI1.tr B h fun ds S1 vs H1 μ1 x1 g1 B1 r1 h => ?_
  obtain ⟨z, hz, h⟩ := Fin.ofO h
  unfold wcD at hz
  split at hz <;> first | (rename_i h0; cases h0; done) | (cases hz; done) | skip
  split at hz
  · rename_i w
    simp only [Bool.and_eq_true, beq_iff_eq] at w
    obtain ⟨⟨w1, w2⟩, wc⟩ := w
    cases hz
    obtain ⟨v, u, y, rfl, q1, q2, q3⟩ := r1.c3
    cases q1.w.int
    cases q2.w.int
    cases q3.w.int
    rw [wc]
    exact ⟨_, _, _, _, rfl, RgC.neg (w62_ok w1).1 (w62_ok w1).2 (w62_ok w2).1 (w62_ok w2).2, h _ [] _ _ .refl .refl B1 (fun _ z => nomatch z) wk_rangeC⟩
  · cases hz
theorem i_enum {st : Bool} {a : Expr} {l : CL} {p tpos : Pos} {elts : List Expr} {kk : Nat} (hg : Gl X "enumerate") (hm : X.mg "enumerate" = none) (ha : PA X [a] (tL X.K E EW st (evL Φ l))) (hs : starEach [a] X.env = [(false, eval a X.env)]) : PI X (.Tuple elts kk tpos) (.Call (.Name "enumerate" p) [a] [] pos) (tIt X.K E EW st (evI Φ (.wlk .enum l))) := by
  refine (pi_enum hg hm ha hs).imp fun σ H R h => ?_
  obtain ⟨F, μ, S, os, ρ, B, h⟩ := h
  simp only [evI] at h
  refine tL.bind (st := st) PI1.tr B h fun ds S1 vs H1 μ1 x1 g1 B1 r1 h => ?_
  obtain ⟨z, hz, h⟩ := Fin.ofO h
  unfold wcD at hz
  split at hz <;> first | (rename_i h0; cases h0; done) | (cases hz; done) | skip
  cases hz
  obtain ⟨v, rfl, q⟩ := r1.c1
  obtain ⟨a', ws, rfl, h1, h2⟩ := q.1.w.lst
  exact ⟨a', ws, rfl, .of h1, h _ [(_, _)] _ _ .refl .refl B1 (fun p hp => by simp at hp; subst hp; exact q) wk_enum⟩
theorem i_rev {st : Bool} {a : Expr} {l : CL} {p : Pos} (hg : Gl X "reversed") (hm : X.mg "reversed" = none) (ha : PA X [a] (tL X.K E EW st (evL Φ l))) (hs : starEach [a] X.env = [(false, eval a X.env)]) : PI X tg (.Call (.Name "reversed" p) [a] [] pos) (tIt X.K E EW st (evI Φ (.wlk .rev l))) := by
  refine (pi_reversed hg hm ha hs).imp fun σ H R h => ?_
  obtain ⟨F, μ, S, os, ρ, B, h⟩ := h
  simp only [evI] at h
  refine tL.bind (st := st) PI1.tr B h fun ds S1 vs H1 μ1 x1 g1 B1 r1 h => ?_
  obtain ⟨z, hz, h⟩ := Fin.ofO h
  unfold wcD at hz
  split at hz <;> first | (rename_i h0; cases h0; done) | (cases hz; done) | skip
  cases hz
  obtain ⟨v, rfl, q⟩ := r1.c1
  obtain ⟨a', ws, rfl, h1, h2⟩ := q.1.w.lst
  exact ⟨a', ws, rfl, .of h1, by rw [← h2.length]; exact h _ [(_, _)] _ _ .refl .refl B1 (fun p hp => by simp at hp; subst hp; exact q) wk_rev⟩
theorem i_zip {st : Bool} {a b : Expr} {l : CL} {p tpos : Pos} {elts : List Expr} {kk : Nat} (hg : Gl X "zip") (hm : X.mg "zip" = none) (ha : PA X [a, b] (tL X.K E EW st (evL Φ l))) (hs : starEach [a, b] X.env = (false, eval a X.env) :: starEach [b] X.env) (hpl : (backTo pos (starEach [b] X.env)).any (·.1) = false) : PI X (.Tuple elts kk tpos) (.Call (.Name "zip" p) [a, b] [] pos) (tIt X.K E EW st (evI Φ (.wlk .zip l))) := by
  refine (pi_zip hg hm ha hs hpl).imp fun σ H R h => ?_
  obtain ⟨F, μ, S, os, ρ, B, h⟩ := h
  simp only [evI] at h
  refine tL.bind (st := st) PI1.tr B h fun ds S1 vs H1 μ1 x1 g1 B1 r1 h => ?_
  obtain ⟨z, hz, h⟩ := Fin.ofO h
  unfold wcD at hz
  split at hz <;> first | (rename_i h0; cases h0; done) | (cases hz; done) | skip
  cases hz
  obtain ⟨v, u, rfl, q, q'⟩ := r1.c2
  obtain ⟨a', ws, rfl, h1, h2⟩ := q.1.w.lst
  obtain ⟨b', ws', rfl, h1', h2'⟩ := q'.1.w.lst
  exact ⟨a', b', ws, ws', rfl, .of h1, .of h1', h _ [(_, _), (_, _)] _ _ .refl .refl B1 (fun p hp => by
    rcases List.mem_cons.mp hp with rfl | hp
    · exact q
    · simp at hp; subst hp; exact q') wk_zip⟩
end
end RH

set_option Elab.async false
set_option linter.all false
set_option maxRecDepth 100000
/-! RHSnd6: comprehensions. -/
namespace RH
open PySem PySem.Spec PyProof.Rows L2
section
variable {K : PySem.W.Frag} {F : Fx} {μ μ' : List Addr} {S S' : Store} {os : Nat → Option Addr} {σ : L2.St} {ρ : List Cell} {H H' : Hp} {W W' : Addr → Prop}
theorem Rb.ext2 {d : D} {v : V} (h : Rb K μ W H d v) (x : Ext μ H H') (g : Gr μ H μ') (w : ∀ b, H b ≠ none → W' b → W b) : Rb K μ' W' H' d v := by
  rcases h with h | ⟨a, vs, ds, h1, h2, h3, h4, h5⟩
  · exact .inl (Rp.ext x g w h)
  · exact .inr ⟨a, vs, ds, h1, h2, x _ _ h3 (.inl h4), (fun z => by rw [g.2 a z h4] at h3; cases h3), Rps.ext x g w h5⟩
theorem wipeC_len (ρ : List Cell) : ∀ vs : List Nat, (wipeC ρ vs).length = ρ.length
  | [] => rfl
  | v :: vs => by rw [wipeC, List.length_set, wipeC_len ρ vs]
theorem wipeC_in {ρ : List Cell} {j : Nat} : ∀ {vs : List Nat}, j ∈ vs → j < ρ.length → (wipeC ρ vs)[j]? = some .u
  | v :: vs, h, hl => by
    unfold wipeC
    by_cases e : v = j
    · subst e; exact List.getElem?_set_self (by rw [wipeC_len]; exact hl)
    · rw [List.getElem?_set_ne e]
      exact wipeC_in (by rcases List.mem_cons.mp h with z | z; exact absurd z.symm e; exact z) hl
theorem wipeC_out {ρ : List Cell} {j : Nat} : ∀ {vs : List Nat}, j ∉ vs → (wipeC ρ vs)[j]? = ρ[j]?
  | [], _ => rfl
  | v :: vs, h => by
    simp only [List.mem_cons, not_or] at h
    unfold wipeC
    rw [List.getElem?_set_ne (Ne.symm h.1)]
    exact wipeC_out h.2
theorem wipe_in {σ : L2.St} {j : Nat} : ∀ {vs : List Nat}, j ∈ vs → j < σ.length → (wipe σ vs)[j]? = some none
  | v :: vs, h, hl => by
    unfold wipe
    by_cases e : v = j
    · subst e; exact List.getElem?_set_self (by rw [wipe_length]; exact hl)
    · rw [List.getElem?_set_ne e]
      exact wipe_in (by rcases List.mem_cons.mp h with z | z; exact absurd z.symm e; exact z) hl
theorem wipe_only {σ σ' : L2.St} {vs ts : List Nat} (o : Only ts (wipe σ vs) σ') (sub : ∀ i, i ∈ ts → i ∈ vs) : wipe σ' vs = wipe σ vs := by
  have hl : σ'.length = σ.length := o.1.trans (wipe_length σ vs)
  apply List.ext_getElem?
  intro j
  by_cases hj : j ∈ vs
  · by_cases hlt : j < σ.length
    · rw [wipe_in hj hlt, wipe_in hj (by rw [hl]; exact hlt)]
    · rw [List.getElem?_eq_none (by rw [wipe_length]; omega), List.getElem?_eq_none (by rw [wipe_length]; omega)]
  · rw [wipe_out hj, o.2 j (fun z => hj (sub j z)), wipe_out hj]
theorem noOw_os (B : Bd K F μ S os σ ρ H) {vs : List Nat} (h : noOw ρ vs = true) {i : Nat} (hi : i ∈ vs) : os i = none := by
  cases e : os i with
  | none => rfl
  | some a =>
    obtain ⟨ds, _, e1, _⟩ := B.osl e
    have := List.all_eq_true.mp h i hi
    rw [e1] at this
    cases this
theorem Bd.wipe (B : Bd K F μ S os σ ρ H) {vs : List Nat} (h : noOw ρ vs = true) : Bd K F μ S os (L2.wipe σ vs) (wipeC ρ vs) H where
  sub := B.sub
  dom := B.dom
  st := B.st
  len := by rw [wipe_length, wipeC_len]; exact B.len
  out := fun i hi => B.out i (by rw [wipeC_len] at hi; exact hi)
  inj := B.inj
  ow0 := B.ow0
  own := B.own
  ext := B.ext
  gr := B.gr
  pin := B.pin
  slot := fun i c e => by
    by_cases hi : i ∈ vs
    · have hl : i < ρ.length := by
        have := (List.getElem?_eq_some_iff.mp e).1
        rw [wipeC_len] at this; exact this
      rw [wipeC_in hi hl] at e
      cases e
      exact noOw_os B h hi
    · rw [wipeC_out hi] at e
      rw [wipe_out hi]
      exact B.slot i c e
/-- one more address that nothing shared holds -/
def Fx.more (F : Fx) (D : Addr) : Fx := { F with W0 := fun b => F.W0 b ∨ b = D, Ws := fun b => F.Ws b ∨ b = D }
theorem wo_more {D b : Addr} (h : Wo (F.more D).W0 os b) : Wo F.W0 os b ∨ b = D := by
  rcases h with (h | h) | h
  · exact .inl (.inl h)
  · exact .inr h
  · exact .inl (.inr h)
theorem more_wo {D b : Addr} (h : Wo F.W0 os b ∨ b = D) : Wo (F.more D).W0 os b := by
  rcases h with (h | h) | h
  · exact .inl (.inl h)
  · exact .inr h
  · exact .inl (.inr h)
theorem wo_moreS {D b : Addr} (h : Wo (F.more D).Ws os b) : Wo F.Ws os b ∨ b = D := by
  rcases h with (h | h) | h
  · exact .inl (.inl h)
  · exact .inr h
  · exact .inl (.inr h)
theorem more_woS {D b : Addr} (h : Wo F.Ws os b ∨ b = D) : Wo (F.more D).Ws os b := by
  rcases h with (h | h) | h
  · exact .inl (.inl h)
  · exact .inr h
  · exact .inl (.inr h)
theorem Bd.inner (B : Bd K F μ S os σ ρ H) {D : Addr} (hD : H D = none) (x : Ext μ H H') (g : Gr μ H μ') (s : SOk K μ' (Wo (F.more D).Ws os) H' S') (hD' : H' D ≠ none) : Bd K (F.more D) μ' S' os σ ρ H' := by
  have w : ∀ b, H b ≠ none → Wo (F.more D).W0 os b → Wo F.W0 os b := fun b hb z => by
    rcases wo_more z with z | z
    · exact z
    · subst z; exact absurd hD hb
  have B2 : Bd K F μ' S' os σ ρ H' := B.step x g (s.less fun b z => more_woS (.inl z))
  refine ⟨fun b z => z.imp (B.sub b) id, fun b hb => ?_, s, B.len, B.out, B.inj, fun i a h => ?_, B.own, B2.ext, B2.gr, fun p hp => Rp.ext x g w (B.pin p hp), fun i c h => ?_⟩
  · rcases hb with hb | hb
    · exact B2.dom b hb
    · subst hb; exact hD'
  · rintro (z | z)
    · exact B.ow0 i a h z
    · subst z; exact B.wdom a (.inr ⟨i, h⟩) hD
  · have q := B.slot i c h
    cases c with
    | u => exact q
    | sh d => obtain ⟨h0, v, h1, h2⟩ := q; exact ⟨h0, v, h1, Rp.ext x g w h2⟩
    | ow es =>
      obtain ⟨b, us, h0, h1, h2, h3⟩ := q
      exact ⟨b, us, h0, h1, x b _ h2 (.inl fun z => B.st.nw b z (.inr ⟨i, h0⟩)), Rps.ext x g w h3⟩
end
/-- no error leaves -/
def EWF : WX := fun _ _ _ _ => False
section
variable {X : Cx} {E : XT} {EW : WX} {Φ : Nat → Fn} {pos : Pos}
/-- one turn of a comprehension -/
def stepC (Φ : Nat → Fn) (vs : List Nat) (elt : CE) (t : Tg) (c : CO) (ρ : List Cell) (d : D) (S : Store) : Res (Option D) :=
  (ofO (bindT t d (wipeC ρ vs)) S).bind fun ρ' S => (evC Φ c ρ' S).bind fun k S => if k then (evE Φ elt ρ' S).bind fun y S => .ok (some y) S else .ok none S
theorem ev_comp {own : List (Str × Nat)} {elt : CE} {t : Tg} {it : CI} {c : CO} {ρ : List Cell} {S : Store} : evE Φ (.comp own elt t it c) ρ S = (evI Φ it ρ S).bind fun ds S => if noOw ρ (own.map (·.2)) then compL (stepC Φ (own.map (·.2)) elt t c ρ) ds S [] else .bad := by
  rw [evE]; rfl
theorem lc_go {wi : TI} {own : List (Str × Nat)} {elt : CE} {t : Tg} {it : CI} {c : CO} {k ke : Nat} (hk : 1 ≤ ke) (sub : ∀ i, i ∈ tgs t → i ∈ own.map (·.2)) : ∀ σ H Q, tX X.K E EW k (evE Φ (.comp own elt t it c)) σ H Q →
    tLc (tIt X.K E EW false (evI Φ it)) (tG X.K t) (tT X.K E EWF (evC Φ c)) (tX X.K E EWF ke (evE Φ elt)) (own.map (·.2)) σ H Q := fun σ H Q h => by
  obtain ⟨F, μ, S, os, ρ, B, h⟩ := h
  rw [ev_comp] at h
  -- what is walked
  refine ⟨F, μ, S, os, ρ, B, ?_⟩
  cases ei : evI Φ it ρ S with
  | bad => rw [ei] at h; exact h.elim
  | err y S1 => rw [ei] at h; exact h
  | ok items S1 =>
  rw [ei] at h
  intro J src H1 μ1 x1 g1 B1 hsrc wk D hD
  have h : Fin X.K E EW F os σ ρ (PE1 X.K F os σ ρ k Q) μ1 H1 (if noOw ρ (own.map (·.2)) then compL (stepC Φ (own.map (·.2)) elt t c ρ) items S1 [] else .bad) := Fin.later PE1.tr h x1 g1
  split at h
  case isFalse => exact h.elim
  rename_i now
  have dm := B1.dm
  let Wd : Addr → Prop := Wo (F.more D).W0 os
  let Wt : Addr → Prop := Wo (F.more D).Ws os
  have w1 : ∀ b, H1 b ≠ none → Wd b → Wo F.W0 os b := fun b hb z => by
    rcases wo_more z with z | z
    · exact z
    · subst z; exact absurd hD hb
  have w1t : ∀ b, H1 b ≠ none → Wt b → Wo F.Ws os b := fun b hb z => by
    rcases wo_moreS z with z | z
    · exact z
    · subst z; exact absurd hD hb
  have nDm : D ∉ μ1 := fun z => dm.2 D z hD
  let Iv : Nat → Nat → Hp → Prop := fun i m Hi => ∃ μi Si acc vs, m = items.length - i ∧ i ≤ items.length ∧ Ext μ1 H1 Hi ∧ Gr μ1 H1 μi ∧ SOk X.K μi Wt Hi Si ∧ Hi D = some (.lst vs) ∧ D ∉ μi ∧ Rps X.K μi Wd Hi acc vs ∧
    Fin X.K E EW F os σ ρ (PE1 X.K F os σ ρ k Q) μ1 H1 (compL (stepC Φ (own.map (·.2)) elt t c ρ) (items.drop i) Si acc)
  refine ⟨Iv, ⟨items.length, μ1, S1, [], [], rfl, Nat.zero_le _, Ext.new hD, .refl, ?_, upd_same, nDm, .nil, h⟩, ?_⟩
  · exact B1.st.keep (fun b o hb _ => same_new hD b o hb) (Ext.new hD) w1t
  rintro i m Hi ⟨μi, Si, acc, vs, rfl, hi, xi, gi, si, eD, nD, ra, hf⟩
  have srcI : ∀ p, p ∈ src → Rb X.K μi Wd Hi p.1 p.2 := fun p hp => (hsrc p hp).1.ext2 xi gi w1
  by_cases hlt : i < items.length
  · -- one more turn
    obtain ⟨d, hd⟩ : ∃ d, items[i]? = some d := ⟨_, List.getElem?_eq_getElem hlt⟩
    obtain ⟨go, yl⟩ := (wk μi Wd Hi srcI i).1 d hd
    have ed : items.drop i = d :: items.drop (i + 1) := by
      obtain ⟨h1, h2⟩ := List.getElem?_eq_some_iff.mp hd
      rw [← h2]; exact List.drop_eq_getElem_cons h1
    rw [ed, compL] at hf
    refine .inr ⟨go, fun H' => Iv (i + 1) (items.length - (i + 1)) H', fun H' hN => ⟨items.length - (i + 1), by omega, hN⟩, fun xv H2 y => ?_⟩
    obtain ⟨sm, rx⟩ := yl xv H2 y
    have x2 : Ext μ1 H1 H2 := xi.trans gi (.of_same sm)
    have s2 : SOk X.K μi Wt H2 Si := si.same sm
    have eD2 : H2 D = some (.lst vs) := sm _ _ eD
    have B2 : Bd X.K (F.more D) μi Si os (wipe σ (own.map (·.2))) (wipeC ρ (own.map (·.2))) H2 := (B1.wipe now).inner hD x2 gi s2 (by rw [eD2]; intro z; cases z)
    cases eb : bindT t d (wipeC ρ (own.map (·.2))) with
    | none => simp only [stepC, eb, ofO, Res.bind] at hf; exact hf.elim
    | some ρ' =>
    simp only [stepC, eb, ofO, Res.bind] at hf
    refine ⟨F.more D, μi, Si, os, _, d, ρ', B2, rx, eb, fun σ' os' B3 so oo => ⟨wipe_only oo sub, ?_⟩⟩
    have eos : os' = os := by
      funext j
      by_cases hj : j ∈ tgs t
      · have n1 := noOw_os B1 now (sub j hj)
        cases q : os' j with
        | none => exact n1.symm
        | some a => have := so.1 j a q; rw [n1] at this; cases this
      · exact so.2 j hj
    subst eos
    refine ⟨F.more D, μi, Si, os', ρ', B3, ?_⟩
    cases ec : evC Φ c ρ' Si with
    | bad => rw [ec] at hf; exact hf.elim
    | err y S3 => rw [ec] at hf; exact hf.elim
    | ok b S3 =>
    rw [ec] at hf
    intro H3 μ3 x3 g3 B4
    have nD3 : D ∉ μ3 := fun z => by rw [g3.2 D z nD] at eD2; cases eD2
    have eD3 : H3 D = some (.lst vs) := x3 _ _ eD2 (.inl nD)
    have x13 : Ext μ1 H1 H3 := x2.trans gi x3
    have g13 : Gr μ1 H1 μ3 := gi.trans x2 g3
    have ra3 : Rps X.K μ3 Wd H3 acc vs := (ra.ext' (.of_same sm) .refl).ext' x3 g3
    cases b with
    | false =>
      simp only [Bool.false_eq_true, if_false] at hf ⊢
      exact ⟨μ3, S3, acc, vs, rfl, hlt, x13, g13, B4.st, eD3, nD3, ra3, hf⟩
    | true =>
      simp only [if_true] at hf ⊢
      refine ⟨F.more D, μ3, S3, os', ρ', B4, ?_⟩
      cases ee : evE Φ elt ρ' S3 with
      | bad => rw [ee] at hf; exact hf.elim
      | err y S4 => rw [ee] at hf; exact hf.elim
      | ok yd S4 =>
      rw [ee] at hf
      intro yv H4 μ4 x4 g4 B5 r5
      simp only [Res.bind] at hf
      split at hf
      case isFalse => exact hf.elim
      rename_i hsz
      have nD4 : D ∉ μ4 := fun z => by rw [g4.2 D z nD3] at eD3; cases eD3
      have eD4 : H4 D = some (.lst vs) := x4 _ _ eD3 (.inl nD3)
      have x14 : Ext μ1 H1 H4 := x13.trans g13 x4
      have g14 : Gr μ1 H1 μ4 := g13.trans x13 g4
      have ra4 : Rps X.K μ4 Wd H4 acc vs := ra3.ext' x4 g4
      have ry : Rp X.K μ4 Wd H4 yd yv := r5.rp hk
      refine ⟨vs, eD4, by rw [sizeLine_eq, ← ra4.length]; exact hsz, μ4, S4, acc ++ [yd], vs ++ [yv], rfl, hlt, ?_, g14, ?_, upd_same, nD4, ?_, hf⟩
      · intro b o hb q
        rw [upd_ne (ne_of_none hb hD)]
        exact x14 b o hb q
      · have kT : ∀ b o, H4 b = some o → Im o → upd H4 D (.lst (vs ++ [yv])) b = some o := fun b o hb im => by
          rw [upd_ne (fun z => by subst z; rw [eD4] at hb; cases hb; exact im)]; exact hb
        have kL : ∀ b xs, H4 b = some (.lst xs) → ¬ Wt b → b ∉ μ4 → upd H4 D (.lst (vs ++ [yv])) b = some (.lst xs) := fun b xs hb nw _ => by
          rw [upd_ne (fun z => nw (by rw [z]; exact more_woS (.inr rfl)))]; exact hb
        refine ⟨B5.st.len, B5.st.nd, B5.st.nw, fun n a ds h1 h2 => ?_⟩
        obtain ⟨ws, e1, e2⟩ := B5.st.at_ n a ds h1 h2
        exact ⟨ws, by rw [upd_ne (fun z => nD4 (by rw [← z]; exact List.mem_of_getElem? h1))]; exact e1, Rps.stay kT kL e2⟩
      · have kT : ∀ b o, H4 b = some o → Im o → upd H4 D (.lst (vs ++ [yv])) b = some o := fun b o hb im => by
          rw [upd_ne (fun z => by subst z; rw [eD4] at hb; cases hb; exact im)]; exact hb
        have kL : ∀ b xs, H4 b = some (.lst xs) → ¬ Wd b → b ∉ μ4 → upd H4 D (.lst (vs ++ [yv])) b = some (.lst xs) := fun b xs hb nw _ => by
          rw [upd_ne (fun z => nw (by rw [z]; exact more_wo (.inr rfl)))]; exact hb
        exact Rps.stay kT kL (ra4.append (.cons ry .nil))
  · have e : i = items.length := by omega
    subst e
    refine .inl ⟨(wk μi Wd Hi srcI _).2 (Nat.le_refl _), ?_⟩
    rw [List.drop_length, compL] at hf
    have w2 : ∀ b, Wo F.W0 os b → Wd b := fun b z => more_wo (.inl z)
    refine hf (.ref D) Hi μi xi gi (B1.step xi gi (si.less fun b z => more_woS (.inl z))) (.of (.lst eD (fun z => dm.1 D z hD) nD (ra.less w2)) (fun ds e => ?_) fun ds a e e' => ?_)
    · cases e
      exact ⟨D, vs, rfl, hD, eD, nD, ra.less fun b z => more_wo z⟩
    · cases e'
      exact si.less fun b z => more_woS z
theorem s_comp {own : List (Str × Nat)} {elt : CE} {t : Tg} {it : CI} {c : CO} {k ke : Nat} {e tg iter : Expr} {ifs : List Expr} {scope : Scope} (hk : 1 ≤ ke) (sub : ∀ i, i ∈ tgs t → i ∈ own.map (·.2)) (hc : X.calm = true) (hN : X.N.Nodup) (hi : PI X tg iter (tIt X.K E EW false (evI Φ it))) (ok : BlkOk X.N X.env.scope scope own)
    (hg : ∀ (s : Shared) (H : Hp) (C : Addr) (cl : List (Str × Addr)) (fp : List Addr), PG (X.blk s H scope (compEnvC scope cl C X.env) fp) tg (tG X.K t))
    (ht : ∀ (s : Shared) (H : Hp) (C : Addr) (cl : List (Str × Addr)) (fp : List Addr), PTs (X.blk s H scope (compEnvC scope cl C X.env) fp) ifs (tT X.K E EWF (evC Φ c)))
    (he : ∀ (s : Shared) (H : Hp) (C : Addr) (cl : List (Str × Addr)) (fp : List Addr), PE (X.blk s H scope (compEnvC scope cl C X.env) fp) e (tX X.K E EWF ke (evE Φ elt))) (hs : ∀ x, foldedSetIterable iter X.env x = pure x) :
    PE X (.ListComp e [⟨tg, iter, ifs, 0⟩] scope pos) (tX X.K E EW k (evE Φ (.comp own elt t it c))) :=
  (pe_lc hc hN hi ok hg ht he hs).imp (lc_go (wi := tIt X.K E EW false (evI Φ it)) hk sub)
end
end RH

set_option Elab.async false
set_option linter.all false
set_option maxRecDepth 100000
/-! RHSnd7: statements. -/
namespace RH
open PySem PySem.Spec PyProof.Rows L2
/-- what is wanted of a statement's end -/
def PF (K : PySem.W.Frag) (F : Fx) (D : Ends) : Flw → Store → Prop
  | .nx ρ, S => ∀ σ H μ os, Bd K F μ S os σ ρ H → D.nx σ H
  | .bk ρ, S => ∀ σ H μ os, Bd K F μ S os σ ρ H → D.bk σ H
  | .ct ρ, S => ∀ σ H μ os, Bd K F μ S os σ ρ H → D.ct σ H
  | .rt fr d, S => ∀ v H μ, Ext F.μ0 F.H0 H → Gr F.μ0 F.H0 μ → SOk K μ F.Ws H S → RR fr K μ F.W0 F.Ws F.H0 H S d v → D.rt v H
def FinS (K : PySem.W.Frag) (E : XT) (EW : WX) (F : Fx) (D : Ends) : Out → Prop
  | .ok f S => PF K F D f S
  | .err x S => ∀ c dd σ H μ os ρ, Bd K F μ S os σ ρ H → XRep E K μ (Wo F.W0 os) H x c dd → EW c dd σ H
  | .bad => False
def tSt (K : PySem.W.Frag) (E : XT) (EW : WX) (m : List Cell → Store → Out) : TS := fun D σ H => ∃ F μ S os ρ, Bd K F μ S os σ ρ H ∧ FinS K E EW F D (m ρ S)
section
variable {K : PySem.W.Frag} {E : XT} {EW : WX} {F : Fx} {D : Ends} {os : Nat → Option Addr} {σ : L2.St} {ρ : List Cell} {μ : List Addr} {S : Store} {H : Hp}
theorem tX.bindS {k : Nat} {m : List Cell → Store → Res RH.D} {f : RH.D → Store → Out} {R : VK} (B : Bd K F μ S os σ ρ H) (h : FinS K E EW F D ((m ρ S).bind f))
    (hR : ∀ d S1 v H1 μ1, Ext μ H H1 → Gr μ H μ1 → Bd K F μ1 S1 os σ ρ H1 → RK k K μ1 (Wo F.W0 os) (Wo F.Ws os) H H1 S1 d v → FinS K E EW F D (f d S1) → R v H1) : tX K E EW k m σ H R := by
  refine ⟨F, μ, S, os, ρ, B, ?_⟩
  cases e : m ρ S with
  | ok d S1 =>
    rw [e] at h
    exact fun v H1 μ1 x g B1 r => hR d S1 v H1 μ1 x g B1 r h
  | err y S1 => rw [e] at h; exact fun c dd H' μ' _ _ b r => h c dd σ H' μ' os ρ b r
  | bad => rw [e] at h; exact h
theorem tT.bindS {m : List Cell → Store → Res Bool} {f : Bool → Store → Out} {R : Bool → Hp → Prop} (B : Bd K F μ S os σ ρ H) (h : FinS K E EW F D ((m ρ S).bind f))
    (hR : ∀ b S1 H1 μ1, Ext μ H H1 → Gr μ H μ1 → Bd K F μ1 S1 os σ ρ H1 → FinS K E EW F D (f b S1) → R b H1) : tT K E EW m σ H R := by
  refine ⟨F, μ, S, os, ρ, B, ?_⟩
  cases e : m ρ S with
  | ok d S1 =>
    rw [e] at h
    exact fun H1 μ1 x g B1 => hR d S1 H1 μ1 x g B1 h
  | err y S1 => rw [e] at h; exact fun c dd H' μ' _ _ b r => h c dd σ H' μ' os ρ b r
  | bad => rw [e] at h; exact h
theorem tL.bindS {st : Bool} {m : List Cell → Store → Res (List RH.D)} {f : List RH.D → Store → Out} {R : List V → Hp → Prop} (B : Bd K F μ S os σ ρ H) (h : FinS K E EW F D ((m ρ S).bind f))
    (hR : ∀ ds S1 vs H1 μ1, Ext μ H H1 → Gr μ H μ1 → Bd K F μ1 S1 os σ ρ H1 → RKs st K μ1 (Wo F.W0 os) H1 ds vs → FinS K E EW F D (f ds S1) → R vs H1) : tL K E EW st m σ H R := by
  refine ⟨F, μ, S, os, ρ, B, ?_⟩
  cases e : m ρ S with
  | ok d S1 =>
    rw [e] at h
    exact fun v H1 μ1 x g B1 r => hR d S1 v H1 μ1 x g B1 r h
  | err y S1 => rw [e] at h; exact fun c dd H' μ' _ _ b r => h c dd σ H' μ' os ρ b r
  | bad => rw [e] at h; exact h
theorem tIt.bindS {st : Bool} {m : List Cell → Store → Res (List RH.D)} {f : List RH.D → Store → Out} {R : It → Hp → Prop} (B : Bd K F μ S os σ ρ H) (h : FinS K E EW F D ((m ρ S).bind f))
    (hR : ∀ ds S1 J src H1 μ1, Bd K F μ1 S1 os σ ρ H1 → (∀ p, p ∈ src → Rb K μ1 (Wo F.W0 os) H1 p.1 p.2 ∧ (st = true → Rp K μ1 (Wo F.W0 os) H1 p.1 p.2)) → Wk K J src ds → FinS K E EW F D (f ds S1) → R J H1) : tIt K E EW st m σ H R := by
  refine ⟨F, μ, S, os, ρ, B, ?_⟩
  cases e : m ρ S with
  | ok d S1 =>
    rw [e] at h
    exact fun J src H1 μ1 x g B1 r w => hR d S1 J src H1 μ1 B1 r w h
  | err y S1 => rw [e] at h; exact fun c dd H' μ' _ _ b r => h c dd σ H' μ' os ρ b r
  | bad => rw [e] at h; exact h
end
section
variable {X : Cx} {E : XT} {EW : WX} {Φ : Nat → Fn} {pos : Pos} {st : Stmt}
theorem t_set {i : Nat} {e : CE} {k : Nat} (hk : 1 ≤ k) (h : PS X st (tAsg (tX X.K E EW k (evE Φ e)) (gName i))) : PS X st (tSt X.K E EW (evS Φ (.set i e))) := by
  refine h.imp fun D σ H h => ?_
  obtain ⟨F, μ, S, os, ρ, B, h⟩ := h
  simp only [evS] at h
  refine tX.bindS B h fun d S1 v H1 μ1 x1 g1 B1 r1 h => ?_
  exact h _ _ _ _ (B1.set i (r1.rp hk))
theorem t_setO {i : Nat} {x : Str} {e : CE} {k : Nat} (hk : 2 ≤ k) (hi : X.N[i]? = some x) (h : PS X st (tAsg (tX X.K E EW k (evE Φ e)) (gName i))) : PS X st (tSt X.K E EW (evS Φ (.setO i e))) := by
  refine ⟨fun pins s σ H D I hh => h.run pins s σ H D I ?_⟩
  obtain ⟨F, μ, S, os, ρ, B, h⟩ := hh
  simp only [evS] at h
  refine tX.bindS B h fun d S1 v H1 μ1 x1 g1 B1 r1 h => ?_
  have hlt : i < ρ.length := by
    rw [← B.len, I.len]
    exact (List.getElem?_eq_some_iff.mp hi).1
  cases d with
  | lst ds =>
    obtain ⟨f, n⟩ := r1.2.2 hk
    obtain ⟨a, vs, rfl, h1, h2, h3, h4⟩ := f ds rfl
    exact h _ _ _ _ (B.setO x1 g1 i hlt h1 h2 h3 h4 (n ds a rfl rfl))
  | _ => exact h.elim
theorem t_setT {t : Tg} {tg e : Expr} {c : CE} {k : Nat} (hk : 1 ≤ k) (he : PE X e (tX X.K E EW k (evE Φ c))) (hg : PG X tg (tG X.K t)) (hs : swapsWithSole [tg] e pos.line X.env = pure false) (hw : swappedStores [tg] e X.env = pure none) (h1 : (assignEach [tg] X.env).map (·.2) = [assign tg X.env]) : PS X (.Assign [tg] e pos) (tSt X.K E EW (evS Φ (.setT t c))) := by
  refine (ps_asg he hg hs hw h1).imp fun D σ H h => ?_
  obtain ⟨F, μ, S, os, ρ, B, h⟩ := h
  simp only [evS] at h
  refine tX.bindS B h fun d S1 v H1 μ1 x1 g1 B1 r1 h => ?_
  unfold setTF at h
  split at h
  · rename_i ρ' e
    exact ⟨F, μ1, S1, os, ρ, d, ρ', B1, r1.rp hk, e, fun σ' os' B2 _ _ => h _ _ _ _ B2⟩
  · exact h.elim
theorem t_exp {e : Expr} {c : CE} {k : Nat} (he : PE X e (tX X.K E EW k (evE Φ c))) (hs : swapsWith e none pos.line X.env = pure false) : PS X (.Expr e pos) (tSt X.K E EW (evS Φ (.exp c))) := by
  refine (ps_expr he hs).imp fun D σ H h => ?_
  obtain ⟨F, μ, S, os, ρ, B, h⟩ := h
  simp only [evS] at h
  refine tX.bindS B h fun d S1 v H1 μ1 x1 g1 B1 r1 h => ?_
  exact h _ _ _ _ B1
theorem owOf_some {ρ : List Cell} {i : Nat} {ds : List D} (h : owOf ρ i = some ds) : ρ[i]? = some (.ow ds) := by
  unfold owOf at h; split at h
  · cases h; assumption
  · cases h
theorem ptOf_some {ρ : List Cell} {i p : Nat} (h : ptOf ρ i = some p) : ρ[i]? = some (.sh (.ptr p)) := by
  unfold ptOf at h; split at h
  · cases h; assumption
  · cases h
theorem t_app {i : Nat} {x : Str} {e : Expr} {c : CE} {k : Nat} {xp ap cp : Pos} (hk : 1 ≤ k) (hx : PE X (.Name x xp) (tVar i)) (he : PE X e (tX X.K E EW k (evE Φ c))) (hs : starEach [e] X.env = [(false, eval e X.env)]) (hline : (ap.endLine == cp.line) = true) :
    PS X (.Expr (.Call (.Attribute (.Name x xp) "append" ap) [e] [] cp) pos) (tSt X.K E EW (evS Φ (.app i c))) := by
  refine (ps_expr (pe_bm PySem.F.plainAttrs_list PySem.F.slot_list_append PySem.F.type_list_append mt_append hx (pa_cons he pa_nil hs) rfl (by rw [hs]; rfl) hline hs rfl) rfl).imp fun D σ H h => ?_
  obtain ⟨F, μ, S, os, ρ, B, h⟩ := h
  simp only [evS] at h
  cases ho : owOf ρ i with
  | none => rw [ho] at h; exact h.elim
  | some ds =>
    rw [ho] at h
    have e0 := owOf_some ho
    obtain ⟨a, vs, h0, h1, h2, h3⟩ := B.slot i _ e0
    refine ⟨.ref a, h1, .inl ⟨rfl, vs, .of h2⟩, ?_⟩
    have h : FinS X.K E EW F D ((evE Φ c ρ S).bind fun d S => appF ρ i ds d S) := h
    refine tX.bindS B h fun d S1 v H1 μ1 x1 g1 B1 r1 h => ?_
    obtain ⟨a', vs', h0', h1', h2', h3'⟩ := B1.slot i _ e0
    rw [h0] at h0'; cases h0'
    unfold appF at h
    split at h
    · rename_i hl
      exact ⟨a, vs', v, rfl, rfl, h2', by rw [sizeLine_eq, ← h3'.length]; exact hl, h _ _ _ _ (B1.mut e0 h0 (h3'.append (.cons (r1.rp hk) .nil)))⟩
    · exact h.elim
theorem t_six {i : Nat} {x : Str} {e j : Expr} {c cj : CE} {k kj : Nat} {xp sp : Pos} (hk : 1 ≤ k) (hx : PE X (.Name x xp) (tVar i)) (he : PE X e (tX X.K E EW k (evE Φ c))) (hj : PE X j (tX X.K E EW kj (evE Φ cj))) (hs : swapsWithSole [.Subscript (.Name x xp) j sp] e pos.line X.env = pure false) (hw : swappedStores [.Subscript (.Name x xp) j sp] e X.env = pure none) (ha : ∀ v, assign (.Subscript (.Name x xp) j sp) X.env v = (do
      let ov ← holding [v] (eval (.Name x xp) X.env)
      let iv ← holding [v, ov] (eval j X.env)
      standAt sp
      holding [v, ov, iv] (setItem ov iv v)
      release [v, ov, iv] [])) :
    PS X (.Assign [.Subscript (.Name x xp) j sp] e pos) (tSt X.K E EW (evS Φ (.six i cj c))) := by
  refine (ps_asg he (pg_sub hx hj set_list ha) hs hw).imp fun D σ H h => ?_
  obtain ⟨F, μ, S, os, ρ, B, h⟩ := h
  simp only [evS] at h
  cases ho : owOf ρ i with
  | none => rw [ho] at h; exact h.elim
  | some ds =>
    rw [ho] at h
    have e0 := owOf_some ho
    obtain ⟨a, vs, h0, h1, h2, h3⟩ := B.slot i _ e0
    have h : FinS X.K E EW F D ((evE Φ c ρ S).bind fun d S => (evE Φ cj ρ S).bind fun k S => sixF ρ i ds d k S) := h
    refine tX.bindS B h fun d S1 v H1 μ1 x1 g1 B1 r1 h => ?_
    refine ⟨.ref a, h1, ?_⟩
    refine tX.bindS B1 h fun dj S2 u H2 μ2 x2 g2 B2 r2 h => ?_
    obtain ⟨a', vs', h0', h1', h2', h3'⟩ := B2.slot i _ e0
    rw [h0] at h0'; cases h0'
    unfold sixF at h
    split at h
    · split at h
      · rename_i n hn
        cases r2.w.int
        exact ⟨a, vs', _, n, rfl, rfl, h2', by rw [← h3'.length]; exact hn, h _ _ _ _ (B2.mut e0 h0 (h3'.set n ((r1.rp hk).ext' x2 g2)))⟩
      · exact h.elim
    · exact h.elim
theorem t_sip {i : Nat} {x : Str} {e j : Expr} {c cj : CE} {k kj : Nat} {xp sp : Pos} (hk : 1 ≤ k) (hx : PE X (.Name x xp) (tVar i)) (he : PE X e (tX X.K E EW k (evE Φ c))) (hj : PE X j (tX X.K E EW kj (evE Φ cj))) (hs : swapsWithSole [.Subscript (.Name x xp) j sp] e pos.line X.env = pure false) (hw : swappedStores [.Subscript (.Name x xp) j sp] e X.env = pure none) (ha : ∀ v, assign (.Subscript (.Name x xp) j sp) X.env v = (do
      let ov ← holding [v] (eval (.Name x xp) X.env)
      let iv ← holding [v, ov] (eval j X.env)
      standAt sp
      holding [v, ov, iv] (setItem ov iv v)
      release [v, ov, iv] [])) :
    PS X (.Assign [.Subscript (.Name x xp) j sp] e pos) (tSt X.K E EW (evS Φ (.sip i cj c))) := by
  refine (ps_asg he (pg_sub hx hj set_list ha) hs hw).imp fun D σ H h => ?_
  obtain ⟨F, μ, S, os, ρ, B, h⟩ := h
  simp only [evS] at h
  cases ho : ptOf ρ i with
  | none => rw [ho] at h; exact h.elim
  | some p =>
    rw [ho] at h
    have e0 := ptOf_some ho
    obtain ⟨_, v0, h1, h2⟩ := B.slot i _ e0
    obtain ⟨a, rfl, hp⟩ := h2.w.ptr
    have h : FinS X.K E EW F D ((evE Φ c ρ S).bind fun d S => (evE Φ cj ρ S).bind fun k S => sipF ρ p d k S) := h
    refine tX.bindS B h fun d S1 v H1 μ1 x1 g1 B1 r1 h => ?_
    refine ⟨.ref a, h1, ?_⟩
    refine tX.bindS B1 h fun dj S2 u H2 μ2 x2 g2 B2 r2 h => ?_
    obtain ⟨_, v2, h1', h2'⟩ := B2.slot i _ e0
    rw [h1] at h1'; cases h1'
    obtain ⟨a', e1, hp'⟩ := h2'.w.ptr
    cases e1
    unfold sipF at h
    split at h
    case isFalse => exact h.elim
    rename_i hfl
    split at h
    · rename_i ds hds
      split at h
      · rename_i n hn
        obtain ⟨vs, e1, e2⟩ := B2.st.at_ p a ds hp' hds
        cases r2.w.int
        exact ⟨a, vs, _, n, rfl, rfl, e1, by rw [← e2.length]; exact hn, h _ _ _ _ (B2.stm hp' (e2.set n (((r1.rp hk).ext' x2 g2).flat hfl)))⟩
      · exact h.elim
    · exact h.elim
/-! ### a call to which owned lists are lent -/
theorem lent_rps {K : PySem.W.Frag} {μ : List Addr} {W : Addr → Prop} {H : Hp} {vs0 : List V} : ∀ {ds : List D} {vs : List V}, (∀ v, v ∈ vs → v ∈ vs0) → RKs false K μ W H ds vs → Rps K μ (fun b => W b ∧ V.ref b ∉ vs0) H ds vs
  | _, _, _, .nil => .nil
  | _, _, sub, .cons h _ r => .cons (by
      rcases h with h | ⟨a, us, es, rfl, rfl, h3, h4, h5⟩
      · exact h.less fun b z => z.1
      · exact .lst h3 (fun z => z.2 (sub _ (by simp))) h4 (h5.less fun b z => z.1)) (lent_rps (fun v hv => sub v (List.mem_cons_of_mem _ hv)) r)
theorem XRep.flat {E : XT} {K : PySem.W.Frag} {μ : List Addr} {W W' : Addr → Prop} {H : Hp} {x : Exn} {c : Value} {dd : Option Addr} (h : XRep E K μ W H x c dd) (f : lfDs x.args = true) : XRep E K μ W' H x c dd := by
  unfold XRep at h ⊢
  refine ⟨h.1, ?_⟩
  have h2 := h.2
  split at h2
  · exact h2
  · obtain ⟨d, vs, e1, e2, e3⟩ := h2
    exact ⟨d, vs, e1, e2, e3.flat f⟩
theorem lfD_lst {d : D} (h : lfD d = true) : ∀ ds, d ≠ .lst ds := fun ds e => by subst e; unfold lfD at h; cases h
theorem s_lend {k kk : Nat} {f : Addr} {fd : FuncData} {ps : List Str} {fn : Nat} {x : Str} {p : Pos} {e : Expr} {es : List Expr} {c : CE} {l : CL} (G : FnOk X.prog X.w X.K X.mg X.base (L2.CX X.prog X.w) k f fd ps (spD E X.K (Φ fn))) (hr : Room k X.A) (hg : Gl X x) (hm : X.mg x = some (.ref f)) (hk : PySem.W.keepIn X.K (.ref f) = true) (hb : L2.Binds X.K fd ps [])
    (tk : Takes X EW) (ha : PA X (e :: es) (tL X.K E EW false (evL Φ (.cons c l)))) (hdb : (x == ("__debug__" : Str)) = false) (he : starEach (e :: es) X.env = (false, eval e X.env) :: starEach es X.env) (hpl : (backTo pos (starEach es X.env)).any (·.1) = false) :
    PE X (.Call (.Name x p) (e :: es) [] pos) (tX X.K E EW kk (evE Φ (.lend fn (.cons c l)))) := by
  refine (pe_callSD G hr hg hm hk hb .nil (fun σ => passAt tk σ) ha hdb he hpl).imp fun σ H Q h => ?_
  obtain ⟨F, μ, S, os, ρ, B, h⟩ := h
  rw [evE] at h
  refine tL.bind (st := false) PE1.tr B h fun ds S1 vs H1 μ1 x1 g1 B1 r1 h => ?_
  rw [List.append_nil]
  refine ⟨fun b => Wo F.W0 os b ∧ V.ref b ∉ vs, Wo F.Ws os, μ1, S1, ds, fun b z => B1.wos b z.1, B1.wdom, B1.st, lent_rps (fun _ h => h) r1, ?_⟩
  cases hm : (Φ fn).m ds S1 with
  | ok d S' =>
    rw [hm] at h
    simp only [lentF] at h
    cases hf : lfD d with
    | true =>
      rw [hf, Bool.true_or] at h
      exact fun v H' μ' x g s rr => h v H' μ' x g (B1.step x g s) (.of (rr.1.flat hf) (.triv (lfD_lst hf)) (fun ds a e => absurd e (lfD_lst hf ds)))
    | false =>
      rw [hf, Bool.false_or] at h
      cases hl : ((Φ fn).fr && lfL d) with
      | false => rw [hl] at h; exact h.elim
      | true =>
        rw [hl] at h
        rw [Bool.and_eq_true] at hl
        intro v H' μ' x g s rr
        obtain ⟨fs, ns⟩ := rr.2 hl.1
        cases d with
        | lst es =>
          obtain ⟨a, us, rfl, n0, ha, nm, re⟩ := fs es rfl
          have fl : lfDs es = true := hl.2
          exact h _ H' μ' x g (B1.step x g s) (.of (.lst ha (fun z => B1.wdom a (B1.wos a z) n0) nm (re.flat fl)) (fun _ e => by cases e; exact ⟨a, us, rfl, n0, ha, nm, re.flat fl⟩) ns)
        | _ => cases hl.2
  | err y S' =>
    rw [hm] at h
    simp only [lentF] at h
    cases hf : lfDs y.args with
    | true =>
      rw [hf] at h
      exact fun cc dd H' μ' x g s xr => h cc dd H' μ' x g (B1.step x g s) (xr.flat hf)
    | false => rw [hf] at h; exact h.elim
  | bad => rw [hm] at h; exact h.elim
/-! ### methods that change an owned list -/
def Lm.name : Lm → Str
  | .insert => "insert" | .reverse => "reverse" | .pop => "pop" | .popAt => "pop" | .clear => "clear" | .extend => "extend"
def Lm.stg : Lm → Bool
  | .extend => false
  | _ => true
def LmOk (X : Cx) (m : Lm) (r : V → List V → Hp → VK → Prop) : Prop := ∀ (μ : List Addr) (W : Addr → Prop) (H : Hp) (a : Addr) (us : List V) (ds as es : List D) (vs : List V) (Q : VK), H a = some (.lst us) → Rps X.K μ W H ds us → RKs m.stg X.K μ W H as vs → lmD m ds as = some es → (∀ v us', Rps X.K μ W H es us' → Q v (upd H a (.lst us'))) → r (.ref a) vs H Q
theorem Rps.eraseIdx {K : PySem.W.Frag} {μ : List Addr} {W : Addr → Prop} {H : Hp} : ∀ {ds : List D} {vs : List V} (i : Nat), Rps K μ W H ds vs → Rps K μ W H (ds.eraseIdx i) (vs.eraseIdx i)
  | _, _, _, .nil => .nil
  | _, _, 0, .cons _ r => r
  | _, _, i + 1, .cons h r => .cons h (Rps.eraseIdx i r)
theorem Rps.dropLast {K : PySem.W.Frag} {μ : List Addr} {W : Addr → Prop} {H : Hp} {ds : List D} {vs : List V} (r : Rps K μ W H ds vs) : Rps K μ W H ds.dropLast vs.dropLast := by
  rw [List.dropLast_eq_take, List.dropLast_eq_take, r.length]
  exact r.take _
theorem lm_cases {m : Lm} {ds as es : List D} (h : lmD m ds as = some es) : (m = .insert ∧ ∃ i d, as = [.int i, d] ∧ ds.length < 16777216 ∧ 0 ≤ i ∧ i < 9223372036854775808 ∧ es = ds.take i.toNat ++ [d] ++ ds.drop i.toNat) ∨ (m = .reverse ∧ as = [] ∧ es = ds.reverse) ∨ (m = .clear ∧ as = [] ∧ es = []) ∨
    (m = .pop ∧ as = [] ∧ ds ≠ [] ∧ es = ds.dropLast) ∨ (m = .popAt ∧ ∃ i n, as = [.int i] ∧ w62 i = true ∧ ixN ds.length i = some n ∧ es = ds.eraseIdx n) ∨ (m = .extend ∧ ∃ fs, as = [.lst fs] ∧ ds.length + fs.length ≤ 16777216 ∧ es = ds ++ fs) := by
  unfold lmD at h
  split at h
  · split at h
    · rename_i q; cases h; exact .inl ⟨rfl, _, _, rfl, q.1, q.2.1, q.2.2, rfl⟩
    · cases h
  · cases h; exact .inr (.inl ⟨rfl, rfl, rfl⟩)
  · cases h; exact .inr (.inr (.inl ⟨rfl, rfl, rfl⟩))
  · split at h
    · cases h
    · rename_i q; cases h; exact .inr (.inr (.inr (.inl ⟨rfl, rfl, fun e => q (by rw [e]; rfl), rfl⟩)))
  · split at h
    · rename_i w
      split at h
      · rename_i q; cases h; exact .inr (.inr (.inr (.inr (.inl ⟨rfl, _, _, rfl, w, q, rfl⟩))))
      · cases h
    · cases h
  · split at h
    · rename_i q; cases h; exact .inr (.inr (.inr (.inr (.inr ⟨rfl, _, rfl, q, rfl⟩))))
    · cases h
  · cases h
theorem lm_insert : ∃ r, MtR X "list.insert" r ∧ LmOk X .insert r := by
  refine ⟨_, mt_insert, fun μ W H a us ds as es vs Q ha rd rs h q => ?_⟩
  rcases lm_cases h with ⟨_, i, d, rfl, h1, h2, h3, rfl⟩ | ⟨z, _⟩ | ⟨z, _⟩ | ⟨z, _⟩ | ⟨z, _⟩ | ⟨z, _⟩ <;> first | (cases z; done) | skip
  obtain ⟨v, u, rfl, q1, q2⟩ := rs.c2
  cases q1.1.w.int
  exact ⟨a, us, i, u, rfl, rfl, ha, by rw [sizeLine_eq, ← rd.length]; exact h1, h2, by omega, q _ _ (((rd.take _).append (.cons (q2.2 rfl) .nil)).append (rd.drop _))⟩
theorem lm_reverse : ∃ r, MtR X "list.reverse" r ∧ LmOk X .reverse r := by
  refine ⟨_, mt_reverse, fun μ W H a us ds as es vs Q ha rd rs h q => ?_⟩
  rcases lm_cases h with ⟨z, _⟩ | ⟨_, rfl, rfl⟩ | ⟨z, _⟩ | ⟨z, _⟩ | ⟨z, _⟩ | ⟨z, _⟩ <;> first | (cases z; done) | skip
  cases rs
  exact ⟨a, us, rfl, rfl, ha, q _ _ rd.reverse⟩
theorem lm_clear : ∃ r, MtR X "list.clear" r ∧ LmOk X .clear r := by
  refine ⟨_, mt_clear, fun μ W H a us ds as es vs Q ha rd rs h q => ?_⟩
  rcases lm_cases h with ⟨z, _⟩ | ⟨z, _⟩ | ⟨_, rfl, rfl⟩ | ⟨z, _⟩ | ⟨z, _⟩ | ⟨z, _⟩ <;> first | (cases z; done) | skip
  cases rs
  exact ⟨a, us, rfl, rfl, ha, q _ _ .nil⟩
theorem lm_pop : ∃ r, MtR X "list.pop" r ∧ LmOk X .pop r := by
  refine ⟨_, mt_pop, fun μ W H a us ds as es vs Q ha rd rs h q => ?_⟩
  rcases lm_cases h with ⟨z, _⟩ | ⟨z, _⟩ | ⟨z, _⟩ | ⟨_, rfl, hn, rfl⟩ | ⟨z, _⟩ | ⟨z, _⟩ <;> first | (cases z; done) | skip
  cases rs
  have hl : us.length - 1 < us.length := by
    have := rd.length
    have : ds.length ≠ 0 := fun e => hn (List.eq_nil_of_length_eq_zero e)
    omega
  exact ⟨a, us, _, rfl, rfl, ha, List.getElem?_eq_getElem hl, q _ _ rd.dropLast⟩
theorem lm_popAt : ∃ r, MtR X "list.pop" r ∧ LmOk X .popAt r := by
  refine ⟨_, mt_popAt, fun μ W H a us ds as es vs Q ha rd rs h q => ?_⟩
  rcases lm_cases h with ⟨z, _⟩ | ⟨z, _⟩ | ⟨z, _⟩ | ⟨z, _⟩ | ⟨_, i, n, rfl, hw, hi, rfl⟩ | ⟨z, _⟩ <;> first | (cases z; done) | skip
  obtain ⟨v, rfl, q1⟩ := rs.c1
  cases q1.1.w.int
  rw [rd.length] at hi
  obtain ⟨s1, s2, s3, s4⟩ := ixN_seq hi
  have w := w62_ok hw
  exact ⟨a, us, i, n, us[n], rfl, rfl, ha, by omega, by omega, s1, List.getElem?_eq_getElem s2, q _ _ (rd.eraseIdx n)⟩
theorem lm_extend : ∃ r, MtR X "list.extend" r ∧ LmOk X .extend r := by
  refine ⟨_, mt_extend, fun μ W H a us ds as es vs Q ha rd rs h q => ?_⟩
  rcases lm_cases h with ⟨z, _⟩ | ⟨z, _⟩ | ⟨z, _⟩ | ⟨z, _⟩ | ⟨z, _⟩ | ⟨_, fs, rfl, hl, rfl⟩ <;> first | (cases z; done) | skip
  obtain ⟨v, rfl, q1⟩ := rs.c1
  obtain ⟨b, ws, rfl, h1, h2⟩ := q1.1.w.lst
  exact ⟨a, b, us, ws, rfl, rfl, ha, h1, by rw [sizeLine_eq, ← rd.length, ← h2.length]; exact hl, q _ _ (rd.append h2)⟩
theorem t_mthR {m : Lm} {i : Nat} {l : CL} {x : Str} {xp ap cp : Pos} {es : List Expr} {r : V → List V → Hp → VK → Prop} (hr : LmOk X m r) (hx : PE X (.Name x xp) (tVar i)) (t : TE) (ht : ∀ σ H Q, (∃ v, σ[i]? = some (some v) ∧ tyV X.K "list" v H ∧ tL X.K E EW m.stg (evL Φ l) σ H fun vs H2 => r v vs H2 Q) → t σ H Q) (hp : PE X (.Call (.Attribute (.Name x xp) m.name ap) es [] cp) t) :
    PS X (.Expr (.Call (.Attribute (.Name x xp) m.name ap) es [] cp) pos) (tSt X.K E EW (evS Φ (.mth m i l))) := by
  refine (ps_expr hp rfl).imp fun D σ H h => ht σ H _ ?_
  obtain ⟨F, μ, S, os, ρ, B, h⟩ := h
  simp only [evS] at h
  cases ho : owOf ρ i with
  | none => rw [ho] at h; exact h.elim
  | some ds =>
    rw [ho] at h
    have e0 := owOf_some ho
    obtain ⟨a, vs, h0, h1, h2, h3⟩ := B.slot i _ e0
    refine ⟨.ref a, h1, .inl ⟨rfl, vs, .of h2⟩, ?_⟩
    have h : FinS X.K E EW F D ((evL Φ l ρ S).bind fun as S => (ofO (lmD m ds as) S).bind fun es S => setF ρ i (.ow es) S) := h
    refine tL.bindS (st := m.stg) B h fun as S1 ws H1 μ1 x1 g1 B1 r1 h => ?_
    obtain ⟨a', vs', h0', h1', h2', h3'⟩ := B1.slot i _ e0
    rw [h0] at h0'; cases h0'
    cases hm : lmD m ds as with
    | none => rw [hm] at h; exact h.elim
    | some es =>
      rw [hm] at h
      exact hr μ1 (Wo F.W0 os) H1 a vs' ds as es ws _ h2' h3' r1 hm fun v us' ru => h _ _ _ _ (B1.mut e0 h0 ru)
theorem t_mth {m : Lm} {i : Nat} {l : CL} {x : Str} {xp ap cp : Pos} {e : Expr} {es : List Expr} (hx : PE X (.Name x xp) (tVar i)) (ha : PA X (e :: es) (tL X.K E EW m.stg (evL Φ l))) (hfew : ((backTo cp (starEach (e :: es) X.env)).all (fun x => !x.1) && (backToKw cp (keywordEach [] X.env)).all (fun x => x.1.isSome)
      && decide ((e :: es).length + ([] : List Keyword).length + (if ([] : List Keyword).isEmpty then 0 else 1) < 30)) = true) (hs : starEach (e :: es) X.env = (false, eval e X.env) :: starEach es X.env) (hpl : (backTo cp (starEach es X.env)).any (·.1) = false) (hline : (ap.endLine == cp.line) = true) :
    PS X (.Expr (.Call (.Attribute (.Name x xp) m.name ap) (e :: es) [] cp) pos) (tSt X.K E EW (evS Φ (.mth m i l))) := by
  have go : ∀ {r : V → List V → Hp → VK → Prop}, LmOk X m r → PE X (.Call (.Attribute (.Name x xp) m.name ap) (e :: es) [] cp) (tBM X.K "list" r (tVar i) (tL X.K E EW m.stg (evL Φ l))) → PS X (.Expr (.Call (.Attribute (.Name x xp) m.name ap) (e :: es) [] cp) pos) (tSt X.K E EW (evS Φ (.mth m i l))) := fun hr hp =>
    t_mthR hr hx _ (fun σ H Q ⟨v, h1, h2, h3⟩ => ⟨v, h1, h2, h3⟩) hp
  cases m with
  | insert => obtain ⟨r, h1, h2⟩ := lm_insert (X := X); exact go h2 (pe_bm PySem.F.plainAttrs_list PySem.F.slot_list_insert PySem.F.type_list_insert h1 hx ha rfl hfew hline hs hpl)
  | reverse => obtain ⟨r, h1, h2⟩ := lm_reverse (X := X); exact go h2 (pe_bm PySem.F.plainAttrs_list PySem.F.slot_list_reverse PySem.F.type_list_reverse h1 hx ha rfl hfew hline hs hpl)
  | clear => obtain ⟨r, h1, h2⟩ := lm_clear (X := X); exact go h2 (pe_bm PySem.F.plainAttrs_list PySem.F.slot_list_clear PySem.F.type_list_clear h1 hx ha rfl hfew hline hs hpl)
  | pop => obtain ⟨r, h1, h2⟩ := lm_pop (X := X); exact go h2 (pe_bm PySem.F.plainAttrs_list PySem.F.slot_list_pop PySem.F.type_list_pop h1 hx ha rfl hfew hline hs hpl)
  | popAt => obtain ⟨r, h1, h2⟩ := lm_popAt (X := X); exact go h2 (pe_bm PySem.F.plainAttrs_list PySem.F.slot_list_pop PySem.F.type_list_pop h1 hx ha rfl hfew hline hs hpl)
  | extend => obtain ⟨r, h1, h2⟩ := lm_extend (X := X); exact go h2 (pe_bm PySem.F.plainAttrs_list PySem.F.slot_list_extend PySem.F.type_list_extend h1 hx ha rfl hfew hline hs hpl)
theorem t_mth0 {m : Lm} {i : Nat} {x : Str} {xp ap cp : Pos} (hx : PE X (.Name x xp) (tVar i)) (hline : (ap.endLine == cp.line) = true) :
    PS X (.Expr (.Call (.Attribute (.Name x xp) m.name ap) [] [] cp) pos) (tSt X.K E EW (evS Φ (.mth m i .nil))) := by
  have go : ∀ {r : V → List V → Hp → VK → Prop}, LmOk X m r → PE X (.Call (.Attribute (.Name x xp) m.name ap) [] [] cp) (tBM0 X.K "list" r (tVar i)) → PS X (.Expr (.Call (.Attribute (.Name x xp) m.name ap) [] [] cp) pos) (tSt X.K E EW (evS Φ (.mth m i .nil))) := fun hr hp =>
    t_mthR hr hx _ (fun σ H Q ⟨v, h1, h2, h3⟩ => ⟨v, h1, h2, by
      obtain ⟨F, μ, S, os, ρ, B, h⟩ := h3
      exact h _ _ _ .refl .refl B .nil⟩) hp
  cases m with
  | insert => obtain ⟨r, h1, h2⟩ := lm_insert (X := X); exact go h2 (pe_bm0 PySem.F.plainAttrs_list PySem.F.slot_list_insert PySem.F.type_list_insert h1 hx rfl hline)
  | reverse => obtain ⟨r, h1, h2⟩ := lm_reverse (X := X); exact go h2 (pe_bm0 PySem.F.plainAttrs_list PySem.F.slot_list_reverse PySem.F.type_list_reverse h1 hx rfl hline)
  | clear => obtain ⟨r, h1, h2⟩ := lm_clear (X := X); exact go h2 (pe_bm0 PySem.F.plainAttrs_list PySem.F.slot_list_clear PySem.F.type_list_clear h1 hx rfl hline)
  | pop => obtain ⟨r, h1, h2⟩ := lm_pop (X := X); exact go h2 (pe_bm0 PySem.F.plainAttrs_list PySem.F.slot_list_pop PySem.F.type_list_pop h1 hx rfl hline)
  | popAt => obtain ⟨r, h1, h2⟩ := lm_popAt (X := X); exact go h2 (pe_bm0 PySem.F.plainAttrs_list PySem.F.slot_list_pop PySem.F.type_list_pop h1 hx rfl hline)
  | extend => obtain ⟨r, h1, h2⟩ := lm_extend (X := X); exact go h2 (pe_bm0 PySem.F.plainAttrs_list PySem.F.slot_list_extend PySem.F.type_list_extend h1 hx rfl hline)
theorem t_ret {e : Expr} {c : CE} {k : Nat} (hk : 1 ≤ k) (hkc : k = kE Φ c) (hb : isBor c = false) (he : PE X e (tX X.K E EW k (evE Φ c))) : PS X (.Return (some e) pos) (tSt X.K E EW (evS Φ (.ret c))) := by
  refine (ps_ret he).imp fun D σ H h => ?_
  obtain ⟨F, μ, S, os, ρ, B, h⟩ := h
  simp only [evS] at h
  refine tX.bindS B h fun d S1 v H1 μ1 x1 g1 B1 r1 h => ?_
  have w : ∀ {W0 : Addr → Prop} b, W0 b → Wo W0 os b := fun b z => .inl z
  refine h v H1 μ1 B1.ext B1.gr (B1.st.less w) ⟨(r1.rp hk).less w, fun q => ?_⟩
  rw [hb, Bool.false_or, decide_eq_true_eq, ← hkc] at q
  obtain ⟨f, n⟩ := r1.2.2 q
  refine ⟨fun ds e => ?_, fun ds a e1 e2 => (n ds a e1 e2).less fun b z => z.imp (w b) id⟩
  obtain ⟨a, vs, h1, h2, h3, h4, h5⟩ := f ds e
  exact ⟨a, vs, h1, B.ext.free (fun z => h4 (g1.sub _ (B.gr.sub _ z))) h2, h3, h4, h5.less fun b z => z.imp (w b) id⟩
theorem t_retO {i : Nat} {x : Str} {xp : Pos} (hx : PE X (.Name x xp) (tVar i)) : PS X (.Return (some (.Name x xp)) pos) (tSt X.K E EW (evS Φ (.ret (.bor i)))) := by
  refine (ps_ret hx).imp fun D σ H h => ?_
  obtain ⟨F, μ, S, os, ρ, B, h⟩ := h
  simp only [evS, evE] at h
  split at h
  · rename_i ds e
    obtain ⟨a, vs, h0, h1, h2, h3⟩ := B.slot i _ e
    have w : ∀ {W0 : Addr → Prop} b, W0 b → Wo W0 os b := fun b z => .inl z
    have nm : a ∉ μ := fun z => B.st.nw a z (.inr ⟨i, h0⟩)
    refine ⟨_, h1, h _ _ _ B.ext B.gr (B.st.less w) ⟨.lst h2 (fun z => B.ow0 i a h0 (B.sub a z)) nm (h3.less w), fun _ => ⟨fun ds' e => ?_, fun ds' a' e e' => ?_⟩⟩⟩
    · cases e
      refine ⟨a, vs, rfl, B.own i a h0, h2, nm, h3.less fun b z => ?_⟩
      rcases z with z | z
      · exact w b z
      · rw [z]; exact .inr ⟨i, h0⟩
    · cases e'
      refine B.st.less fun b z => ?_
      rcases z with z | z
      · exact w b z
      · rw [z]; exact .inr ⟨i, h0⟩
  · exact h.elim
theorem t_retN : PS X (.Return none pos) (tSt X.K E EW (evS Φ .retN)) := by
  refine ps_retN.imp fun D σ H h => ?_
  obtain ⟨F, μ, S, os, ρ, B, h⟩ := h
  exact h _ _ _ B.ext B.gr (B.st.less fun b z => .inl z) ⟨.non, fun _ => ⟨.triv (by intro _ z; cases z), fun _ _ z => nomatch z⟩⟩
theorem t_pas : PS X (.Pass pos) (tSt X.K E EW (evS Φ .pas)) := ps_pass.imp fun D σ H ⟨F, μ, S, os, ρ, B, h⟩ => h _ _ _ _ B
theorem t_brk : PS X (.Break pos) (tSt X.K E EW (evS Φ .brk)) := ps_break.imp fun D σ H ⟨F, μ, S, os, ρ, B, h⟩ => h _ _ _ _ B
theorem t_cnt : PS X (.Continue pos) (tSt X.K E EW (evS Φ .cnt)) := ps_continue.imp fun D σ H ⟨F, μ, S, os, ρ, B, h⟩ => h _ _ _ _ B
theorem t_ife {c : Expr} {a b : List Stmt} {cc : CE} {ca cb : CB} (hc : PT X c (tT X.K E EW (evT Φ cc))) (ha : PSs X a (tSt X.K E EW (evBk Φ ca))) (hb : PSs X b (tSt X.K E EW (evBk Φ cb))) : PS X (.If c a b pos) (tSt X.K E EW (evS Φ (.ife cc ca cb))) := by
  refine (ps_if hc ha hb).imp fun D σ H h => ?_
  obtain ⟨F, μ, S, os, ρ, B, h⟩ := h
  have e : evS Φ (.ife cc ca cb) ρ S = (evT Φ cc ρ S).bind fun k S => if k then evBk Φ ca ρ S else evBk Φ cb ρ S := by rw [evS, evT, Res.bind_assoc]
  rw [e] at h
  refine tT.bindS B h fun k S1 H1 μ1 x1 g1 B1 h => ?_
  cases k with
  | true => rw [if_pos rfl]; exact ⟨F, μ1, S1, os, ρ, B1, h⟩
  | false => rw [if_neg (by decide)]; exact ⟨F, μ1, S1, os, ρ, B1, h⟩
theorem t_nil : PSs X [] (tSt X.K E EW (evBk Φ .nil)) := pss_nil.imp fun D σ H ⟨F, μ, S, os, ρ, B, h⟩ => by rw [evBk] at h; exact h _ _ _ _ B
theorem t_cons {s : Stmt} {r : List Stmt} {cs : CS} {cr : CB} (hs : PS X s (tSt X.K E EW (evS Φ cs))) (hr : PSs X r (tSt X.K E EW (evBk Φ cr))) : PSs X (s :: r) (tSt X.K E EW (evBk Φ (.cons cs cr))) := by
  refine (pss_cons hs hr).imp fun D σ H h => ?_
  obtain ⟨F, μ, S, os, ρ, B, h⟩ := h
  rw [evBk] at h
  refine ⟨F, μ, S, os, ρ, B, ?_⟩
  cases e : evS Φ cs ρ S with
  | bad => rw [e] at h; exact h.elim
  | err x S1 => rw [e] at h; exact h
  | ok f S1 =>
    rw [e] at h
    cases f with
    | nx ρ' => exact fun σ' H' μ' os' B' => ⟨F, μ', S1, os', ρ', B', h⟩
    | rt fr d => exact h
    | bk ρ' => exact h
    | ct ρ' => exact h
theorem t_frz {i : Nat} {r : List Stmt} {cr : CB} (hr : PSs X r (tSt X.K E EW (evBk Φ cr))) : PSs X r (tSt X.K E EW (evBk Φ (.frz i cr))) := by
  refine hr.imp fun D σ H h => ?_
  obtain ⟨F, μ, S, os, ρ, B, h⟩ := h
  rw [evBk] at h
  split at h
  · rename_i ds e
    exact ⟨F, μ, S, _, _, B.frz e, h⟩
  · exact h.elim
theorem t_drp {i : Nat} {r : List Stmt} {cr : CB} (hr : PSs X r (tSt X.K E EW (evBk Φ cr))) : PSs X r (tSt X.K E EW (evBk Φ (.drp i cr))) := by
  refine hr.imp fun D σ H h => ?_
  obtain ⟨F, μ, S, os, ρ, B, h⟩ := h
  rw [evBk] at h
  exact ⟨F, μ, S, _, _, B.drp i, h⟩
/-! ### loops -/
theorem after_fin {K : PySem.W.Frag} {F F' : Fx} {D : Ends} {N : L2.St → Hp → Prop} {r : Out} {go : List Cell → Store → Out} (up : ∀ {μ S os σ ρ H}, Bd K F' μ S os σ ρ H → Bd K F μ S os σ ρ H) (eW : F'.W0 = F.W0) (eS : F'.Ws = F.Ws) (eμ : F'.μ0 = F.μ0) (eH : F'.H0 = F.H0) (h : FinS K E EW F D (after r go))
    (hN : ∀ σ H μ S os ρ, Bd K F' μ S os σ ρ H → FinS K E EW F D (go ρ S) → N σ H) : FinS K E EW F' { D with nx := N, ct := N, bk := D.nx } r := by
  cases r with
  | bad => exact h
  | err x S =>
    intro c dd σ H μ os ρ B xr
    exact h c dd σ H μ os ρ (up B) (by rw [eW] at xr; exact xr)
  | ok f S =>
    cases f with
    | nx ρ => exact fun σ H μ os B => hN σ H μ S os ρ B h
    | ct ρ => exact fun σ H μ os B => hN σ H μ S os ρ B h
    | bk ρ => exact fun σ H μ os B => h σ H μ os (up B)
    | rt fr d => intro v H μ x g s rr; rw [eH, eμ] at x g; rw [eS] at s; rw [eW, eS, eH] at rr; exact h v H μ x g s rr
theorem t_whl {c : Expr} {body : List Stmt} {cc : CE} {cb : CB} {n : Nat} (hp : PassesOwn (model X.prog X.w) X.A X.env X.xe) (hc : PT X c (tT X.K E EW (evT Φ cc))) (hb : PSs X body (tSt X.K E EW (evBk Φ cb))) : PS X (.While c body [] pos) (tSt X.K E EW (evS Φ (.whl n cc cb))) := by
  refine (ps_while hp hc hb).imp fun D σ H h => ?_
  obtain ⟨F, μ, S, os, ρ, B, h⟩ := h
  rw [evS] at h
  refine ⟨fun m σ H => ∃ μ S os ρ, Bd X.K F μ S os σ ρ H ∧ FinS X.K E EW F D (loopW (evT Φ cc) (evBk Φ cb) m ρ S), ⟨n, μ, S, os, ρ, B, h⟩, ?_⟩
  rintro m σ H ⟨μ, S, os, ρ, B, h⟩
  cases m with
  | zero => exact h.elim
  | succ m =>
    rw [loopW] at h
    refine tT.bindS B h fun k S1 H1 μ1 x1 g1 B1 h => ?_
    cases k with
    | false => rw [if_neg (by decide)]; exact h _ _ _ _ B1
    | true =>
      rw [if_pos rfl]
      refine ⟨fun σ' H' => ∃ μ S os ρ, Bd X.K F μ S os σ' ρ H' ∧ FinS X.K E EW F D (loopW (evT Φ cc) (evBk Φ cb) m ρ S), fun σ' H' q => ⟨m, Nat.lt_succ_self m, q⟩, F, μ1, S1, os, ρ, B1, ?_⟩
      exact after_fin id rfl rfl rfl rfl h fun σ' H' μ' S' os' ρ' B' h' => ⟨μ', S', os', ρ', B', h'⟩
/-- more data that stays -/
def Fx.pin (F : Fx) (src : List (D × V)) : Fx := { F with pn := src ++ F.pn }
theorem Bd.pinned {K : PySem.W.Frag} {F : Fx} {os : Nat → Option Addr} {σ : L2.St} {ρ : List Cell} {μ : List Addr} {S : Store} {H : Hp} {src : List (RH.D × V)} (B : Bd K F μ S os σ ρ H) (h : ∀ p, p ∈ src → Rp K μ (Wo F.W0 os) H p.1 p.2) : Bd K (F.pin src) μ S os σ ρ H :=
  ⟨B.sub, B.dom, B.st, B.len, B.out, B.inj, B.ow0, B.own, B.ext, B.gr, fun p hp => (List.mem_append.mp hp).elim (h p) (B.pin p), B.slot⟩
theorem Bd.unpin {K : PySem.W.Frag} {F : Fx} {os : Nat → Option Addr} {σ : L2.St} {ρ : List Cell} {μ : List Addr} {S : Store} {H : Hp} {src : List (RH.D × V)} (B : Bd K (F.pin src) μ S os σ ρ H) : Bd K F μ S os σ ρ H :=
  ⟨B.sub, B.dom, B.st, B.len, B.out, B.inj, B.ow0, B.own, B.ext, B.gr, fun p hp => B.pin p (List.mem_append_right _ hp), B.slot⟩
theorem t_for {tg iter : Expr} {body : List Stmt} {t : Tg} {it : CI} {cb : CB} (hp : PassesOwn (model X.prog X.w) X.A X.env X.xe) (hc : X.calm = true) (hi : PI X tg iter (tIt X.K E EW true (evI Φ it))) (hg : PG X tg (tG X.K t)) (hb : PSs X body (tSt X.K E EW (evBk Φ cb))) (hs : ∀ x, foldedSetIterable iter X.env x = pure x) :
    PS X (.For tg iter body [] pos) (tSt X.K E EW (evS Φ (.forr t it cb))) := by
  refine (ps_for hp hc hi hg hb hs).imp fun D σ H h => ?_
  obtain ⟨F, μ, S, os, ρ, B, h⟩ := h
  rw [evS] at h
  refine tIt.bindS B h fun items S1 J src H1 μ1 B1 hsrc wk h => ?_
  let Iv : Nat → Nat → L2.St → Hp → Prop := fun i m σ H => m = items.length - i ∧ i ≤ items.length ∧ ∃ μ S os ρ, Bd X.K (F.pin src) μ S os σ ρ H ∧ FinS X.K E EW F D (loopF (fun d ρ S => seqB (setTF ρ t d S) (evBk Φ cb)) (items.drop i) ρ S)
  refine ⟨Iv, ⟨items.length, rfl, Nat.zero_le _, μ1, S1, os, ρ, B1.pinned fun p hp => (hsrc p hp).2 rfl, h⟩, ?_⟩
  rintro i m σ H ⟨rfl, hi, μ, S, os, ρ, B, h⟩
  have srcI : ∀ p, p ∈ src → Rb X.K μ (Wo F.W0 os) H p.1 p.2 := fun p hp => .inl (B.pin p (List.mem_append_left _ hp))
  by_cases hlt : i < items.length
  · obtain ⟨d, hd⟩ : ∃ d, items[i]? = some d := ⟨_, List.getElem?_eq_getElem hlt⟩
    obtain ⟨go, yl⟩ := (wk μ _ H srcI i).1 d hd
    have ed : items.drop i = d :: items.drop (i + 1) := by
      obtain ⟨h1, h2⟩ := List.getElem?_eq_some_iff.mp hd
      rw [← h2]; exact List.drop_eq_getElem_cons h1
    rw [ed, loopF] at h
    refine .inr ⟨go, fun σ' H' => Iv (i + 1) (items.length - (i + 1)) σ' H', fun σ' H' hN => ⟨items.length - (i + 1), by omega, hN⟩, fun xv H2 y => ?_⟩
    obtain ⟨sm, rx⟩ := yl xv H2 y
    have B2 := B.same sm
    cases eb : bindT t d ρ with
    | none => simp only [setTF, eb, seqB, after] at h; exact h.elim
    | some ρ' =>
      simp only [setTF, eb, seqB] at h
      refine ⟨F.pin src, μ, S, os, ρ, d, ρ', B2, rx, eb, fun σ' os' B3 _ _ => ⟨F.pin src, μ, S, os', ρ', B3, ?_⟩⟩
      exact after_fin (fun B => B.unpin) rfl rfl rfl rfl h fun σ' H' μ' S' os' ρ' B' h' => ⟨rfl, hlt, μ', S', os', ρ', B', h'⟩
  · have e : i = items.length := by omega
    subst e
    rw [List.drop_length, loopF] at h
    exact .inl ⟨(wk μ _ H srcI _).2 (Nat.le_refl _), h _ _ _ _ B.unpin⟩
/-- x = [list(script), 0, 0] -/
theorem t_feed {i j : Nat} {z : Str} {yp zp cp lp p1 p2 : Pos} {j1 j2 : Nat} (hg : Gl X "list") (hm : X.mg "list" = none) (hz : PE X (.Name z zp) (tVar j))
    (hs : ∀ {te : TE}, PE X (.List [.Call (.Name "list" yp) [.Name z zp] [] cp, .Constant (.int 0) j1 p1, .Constant (.int 0) j2 p2] lp) te → PS X st (tAsg te (gName i))) : PS X st (tSt X.K E EW (evS Φ (.feed i j))) := by
  refine (hs (pe_lst (pa_cons (pe_callTy call_list_of hg hm (by decide +kernel) (pa_cons hz pa_nil rfl)) (pa_cons pe_int (pa_cons pe_int pa_nil))))).imp fun D σ H h => ?_
  obtain ⟨F, μ, S, os, ρ, B, h⟩ := h
  simp only [evS] at h
  unfold feedF at h
  split at h
  · rename_i ns e
    obtain ⟨h0, v, h1, h2⟩ := B.slot j _ e
    cases h2 with
    | scr hq =>
      rename_i a
      refine ⟨.ref a, h1, a, _, rfl, .inl hq.sq, fun l hl => ?_⟩
      refine ⟨by rw [sizeLine_eq]; exact (by decide : 3 ≤ 16777216), fun p hp => ?_⟩
      have hpl : p ≠ l := fun z => by subst z; rw [upd_same] at hp; cases hp
      have hp0 : H p = none := by rw [upd_ne hpl] at hp; exact hp
      have sm : Same H (upd (upd H l (.lst (ns.map V.int))) p (.lst [.ref l, .int 0, .int 0])) := fun b o hb => by
        rw [upd_ne (ne_of_none hb hp0), upd_ne (ne_of_none hb hl)]; exact hb
      refine h _ _ _ _ (B.setP i sm hp0 (by rw [upd_same]) (.cons (.lst (by rw [upd_ne (Ne.symm hpl)]; exact upd_same) ?_ ?_ (rps_ints ns)) (.cons (.int 0) (.cons (.int 0) .nil))))
      · rintro (z | z)
        · exact B.wdom l z hl
        · exact hpl z.symm
      · intro z
        obtain ⟨vs, e⟩ := B.st.there l z
        rw [hl] at e; cases e
  · exact h.elim
end
end RH

set_option Elab.async false
set_option linter.all false
set_option maxRecDepth 100000
/-! RHChk: code held against the syntax, by a Bool; what is so held is sound. -/
namespace RH
open PySem PySem.Spec PyProof.Rows L2
structure Tab where
  fns : List Str
  glb : List (Str × D)
  free : List Str
  exc : List Str
def notStar : Expr → Bool
  | .Starred .. => false
  | _ => true
def notComp : Expr → Bool
  | .ListComp .. => false
  | .SetComp .. => false
  | .DictComp .. => false
  | _ => true
def notSet : Expr → Bool
  | .Set .. => false
  | _ => true
def notSlice : Expr → Bool
  | .Slice .. => false
  | _ => true
def notTup : Expr → Bool
  | .Tuple .. => false
  | _ => true
def notTest : Expr → Bool
  | .UnaryOp .Not _ _ => false
  | .BoolOp .. => false
  | .IfExp .. => false
  | .Compare .. => false
  | _ => true
def noSup : Expr → Bool
  | .Call (.Name x _) [] [] _ => !(x == ("super" : Str))
  | _ => true
def visB (sc : Scope) (x : Str) : Bool := match sc.names.lookup x with
  | some .local => true
  | some .cell => true
  | some .free => true
  | _ => false
def locB (sc : Scope) (x : Str) : Bool := match sc.names.lookup x with
  | some .local => true
  | some .cell => true
  | _ => false
def lclB (sc : Scope) (x : Str) : Bool := match sc.names.lookup x with
  | some .local => true
  | _ => false
def glB (sc : Scope) (x : Str) : Bool := match sc.names.lookup x with
  | some .globalImplicit => true
  | _ => false
def okN (x : Str) : Bool := !(x == ("__debug__" : Str)) && !(x == ("__classdict__" : Str)) && !(x == ("__name__" : Str))
def varB (N : List Str) (sc : Scope) (i : Nat) (x : Str) : Bool := decide (N[i]? = some x) && visB sc x && okN x
def litB : D → Const → Bool
  | .int i, .int j => i == j
  | .bl b, .bool c => b == c
  | .non, .none => true
  | .str l, .str x => x.cps.toList == l && ascB l
  | _, _ => false
mutual
def sameD : D → D → Bool
  | .non, .non => true
  | .bl a, .bl b => a == b
  | .int a, .int b => a == b
  | .str a, .str b => a == b
  | .tup a, .tup b => sameDs a b
  | .lst a, .lst b => sameDs a b
  | _, _ => false
def sameDs : List D → List D → Bool
  | [], [] => true
  | a :: as, b :: bs => sameD a b && sameDs as bs
  | _, _ => false
end
mutual
theorem sameD_eq : ∀ {a b : D}, sameD a b = true → a = b
  | .non, b, h => by cases b <;> first | rfl | (simp [sameD] at h)
  | .bl _, b, h => by cases b <;> first | (simp [sameD] at h; done) | (simp [sameD] at h; rw [h])
  | .int _, b, h => by cases b <;> first | (simp [sameD] at h; done) | (simp [sameD] at h; rw [h])
  | .str _, b, h => by cases b <;> first | (simp [sameD] at h; done) | (simp [sameD] at h; rw [h])
  | .tup a, b, h => by cases b <;> first | (simp [sameD] at h; done) | (simp only [sameD] at h; rw [sameDs_eq h])
  | .lst a, b, h => by cases b <;> first | (simp [sameD] at h; done) | (simp only [sameD] at h; rw [sameDs_eq h])
  | .ptr _, b, h => by simp [sameD] at h
  | .scr _, b, h => by simp [sameD] at h
theorem sameDs_eq : ∀ {a b : List D}, sameDs a b = true → a = b
  | [], b, h => by cases b <;> first | rfl | (simp [sameDs] at h)
  | a :: as, b, h => by
    cases b with
    | nil => simp [sameDs] at h
    | cons b bs =>
      simp only [sameDs, Bool.and_eq_true] at h
      rw [sameD_eq h.1, sameDs_eq h.2]
end
def Bi.name : Bi → Str
  | .len => "len" | .lst => "list" | .tup => "tuple" | .min => "min" | .max => "max" | .str => "str" | .int => "int" | .all => "all" | .any => "any" | .sum => "sum" | .rng => "range"
def Wc.name : Wc → Str
  | .r1 => "range" | .r2 => "range" | .r3 => "range" | .enum => "enumerate" | .zip => "zip" | .rev => "reversed"
def Wc.args : Wc → Nat
  | .r1 => 1 | .r2 => 2 | .r3 => 3 | .enum => 1 | .zip => 2 | .rev => 1
def Wc.pair : Wc → Bool
  | .enum => true | .zip => true | _ => false
def bltB (T : Tab) (sc : Scope) (x : Str) : Bool := glB sc x && T.free.contains x && okN x
mutual
def tOk : CE → Bool
  | .ife _ _ _ => false
  | .nt a => tOk a
  | .bop _ l => tOks l
  | _ => true
def tOks : CL → Bool
  | .nil => true
  | .cons a r => tOk a && tOks r
end
mutual
def chkG (N : List Str) (sc : Scope) (fn : Str → Bool) : Tg → Expr → Bool
  | .name i, e => match e with
    | .Name x _ => decide (N[i]? = some x) && locB sc x && (lclB sc x || fn x)
    | _ => false
  | .tup l, e => match e with
    | .Tuple es _ _ => chkGs N sc fn l es
    | _ => false
def chkGs (N : List Str) (sc : Scope) (fn : Str → Bool) : Tgs → List Expr → Bool
  | .nil, es => es.isEmpty
  | .cons t r, es => match es with
    | e :: es => notStar e && chkG N sc fn t e && chkGs N sc fn r es
    | [] => false
end
mutual
def chkE (T : Tab) (Φ : Nat → Fn) (N : List Str) : CE → Scope → Expr → Bool
  | .var i, sc, e => match e with
    | .Name x _ => varB N sc i x
    | _ => false
  | .bor i, sc, e => match e with
    | .Name x _ => varB N sc i x
    | _ => false
  | .lit d, _, e => match e with
    | .Constant c _ _ => litB d c
    | _ => false
  | .glb j d, sc, e => match e with
    | .Name x _ => glB sc x && okN x && (match T.glb[j]? with | some (y, d') => y == x && sameD d' d | none => false)
    | _ => false
  | .bin o a b, sc, e => match e with
    | .BinOp x p y _ => decide (p = o.op) && chkE T Φ N a sc x && chkE T Φ N b sc y
    | _ => false
  | .neg a, sc, e => match e with
    | .UnaryOp .USub x _ => chkE T Φ N a sc x
    | _ => false
  | .cmp o a b, sc, e => match e with
    | .Compare x [p] [y] _ => decide (p = o.op) && notSet y && chkE T Φ N a sc x && chkE T Φ N b sc y
    | _ => false
  | .chn o o' a b c, sc, e => match e with
    | .Compare x [p, p'] [y, z] _ => decide (p = o.op) && decide (p' = o'.op) && notSet z && chkE T Φ N a sc x && chkE T Φ N b sc y && chkE T Φ N c sc z
    | _ => false
  | .bop n l, sc, e => match e with
    | .BoolOp op vs _ => decide (op = bopOf n) && chkL T Φ N false l sc vs && !vs.isEmpty
    | _ => false
  | .nt a, sc, e => match e with
    | .UnaryOp .Not x _ => chkE T Φ N a sc x
    | _ => false
  | .ife c a b, sc, e => match e with
    | .IfExp z x y _ => tOk c && chkE T Φ N c sc z && chkE T Φ N a sc x && chkE T Φ N b sc y
    | _ => false
  | .tup l, sc, e => match e with
    | .Tuple es _ _ => chkL T Φ N true l sc es
    | _ => false
  | .lst l, sc, e => match e with
    | .List es _ => chkL T Φ N true l sc es
    | _ => false
  | .idx a b, sc, e => match e with
    | .Subscript x y _ => notSlice y && chkE T Φ N a sc x && chkE T Φ N b sc y
    | _ => false
  | .slc a lo hi, sc, e => match e with
    | .Subscript x (.Slice l h none _) _ => chkE T Φ N a sc x && chkO T Φ N lo sc l && chkO T Φ N hi sc h
    | _ => false
  | .call f l, sc, e => match e with
    | .Call (.Name x _) es [] _ => decide (T.fns[f]? = some x) && glB sc x && okN x && chkL T Φ N true l sc es
    | _ => false
  | .lend f l, sc, e => match e with
    | .Call (.Name x _) (y :: es) [] _ => decide (T.fns[f]? = some x) && glB sc x && okN x && chkL T Φ N false l sc (y :: es)
    | _ => false
  | .bi b l, sc, e => match e with
    | .Call (.Name x _) (y :: es) [] _ => decide (x = b.name) && bltB T sc x && chkL T Φ N false l sc (y :: es)
    | _ => false
  | .m0 m o, sc, e => match e with
    | .Call (.Attribute x n ap) [] [] p => decide (n = m.name) && ap.endLine == p.line && noSup x && chkE T Φ N o sc x
    | _ => false
  | .m1 m o a, sc, e => match e with
    | .Call (.Attribute x n ap) [y] [] p => decide (n = m.name) && ap.endLine == p.line && noSup x && notStar y && chkE T Φ N o sc x && chkE T Φ N a sc y
    | _ => false
  | .isi t a, sc, e => match e with
    | .Call (.Name x _) [y, .Name z _] [] _ => decide (x = "isinstance") && decide (z = (t.name : Str)) && bltB T sc x && bltB T sc z && notStar y && chkE T Φ N a sc y
    | _ => false
  | .comp own elt t it c, sc, e => match e with
    | .ListComp x [⟨tg, iter, ifs, 0⟩] scope _ => blkC N sc scope own && chkG N (relS scope sc) (fun z => scope.names.lookup z == some .cell) t tg && (tgs t).all (fun i => (own.map (·.2)).contains i) &&
        chkI T Φ N it sc tg iter && chkC T Φ N c (relS scope sc) ifs && decide (1 ≤ kE Φ elt) && chkE T Φ N elt (relS scope sc) x && notSet iter
    | _ => false
def chkL (T : Tab) (Φ : Nat → Fn) (N : List Str) (st : Bool) : CL → Scope → List Expr → Bool
  | .nil, _, es => es.isEmpty
  | .cons a r, sc, es => match es with
    | e :: es => notStar e && (!st || decide (1 ≤ kE Φ a)) && chkE T Φ N a sc e && chkL T Φ N st r sc es
    | [] => false
def chkO (T : Tab) (Φ : Nat → Fn) (N : List Str) : CO → Scope → Option Expr → Bool
  | .no, _, e => e.isNone
  | .yes a, sc, e => match e with
    | some x => chkE T Φ N a sc x
    | none => false
/-- a comprehension's tests -/
def chkC (T : Tab) (Φ : Nat → Fn) (N : List Str) : CO → Scope → List Expr → Bool
  | .no, _, es => es.isEmpty
  | .yes a, sc, es => match es with
    | [x] => tOk a && chkE T Φ N a sc x
    | _ => false
/-- weak: in a comprehension; for a statement's for see chkIs -/
def chkI (T : Tab) (Φ : Nat → Fn) (N : List Str) : CI → Scope → Expr → Expr → Bool
  | .seq a, sc, _, e => chkE T Φ N a sc e
  | .wlk w l, sc, tg, e => match e with
    | .Call (.Name x _) es [] _ => decide (x = w.name) && bltB T sc x && decide (es.length = w.args) && (!w.pair || !(notTup tg)) && chkL T Φ N false l sc es
    | _ => false
end
/-- the same for a statement's for: what is walked is shared -/
def chkIs (T : Tab) (Φ : Nat → Fn) (N : List Str) : CI → Scope → Expr → Expr → Bool
  | .seq a, sc, _, e => decide (1 ≤ kE Φ a) && chkE T Φ N a sc e
  | .wlk w l, sc, tg, e => match e with
    | .Call (.Name x _) es [] _ => decide (x = w.name) && bltB T sc x && decide (es.length = w.args) && (!w.pair || !(notTup tg)) && chkL T Φ N true l sc es
    | _ => false

/-! ### facts of the syntax -/
theorem starEach_cons {e : Expr} {es : List Expr} {env : Env} (h : notStar e = true) : starEach (e :: es) env = (false, eval e env) :: starEach es env := by cases e <;> first | rfl | (simp [notStar] at h)
theorem assignEach_cons {e : Expr} {es : List Expr} {env : Env} (h : notStar e = true) : assignEach (e :: es) env = (false, assign e env) :: assignEach es env := by cases e <;> first | rfl | (simp [notStar] at h)
theorem folded_ok {e : Expr} {env : Env} (h : notSet e = true) : ∀ x, foldedSetIterable e env x = pure x := by intro x; cases e <;> first | rfl | (simp [notSet] at h)
theorem marks_ok {e : Expr} {op : CmpOp} (h : notSet e = true) : behindInMarks op e = false := by cases e <;> first | rfl | (simp [notSet] at h)
theorem plainIx_ok {e : Expr} (h : notSlice e = true) : PlainIx e := by intro o i; cases e <;> first | rfl | (simp [notSlice] at h)
theorem swaps_ok {e : Expr} {t : Option Expr} {l : Nat} {env : Env} (h : notComp e = true) : swapsWith e t l env = pure false := by cases e <;> first | rfl | (simp [notComp] at h)
theorem base_ok {e : Expr} {n : Str} {env : Env} {m : Sem Value} (h : noSup e = true) : attributeBase e n env m = m := by
  cases e <;> first | rfl | skip
  rename_i f args kws pos
  cases f <;> first | rfl | skip
  cases args <;> first | rfl | skip
  cases kws <;> first | rfl | skip
  rename_i x p
  simp only [noSup, Bool.not_eq_true'] at h
  have h' : (x != ("super" : Str)) = true := by rw [bne, h]; rfl
  simp only [attributeBase, h', Bool.true_or, if_true]
theorem test_ok {e : Expr} {env : Env} (h : notTest e = true) : ∀ whole, isTrue e env whole = (do let v ← whole; standAt e.pos; holding [v] (truthy v)) := by
  intro w
  cases e <;> first | rfl | (simp [notTest] at h; done) | skip
  rename_i op a p
  cases op <;> first | rfl | (simp [notTest] at h)
theorem vis_of {sc : Scope} {x : Str} (h : visB sc x = true) : Vis sc x := by
  unfold visB at h
  split at h <;> first | (cases h; done) | (first | exact .inl (by assumption) | exact .inr (.inl (by assumption)) | exact .inr (.inr (by assumption)))
theorem loc_of {sc : Scope} {x : Str} (h : locB sc x = true) : Loc sc x := by
  unfold locB at h
  split at h <;> first | (cases h; done) | (first | exact .inl (by assumption) | exact .inr (by assumption))
theorem lcl_of {sc : Scope} {x : Str} (h : lclB sc x = true) : sc.names.lookup x = some .local := by
  unfold lclB at h
  split at h <;> first | (cases h; done) | assumption
theorem gl_of {sc : Scope} {x : Str} (h : glB sc x = true) : sc.names.lookup x = some .globalImplicit := by
  unfold glB at h
  split at h <;> first | (cases h; done) | assumption
theorem okN_of {x : Str} (h : okN x = true) : (x == ("__debug__" : Str)) = false ∧ (x == ("__classdict__" : Str)) = false ∧ x ≠ "__name__" := by
  simp only [okN, Bool.and_eq_true, Bool.not_eq_true'] at h
  exact ⟨h.1.1, h.1.2, beq_eq_false_iff_ne.mp h.2⟩
theorem bi_boot : ∀ b : Bi, bootBuiltins b.name = some b.val := by intro b; cases b <;> decide +kernel
theorem chkL_star {T : Tab} {Φ : Nat → Fn} {N : List Str} {st : Bool} {sc : Scope} {env : Env} {pos : Pos} : ∀ {l : CL} {es : List Expr}, chkL T Φ N st l sc es = true → (backTo pos (starEach es env)).any (·.1) = false
  | .nil, es, h => by
    unfold chkL at h
    cases es with
    | nil => rfl
    | cons _ _ => simp at h
  | .cons a r, es, h => by
    unfold chkL at h
    split at h
    · simp only [Bool.and_eq_true] at h
      rw [starEach_cons h.1.1.1]
      show (false || (backTo pos (starEach _ env)).any (·.1)) = false
      rw [chkL_star h.2]; rfl
    · cases h
/-! ### the context -/
structure Cn (T : Tab) (Φ : Nat → Fn) (E : XT) (k : Nat) (X : Cx) (EW : WX) : Prop where
  nd : X.N.Nodup
  calm : X.calm = true
  room : Room k X.A
  tk : Takes X EW
  own : PassesOwn (model X.prog X.w) X.A X.env X.xe
  fns : ∀ f x, T.fns[f]? = some x → ∃ a fd ps, X.mg x = some (.ref a) ∧ PySem.W.keepIn X.K (.ref a) = true ∧ L2.Binds X.K fd ps [] ∧ FnOk X.prog X.w X.K X.mg X.base (L2.CX X.prog X.w) k a fd ps (spD E X.K (Φ f))
  glb : ∀ (j : Nat) x d, T.glb[j]? = some (x, d) → ∃ u v, X.mg x = some u ∧ RelV v u ∧ ∀ μ W H, Rp X.K μ W H d v
  free : ∀ x, x ∈ T.free → X.mg x = none
theorem Cn.blk {T : Tab} {Φ : Nat → Fn} {E : XT} {k : Nat} {X : Cx} {EW : WX} (C : Cn T Φ E k X EW) (s : Shared) (H : Hp) (scope : Scope) (A : Addr) (cl : List (Str × Addr)) (fp : List Addr) : Cn T Φ E k (X.blk s H scope (compEnvC scope cl A X.env) fp) EWF :=
  ⟨C.nd, C.calm, C.room, takes0, PassesOwn.never, C.fns, C.glb, C.free⟩
theorem Cn.hu {T : Tab} {Φ : Nat → Fn} {E : XT} {k : Nat} {X : Cx} {EW : WX} (C : Cn T Φ E k X EW) : X.A.units + 65 < cLine := by
  have := C.room.un
  omega
section
variable {T : Tab} {Φ : Nat → Fn} {E : XT} {k : Nat} {X : Cx} {EW : WX}
theorem c_blt (C : Cn T Φ E k X EW) {x : Str} (h : bltB T X.env.scope x = true) : Gl X x ∧ X.mg x = none ∧ (x == ("__debug__" : Str)) = false ∧ x ≠ "__name__" := by
  simp only [bltB, Bool.and_eq_true] at h
  exact ⟨gl_of h.1.1, C.free x (by simpa using h.1.2), (okN_of h.2).1, (okN_of h.2).2.2⟩
mutual
theorem sndG (C : Cn T Φ E k X EW) {fn : Str → Bool} (hfn : ∀ x, fn x = true → X.fn x = true) : ∀ (t : Tg) (e : Expr), chkG X.N X.env.scope fn t e = true → PG X e (tG X.K t)
  | .name i, e, h => by
    unfold chkG at h
    split at h
    · simp only [Bool.and_eq_true, Bool.or_eq_true, decide_eq_true_eq] at h
      refine g_name C.nd h.1.1 (loc_of h.1.2) ?_
      rcases h.2 with z | z
      · exact .inr (lcl_of z)
      · exact .inl (hfn _ z)
    · cases h
  | .tup l, e, h => by
    unfold chkG at h
    split at h
    · obtain ⟨h1, h2, h3⟩ := sndGs C hfn l _ h
      exact g_tup C.calm h1 h2 h3
    · cases h
theorem sndGs (C : Cn T Φ E k X EW) {fn : Str → Bool} (hfn : ∀ x, fn x = true → X.fn x = true) : ∀ (l : Tgs) (es : List Expr), chkGs X.N X.env.scope fn l es = true → PGs X es (tGs X.K l) ∧ (assignEach es X.env).length = tgLen l ∧ (assignEach es X.env).findIdx? (·.1) = none
  | .nil, es, h => by
    unfold chkGs at h
    cases es with
    | nil => exact ⟨g_nil, rfl, rfl⟩
    | cons _ _ => simp at h
  | .cons t r, es, h => by
    unfold chkGs at h
    split at h
    · simp only [Bool.and_eq_true] at h
      obtain ⟨h1, h2, h3⟩ := sndGs C hfn r _ h.2
      rename_i e es
      have e1 := assignEach_cons (es := es) (env := X.env) h.1.1
      refine ⟨g_cons (sndG C hfn t _ h.1.2) h1 (by rw [e1]; rfl), by rw [e1, List.length_cons, h2]; rfl, ?_⟩
      rw [e1, List.findIdx?_cons]
      simp [h3]
    · cases h
end
end
end RH

set_option Elab.async false
set_option linter.all false
set_option maxRecDepth 100000
set_option maxHeartbeats 4000000
/-! RHSnd8: code that is held against the syntax is sound: expressions. -/
namespace RH
open PySem PySem.Spec PyProof.Rows L2
theorem asc_cps {l : List Nat} {x : Str} (h : (x.cps.toList == l) = true) : x = ⟨l.toArray⟩ := by
  have : x.cps.toList = l := by simpa using h
  subst this
  rfl
theorem s_lit {X : Cx} {E : XT} {EW : WX} {Φ : Nat → Fn} {d : D} {c : Const} {j : Nat} {pos : Pos} {k : Nat} (h : litB d c = true) : PE X (.Constant c j pos) (tX X.K E EW k (evE Φ (.lit d))) := by
  have ev : ∀ ρ S, evE Φ (.lit d) ρ S = .ok d S := fun ρ S => by rw [evE]
  unfold litB at h
  split at h
  · cases (by simpa using h : _ = _); exact s_val pe_int ev (fun _ _ _ => .int _) (.inr (by intro _ z; cases z))
  · cases (by simpa using h : _ = _); exact s_val pe_bl ev (fun _ _ _ => .bl _) (.inr (by intro _ z; cases z))
  · exact s_val pe_non ev (fun _ _ _ => .non) (.inr (by intro _ z; cases z))
  · simp only [Bool.and_eq_true] at h
    rw [asc_cps h.1]
    exact s_val pe_str ev (fun _ _ _ => .str (asc_of h.2)) (.inr (by intro _ z; cases z))
  · cases h
theorem chkL_nil {T : Tab} {Φ : Nat → Fn} {N : List Str} {st : Bool} {sc : Scope} {es : List Expr} (h : chkL T Φ N st .nil sc es = true) : es = [] := by
  unfold chkL at h
  cases es with
  | nil => rfl
  | cons _ _ => simp at h
theorem chkL_cons {T : Tab} {Φ : Nat → Fn} {N : List Str} {st : Bool} {sc : Scope} {a : CE} {r : CL} {es : List Expr} (h : chkL T Φ N st (.cons a r) sc es = true) : ∃ e es', es = e :: es' ∧ notStar e = true ∧ (st = true → 1 ≤ kE Φ a) ∧ chkE T Φ N a sc e = true ∧ chkL T Φ N st r sc es' = true := by
  unfold chkL at h
  split at h
  · simp only [Bool.and_eq_true, Bool.or_eq_true, Bool.not_eq_true', decide_eq_true_eq] at h
    refine ⟨_, _, rfl, h.1.1.1, fun z => ?_, h.1.2, h.2⟩
    rcases h.1.1.2 with q | q
    · rw [z] at q; cases q
    · exact q
  · cases h
theorem len1 {α : Type} {l : List α} (h : l.length = 1) : ∃ a, l = [a] := by
  cases l with
  | nil => cases h
  | cons a r => cases r with
    | nil => exact ⟨a, rfl⟩
    | cons _ _ => simp at h
theorem len2 {α : Type} {l : List α} (h : l.length = 2) : ∃ a b, l = [a, b] := by
  cases l with
  | nil => cases h
  | cons a r => obtain ⟨b, rfl⟩ := len1 (l := r) (by simpa using h); exact ⟨a, b, rfl⟩
theorem len3 {α : Type} {l : List α} (h : l.length = 3) : ∃ a b c, l = [a, b, c] := by
  cases l with
  | nil => cases h
  | cons a r => obtain ⟨b, c, rfl⟩ := len2 (l := r) (by simpa using h); exact ⟨a, b, c, rfl⟩
theorem chkL_star1 {T : Tab} {Φ : Nat → Fn} {N : List Str} {st : Bool} {sc : Scope} {l : CL} {e : Expr} {es : List Expr} (h : chkL T Φ N st l sc (e :: es) = true) : notStar e = true ∧ ∃ l', chkL T Φ N st l' sc es = true := by
  cases l with
  | nil => unfold chkL at h; simp at h
  | cons a r =>
    unfold chkL at h
    simp only [Bool.and_eq_true] at h
    exact ⟨h.1.1.1, r, h.2⟩
theorem sndW {T : Tab} {Φ : Nat → Fn} {E : XT} {k : Nat} {X : Cx} {EW : WX} (C : Cn T Φ E k X EW) (st : Bool) {tg : Expr} {p pos : Pos} {es : List Expr} (w : Wc) (l : CL) (h2 : bltB T X.env.scope w.name = true) (h3 : es.length = w.args) (h4 : (!w.pair || !notTup tg) = true) (h5 : chkL T Φ X.N st l X.env.scope es = true) (hl : PA X es (tL X.K E EW st (evL Φ l))) :
    PI X tg (.Call (.Name w.name p) es [] pos) (tIt X.K E EW st (evI Φ (.wlk w l))) := by
  obtain ⟨g1, g2, _, _⟩ := c_blt C h2
  have tup : w.pair = true → ∃ es k p, tg = .Tuple es k p := fun z => by
    rw [z] at h4
    cases tg <;> first | (simp [notTup] at h4; done) | exact ⟨_, _, _, rfl⟩
  cases w with
  | r1 =>
    obtain ⟨a, rfl⟩ := len1 h3
    exact i_r1 g1 g2 hl (starEach_cons (chkL_star1 h5).1)
  | r2 =>
    obtain ⟨a, b, rfl⟩ := len2 h3
    obtain ⟨s1, l', h'⟩ := chkL_star1 h5
    have s2 := (chkL_star1 h').1
    exact i_r2 g1 g2 hl (by rw [starEach_cons s1, starEach_cons s2]; rfl) (starEach_cons s2)
  | r3 =>
    obtain ⟨a, b, c, rfl⟩ := len3 h3
    obtain ⟨s1, l', h'⟩ := chkL_star1 h5
    exact i_r3 g1 g2 hl (starEach_cons s1) (chkL_star h')
  | enum =>
    obtain ⟨es', kk, tp, rfl⟩ := tup rfl
    obtain ⟨a, rfl⟩ := len1 h3
    exact i_enum g1 g2 hl (starEach_cons (chkL_star1 h5).1)
  | zip =>
    obtain ⟨es', kk, tp, rfl⟩ := tup rfl
    obtain ⟨a, b, rfl⟩ := len2 h3
    obtain ⟨s1, l', h'⟩ := chkL_star1 h5
    exact i_zip g1 g2 hl (starEach_cons s1) (chkL_star h')
  | rev =>
    obtain ⟨a, rfl⟩ := len1 h3
    exact i_rev g1 g2 hl (starEach_cons (chkL_star1 h5).1)
mutual
theorem sndE {T : Tab} {Φ : Nat → Fn} {E : XT} {k : Nat} : ∀ (c : CE) {X : Cx} {EW : WX} (C : Cn T Φ E k X EW) (e : Expr), chkE T Φ X.N c X.env.scope e = true → PE X e (tX X.K E EW (kE Φ c) (evE Φ c))
  | .var i, X, EW, C, e, h => by
    unfold chkE at h
    split at h
    · simp only [varB, Bool.and_eq_true, decide_eq_true_eq] at h
      exact s_var h.1.1 (vis_of h.1.2) (okN_of h.2).1 (okN_of h.2).2.1
    · cases h
  | .bor i, X, EW, C, e, h => by
    unfold chkE at h
    split at h
    · simp only [varB, Bool.and_eq_true, decide_eq_true_eq] at h
      exact s_bor h.1.1 (vis_of h.1.2) (okN_of h.2).1 (okN_of h.2).2.1
    · cases h
  | .lit d, X, EW, C, e, h => by
    unfold chkE at h
    split at h
    · exact s_lit h
    · cases h
  | .glb j d, X, EW, C, e, h => by
    unfold chkE at h
    split at h
    · simp only [Bool.and_eq_true] at h
      obtain ⟨⟨h1, h2⟩, h3⟩ := h
      split at h3
      · rename_i y d' hg
        simp only [Bool.and_eq_true, beq_iff_eq] at h3
        obtain ⟨rfl, h4⟩ := h3
        rw [sameD_eq h4] at hg
        obtain ⟨u, v, m, r, rp⟩ := C.glb j _ d hg
        exact s_val (pe_glob (gl_of h1) m r (okN_of h2).1) (fun ρ S => by rw [evE]) rp (.inl (by simp [kE]))
      · cases h3
    · cases h
  | .bin o a b, X, EW, C, e, h => by
    unfold chkE at h
    split at h
    · simp only [Bool.and_eq_true, decide_eq_true_eq] at h
      rw [h.1.1]
      exact s_bin (sndE a C _ h.1.2) (sndE b C _ h.2)
    · cases h
  | .neg a, X, EW, C, e, h => by
    unfold chkE at h
    split at h
    · exact s_neg (sndE a C _ h)
    · cases h
  | .cmp o a b, X, EW, C, e, h => by
    unfold chkE at h
    split at h
    · simp only [Bool.and_eq_true, decide_eq_true_eq] at h
      rw [h.1.1.1]
      exact s_cmp C.hu (sndE a C _ h.1.2) (sndE b C _ h.2) (marks_ok h.1.1.2)
    · cases h
  | .chn o o' a b c, X, EW, C, e, h => by
    unfold chkE at h
    split at h
    · simp only [Bool.and_eq_true, decide_eq_true_eq] at h
      obtain ⟨⟨⟨⟨⟨h1, h2⟩, h3⟩, h4⟩, h5⟩, h6⟩ := h
      rw [h1, h2]
      exact s_chn C.hu (sndE a C _ h4) (sndE b C _ h5) (sndE c C _ h6) (by simp only [lastMarks]; exact marks_ok h3)
    · cases h
  | .bop n l, X, EW, C, e, h => by
    unfold chkE at h
    split at h
    · simp only [Bool.and_eq_true, decide_eq_true_eq] at h
      obtain ⟨⟨rfl, h2⟩, h3⟩ := h
      simp only [kE]
      have e : evE Φ (.bop n l) = evB Φ n l := by funext ρ S; rw [evE]
      rw [e]; exact sndB l C n _ h2 h3
    · cases h
  | .nt a, X, EW, C, e, h => by
    unfold chkE at h
    split at h
    · exact s_nt (sndE a C _ h)
    · cases h
  | .ife c a b, X, EW, C, e, h => by
    unfold chkE at h
    split at h
    · simp only [Bool.and_eq_true] at h
      exact s_ife (sndT c C _ h.1.1.2 h.1.1.1) (sndE a C _ h.1.2) (sndE b C _ h.2) (Nat.min_le_left _ _) (Nat.min_le_right _ _)
    · cases h
  | .tup l, X, EW, C, e, h => by
    unfold chkE at h
    split at h
    · exact s_tup (sndL l C true _ h)
    · cases h
  | .lst l, X, EW, C, e, h => by
    unfold chkE at h
    split at h
    · exact s_lst (sndL l C true _ h)
    · cases h
  | .idx a b, X, EW, C, e, h => by
    unfold chkE at h
    split at h
    · simp only [Bool.and_eq_true] at h
      exact s_idx (by simp [kE]) (sndE a C _ h.1.2) (sndE b C _ h.2) (plainIx_ok h.1.1)
    · cases h
  | .slc a lo hi, X, EW, C, e, h => by
    unfold chkE at h
    split at h
    · simp only [Bool.and_eq_true] at h
      exact s_slc (sndE a C _ h.1.1) (sndO lo C _ h.1.2) (sndO hi C _ h.2)
    · cases h
  | .call f l, X, EW, C, e, h => by
    unfold chkE at h
    split at h
    · simp only [Bool.and_eq_true, decide_eq_true_eq] at h
      obtain ⟨⟨⟨h1, h2⟩, h3⟩, h4⟩ := h
      obtain ⟨a, fd, ps, m1, m2, m3, m4⟩ := C.fns f _ h1
      cases l with
      | nil =>
        cases chkL_nil h4
        exact s_call0 m4 C.room (gl_of h2) m1 m2 m3 (okN_of h3).1 (Nat.le_refl _)
      | cons c l =>
        have ha := sndL (.cons c l) C true _ h4
        obtain ⟨e, es, q, s1, _, _, s2⟩ := chkL_cons h4
        rw [q] at ha ⊢
        exact s_call m4 C.room (gl_of h2) m1 m2 m3 C.tk ha (okN_of h3).1 (starEach_cons s1) (chkL_star s2) (Nat.le_refl _)
    · cases h
  | .lend f l, X, EW, C, e, h => by
    unfold chkE at h
    split at h
    · simp only [Bool.and_eq_true, decide_eq_true_eq] at h
      obtain ⟨⟨⟨h1, h2⟩, h3⟩, h4⟩ := h
      obtain ⟨a, fd, ps, m1, m2, m3, m4⟩ := C.fns f _ h1
      cases l with
      | nil => unfold chkL at h4; simp at h4
      | cons c l =>
        have ha := sndL (.cons c l) C false _ h4
        obtain ⟨s1, l', s2⟩ := chkL_star1 h4
        exact s_lend m4 C.room (gl_of h2) m1 m2 m3 C.tk ha (okN_of h3).1 (starEach_cons s1) (chkL_star s2)
    · cases h
  | .bi b l, X, EW, C, e, h => by
    unfold chkE at h
    split at h
    · simp only [Bool.and_eq_true, decide_eq_true_eq] at h
      obtain ⟨⟨h1, h2⟩, h3⟩ := h
      obtain ⟨g1, g2, g3, g4⟩ := c_blt C h2
      cases l with
      | nil => unfold chkL at h3; simp at h3
      | cons c l =>
        have h5 := h3
        unfold chkL at h5
        simp only [Bool.and_eq_true] at h5
        exact s_bi C.calm g1 g2 g4 g3 (by rw [h1]; exact bi_boot b) (sndL (.cons c l) C false _ h3) (starEach_cons h5.1.1.1) (chkL_star h5.2)
    · cases h
  | .m0 m o, X, EW, C, e, h => by
    unfold chkE at h
    split at h
    · simp only [Bool.and_eq_true, decide_eq_true_eq] at h
      obtain ⟨⟨⟨rfl, h2⟩, h3⟩, h4⟩ := h
      exact s_m0 (sndE o C _ h4) (base_ok h3) h2
    · cases h
  | .m1 m o a, X, EW, C, e, h => by
    unfold chkE at h
    split at h
    · simp only [Bool.and_eq_true, decide_eq_true_eq] at h
      obtain ⟨⟨⟨⟨⟨rfl, h2⟩, h3⟩, h4⟩, h5⟩, h6⟩ := h
      exact s_m1 (sndE o C _ h5) (sndE a C _ h6) (starEach_cons h4) (base_ok h3) h2
    · cases h
  | .isi t a, X, EW, C, e, h => by
    unfold chkE at h
    split at h
    · simp only [Bool.and_eq_true, decide_eq_true_eq] at h
      obtain ⟨⟨⟨⟨⟨rfl, rfl⟩, h3⟩, h4⟩, h5⟩, h6⟩ := h
      obtain ⟨g1, g2, _, _⟩ := c_blt C h3
      obtain ⟨g3, g4, _, _⟩ := c_blt C h4
      exact s_isi g1 g2 g3 g4 (sndE a C _ h6) (starEach_cons h5)
    · cases h
  | .comp own elt t it c, X, EW, C, e, h => by
    unfold chkE at h
    split at h
    · simp only [Bool.and_eq_true, decide_eq_true_eq] at h
      obtain ⟨⟨⟨⟨⟨⟨⟨h1, h2⟩, h3⟩, h4⟩, h5⟩, h6⟩, h7⟩, h8⟩ := h
      refine s_comp h6 (fun i hi => by simpa using List.all_eq_true.mp h3 i hi) C.calm C.nd (sndI it C _ _ h4) (blkOk_by h1) (fun s H A cl fp => ?_) (fun s H A cl fp => ?_) (fun s H A cl fp => ?_) (folded_ok h8)
      · exact sndG (C.blk s H _ A cl fp) (fun x hx => hx) t _ h2
      · exact sndC c (C.blk s H _ A cl fp) _ h5
      · exact sndE elt (C.blk s H _ A cl fp) _ h7
    · cases h
theorem sndT {T : Tab} {Φ : Nat → Fn} {E : XT} {k : Nat} : ∀ (c : CE) {X : Cx} {EW : WX} (C : Cn T Φ E k X EW) (e : Expr), chkE T Φ X.N c X.env.scope e = true → tOk c = true → PT X e (tT X.K E EW (evT Φ c))
  | .var i, X, EW, C, e, h, _ => by
    have := sndE (.var i) C e h
    unfold chkE at h
    split at h
    · exact s_test this (test_ok rfl)
    · cases h
  | .bor i, X, EW, C, e, h, _ => by
    have := sndE (.bor i) C e h
    unfold chkE at h
    split at h
    · exact s_test this (test_ok rfl)
    · cases h
  | .lit d, X, EW, C, e, h, _ => by
    have := sndE (.lit d) C e h
    unfold chkE at h
    split at h
    · exact s_test this (test_ok rfl)
    · cases h
  | .glb j d, X, EW, C, e, h, _ => by
    have := sndE (.glb j d) C e h
    unfold chkE at h
    split at h
    · exact s_test this (test_ok rfl)
    · cases h
  | .bin o a b, X, EW, C, e, h, _ => by
    have := sndE (.bin o a b) C e h
    unfold chkE at h
    split at h
    · exact s_test this (test_ok rfl)
    · cases h
  | .neg a, X, EW, C, e, h, _ => by
    have := sndE (.neg a) C e h
    unfold chkE at h
    split at h
    · exact s_test this (test_ok rfl)
    · cases h
  | .cmp o a b, X, EW, C, e, h, _ => by
    unfold chkE at h
    split at h
    · simp only [Bool.and_eq_true, decide_eq_true_eq] at h
      rw [h.1.1.1]
      exact s_cmpT C.hu (sndE a C _ h.1.2) (sndE b C _ h.2) (marks_ok h.1.1.2)
    · cases h
  | .chn o o' a b c, X, EW, C, e, h, _ => by
    unfold chkE at h
    split at h
    · simp only [Bool.and_eq_true, decide_eq_true_eq] at h
      obtain ⟨⟨⟨⟨⟨h1, h2⟩, h3⟩, h4⟩, h5⟩, h6⟩ := h
      rw [h1, h2]
      exact s_chnT C.hu (sndE a C _ h4) (sndE b C _ h5) (sndE c C _ h6) (by simp only [lastMarks]; exact marks_ok h3)
    · cases h
  | .bop n l, X, EW, C, e, h, tk => by
    unfold chkE at h
    split at h
    · simp only [Bool.and_eq_true, decide_eq_true_eq] at h
      obtain ⟨⟨rfl, h2⟩, h3⟩ := h
      rw [evT_bop]
      exact (sndBT l C n _ h2 h3 (by unfold tOk at tk; exact tk)).pt
    · cases h
  | .nt a, X, EW, C, e, h, tk => by
    unfold chkE at h
    split at h
    · exact s_ntT (sndT a C _ h (by unfold tOk at tk; exact tk))
    · cases h
  | .ife c a b, X, EW, C, e, h, tk => by unfold tOk at tk; cases tk
  | .tup l, X, EW, C, e, h, _ => by
    have := sndE (.tup l) C e h
    unfold chkE at h
    split at h
    · exact s_test this (test_ok rfl)
    · cases h
  | .lst l, X, EW, C, e, h, _ => by
    have := sndE (.lst l) C e h
    unfold chkE at h
    split at h
    · exact s_test this (test_ok rfl)
    · cases h
  | .idx a b, X, EW, C, e, h, _ => by
    have := sndE (.idx a b) C e h
    unfold chkE at h
    split at h
    · exact s_test this (test_ok rfl)
    · cases h
  | .slc a lo hi, X, EW, C, e, h, _ => by
    have := sndE (.slc a lo hi) C e h
    unfold chkE at h
    split at h
    · exact s_test this (test_ok rfl)
    · cases h
  | .call f l, X, EW, C, e, h, _ => by
    have := sndE (.call f l) C e h
    unfold chkE at h
    split at h
    · exact s_test this (test_ok rfl)
    · cases h
  | .lend f l, X, EW, C, e, h, _ => by
    have := sndE (.lend f l) C e h
    unfold chkE at h
    split at h
    · exact s_test this (test_ok rfl)
    · cases h
  | .bi b l, X, EW, C, e, h, _ => by
    have := sndE (.bi b l) C e h
    unfold chkE at h
    split at h
    · exact s_test this (test_ok rfl)
    · cases h
  | .m0 m o, X, EW, C, e, h, _ => by
    have := sndE (.m0 m o) C e h
    unfold chkE at h
    split at h
    · exact s_test this (test_ok rfl)
    · cases h
  | .m1 m o a, X, EW, C, e, h, _ => by
    have := sndE (.m1 m o a) C e h
    unfold chkE at h
    split at h
    · exact s_test this (test_ok rfl)
    · cases h
  | .isi t a, X, EW, C, e, h, _ => by
    have := sndE (.isi t a) C e h
    unfold chkE at h
    split at h
    · exact s_test this (test_ok rfl)
    · cases h
  | .comp own elt t it c, X, EW, C, e, h, _ => by
    have := sndE (.comp own elt t it c) C e h
    unfold chkE at h
    split at h
    · exact s_test this (test_ok rfl)
    · cases h
theorem sndL {T : Tab} {Φ : Nat → Fn} {E : XT} {k : Nat} : ∀ (l : CL) {X : Cx} {EW : WX} (C : Cn T Φ E k X EW) (st : Bool) (es : List Expr), chkL T Φ X.N st l X.env.scope es = true → PA X es (tL X.K E EW st (evL Φ l))
  | .nil, X, EW, C, st, es, h => by
    unfold chkL at h
    cases es with
    | nil => exact s_nil
    | cons _ _ => simp at h
  | .cons a r, X, EW, C, st, es, h => by
    unfold chkL at h
    split at h
    · simp only [Bool.and_eq_true, Bool.or_eq_true, Bool.not_eq_true', decide_eq_true_eq] at h
      exact s_cons (sndE a C _ h.1.2) (sndL r C st _ h.2) (fun z => by
        rcases h.1.1.2 with q | q
        · rw [z] at q; cases q
        · exact q) (starEach_cons h.1.1.1)
    · cases h
theorem sndB {T : Tab} {Φ : Nat → Fn} {E : XT} {k : Nat} : ∀ (l : CL) {X : Cx} {EW : WX} (C : Cn T Φ E k X EW) (n : Bool) {pos : Pos} (es : List Expr), chkL T Φ X.N false l X.env.scope es = true → (!es.isEmpty) = true → PE X (.BoolOp (bopOf n) es pos) (tX X.K E EW 2 (evB Φ n l))
  | .nil, X, EW, C, n, pos, es, h, h' => by
    unfold chkL at h
    rw [h] at h'; cases h'
  | .cons a .nil, X, EW, C, n, pos, es, h, _ => by
    obtain ⟨e, es', rfl, _, _, s1, s2⟩ := chkL_cons h
    cases chkL_nil s2
    exact s_bop1 (sndE a C _ s1)
  | .cons a (.cons b r), X, EW, C, n, pos, es, h, _ => by
    obtain ⟨e, es', rfl, _, _, s1, s2⟩ := chkL_cons h
    have s3 := s2
    obtain ⟨e2, es2, rfl, _⟩ := chkL_cons s3
    exact s_bopC (sndE a C _ s1) (sndB (.cons b r) C n _ s2 rfl)
theorem sndBT {T : Tab} {Φ : Nat → Fn} {E : XT} {k : Nat} : ∀ (l : CL) {X : Cx} {EW : WX} (C : Cn T Φ E k X EW) (n : Bool) {pos : Pos} (es : List Expr), chkL T Φ X.N false l X.env.scope es = true → (!es.isEmpty) = true → tOks l = true → PW X (.BoolOp (bopOf n) es pos) (tT X.K E EW (evBT Φ n l))
  | .nil, X, EW, C, n, pos, es, h, h', _ => by
    unfold chkL at h
    rw [h] at h'; cases h'
  | .cons a .nil, X, EW, C, n, pos, es, h, _, tk => by
    unfold tOks at tk
    simp only [Bool.and_eq_true] at tk
    obtain ⟨e, es', rfl, _, _, s1, s2⟩ := chkL_cons h
    cases chkL_nil s2
    exact s_bopT1 (sndT a C _ s1 tk.1)
  | .cons a (.cons b r), X, EW, C, n, pos, es, h, _, tk => by
    unfold tOks at tk
    simp only [Bool.and_eq_true] at tk
    obtain ⟨e, es', rfl, _, _, s1, s2⟩ := chkL_cons h
    have s3 := s2
    obtain ⟨e2, es2, rfl, _⟩ := chkL_cons s3
    exact s_bopTC (sndT a C _ s1 tk.1) (sndBT (.cons b r) C n _ s2 rfl tk.2)
theorem sndO {T : Tab} {Φ : Nat → Fn} {E : XT} {k : Nat} : ∀ (c : CO) {X : Cx} {EW : WX} (C : Cn T Φ E k X EW) (e : Option Expr), chkO T Φ X.N c X.env.scope e = true → PO X e (tO X.K E EW (evO Φ c))
  | .no, X, EW, C, e, h => by
    unfold chkO at h
    cases e with
    | none => exact s_no
    | some _ => simp at h
  | .yes a, X, EW, C, e, h => by
    unfold chkO at h
    split at h
    · exact s_yes (sndE a C _ h)
    · cases h
theorem sndC {T : Tab} {Φ : Nat → Fn} {E : XT} {k : Nat} : ∀ (c : CO) {X : Cx} {EW : WX} (C : Cn T Φ E k X EW) (es : List Expr), chkC T Φ X.N c X.env.scope es = true → PTs X es (tT X.K E EW (evC Φ c))
  | .no, X, EW, C, es, h => by
    unfold chkC at h
    cases es with
    | nil => exact ⟨fun pins s σ H Q I q => pts_nil.run pins s σ H Q I (by
        obtain ⟨F, μ, S, os, ρ, B, q⟩ := q
        rw [evC] at q
        exact q _ _ .refl .refl B)⟩
    | cons _ _ => simp at h
  | .yes a, X, EW, C, es, h => by
    unfold chkC at h
    split at h
    · simp only [Bool.and_eq_true] at h
      have e : evC Φ (.yes a) = evT Φ a := by funext ρ S; rw [evC, evT]
      rw [e]
      exact pts_one (sndT a C _ h.2 h.1)
    · cases h
theorem sndI {T : Tab} {Φ : Nat → Fn} {E : XT} {k : Nat} : ∀ (c : CI) {X : Cx} {EW : WX} (C : Cn T Φ E k X EW) (tg e : Expr), chkI T Φ X.N c X.env.scope tg e = true → PI X tg e (tIt X.K E EW false (evI Φ c))
  | .seq a, X, EW, C, tg, e, h => by
    unfold chkI at h
    exact i_seq (fun z => by cases z) (sndE a C _ h)
  | .wlk w l, X, EW, C, tg, e, h => by
    unfold chkI at h
    split at h
    · simp only [Bool.and_eq_true, decide_eq_true_eq] at h
      obtain ⟨⟨⟨⟨rfl, h2⟩, h3⟩, h4⟩, h5⟩ := h
      exact sndW C false w l h2 h3 h4 h5 (sndL l C false _ h5)
    · cases h
end
end RH

set_option Elab.async false
set_option linter.all false
set_option maxRecDepth 100000
set_option maxHeartbeats 4000000
/-! RHSnd9: statements, defs. -/
namespace RH
open PySem PySem.Spec PyProof.Rows L2
mutual
def chkS (T : Tab) (Φ : Nat → Fn) (N : List Str) (sc : Scope) : CS → Stmt → Bool
  | .set i e, s => match s with
    | .Assign [.Name x _] v _ => decide (N[i]? = some x) && locB sc x && decide (1 ≤ kE Φ e) && chkE T Φ N e sc v
    | _ => false
  | .setO i e, s => match s with
    | .Assign [.Name x _] v _ => decide (N[i]? = some x) && locB sc x && decide (2 ≤ kE Φ e) && chkE T Φ N e sc v
    | _ => false
  | .setT t e, s => match s with
    | .Assign [tg] v _ => notStar tg && notTup v && notComp v && chkG N sc (fun _ => true) t tg && decide (1 ≤ kE Φ e) && chkE T Φ N e sc v
    | _ => false
  | .exp e, s => match s with
    | .Expr v _ => notComp v && chkE T Φ N e sc v
    | _ => false
  | .app i e, s => match s with
    | .Expr (.Call (.Attribute (.Name x _) n ap) [y] [] cp) _ => decide (n = "append") && varB N sc i x && ap.endLine == cp.line && notStar y && decide (1 ≤ kE Φ e) && chkE T Φ N e sc y
    | _ => false
  | .mth m i l, s => match s with
    | .Expr (.Call (.Attribute (.Name x _) n ap) es [] cp) _ => decide (n = m.name) && varB N sc i x && ap.endLine == cp.line && decide (es.length ≤ 5) && chkL T Φ N m.stg l sc es
    | _ => false
  | .six i j e, s => match s with
    | .Assign [.Subscript (.Name x _) y _] v _ => varB N sc i x && notSlice y && notComp v && decide (1 ≤ kE Φ e) && chkE T Φ N j sc y && chkE T Φ N e sc v
    | _ => false
  | .sip i j e, s => match s with
    | .Assign [.Subscript (.Name x _) y _] v _ => varB N sc i x && notSlice y && notComp v && decide (1 ≤ kE Φ e) && chkE T Φ N j sc y && chkE T Φ N e sc v
    | _ => false
  | .ret e, s => match s with
    | .Return (some v) _ => (isBor e || decide (1 ≤ kE Φ e)) && chkE T Φ N e sc v
    | _ => false
  | .retN, s => match s with
    | .Return none _ => true
    | _ => false
  | .ife c a b, s => match s with
    | .If v as bs _ => tOk c && chkE T Φ N c sc v && chkB T Φ N sc a as && chkB T Φ N sc b bs
    | _ => false
  | .forr t it b, s => match s with
    | .For tg iter body [] _ => chkIs T Φ N it sc tg iter && chkG N sc (fun _ => true) t tg && notSet iter && chkB T Φ N sc b body
    | _ => false
  | .whl _ c b, s => match s with
    | .While v body [] _ => tOk c && chkE T Φ N c sc v && chkB T Φ N sc b body
    | _ => false
  | .rai x l, s => match s with
    | .Raise (some (.Call (.Name y _) es [] _)) none _ => decide (T.exc[x]? = some y) && glB sc y && okN y && !es.isEmpty && chkL T Φ N true l sc es
    | _ => false
  | .feed i j, s => match s with
    | .Assign [.Name x _] (.List [.Call (.Name y _) [.Name z _] [] _, .Constant (.int a) _ _, .Constant (.int b) _ _] _) _ => decide (N[i]? = some x) && locB sc x && decide (y = "list") && bltB T sc y && varB N sc j z && decide (a = 0) && decide (b = 0)
    | _ => false
  | .pas, s => match s with
    | .Pass _ => true
    | _ => false
  | .brk, s => match s with
    | .Break _ => true
    | _ => false
  | .cnt, s => match s with
    | .Continue _ => true
    | _ => false
def chkB (T : Tab) (Φ : Nat → Fn) (N : List Str) (sc : Scope) : CB → List Stmt → Bool
  | .nil, ss => ss.isEmpty
  | .cons s r, ss => match ss with
    | t :: ts => chkS T Φ N sc s t && chkB T Φ N sc r ts
    | [] => false
  | .frz _ r, ss => chkB T Φ N sc r ss
  | .drp _ r, ss => chkB T Φ N sc r ss
end
theorem swst_ok {t e : Expr} {env : Env} (h : notTup e = true) : swappedStores [t] e env = pure none := by
  cases e <;> first | (simp [notTup] at h; done) | (cases t <;> rfl)
theorem swst_sub {o i e : Expr} {p : Pos} {env : Env} : swappedStores [.Subscript o i p] e env = pure none := by cases e <;> rfl
theorem asg_sub {o i : Expr} {p : Pos} {env : Env} (h : notSlice i = true) : ∀ v, assign (.Subscript o i p) env v = (do
      let ov ← holding [v] (eval o env)
      let iv ← holding [v, ov] (eval i env)
      standAt p
      holding [v, ov, iv] (setItem ov iv v)
      release [v, ov, iv] []) := by intro v; cases i <;> first | (simp [notSlice] at h; done) | rfl
/-- whether a comprehension's list is stored by the comprehension itself -/
theorem swaps_comp {elt : Expr} {gs : List Comprehension} {scope : Scope} {pos py : Pos} {y : Str} {l : Nat} {env : Env} (hk : env.scope.kind = .function) :
    swapsWith (.ListComp elt gs scope pos) (some (.Name y py)) l env = pure ((env.scope.names.lookup y == some .local) && (py.line == pos.line) && !(scope.names.any fun (n, k) => n == y && (k == .local || k == .cell))) := by
  have hb : env.blockKind = .function := by unfold Env.blockKind; rw [hk]; rfl
  unfold swapsWith
  simp only [hb, Expr.pos, Env.kindOf, beq_self_eq_true, Bool.true_and]
/-- the context of a def's body -/
structure Cs (T : Tab) (Φ : Nat → Fn) (E : XT) (k : Nat) (X : Cx) (EW : WX) : Prop extends Cn T Φ E k X EW where
  fnT : ∀ x, X.fn x = true
  rai : ∀ (x : Nat) (y : Str), T.exc[x]? = some y → Gl X y → (y == ("__debug__" : Str)) = false → ∀ (e : Expr) (es : List Expr) (l : CL) (p cp pos : Pos), PA X (e :: es) (tL X.K E EW true (evL Φ l)) → starEach (e :: es) X.env = (false, eval e X.env) :: starEach es X.env → (∀ q, (backTo q (starEach es X.env)).any (·.1) = false) →
    PS X (.Raise (some (.Call (.Name y p) (e :: es) [] cp)) none pos) (tSt X.K E EW (evS Φ (.rai x l)))
section
variable {T : Tab} {Φ : Nat → Fn} {E : XT} {k : Nat}
theorem sndIs (c : CI) {X : Cx} {EW : WX} (C : Cn T Φ E k X EW) (tg e : Expr) (h : chkIs T Φ X.N c X.env.scope tg e = true) : PI X tg e (tIt X.K E EW true (evI Φ c)) := by
  cases c with
  | seq a =>
    simp only [chkIs, Bool.and_eq_true, decide_eq_true_eq] at h
    exact i_seq (fun _ => h.1) (sndE a C _ h.2)
  | wlk w l =>
    unfold chkIs at h
    split at h
    · rename_i h0; cases h0
    · rename_i w' l' h0
      cases h0
      split at h
      · simp only [Bool.and_eq_true, decide_eq_true_eq] at h
        obtain ⟨⟨⟨⟨rfl, h2⟩, h3⟩, h4⟩, h5⟩ := h
        exact sndW C true w l h2 h3 h4 h5 (sndL l C true _ h5)
      · cases h
/-- x = e, whatever e is -/
theorem set_ps (c : CE) {X : Cx} {EW : WX} (C : Cs T Φ E k X EW) {i : Nat} {x : Str} {px pos : Pos} {v : Expr} (hi : X.N[i]? = some x) (hl : locB X.env.scope x = true) (h : chkE T Φ X.N c X.env.scope v = true) : PS X (.Assign [.Name x px] v pos) (tAsg (tX X.K E EW (kE Φ c) (evE Φ c)) (gName i)) := by
  have he := sndE c C.toCn _ h
  by_cases hc : notComp v = true
  · exact ps_set C.nd hi (loc_of hl) he (swaps_ok hc) (.inl (C.fnT x))
  · cases c with
    | comp own elt t it cc =>
      have h0 := h
      unfold chkE at h
      split at h
      · rename_i xe tg iter ifs scope cpos
        simp only [Bool.and_eq_true, decide_eq_true_eq] at h
        obtain ⟨⟨⟨⟨⟨⟨⟨h1, h2⟩, h3⟩, h4⟩, h5⟩, h6⟩, h7⟩, h8⟩ := h
        refine ⟨fun pins s σ H D I hh => ?_⟩
        have sw := swaps_comp (elt := xe) (gs := [⟨tg, iter, ifs, 0⟩]) (scope := scope) (pos := cpos) (py := px) (y := x) (l := pos.line) I.ok.kind
        cases hb : ((X.env.scope.names.lookup x == some .local) && (px.line == cpos.line) && !(scope.names.any fun (n, k) => n == x && (k == .local || k == .cell))) with
        | false =>
          rw [hb] at sw
          exact (ps_set C.nd hi (loc_of hl) he sw (.inl (C.fnT x))).run pins s σ H D I hh
        | true =>
          rw [hb] at sw
          simp only [Bool.and_eq_true, beq_iff_eq] at hb
          refine (ps_setLc (te := tX X.K E EWF (kE Φ elt) (evE Φ elt)) (tt := tT X.K E EWF (evC Φ cc)) (g := tG X.K t) C.calm C.nd hi hb.1.1 sw (sndI it C.toCn _ _ h4) (blkOk_by h1) (fun s H A cl fp => sndG (C.toCn.blk s H _ A cl fp) (fun x hx => hx) t _ h2) (fun s H A cl fp => sndC cc (C.toCn.blk s H _ A cl fp) _ h5)
            (fun s H A cl fp => sndE elt (C.toCn.blk s H _ A cl fp) _ h7) (folded_ok h8)).run pins s σ H D I ?_
          exact lc_go (wi := tIt X.K E EW false (evI Φ it)) h6 (fun i hi => by simpa using List.all_eq_true.mp h3 i hi) σ H _ hh
      · cases h
    | _ =>
      exfalso
      unfold chkE at h
      split at h <;> first | (cases h; done) | exact hc rfl
mutual
theorem sndS : ∀ (c : CS) {X : Cx} {EW : WX} (C : Cs T Φ E k X EW) (s : Stmt), chkS T Φ X.N X.env.scope c s = true → PS X s (tSt X.K E EW (evS Φ c))
  | .set i e, X, EW, C, s, h => by
    unfold chkS at h
    split at h
    · simp only [Bool.and_eq_true, decide_eq_true_eq] at h
      exact t_set h.1.2 (set_ps e C h.1.1.1 h.1.1.2 h.2)
    · cases h
  | .setO i e, X, EW, C, s, h => by
    unfold chkS at h
    split at h
    · simp only [Bool.and_eq_true, decide_eq_true_eq] at h
      exact t_setO h.1.2 h.1.1.1 (set_ps e C h.1.1.1 h.1.1.2 h.2)
    · cases h
  | .setT t e, X, EW, C, s, h => by
    unfold chkS at h
    split at h
    · simp only [Bool.and_eq_true, decide_eq_true_eq] at h
      obtain ⟨⟨⟨⟨⟨h1, h2⟩, h3⟩, h4⟩, h5⟩, h6⟩ := h
      exact t_setT h5 (sndE e C.toCn _ h6) (sndG C.toCn (fun x _ => C.fnT x) t _ h4) (swaps_ok h3) (swst_ok h2) (by rw [assignEach_cons h1]; rfl)
    · cases h
  | .exp e, X, EW, C, s, h => by
    unfold chkS at h
    split at h
    · simp only [Bool.and_eq_true] at h
      exact t_exp (sndE e C.toCn _ h.2) (swaps_ok h.1)
    · cases h
  | .app i e, X, EW, C, s, h => by
    unfold chkS at h
    split at h
    · simp only [varB, Bool.and_eq_true, decide_eq_true_eq] at h
      obtain ⟨⟨⟨⟨⟨rfl, ⟨⟨v1, v2⟩, v3⟩⟩, h3⟩, h4⟩, h5⟩, h6⟩ := h
      exact t_app h5 (pe_var v1 (vis_of v2) (okN_of v3).1 (okN_of v3).2.1) (sndE e C.toCn _ h6) (starEach_cons h4) h3
    · cases h
  | .mth m i l, X, EW, C, s, h => by
    unfold chkS at h
    split at h
    · rename_i x xp n ap es cp pos
      simp only [varB, Bool.and_eq_true, decide_eq_true_eq] at h
      obtain ⟨⟨⟨⟨rfl, ⟨⟨v1, v2⟩, v3⟩⟩, h3⟩, h4⟩, h5⟩ := h
      have hx := pe_var (pos := xp) v1 (vis_of v2) (okN_of v3).1 (okN_of v3).2.1
      cases es with
      | nil =>
        cases l with
        | nil => exact t_mth0 hx h3
        | cons _ _ => unfold chkL at h5; cases h5
      | cons e es =>
        obtain ⟨s1, l', s2⟩ := chkL_star1 h5
        refine t_mth hx (sndL l C.toCn m.stg _ h5) ?_ (starEach_cons s1) (chkL_star s2) h3
        rw [List.length_cons] at h4
        have a1 : (backTo cp (starEach (e :: es) X.env)).all (fun x => !x.1) = true := by
          have := chkL_star (env := X.env) (pos := cp) h5
          rw [List.all_eq_not_any_not]
          simpa using this
        have a2 : (e :: es).length + ([] : List Keyword).length + (if ([] : List Keyword).isEmpty then 0 else 1) < 30 := by
          simp only [List.length_cons, List.length_nil, List.isEmpty_nil, if_true]; omega
        rw [a1, decide_eq_true a2]
        rfl
    · cases h
  | .six i j e, X, EW, C, s, h => by
    unfold chkS at h
    split at h
    · simp only [varB, Bool.and_eq_true, decide_eq_true_eq] at h
      obtain ⟨⟨⟨⟨⟨⟨⟨v1, v2⟩, v3⟩, h2⟩, h3⟩, h4⟩, h5⟩, h6⟩ := h
      exact t_six h4 (pe_var v1 (vis_of v2) (okN_of v3).1 (okN_of v3).2.1) (sndE e C.toCn _ h6) (sndE j C.toCn _ h5) (by rw [swapsWithSole]; exact swaps_ok h3) swst_sub (asg_sub h2)
    · cases h
  | .sip i j e, X, EW, C, s, h => by
    unfold chkS at h
    split at h
    · simp only [varB, Bool.and_eq_true, decide_eq_true_eq] at h
      obtain ⟨⟨⟨⟨⟨⟨⟨v1, v2⟩, v3⟩, h2⟩, h3⟩, h4⟩, h5⟩, h6⟩ := h
      exact t_sip h4 (pe_var v1 (vis_of v2) (okN_of v3).1 (okN_of v3).2.1) (sndE e C.toCn _ h6) (sndE j C.toCn _ h5) (by rw [swapsWithSole]; exact swaps_ok h3) swst_sub (asg_sub h2)
    · cases h
  | .ret e, X, EW, C, s, h => by
    unfold chkS at h
    split at h
    · simp only [Bool.and_eq_true, Bool.or_eq_true, decide_eq_true_eq] at h
      cases hb : isBor e with
      | true =>
        cases e <;> first | (simp [isBor] at hb; done) | skip
        have h2 := h.2
        unfold chkE at h2
        split at h2
        · simp only [varB, Bool.and_eq_true, decide_eq_true_eq] at h2
          exact t_retO (pe_var h2.1.1 (vis_of h2.1.2) (okN_of h2.2).1 (okN_of h2.2).2.1)
        · cases h2
      | false =>
        rw [hb] at h
        have hk : 1 ≤ kE Φ e := h.1.elim (fun z => by cases z) id
        exact t_ret hk rfl hb (sndE e C.toCn _ h.2)
    · cases h
  | .retN, X, EW, C, s, h => by
    unfold chkS at h
    split at h
    · exact t_retN
    · cases h
  | .ife c a b, X, EW, C, s, h => by
    unfold chkS at h
    split at h
    · simp only [Bool.and_eq_true] at h
      exact t_ife (sndT c C.toCn _ h.1.1.2 h.1.1.1) (sndBk a C _ h.1.2) (sndBk b C _ h.2)
    · cases h
  | .forr t it b, X, EW, C, s, h => by
    unfold chkS at h
    split at h
    · simp only [Bool.and_eq_true] at h
      exact t_for C.own C.calm (sndIs it C.toCn _ _ h.1.1.1) (sndG C.toCn (fun x _ => C.fnT x) t _ h.1.1.2) (sndBk b C _ h.2) (folded_ok h.1.2)
    · cases h
  | .whl n c b, X, EW, C, s, h => by
    unfold chkS at h
    split at h
    · simp only [Bool.and_eq_true] at h
      exact t_whl C.own (sndT c C.toCn _ h.1.2 h.1.1) (sndBk b C _ h.2)
    · cases h
  | .rai x l, X, EW, C, s, h => by
    unfold chkS at h
    split at h
    · rename_i y p es cp pos
      simp only [Bool.and_eq_true, decide_eq_true_eq] at h
      obtain ⟨⟨⟨⟨h1, h2⟩, h3⟩, h4⟩, h5⟩ := h
      cases es with
      | nil => cases h4
      | cons e es =>
        obtain ⟨s1, l', s2⟩ := chkL_star1 h5
        exact C.rai x y h1 (gl_of h2) (okN_of h3).1 e es l p cp pos (sndL l C.toCn true _ h5) (starEach_cons s1) (fun q => chkL_star s2)
    · cases h
  | .feed i j, X, EW, C, s, h => by
    unfold chkS at h
    split at h
    · simp only [varB, Bool.and_eq_true, decide_eq_true_eq] at h
      obtain ⟨⟨⟨⟨⟨⟨h1, h2⟩, rfl⟩, h4⟩, ⟨⟨v1, v2⟩, v3⟩⟩, rfl⟩, rfl⟩ := h
      obtain ⟨g1, g2, g3, g4⟩ := c_blt C.toCn h4
      exact t_feed g1 g2 (pe_var v1 (vis_of v2) (okN_of v3).1 (okN_of v3).2.1) fun he => ps_set C.nd h1 (loc_of h2) he (swaps_ok rfl) (.inl (C.fnT _))
    · cases h
  | .pas, X, EW, C, s, h => by
    unfold chkS at h
    split at h
    · exact t_pas
    · cases h
  | .brk, X, EW, C, s, h => by
    unfold chkS at h
    split at h
    · exact t_brk
    · cases h
  | .cnt, X, EW, C, s, h => by
    unfold chkS at h
    split at h
    · exact t_cnt
    · cases h
theorem sndBk : ∀ (c : CB) {X : Cx} {EW : WX} (C : Cs T Φ E k X EW) (ss : List Stmt), chkB T Φ X.N X.env.scope c ss = true → PSs X ss (tSt X.K E EW (evBk Φ c))
  | .nil, X, EW, C, ss, h => by
    unfold chkB at h
    cases ss with
    | nil => exact t_nil
    | cons _ _ => simp at h
  | .cons s r, X, EW, C, ss, h => by
    unfold chkB at h
    split at h
    · simp only [Bool.and_eq_true] at h
      exact t_cons (sndS s C _ h.1) (sndBk r C _ h.2)
    · cases h
  | .frz i r, X, EW, C, ss, h => by
    unfold chkB at h
    exact t_frz (sndBk r C _ h)
  | .drp i r, X, EW, C, ss, h => by
    unfold chkB at h
    exact t_drp (sndBk r C _ h)
end
end
/-! ### a def -/
theorem XRep.less {E : XT} {K : PySem.W.Frag} {μ : List Addr} {W W' : Addr → Prop} {H : Hp} {x : Exn} {c : Value} {dd : Option Addr} (h : XRep E K μ W H x c dd) (w : ∀ b, W' b → W b) : XRep E K μ W' H x c dd := by
  unfold XRep at h ⊢
  refine ⟨h.1, ?_⟩
  have h2 := h.2
  split at h2
  · exact h2
  · obtain ⟨d, vs, e1, e2, e3⟩ := h2
    exact ⟨d, vs, e1, e2, e3.less w⟩
theorem bd_start {K : PySem.W.Frag} {W Ws : Addr → Prop} {μ : List Addr} {S : Store} {H : Hp} {ds : List D} {vs : List V} {N : List Str} (sub : ∀ b, W b → Ws b) (dom : ∀ b, Ws b → H b ≠ none) (st : SOk K μ Ws H S) (r : Rps K μ W H ds vs) : Bd K ⟨W, Ws, μ, H, []⟩ μ S (fun _ => none) (L2.start N vs) (ds.map .sh ++ List.replicate (N.length - ds.length) .u) H := by
  have w : ∀ {W : Addr → Prop} b, Wo W (fun _ => none) b → W b := fun {W} b z => by
    rcases z with z | ⟨i, z⟩
    · exact z
    · cases z
  have hl := r.length
  refine ⟨sub, dom, st.less w, ?_, fun _ _ => rfl, (fun _ _ _ h => nomatch h), (fun _ _ h => nomatch h), (fun _ _ h => nomatch h), .refl, .refl, (fun _ h => nomatch h), fun i c h => ?_⟩
  · simp [L2.start, hl]
  · by_cases hi : i < ds.length
    · rw [List.getElem?_append_left (by simpa using hi), List.getElem?_map] at h
      obtain ⟨d, hd, rfl⟩ := Option.map_eq_some_iff.mp h
      obtain ⟨v, h1, h2⟩ := r.get hd
      refine ⟨rfl, v, ?_, h2.less w⟩
      unfold L2.start
      rw [List.getElem?_append_left (by simp; omega), List.getElem?_map, h1]
      rfl
    · rw [List.getElem?_append_right (by simp; omega)] at h
      have := List.mem_of_getElem? h
      rw [List.mem_replicate] at this
      rw [this.2]
      rfl
section
variable {P : Program} {w : World} {K : PySem.W.Frag} {mg : Str → Option Value} {base : Heap} {T : Tab} {Φ : Nat → Fn} {E : XT} {k : Nat}
/-- what the defs, the constants, the built-ins and the errors of the program keep, up to level k -/
structure Env1 (P : Program) (w : World) (K : PySem.W.Frag) (mg : Str → Option Value) (base : Heap) (T : Tab) (Φ : Nat → Fn) (E : XT) (k : Nat) : Prop where
  fns : ∀ f x, T.fns[f]? = some x → ∃ a fd ps, mg x = some (.ref a) ∧ PySem.W.keepIn K (.ref a) = true ∧ L2.Binds K fd ps [] ∧ FnOk P w K mg base (L2.CX P w) k a fd ps (spD E K (Φ f))
  glb : ∀ (j : Nat) x d, T.glb[j]? = some (x, d) → ∃ u v, mg x = some u ∧ RelV v u ∧ ∀ μ W H, Rp K μ W H d v
  free : ∀ x, x ∈ T.free → mg x = none
  rai : ∀ (X : Cx) (EW : WX), X.prog = P → X.w = w → X.K = K → X.mg = mg → X.base = base → X.calm = true → Room k X.A → Takes X EW → ∀ (x : Nat) (y : Str), T.exc[x]? = some y → Gl X y → (y == ("__debug__" : Str)) = false → ∀ (e : Expr) (es : List Expr) (l : CL) (p cp pos : Pos), PA X (e :: es) (tL X.K E EW true (evL Φ l)) → starEach (e :: es) X.env = (false, eval e X.env) :: starEach es X.env → (∀ q, (backTo q (starEach es X.env)).any (·.1) = false) →
    PS X (.Raise (some (.Call (.Name y p) (e :: es) [] cp)) none pos) (tSt X.K E EW (evS Φ (.rai x l)))
theorem def_ok (G : Env1 P w K mg base T Φ E k) {x qual : Str} {st : Stmt} {f : Addr} {fd : FuncData} {dvs : List V} {kws : List (Str × V)} {N ps : List Str} {fr : Bool} {c : CB} (F : FunD K x qual (defArgs st) (defBody st) (defScope st) dvs kws f fd) (Sc : FnScope N ps (defScope st)) (hc : chkB T Φ N (defScope st) c (defBody st) = true) :
    FnOk P w K mg base (L2.CX P w) (k + 1) f fd ps (spD E K ⟨fr, runDef Φ fr ps.length N.length c⟩) := by
  refine F.ok Sc (fun vs H Q EX h => ?_) (fun cdv A outer s H vs Q EX hr h => ?_)
  · obtain ⟨W, Ws, μ, S, ds, _, _, _, r, h⟩ := h
    rw [← r.length]
    simp only [runDef] at h
    split at h
    · rename_i h0
      split at h0
      · assumption
      · cases h0
    · rename_i h0
      split at h0
      · assumption
      · cases h0
    · exact h.elim
  · obtain ⟨W, Ws, μ, S, ds, sub, dom, so, r, h⟩ := h
    refine ⟨tSt K E (fun c d _ H => EX c d H) (evBk Φ c), ?_, ⟨W, Ws, μ, H, []⟩, μ, S, fun _ => none, ds.map .sh ++ List.replicate (N.length - ds.length) .u, bd_start sub dom so r, ?_⟩
    · have C : Cs T Φ E k (cxOf (L2.CX P w) P w K mg base N qual (defScope st) f cdv A outer s H EX) (fun c d _ H => EX c d H) :=
        { nd := Sc.nd, calm := rfl, room := hr, tk := takes_of rfl rfl rfl rfl, own := passes_of rfl, fns := G.fns, glb := G.glb, free := G.free, fnT := fun _ => rfl,
          rai := G.rai _ _ rfl rfl rfl rfl rfl rfl hr (takes_of rfl rfl rfl rfl) }
      exact sndBk c C _ hc
    · have hlen : ds.length = ps.length := by
        simp only [runDef] at h
        by_cases q : ds.length = ps.length
        · exact q
        · rw [if_neg q] at h; exact h.elim
      have ww : ∀ {W : Addr → Prop} {os : Nat → Option Addr} b, W b → Wo W os b := fun b z => .inl z
      simp only [runDef, if_pos hlen] at h
      cases e : evBk Φ c (ds.map .sh ++ List.replicate (N.length - ds.length) .u) S with
      | bad => rw [e] at h; exact h.elim
      | err y S' =>
        rw [e] at h
        exact fun c dd σ H' μ' os ρ B xr => h c dd H' μ' B.ext B.gr (B.st.less ww) (xr.less ww)
      | ok fl S' =>
        rw [e] at h
        cases fl with
        | nx ρ => exact fun σ H' μ' os B => h .non H' μ' B.ext B.gr (B.st.less ww) ⟨.non, fun _ => ⟨.triv (by intro _ z; cases z), fun _ _ z => nomatch z⟩⟩
        | bk ρ => exact h.elim
        | ct ρ => exact h.elim
        | rt f0 d =>
          simp only [endD] at h
          split at h
          · rename_i h0
            split at h0
            · cases h0
            · rename_i q
              cases h0
              intro v H' μ' x g s rr
              refine h v H' μ' x g s ⟨rr.1, fun z => rr.2 ?_⟩
              have z' : fr = true := z
              rw [z', Bool.true_and, Bool.not_eq_true'] at q
              simpa using q
          · rename_i h0; split at h0 <;> cases h0
          · exact h.elim
end
end RH

set_option Elab.async false
set_option linter.all false
set_option maxRecDepth 100000
/-! RHProg: a program of defs, run by levels; a law's end. -/
namespace RH
open PySem PySem.Spec PyProof.Rows L2
/-- a def of the top: its name, its place, its parameters' number, its slots' names, whether it hands back a new list, its code -/
structure Df where
  name : Str
  at_ : Nat
  np : Nat
  N : List Str
  fr : Bool
  code : CB
def Df.ps (d : Df) : List Str := d.N.take d.np
def frOf (tab : List Df) (f : Nat) : Bool := match tab[f]? with
  | some d => d.fr
  | none => false
def mRun (tab : List Df) : Nat → Nat → List D → Store → Res D
  | 0, _, _, _ => .bad
  | k + 1, f, ds, S => match tab[f]? with
    | some d => runDef (fun g => ⟨frOf tab g, mRun tab k g⟩) d.fr d.np d.N.length d.code ds S
    | none => .bad
/-- the defs at level k -/
def Phi (tab : List Df) (k : Nat) (f : Nat) : Fn := ⟨frOf tab f, mRun tab k f⟩
theorem mRun_succ {tab : List Df} {k f : Nat} {d : Df} (h : tab[f]? = some d) (ds : List D) (S : Store) : (Phi tab (k + 1) f).m ds S = runDef (Phi tab k) d.fr d.np d.N.length d.code ds S := by
  show mRun tab (k + 1) f ds S = _
  rw [mRun, h]
  rfl
def topOf (P : Program) (i : Nat) : Stmt := P.main.body.getD i (.Pass ⟨0, 0, 0, 0⟩)
/-- what is looked at of a def -/
structure Good (P : Program) (T : Tab) (tab : List Df) (d : Df) : Prop where
  sc : FnScope d.N d.ps (defScope (topOf P d.at_))
  np : d.ps.length = d.np
  bd : ∀ (kV doc pm : Value) (an : Option Addr) (cdv ct : Value) (us : List Value), us.length = d.ps.length → bindArgs (PySem.W.fnOf d.name d.name (defArgs (topOf P d.at_)) (defBody (topOf P d.at_)) (defScope (topOf P d.at_)) .none kV doc pm an cdv ct) ⟨us, []⟩ = pure (d.ps.zip us)
  chk : ∀ k, chkB T (Phi tab k) d.N (defScope (topOf P d.at_)) d.code (defBody (topOf P d.at_)) = true
def mkD (P : Program) (d : Df) : He.DefD := ⟨(d.name, none), d.name, d.name, defArgs (topOf P d.at_), defBody (topOf P d.at_), defScope (topOf P d.at_), [], []⟩
def faG : Str × D → List He.Fa
  | (x, .int i) => [.int x i]
  | (x, .str l) => [.str x ⟨l.toArray⟩]
  | _ => []
def okG : Str × D → Bool
  | (_, .int _) => true
  | (_, .str l) => ascB l
  | _ => false
def faOf (T : Tab) (tab : List Df) : List He.Fa := (tab.map fun d => .glo d.name) ++ T.free.map .free ++ T.glb.flatMap faG
theorem fact_mem {fa : List He.Fa} {fn : List He.DefD} {K : PySem.W.Frag} (c : He.SaysD fa fn K) {f : He.Fa} (h : f ∈ fa) : f.ok K = true := by
  obtain ⟨i, hi⟩ := List.mem_iff_getElem?.mp h
  exact c.fact i hi
section
variable {P : Program} {T : Tab} {tab : List Df} {w : World} {K : PySem.W.Frag} {h base : Heap} {mg : Str → Option Value} {E : XT}
theorem env_ok (X : K.In h) (G : h.Ns mainGlobals mg) (c : He.SaysD (faOf T tab) (tab.map (mkD P)) K) (hT : T.fns = tab.map (·.name)) (hg : T.glb.all okG = true) (he : T.exc = []) (good : ∀ d, d ∈ tab → Good P T tab d) :
    ∀ k, Env1 P w K mg base T (Phi tab k) E k := by
  have glb : ∀ (j : Nat) x d, T.glb[j]? = some (x, d) → ∃ u v, mg x = some u ∧ RelV v u ∧ ∀ μ W H, Rp K μ W H d v := fun j x d hj => by
    have m := List.mem_of_getElem? hj
    have o := List.all_eq_true.mp hg _ m
    cases d with
    | int i =>
      obtain ⟨t, e⟩ := He.int_ok X G (fact_mem c (f := .int x i) (by simp only [faOf, List.mem_append, List.mem_flatMap]; exact .inr ⟨_, m, by simp [faG]⟩))
      exact ⟨_, .int i, e, ⟨t, rfl⟩, fun _ _ _ => .int i⟩
    | str l =>
      obtain ⟨t, e⟩ := He.str_ok X G (fact_mem c (f := .str x ⟨l.toArray⟩) (by simp only [faOf, List.mem_append, List.mem_flatMap]; exact .inr ⟨_, m, by simp [faG]⟩))
      exact ⟨_, .str ⟨l.toArray⟩, e, ⟨t, rfl⟩, fun _ _ _ => .str (asc_of o)⟩
    | _ => cases o
  have free : ∀ x, x ∈ T.free → mg x = none := fun x hx => He.free_ok X G (fact_mem c (f := .free x) (by simp only [faOf, List.mem_append]; exact .inl (.inr (List.mem_map.mpr ⟨x, hx, rfl⟩))))
  have rai : ∀ {α : Prop} (x : Nat) (y : Str), T.exc[x]? = some y → α := fun x y h => by rw [he] at h; cases h
  have fd : ∀ f x, T.fns[f]? = some x → ∃ d fd, tab[f]? = some d ∧ d.name = x ∧ d ∈ tab ∧ mg x = some (.ref (He.fAd K (x, none))) ∧ FunD K x x (defArgs (topOf P d.at_)) (defBody (topOf P d.at_)) (defScope (topOf P d.at_)) [] [] (He.fAd K (x, none)) fd ∧ L2.Binds K fd d.ps [] := fun f x hf => by
    rw [hT, List.getElem?_map] at hf
    obtain ⟨d, hd, rfl⟩ := Option.map_eq_some_iff.mp hf
    have m := List.mem_of_getElem? hd
    obtain ⟨fd, F⟩ := c.def_ f (d := mkD P d) (by rw [List.getElem?_map, hd]; rfl)
    have g : mg d.name = some (.ref (He.fAd K (d.name, none))) := He.glo_ok X G (fact_mem c (f := .glo d.name) (by simp only [faOf, List.mem_append]; exact .inl (.inl (List.mem_map.mpr ⟨d, m, rfl⟩))))
    have F' : FunD K d.name d.name (defArgs (topOf P d.at_)) (defBody (topOf P d.at_)) (defScope (topOf P d.at_)) [] [] (He.fAd K (d.name, none)) fd := F
    exact ⟨d, fd, hd, rfl, m, g, F', F'.bindsN (good d m).bd⟩
  intro k
  induction k with
  | zero =>
    refine ⟨fun f x hf => ?_, glb, free, fun _ _ _ _ _ _ _ _ _ _ x y h => rai x y h⟩
    obtain ⟨d, fd, h1, h2, h3, h4, h5, h6⟩ := fd f x hf
    refine ⟨_, fd, d.ps, h4, h5.kp, h6, ⟨fun vs H Q E z => ?_, fun A outer s H args us vs Q E _ _ _ _ z => ?_⟩⟩
    · obtain ⟨_, _, _, _, _, _, _, _, _, z⟩ := z; exact z.elim
    · obtain ⟨_, _, _, _, _, _, _, _, _, z⟩ := z; exact z.elim
  | succ k ih =>
    refine ⟨fun f x hf => ?_, glb, free, fun _ _ _ _ _ _ _ _ _ _ x y h => rai x y h⟩
    obtain ⟨d, fd, h1, h2, h3, h4, h5, h6⟩ := fd f x hf
    refine ⟨_, fd, d.ps, h4, h5.kp, h6, ?_⟩
    have g := good d h3
    have e : Phi tab (k + 1) f = ⟨d.fr, runDef (Phi tab k) d.fr d.ps.length d.N.length d.code⟩ := by
      have : (Phi tab (k + 1) f).m = runDef (Phi tab k) d.fr d.np d.N.length d.code := by
        funext ds S; exact mRun_succ h1 ds S
      rw [g.np, ← this]
      have e2 : (Phi tab (k + 1) f).fr = d.fr := by show frOf tab f = _; rw [frOf, h1]
      rw [← e2]
    rw [e]
    exact def_ok ih h5 g.sc (g.chk k)
theorem only_scr {H : Hp} {a : Addr} {ns : List Int} (o : L2.Only H) (h : SqL K H a (ns.map V.int)) {μ : List Addr} {W : Addr → Prop} : Rp K μ W H (.scr ns) (.ref a) := by
  refine .scr ?_
  rcases h with (h | ⟨o, h⟩) | h
  · rcases o a with z | ⟨_, _, z⟩ <;> (rw [h] at z; cases z)
  · exact .inl ⟨o, h⟩
  · exact .inr (.inr h)
/-- what a law's run is asked -/
theorem law_sp {f : Fn} {H : Hp} {a : Addr} {ns : List Int} (o : L2.Only H) (h : SqL K H a (ns.map V.int)) (run : ∃ S, f.m [.scr ns] [] = .ok (.bl true) S) : spD E K f [.ref a] H (fun v _ => v = .bl true) fun _ _ _ => False := by
  obtain ⟨S, e⟩ := run
  refine ⟨fun _ => False, fun _ => False, [], [], [.scr ns], fun _ h => h, (fun _ h => h.elim), ⟨rfl, List.nodup_nil, (fun _ h => by cases h), fun n a ds h => by cases h⟩, .cons (only_scr o h) .nil, ?_⟩
  rw [e]
  intro v H' μ' _ _ _ r
  cases r.1 with
  | bl => rfl
end
/-- THE END: a law whose run over D hands back True -/
theorem law_walk {l : PySem.W.OpenLaw} {q : Program} {loose : List Str} {XP : (Str → Option Value) → Heap → Prop} {d : DefRec} {T : Tab} {tab : List Df} {n k i j : Nat} {x : Str} {e : Df}
    (hn : l.most = some n) (hn2 : n ≤ sizeLine) (hdf : d.params.defaults = []) (hr : Room (k + 1) callerA) (hd : tab[i]? = some e) (hx : d.name = e.name) (hp : e.ps = [x]) (hT : T.fns = tab.map (·.name)) (hg : T.glb.all okG = true) (he : T.exc = [])
    (good : ∀ d, d ∈ tab → Good l.prog T tab d) (run : ∀ ns : List Int, ns.length ≤ n → ∃ S, (Phi tab (k + 1) i).m [.scr ns] [] = .ok (.bl true) S) :
    PySem.W.WalkO q loose XP (He.hookD j (faOf T tab) (tab.map (mkD l.prog))).says l.row.toRowW d [] (fun f vs => PySem.call f vs) := by
  refine Att.attach_call hn hdf fun w s₀ s₁ mg mb fa o pm cd doc a vs ns G Y ho hd' hcd hmg hobj hints hlen hgn => ?_
  obtain ⟨K, KX, c⟩ := Y
  have m := List.mem_of_getElem? hd
  obtain ⟨fd, F⟩ := c.def_ i (d := mkD l.prog e) (by rw [List.getElem?_map, hd]; rfl)
  have F' : FunD K e.name e.name (defArgs (topOf l.prog e.at_)) (defBody (topOf l.prog e.at_)) (defScope (topOf l.prog e.at_)) [] [] (He.fAd K (e.name, none)) fd := F
  have g : mg e.name = some (.ref (He.fAd K (e.name, none))) := He.glo_ok KX G.T.g (fact_mem c (f := .glo e.name) (by simp only [faOf, List.mem_append]; exact .inl (.inl (List.mem_map.mpr ⟨e, m, rfl⟩))))
  have z := hmg.symm.trans ((congrArg mg hx).trans g)
  cases z
  have b := F'.bindsA (good e m).bd
  rw [hp] at b
  have ge := good e m
  have e1 : Phi tab (k + 1) i = ⟨e.fr, runDef (Phi tab k) e.fr [x].length e.N.length e.code⟩ := by
    have : (Phi tab (k + 1) i).m = runDef (Phi tab k) e.fr e.np e.N.length e.code := by
      funext ds S; exact mRun_succ hd ds S
    rw [← hp, ge.np, ← this]
    have e2 : (Phi tab (k + 1) i).fr = e.fr := by show frOf tab i = _; rw [frOf, hd]
    rw [← e2]
  refine law_call (K := K) (CX := L2.CX l.prog w) (sp := spD (XT.mk (fun _ => 0) (fun _ => [])) K (Phi tab (k + 1) i)) KX G.T.g G.T.b G.T.builtins G.T.nolimit hgn hobj hints (Nat.le_trans hlen hn2) hr ?_ (fun s u => b s [u] rfl) (fun H hO hS => law_sp hO hS (run ns hlen)) fun H e s' z => ?_
  · intro base _ _
    rw [e1]
    have sc := ge.sc
    rw [hp] at sc
    exact def_ok (env_ok (w := w) (base := base) KX G.T.g c hT hg he good k) F' sc (ge.chk k)
  · obtain ⟨_, _, _, _, _, _, _, _, _, _, _, _, z⟩ := z
    exact z
end RH

set_option Elab.async false
set_option linter.all false
set_option maxRecDepth 100000
/-! RHPure: what a run over D does: weakest preconditions. -/
namespace RH
open PySem PySem.Spec PyProof.Rows L2
def wp {α : Type} (r : Res α) (P : α → Store → Prop) : Prop := match r with
  | .ok a S => P a S
  | _ => False
def wo {α : Type} (o : Option α) (P : α → Prop) : Prop := match o with
  | some a => P a
  | none => False
section
variable {α β : Type} {P : β → Store → Prop}
@[simp] theorem wp_ok {a : β} {S : Store} : wp (.ok a S) P = P a S := rfl
@[simp] theorem wp_bad : wp (.bad : Res β) P = False := rfl
@[simp] theorem wp_err {x : Exn} {S : Store} : wp (.err x S : Res β) P = False := rfl
@[simp] theorem wp_bind {r : Res α} {f : α → Store → Res β} : wp (r.bind f) P = wp r (fun a S => wp (f a S) P) := by cases r <;> rfl
@[simp] theorem wp_ofO {o : Option β} {S : Store} : wp (ofO o S) P = wo o (fun a => P a S) := by cases o <;> rfl
@[simp] theorem wp_ite {c : Prop} [Decidable c] {a b : Res β} : wp (if c then a else b) P = if c then wp a P else wp b P := by split <;> rfl
@[simp] theorem wo_some {a : α} {Q : α → Prop} : wo (some a) Q = Q a := rfl
@[simp] theorem wo_none {Q : α → Prop} : wo (none : Option α) Q = False := rfl
@[simp] theorem wo_map {γ : Type} {o : Option α} {f : α → γ} {Q : γ → Prop} : wo (o.map f) Q = wo o (fun a => Q (f a)) := by cases o <;> rfl
@[simp] theorem wo_ite {c : Prop} [Decidable c] {a b : Option α} {Q : α → Prop} : wo (if c then a else b) Q = if c then wo a Q else wo b Q := by split <;> rfl
theorem wp_mono {r : Res β} {Q : β → Store → Prop} (h : wp r P) (i : ∀ a S, P a S → Q a S) : wp r Q := by
  cases r with
  | ok a S => exact i a S h
  | err _ _ => exact h
  | bad => exact h
theorem wp_of {r : Res β} (h : wp r P) : ∃ a S, r = .ok a S ∧ P a S := by
  cases r with
  | ok a S => exact ⟨a, S, rfl, h⟩
  | err _ _ => exact h.elim
  | bad => exact h.elim
theorem wo_of {o : Option α} {Q : α → Prop} (h : wo o Q) : ∃ a, o = some a ∧ Q a := by
  cases o with
  | some a => exact ⟨a, rfl, h⟩
  | none => exact h.elim
/-- the run's answer is known -/
theorem wp_eq {r : Res β} {a : β} {S : Store} (e : r = .ok a S) (h : P a S) : wp r P := by rw [e]; exact h
theorem wo_eq {o : Option α} {a : α} {Q : α → Prop} (e : o = some a) (h : Q a) : wo o Q := by rw [e]; exact h
end
/-- a cell's data -/
def shD (c : Option Cell) (P : D → Prop) : Prop := match c with
  | some (.sh d) => P d
  | _ => False
def owD (c : Option Cell) (P : List D → Prop) : Prop := match c with
  | some (.ow d) => P d
  | _ => False
@[simp] theorem shD_sh {d : D} {P : D → Prop} : shD (some (.sh d)) P = P d := rfl
@[simp] theorem owD_ow {d : List D} {P : List D → Prop} : owD (some (.ow d)) P = P d := rfl
/-- behind a statement -/
def nxt (go : List Cell → Store → Out) (P : Flw → Store → Prop) : Flw → Store → Prop
  | .nx ρ, S => wp (go ρ S) P
  | f, S => P f S
@[simp] theorem nxt_nx {go : List Cell → Store → Out} {P : Flw → Store → Prop} {ρ : List Cell} {S : Store} : nxt go P (.nx ρ) S = wp (go ρ S) P := rfl
@[simp] theorem nxt_rt {go : List Cell → Store → Out} {P : Flw → Store → Prop} {b : Bool} {d : D} {S : Store} : nxt go P (.rt b d) S = P (.rt b d) S := rfl
@[simp] theorem nxt_bk {go : List Cell → Store → Out} {P : Flw → Store → Prop} {ρ : List Cell} {S : Store} : nxt go P (.bk ρ) S = P (.bk ρ) S := rfl
@[simp] theorem nxt_ct {go : List Cell → Store → Out} {P : Flw → Store → Prop} {ρ : List Cell} {S : Store} : nxt go P (.ct ρ) S = P (.ct ρ) S := rfl
theorem wp_seqB {r : Out} {go : List Cell → Store → Out} {P : Flw → Store → Prop} : wp (seqB r go) P = wp r (nxt go P) := by
  cases r with
  | ok f S => cases f <;> rfl
  | err _ _ => rfl
  | bad => rfl
/-- behind a loop's body -/
def aft (go : List Cell → Store → Prop) (P : Flw → Store → Prop) : Flw → Store → Prop
  | .nx ρ, S => go ρ S
  | .ct ρ, S => go ρ S
  | .bk ρ, S => P (.nx ρ) S
  | .rt b d, S => P (.rt b d) S
@[simp] theorem aft_nx {go : List Cell → Store → Prop} {P : Flw → Store → Prop} {ρ : List Cell} {S : Store} : aft go P (.nx ρ) S = go ρ S := rfl
@[simp] theorem aft_ct {go : List Cell → Store → Prop} {P : Flw → Store → Prop} {ρ : List Cell} {S : Store} : aft go P (.ct ρ) S = go ρ S := rfl
@[simp] theorem aft_bk {go : List Cell → Store → Prop} {P : Flw → Store → Prop} {ρ : List Cell} {S : Store} : aft go P (.bk ρ) S = P (.nx ρ) S := rfl
@[simp] theorem aft_rt {go : List Cell → Store → Prop} {P : Flw → Store → Prop} {b : Bool} {d : D} {S : Store} : aft go P (.rt b d) S = P (.rt b d) S := rfl
theorem wp_after {r : Out} {go : List Cell → Store → Out} {P : Flw → Store → Prop} : wp (after r go) P = wp r (aft (fun ρ S => wp (go ρ S) P) P) := by
  cases r with
  | ok f S => cases f <;> rfl
  | err _ _ => rfl
  | bad => rfl
theorem wp_loopF {body : D → List Cell → Store → Out} {P : Flw → Store → Prop} (Inv : List D → List Cell → Store → Prop) (he : ∀ ρ S, Inv [] ρ S → P (.nx ρ) S)
    (hs : ∀ d ds ρ S, Inv (d :: ds) ρ S → wp (body d ρ S) (aft (Inv ds) P)) : ∀ ds ρ S, Inv ds ρ S → wp (loopF body ds ρ S) P
  | [], ρ, S, h => he ρ S h
  | d :: ds, ρ, S, h => by
    rw [loopF, wp_after]
    refine wp_mono (hs d ds ρ S h) fun f S' h => ?_
    cases f with
    | nx ρ' => exact wp_loopF Inv he hs ds ρ' S' h
    | ct ρ' => exact wp_loopF Inv he hs ds ρ' S' h
    | bk ρ' => exact h
    | rt b d => exact h
theorem wp_loopW {c : List Cell → Store → Res Bool} {body : List Cell → Store → Out} {P : Flw → Store → Prop} (Inv : Nat → List Cell → Store → Prop)
    (hs : ∀ n ρ S, Inv n ρ S → wp (c ρ S) (fun k S => if k then ∃ m, n = m + 1 ∧ wp (body ρ S) (aft (Inv m) P) else P (.nx ρ) S)) : ∀ n m ρ S, n < m → Inv n ρ S → wp (loopW c body m ρ S) P
  | n, 0, ρ, S, h, _ => by omega
  | n, m + 1, ρ, S, hm, h => by
    rw [loopW, wp_bind]
    refine wp_mono (hs n ρ S h) fun k S' h => ?_
    cases k with
    | false => exact h
    | true =>
      obtain ⟨n', rfl, hb⟩ := h
      show wp (after (body ρ S') _) P
      rw [wp_after]
      refine wp_mono hb fun f S' h => ?_
      cases f with
      | nx ρ' => exact wp_loopW Inv hs n' m ρ' S' (by omega) h
      | ct ρ' => exact wp_loopW Inv hs n' m ρ' S' (by omega) h
      | bk ρ' => exact h
      | rt b d => exact h
theorem wp_compL {step : D → Store → Res (Option D)} {P : D → Store → Prop} (Inv : List D → Store → List D → Prop) (he : ∀ S acc, Inv [] S acc → P (.lst acc) S)
    (hs : ∀ d ds S acc, Inv (d :: ds) S acc → wp (step d S) (fun o S' => match o with | some y => acc.length < 16777216 ∧ Inv ds S' (acc ++ [y]) | none => Inv ds S' acc)) : ∀ ds S acc, Inv ds S acc → wp (compL step ds S acc) P
  | [], S, acc, h => he S acc h
  | d :: ds, S, acc, h => by
    obtain ⟨o, S', e, h⟩ := wp_of (hs d ds S acc h)
    rw [compL, e]
    cases o with
    | some y =>
      show wp (if acc.length < 16777216 then _ else _) P
      rw [if_pos h.1]
      exact wp_compL Inv he hs ds S' _ h.2
    | none => exact wp_compL Inv he hs ds S' _ h
/-- a comprehension that changes nothing -/
theorem compL_pure {step : D → Store → Res (Option D)} {g : D → Option D} {S : Store} : ∀ (ds acc : List D), (∀ d, d ∈ ds → step d S = .ok (g d) S) → acc.length + ds.length ≤ 16777216 → compL step ds S acc = .ok (.lst (acc ++ ds.filterMap g)) S
  | [], acc, _, _ => by simp [compL]
  | d :: ds, acc, h, hl => by
    rw [compL, h d (by simp)]
    rw [List.length_cons] at hl
    cases e : g d with
    | some y =>
      show (if acc.length < 16777216 then _ else _) = _
      rw [if_pos (by omega), compL_pure ds (acc ++ [y]) (fun d hd => h d (List.mem_cons_of_mem _ hd)) (by simp; omega)]
      simp [e]
    | none =>
      show compL step ds S acc = _
      rw [compL_pure ds acc (fun d hd => h d (List.mem_cons_of_mem _ hd)) (by omega)]
      simp [e]
theorem compL_map {step : D → Store → Res (Option D)} {g : D → D} {S : Store} (ds : List D) (h : ∀ d, d ∈ ds → step d S = .ok (some (g d)) S) (hl : ds.length ≤ 16777216) : compL step ds S [] = .ok (.lst (ds.map g)) S := by
  rw [compL_pure (g := fun d => some (g d)) ds [] h (by simpa using hl)]
  simp
section
variable {Φ : Nat → Fn} {ρ : List Cell} {S : Store} {P : D → Store → Prop}
@[simp] theorem we_var {i : Nat} : wp (evE Φ (.var i) ρ S) P = shD ρ[i]? (fun d => P d S) := by
  unfold shD; rw [evE]; split <;> simp_all [wp]
@[simp] theorem we_bor {i : Nat} : wp (evE Φ (.bor i) ρ S) P = owD ρ[i]? (fun d => P (.lst d) S) := by
  unfold owD; rw [evE]; split <;> simp_all [wp]
@[simp] theorem we_lit {d : D} : wp (evE Φ (.lit d) ρ S) P = P d S := by rw [evE]; rfl
@[simp] theorem we_glb {j : Nat} {d : D} : wp (evE Φ (.glb j d) ρ S) P = P d S := by rw [evE]; rfl
@[simp] theorem we_bin {o : Bop} {a b : CE} : wp (evE Φ (.bin o a b) ρ S) P = wp (evE Φ a ρ S) (fun x S => wp (evE Φ b ρ S) (fun y S => wo (binD o x y) (fun z => P z S))) := by
  rw [evE]; simp only [wp_bind, wp_ofO]
@[simp] theorem we_neg {a : CE} : wp (evE Φ (.neg a) ρ S) P = wp (evE Φ a ρ S) (fun x S => wo (asI x) (fun i => P (.int (-i)) S)) := by
  rw [evE]; simp only [wp_bind, wp_ofO, wo_map]
@[simp] theorem we_cmp {o : Cop} {a b : CE} : wp (evE Φ (.cmp o a b) ρ S) P = wp (evE Φ a ρ S) (fun x S => wp (evE Φ b ρ S) (fun y S => wo (cmpB o x y) (fun z => P (.bl z) S))) := by
  rw [evE]; simp only [wp_bind, wp_ofO, cmpD, wo_map]
@[simp] theorem we_chn {o o' : Cop} {a b c : CE} : wp (evE Φ (.chn o o' a b c) ρ S) P = wp (evE Φ a ρ S) (fun x S => wp (evE Φ b ρ S) (fun y S => wo (cmpB o x y) (fun k => if k = true then wp (evE Φ c ρ S) (fun z S => wo (cmpB o' y z) (fun z => P (.bl z) S)) else P (.bl false) S))) := by
  rw [evE]; simp only [wp_bind, wp_ofO, cmpD, wo_map, wp_ite, wp_ok]
@[simp] theorem we_bop {n : Bool} {l : CL} : wp (evE Φ (.bop n l) ρ S) P = wp (evB Φ n l ρ S) P := by rw [evE]
@[simp] theorem we_nt {a : CE} : wp (evE Φ (.nt a) ρ S) P = wp (evE Φ a ρ S) (fun x S => wo (asB x) (fun b => P (.bl (!b)) S)) := by
  rw [evE]; simp only [wp_bind, wp_ofO, wo_map]
@[simp] theorem we_ife {c a b : CE} : wp (evE Φ (.ife c a b) ρ S) P = wp (evE Φ c ρ S) (fun x S => wo (asB x) (fun k => if k = true then wp (evE Φ a ρ S) P else wp (evE Φ b ρ S) P)) := by
  rw [evE]; simp only [wp_bind, wp_ofO, wp_ite]
@[simp] theorem we_tup {l : CL} : wp (evE Φ (.tup l) ρ S) P = wp (evL Φ l ρ S) (fun ds S => ds.length ≤ 16777216 ∧ P (.tup ds) S) := by
  rw [evE]; simp only [wp_bind, wp_ite, wp_ok, wp_bad]
  congr 1; funext ds S; by_cases h : ds.length ≤ 16777216 <;> simp [h]
@[simp] theorem we_lst {l : CL} : wp (evE Φ (.lst l) ρ S) P = wp (evL Φ l ρ S) (fun ds S => ds.length ≤ 16777216 ∧ P (.lst ds) S) := by
  rw [evE]; simp only [wp_bind, wp_ite, wp_ok, wp_bad]
  congr 1; funext ds S; by_cases h : ds.length ≤ 16777216 <;> simp [h]
@[simp] theorem we_idx {a b : CE} : wp (evE Φ (.idx a b) ρ S) P = wp (evE Φ a ρ S) (fun x S => wp (evE Φ b ρ S) (fun y S => wo (drf S x) (fun x => wo (idxD x y) (fun z => P z S)))) := by
  rw [evE]; simp only [wp_bind, wp_ofO]
@[simp] theorem we_slc {a : CE} {lo hi : CO} : wp (evE Φ (.slc a lo hi) ρ S) P = wp (evE Φ a ρ S) (fun x S => wp (evO Φ lo ρ S) (fun i S => wp (evO Φ hi ρ S) (fun j S => wo (sliceD x i j) (fun z => P z S)))) := by
  rw [evE]; simp only [wp_bind, wp_ofO]
@[simp] theorem we_call {f : Nat} {l : CL} : wp (evE Φ (.call f l) ρ S) P = wp (evL Φ l ρ S) (fun ds S => wp ((Φ f).m ds S) P) := by
  rw [evE]; simp only [wp_bind]
  congr 1; funext ds S
  unfold callF
  cases ds with
  | nil => simp only []; cases (Φ f).m [] S <;> rfl
  | cons _ _ => rfl
@[simp] theorem we_lend {f : Nat} {l : CL} : wp (evE Φ (.lend f l) ρ S) P = wp (evL Φ l ρ S) (fun ds S => wp ((Φ f).m ds S) (fun d S => (lfD d || ((Φ f).fr && lfL d)) = true ∧ P d S)) := by
  rw [evE]; simp only [wp_bind]
  congr 1; funext ds S
  cases (Φ f).m ds S with
  | ok d S =>
    simp only [lentF, wp]
    by_cases h : (lfD d || ((Φ f).fr && lfL d)) = true <;> simp [h]
  | err x S => simp only [lentF]; split <;> rfl
  | bad => rfl
@[simp] theorem we_bi {b : Bi} {l : CL} : wp (evE Φ (.bi b l) ρ S) P = wp (evL Φ l ρ S) (fun ds S => wo (biD b ds) (fun z => P z S)) := by
  rw [evE]; simp only [wp_bind, wp_ofO]
@[simp] theorem we_m0 {m : M0} {o : CE} : wp (evE Φ (.m0 m o) ρ S) P = wp (evE Φ o ρ S) (fun x S => wo (m0D m x) (fun z => P z S)) := by
  rw [evE]; simp only [wp_bind, wp_ofO]
@[simp] theorem we_m1 {m : M1} {o a : CE} : wp (evE Φ (.m1 m o a) ρ S) P = wp (evE Φ o ρ S) (fun x S => wo (asS x) (fun l => wp (evE Φ a ρ S) (fun y S => wo (m1D m l y) (fun z => P z S)))) := by
  rw [evE]; simp only [wp_bind, wp_ofO]
@[simp] theorem we_isi {t : Ty} {a : CE} : wp (evE Φ (.isi t a) ρ S) P = wp (evE Φ a ρ S) (fun x S => wo (isiD t x) (fun b => P (.bl b) S)) := by
  rw [evE]; simp only [wp_bind, wp_ofO, wo_map]
/-- one turn of a comprehension -/
def stepK (Φ : Nat → Fn) (own : List (Str × Nat)) (elt : CE) (t : Tg) (c : CO) (ρ : List Cell) (d : D) (S : Store) : Res (Option D) :=
  (ofO (bindT t d (wipeC ρ (own.map (·.2)))) S).bind fun ρ' S => (evC Φ c ρ' S).bind fun k S => if k then (evE Φ elt ρ' S).bind fun y S => .ok (some y) S else .ok none S
@[simp] theorem we_comp {own : List (Str × Nat)} {elt : CE} {t : Tg} {it : CI} {c : CO} : wp (evE Φ (.comp own elt t it c) ρ S) P = wp (evI Φ it ρ S) (fun ds S => noOw ρ (own.map (·.2)) = true ∧ wp (compL (stepK Φ own elt t c ρ) ds S []) P) := by
  rw [evE]; simp only [wp_bind, wp_ite, wp_bad]
  congr 1; funext ds S
  by_cases h : noOw ρ (own.map (·.2)) = true <;> simp [h] <;> rfl
@[simp] theorem wl_nil {P : List D → Store → Prop} : wp (evL Φ .nil ρ S) P = P [] S := by rw [evL]; rfl
@[simp] theorem wl_cons {a : CE} {r : CL} {P : List D → Store → Prop} : wp (evL Φ (.cons a r) ρ S) P = wp (evE Φ a ρ S) (fun x S => wp (evL Φ r ρ S) (fun xs S => P (x :: xs) S)) := by
  rw [evL]; simp only [wp_bind, wp_ok]
@[simp] theorem wb_one {n : Bool} {a : CE} : wp (evB Φ n (.cons a .nil) ρ S) P = wp (evE Φ a ρ S) (fun x S => wo (asB x) (fun k => P (.bl k) S)) := by
  rw [evB]; simp only [wp_bind, wp_ofO, wp_ok]
@[simp] theorem wb_cons {n : Bool} {a b : CE} {r : CL} : wp (evB Φ n (.cons a (.cons b r)) ρ S) P = wp (evE Φ a ρ S) (fun x S => wo (asB x) (fun k => if k = n then wp (evB Φ n (.cons b r) ρ S) P else P (.bl k) S)) := by
  rw [evB]; simp only [wp_bind, wp_ofO, wp_ite, wp_ok, beq_iff_eq]
@[simp] theorem wO_no {P : Option Int → Store → Prop} : wp (evO Φ .no ρ S) P = P none S := by rw [evO]; rfl
@[simp] theorem wO_yes {a : CE} {P : Option Int → Store → Prop} : wp (evO Φ (.yes a) ρ S) P = wp (evE Φ a ρ S) (fun x S => wo (asI x) (fun i => P (some i) S)) := by
  rw [evO]; simp only [wp_bind, wp_ofO, wp_ok]
@[simp] theorem wC_no {P : Bool → Store → Prop} : wp (evC Φ .no ρ S) P = P true S := by rw [evC]; rfl
@[simp] theorem wC_yes {a : CE} {P : Bool → Store → Prop} : wp (evC Φ (.yes a) ρ S) P = wp (evE Φ a ρ S) (fun x S => wo (asB x) (fun k => P k S)) := by
  rw [evC]; simp only [wp_bind, wp_ofO]
@[simp] theorem wI_seq {a : CE} {P : List D → Store → Prop} : wp (evI Φ (.seq a) ρ S) P = wp (evE Φ a ρ S) (fun x S => wo (seqOf x) (fun ds => P ds S)) := by
  rw [evI]; simp only [wp_bind, wp_ofO]
@[simp] theorem wI_wlk {w : Wc} {l : CL} {P : List D → Store → Prop} : wp (evI Φ (.wlk w l) ρ S) P = wp (evL Φ l ρ S) (fun ds S => wo (wcD w ds) (fun ds => P ds S)) := by
  rw [evI]; simp only [wp_bind, wp_ofO]
@[simp] theorem wp_stepK {own : List (Str × Nat)} {elt : CE} {t : Tg} {c : CO} {d : D} {P : Option D → Store → Prop} : wp (stepK Φ own elt t c ρ d S) P = wo (bindT t d (wipeC ρ (own.map (·.2)))) (fun ρ' => wp (evC Φ c ρ' S) (fun k S => if k = true then wp (evE Φ elt ρ' S) (fun y S => P (some y) S) else P none S)) := by
  unfold stepK; simp only [wp_bind, wp_ofO, wp_ite, wp_ok]
end
section
variable {Φ : Nat → Fn} {ρ : List Cell} {S : Store} {P : Flw → Store → Prop}
@[simp] theorem ws_set {i : Nat} {e : CE} : wp (evS Φ (.set i e) ρ S) P = wp (evE Φ e ρ S) (fun d S => P (.nx (ρ.set i (.sh d))) S) := by
  rw [evS]; simp only [wp_bind, setF, wp_ok]
@[simp] theorem ws_setO {i : Nat} {e : CE} : wp (evS Φ (.setO i e) ρ S) P = wp (evE Φ e ρ S) (fun d S => ∃ ds, d = .lst ds ∧ P (.nx (ρ.set i (.ow ds))) S) := by
  rw [evS]; simp only [wp_bind]
  congr 1; funext d S
  cases d <;> simp [setOF, setF, wp]
@[simp] theorem ws_setT {t : Tg} {e : CE} : wp (evS Φ (.setT t e) ρ S) P = wp (evE Φ e ρ S) (fun d S => wo (bindT t d ρ) (fun ρ' => P (.nx ρ') S)) := by
  rw [evS]; simp only [wp_bind]
  congr 1; funext d S
  unfold setTF; cases bindT t d ρ <;> rfl
@[simp] theorem ws_exp {e : CE} : wp (evS Φ (.exp e) ρ S) P = wp (evE Φ e ρ S) (fun _ S => P (.nx ρ) S) := by
  rw [evS]; simp only [wp_bind, wp_ok]
@[simp] theorem ws_app {i : Nat} {e : CE} : wp (evS Φ (.app i e) ρ S) P = owD ρ[i]? (fun ds => wp (evE Φ e ρ S) (fun d S => ds.length < 16777216 ∧ P (.nx (ρ.set i (.ow (ds ++ [d])))) S)) := by
  rw [evS]; simp only [wp_bind, wp_ofO]
  unfold owOf owD
  cases h : ρ[i]? with
  | none => rfl
  | some c =>
    cases c with
    | ow ds =>
      show wp (evE Φ e ρ S) _ = _
      congr 1; funext d S
      simp only [appF, setF]
      by_cases h : ds.length < 16777216 <;> simp [h, wp]
    | _ => rfl
@[simp] theorem ws_mth {m : Lm} {i : Nat} {l : CL} : wp (evS Φ (.mth m i l) ρ S) P = owD ρ[i]? (fun ds => wp (evL Φ l ρ S) (fun as S => wo (lmD m ds as) (fun es => P (.nx (ρ.set i (.ow es))) S))) := by
  rw [evS]; simp only [wp_bind, wp_ofO]
  unfold owOf owD
  cases h : ρ[i]? with
  | none => rfl
  | some c => cases c <;> rfl
@[simp] theorem ws_six {i : Nat} {j e : CE} : wp (evS Φ (.six i j e) ρ S) P = owD ρ[i]? (fun ds => wp (evE Φ e ρ S) (fun d S => wp (evE Φ j ρ S) (fun k S => wo (asI k) (fun k => wo (ixN ds.length k) (fun n => P (.nx (ρ.set i (.ow (ds.set n d)))) S))))) := by
  rw [evS]; simp only [wp_bind, wp_ofO]
  unfold owOf owD
  cases h : ρ[i]? with
  | none => rfl
  | some c =>
    cases c with
    | ow ds =>
      show wp (evE Φ e ρ S) _ = _
      congr 1; funext d S; congr 1; funext k S
      cases k <;> first | rfl | skip
      simp only [sixF, asI, wo_some]
      cases ixN ds.length _ <;> rfl
    | _ => rfl
@[simp] theorem ws_sip {i : Nat} {j e : CE} : wp (evS Φ (.sip i j e) ρ S) P = shD ρ[i]? (fun p => ∃ n, p = .ptr n ∧ wp (evE Φ e ρ S) (fun d S => wp (evE Φ j ρ S) (fun k S => lfD d = true ∧ wo (asI k) (fun k => wo S[n]? (fun ds => wo (ixN ds.length k) (fun m => P (.nx ρ) (S.set n (ds.set m d)))))))) := by
  rw [evS]; simp only [wp_bind, wp_ofO]
  unfold ptOf shD
  cases h : ρ[i]? with
  | none => rfl
  | some c =>
    cases c with
    | sh p =>
      cases p with
      | ptr n =>
        simp only [wo_some, D.ptr.injEq, exists_eq_left']
        congr 1; funext d S; congr 1; funext k S
        unfold sipF
        by_cases hl : lfD d = true
        · simp only [hl, if_true, true_and]
          cases k with
          | int k =>
            cases hS : S[n]? with
            | none => simp [asI, wo, wp]
            | some ds =>
              simp only [asI, wo_some]
              cases ixN ds.length _ <;> simp [wo, wp]
          | _ => rfl
        · simp [hl, wp]
      | _ => simp [wo]
    | _ => rfl
@[simp] theorem ws_ret {e : CE} : wp (evS Φ (.ret e) ρ S) P = wp (evE Φ e ρ S) (fun d S => P (.rt (isBor e || decide (2 ≤ kE Φ e)) d) S) := by
  rw [evS]; simp only [wp_bind, wp_ok]
@[simp] theorem ws_retN : wp (evS Φ .retN ρ S) P = P (.rt true .non) S := by rw [evS]; rfl
@[simp] theorem ws_ife {c : CE} {a b : CB} : wp (evS Φ (.ife c a b) ρ S) P = wp (evE Φ c ρ S) (fun x S => wo (asB x) (fun k => if k = true then wp (evBk Φ a ρ S) P else wp (evBk Φ b ρ S) P)) := by
  rw [evS]; simp only [wp_bind, wp_ofO, wp_ite]
/-- one turn of a for -/
def bodyF (Φ : Nat → Fn) (t : Tg) (b : CB) (d : D) (ρ : List Cell) (S : Store) : Out := seqB (setTF ρ t d S) (evBk Φ b)
@[simp] theorem wp_bodyF {t : Tg} {b : CB} {d : D} : wp (bodyF Φ t b d ρ S) P = wo (bindT t d ρ) (fun ρ' => wp (evBk Φ b ρ' S) P) := by
  unfold bodyF; rw [wp_seqB]; unfold setTF
  cases bindT t d ρ <;> rfl
@[simp] theorem ws_forr {t : Tg} {it : CI} {b : CB} : wp (evS Φ (.forr t it b) ρ S) P = wp (evI Φ it ρ S) (fun ds S => wp (loopF (bodyF Φ t b) ds ρ S) P) := by
  rw [evS]; simp only [wp_bind]; rfl
def condW (Φ : Nat → Fn) (c : CE) (ρ : List Cell) (S : Store) : Res Bool := (evE Φ c ρ S).bind fun x S => ofO (asB x) S
@[simp] theorem wp_condW {c : CE} {P : Bool → Store → Prop} : wp (condW Φ c ρ S) P = wp (evE Φ c ρ S) (fun x S => wo (asB x) (fun k => P k S)) := by
  unfold condW; simp only [wp_bind, wp_ofO]
@[simp] theorem ws_whl {n : Nat} {c : CE} {b : CB} : wp (evS Φ (.whl n c b) ρ S) P = wp (loopW (condW Φ c) (evBk Φ b) n ρ S) P := by
  rw [evS]; rfl
@[simp] theorem ws_feed {i j : Nat} : wp (evS Φ (.feed i j) ρ S) P = shD ρ[j]? (fun d => ∃ ns, d = .scr ns ∧ P (.nx (ρ.set i (.sh (.ptr S.length)))) (S ++ [[.lst (ns.map .int), .int 0, .int 0]])) := by
  rw [evS]; unfold feedF shD
  cases h : ρ[j]? with
  | none => rfl
  | some c =>
    cases c with
    | sh d => cases d <;> simp [wp]
    | _ => rfl
@[simp] theorem ws_pas : wp (evS Φ .pas ρ S) P = P (.nx ρ) S := by rw [evS]; rfl
@[simp] theorem ws_brk : wp (evS Φ .brk ρ S) P = P (.bk ρ) S := by rw [evS]; rfl
@[simp] theorem ws_cnt : wp (evS Φ .cnt ρ S) P = P (.ct ρ) S := by rw [evS]; rfl
@[simp] theorem wk_nil : wp (evBk Φ .nil ρ S) P = P (.nx ρ) S := by rw [evBk]; rfl
@[simp] theorem wk_cons {s : CS} {r : CB} : wp (evBk Φ (.cons s r) ρ S) P = wp (evS Φ s ρ S) (nxt (evBk Φ r) P) := by rw [evBk, wp_seqB]
@[simp] theorem wk_frz {i : Nat} {r : CB} : wp (evBk Φ (.frz i r) ρ S) P = owD ρ[i]? (fun ds => wp (evBk Φ r (ρ.set i (.sh (.lst ds))) S) P) := by
  rw [evBk]; unfold owD
  cases h : ρ[i]? with
  | none => rfl
  | some c => cases c <;> rfl
@[simp] theorem wk_drp {i : Nat} {r : CB} : wp (evBk Φ (.drp i r) ρ S) P = wp (evBk Φ r (ρ.set i .u) S) P := by rw [evBk]
/-- a def's end -/
def eDef (fr : Bool) (P : D → Store → Prop) : Flw → Store → Prop
  | .nx _, S => P .non S
  | .rt f d, S => (fr = true → f = true) ∧ P d S
  | _, _ => False
@[simp] theorem eDef_nx {fr : Bool} {P : D → Store → Prop} : eDef fr P (.nx ρ) S = P .non S := rfl
@[simp] theorem eDef_rt {fr f : Bool} {d : D} {P : D → Store → Prop} : eDef fr P (.rt f d) S = ((fr = true → f = true) ∧ P d S) := rfl
theorem wp_def {tab : List Df} {k f : Nat} {d : Df} (h : tab[f]? = some d) {ds : List D} (hl : ds.length = d.np) {P : D → Store → Prop} (hb : wp (evBk (Phi tab k) d.code (ds.map .sh ++ List.replicate (d.N.length - ds.length) .u) S) (eDef d.fr P)) : wp ((Phi tab (k + 1) f).m ds S) P := by
  rw [mRun_succ h]
  unfold runDef
  rw [if_pos hl]
  obtain ⟨fl, S', e, q⟩ := wp_of hb
  rw [e]
  cases fl with
  | nx ρ => exact q
  | rt f d' =>
    obtain ⟨q1, q2⟩ := q
    show wp (if (d.fr && !f) = true then _ else _) P
    rw [if_neg (by
      intro z
      simp only [Bool.and_eq_true, Bool.not_eq_true'] at z
      rw [q1 z.1] at z
      cases z.2)]
    exact q2
  | bk _ => exact q.elim
  | ct _ => exact q.elim
end
/-! ### the operators on ints -/
@[simp] theorem b_add {a b : Int} : binD .add (.int a) (.int b) = some (.int (a + b)) := rfl
@[simp] theorem b_sub {a b : Int} : binD .sub (.int a) (.int b) = some (.int (a - b)) := rfl
@[simp] theorem b_mul {a b : Int} : binD .mul (.int a) (.int b) = if w64 a || w64 b then some (.int (a * b)) else none := rfl
@[simp] theorem b_fdiv {a b : Int} : binD .fdiv (.int a) (.int b) = if 0 < b ∧ b < 1073741824 then some (.int (a / b)) else none := rfl
@[simp] theorem b_mod {a b : Int} : binD .mod (.int a) (.int b) = if 0 < b then some (.int (a % b)) else none := rfl
@[simp] theorem b_pow {a b : Int} : binD .pow (.int a) (.int b) = if 0 ≤ b ∧ b ≤ 1000000 ∧ a.natAbs < 18446744073709551616 then some (.int (a ^ b.toNat)) else none := rfl
@[simp] theorem c_lt {a b : Int} : cmpB .lt (.int a) (.int b) = some (decide (a < b)) := rfl
@[simp] theorem c_le {a b : Int} : cmpB .le (.int a) (.int b) = some (decide (a ≤ b)) := rfl
@[simp] theorem c_gt {a b : Int} : cmpB .gt (.int a) (.int b) = some (decide (b < a)) := rfl
@[simp] theorem c_ge {a b : Int} : cmpB .ge (.int a) (.int b) = some (decide (b ≤ a)) := rfl
@[simp] theorem c_eq {a b : Int} : cmpB .eq (.int a) (.int b) = some (a == b) := rfl
@[simp] theorem c_ne {a b : Int} : cmpB .ne (.int a) (.int b) = some (!(a == b)) := rfl
@[simp] theorem asB_bl {b : Bool} : asB (.bl b) = some b := rfl
@[simp] theorem asI_int {b : Int} : asI (.int b) = some b := rfl
@[simp] theorem asS_str {b : List Nat} : asS (.str b) = some b := rfl
@[simp] theorem drf_ptr {S : Store} {n : Nat} : drf S (.ptr n) = (S[n]?).map .lst := rfl
@[simp] theorem drf_lst {S : Store} {ds : List D} : drf S (.lst ds) = some (.lst ds) := rfl
@[simp] theorem drf_tup {S : Store} {ds : List D} : drf S (.tup ds) = some (.tup ds) := rfl
@[simp] theorem drf_str {S : Store} {ds : List Nat} : drf S (.str ds) = some (.str ds) := rfl
@[simp] theorem ix_lst {ds : List D} {i : Int} : idxD (.lst ds) (.int i) = atI ds i := rfl
@[simp] theorem ix_tup {ds : List D} {i : Int} : idxD (.tup ds) (.int i) = atI ds i := rfl
@[simp] theorem ix_str {z : List Nat} {i : Int} : idxD (.str z) (.int i) = if z.length ≤ 16777216 then (atI z i).map fun c => .str [c] else none := rfl
theorem at_nn {α : Type} {xs : List α} {i : Int} (h0 : 0 ≤ i) : atI xs i = xs[i.toNat]? := by
  obtain ⟨n, rfl⟩ := Int.eq_ofNat_of_zero_le h0
  unfold atI ixN
  by_cases h : (n : Int) < xs.length
  · have h' : n < xs.length := by omega
    simp [h']
  · have h' : ¬ n < xs.length := by omega
    simp [h']
end RH

set_option Elab.async false
set_option linter.all false
set_option maxRecDepth 100000
set_option maxHeartbeats 1000000
/-! RHFeed: the feed of drawn numbers. -/
namespace RH
open PySem PySem.Spec PyProof.Rows L2
def Feed (R S : Store) : Prop := ∃ (ns : List Int) (a b : Int), S = [.lst (ns.map .int), .int a, .int b] :: R ∧ 0 ≤ a ∧ 0 ≤ b
def cDraw : CB := (.cons (.sip 0 (.lit (.int 1)) (.bin .add (.idx (.var 0) (.lit (.int 1))) (.lit (.int 1)))) (.cons (.ife (.cmp .eq (.idx (.var 0) (.lit (.int 2))) (.lit (.int 0))) (.cons (.set 3 (.idx (.var 0) (.lit (.int 1)))) (.cons (.ife (.cmp .gt (.bi .len (.cons (.idx (.var 0) (.lit (.int 0))) .nil)) (.lit (.int 0))) (.cons (.set 3 (.idx (.idx (.var 0) (.lit (.int 0))) (.bin .mod (.idx (.var 0) (.lit (.int 1))) (.bi .len (.cons (.idx (.var 0) (.lit (.int 0))) .nil))))) .nil) .nil) (.cons (.ife (.cmp .lt (.var 3) (.bin .pow (.lit (.int 10)) (.lit (.int 18)))) (.cons (.set 4 (.bin .mod (.bin .mul (.bin .add (.bin .add (.bin .mod (.var 3) (.lit (.int 2147483647))) (.bin .mul (.lit (.int 613)) (.idx (.var 0) (.lit (.int 1))))) (.lit (.int 7))) (.lit (.int 48271))) (.lit (.int 2147483647)))) (.cons (.set 4 (.bin .mod (.bin .mul (.var 4) (.bin .add (.var 4) (.lit (.int 69621)))) (.lit (.int 2147483629)))) (.cons (.ret (.bin .mod (.bin .fdiv (.var 4) (.lit (.int 64))) (.var 1))) .nil))) .nil) (.cons (.sip 0 (.lit (.int 2)) (.var 3)) .nil)))) .nil) (.cons (.set 2 (.bin .mod (.idx (.var 0) (.lit (.int 2))) (.var 1))) (.cons (.sip 0 (.lit (.int 2)) (.bin .fdiv (.idx (.var 0) (.lit (.int 2))) (.var 1))) (.cons (.ret (.var 2)) .nil)))))
theorem ix3 {a b c : D} : atI [a, b, c] 0 = some a ∧ atI [a, b, c] 1 = some b ∧ atI [a, b, c] 2 = some c := ⟨rfl, rfl, rfl⟩
theorem ixN3 : ixN 3 0 = some 0 ∧ ixN 3 1 = some 1 ∧ ixN 3 2 = some 2 := ⟨rfl, rfl, rfl⟩
theorem pow18 : binD .pow (.int 10) (.int 18) = some (.int 1000000000000000000) := by rw [b_pow, if_pos (by decide)]; rfl
@[simp] theorem len_lst {ds : List D} : biD .len [.lst ds] = some (.int ds.length) := rfl
@[simp] theorem lf_int {i : Int} : lfD (.int i) = true := by unfold lfD; rfl
theorem w64_lit {i : Int} (h : -(18446744073709551616) < i) (h' : i < 18446744073709551616) : w64 i = true := by simp [w64, h, h']
theorem draw_wp {tab : List Df} {k f : Nat} {d : Df} (h : tab[f]? = some d) (hc : d.code = cDraw) (hN : d.N.length = 5) (hp : d.np = 2) (hf : d.fr = false) {R S : Store} {m : Int} {P : D → Store → Prop} (F : Feed R S) (hm : 0 < m) (hm2 : m < 1073741824)
    (q : ∀ (r : Int) S', 0 ≤ r → r < m → Feed R S' → P (.int r) S') : wp ((Phi tab (k + 1) f).m [.ptr 0, .int m] S) P := by
  obtain ⟨ns, a, b, rfl, ha, hb⟩ := F
  refine wp_def h (by rw [hp]; rfl) ?_
  rw [hc, hN, hf]
  have fin : ∀ (a b : Int), 0 ≤ a → 0 ≤ b → ∀ c3 c4, wp (evBk (Phi tab k) (.cons (.set 2 (.bin .mod (.idx (.var 0) (.lit (.int 2))) (.var 1))) (.cons (.sip 0 (.lit (.int 2)) (.bin .fdiv (.idx (.var 0) (.lit (.int 2))) (.var 1))) (.cons (.ret (.var 2)) .nil))) [.sh (.ptr 0), .sh (.int m), .u, c3, c4] ([.lst (ns.map .int), .int a, .int b] :: R)) (eDef false P) := by
    intro a b ha hb c3 c4
    simp only [wk_cons, ws_set, we_bin, we_idx, we_var, we_lit, List.getElem?_cons_zero, List.getElem?_cons_succ, shD_sh, drf_ptr, wo_map, wo_some, ix_lst, ix3, b_mod, wo_ite, hm, if_true, nxt_nx, List.set_cons_succ, List.set_cons_zero, ws_sip, D.ptr.injEq, exists_eq_left', b_fdiv, hm2, true_and, lf_int, asI_int, List.length_cons, List.length_nil, ixN3, wk_nil, ws_ret, nxt_rt, eDef_rt, and_self, if_true, Nat.zero_add, Nat.reduceAdd]
    exact ⟨(fun z => by cases z), q _ _ (Int.emod_nonneg _ (by omega)) (Int.emod_lt_of_pos _ hm) ⟨ns, a, b / m, rfl, ha, Int.ediv_nonneg hb (by omega)⟩⟩
  unfold cDraw
  simp only [List.map_cons, List.map_nil, List.length_cons, List.length_nil, Nat.reduceAdd, Nat.reduceSub, List.replicate, List.cons_append, List.nil_append]
  rw [wk_cons]
  simp only [ws_sip, we_bin, we_idx, we_var, we_lit, List.getElem?_cons_zero, List.getElem?_cons_succ, shD_sh, drf_ptr, wo_map, wo_some, ix_lst, ix3, b_add, D.ptr.injEq, exists_eq_left', true_and, lf_int, asI_int, List.length_cons, List.length_nil, ixN3, List.set_cons_succ, List.set_cons_zero, nxt_nx, Nat.zero_add, Nat.reduceAdd]
  rw [wk_cons]
  have ha' : 0 ≤ a + 1 := by omega
  generalize a + 1 = a at ha'
  simp only [ws_ife, we_cmp, we_idx, we_var, we_lit, List.getElem?_cons_zero, List.getElem?_cons_succ, shD_sh, drf_ptr, wo_map, wo_some, ix_lst, ix3, c_eq, asB_bl, beq_iff_eq]
  split
  · rename_i hb0
    subst hb0
    have rest : ∀ cell : Int, wp (evBk (Phi tab k) (.cons (.ife (.cmp .lt (.var 3) (.bin .pow (.lit (.int 10)) (.lit (.int 18)))) (.cons (.set 4 (.bin .mod (.bin .mul (.bin .add (.bin .add (.bin .mod (.var 3) (.lit (.int 2147483647))) (.bin .mul (.lit (.int 613)) (.idx (.var 0) (.lit (.int 1))))) (.lit (.int 7))) (.lit (.int 48271))) (.lit (.int 2147483647)))) (.cons (.set 4 (.bin .mod (.bin .mul (.var 4) (.bin .add (.var 4) (.lit (.int 69621)))) (.lit (.int 2147483629)))) (.cons (.ret (.bin .mod (.bin .fdiv (.var 4) (.lit (.int 64))) (.var 1))) .nil))) .nil) (.cons (.sip 0 (.lit (.int 2)) (.var 3)) .nil)) [.sh (.ptr 0), .sh (.int m), .u, .sh (.int cell), .u] ([.lst (ns.map .int), .int a, .int 0] :: R)) (nxt (evBk (Phi tab k) (.cons (.set 2 (.bin .mod (.idx (.var 0) (.lit (.int 2))) (.var 1))) (.cons (.sip 0 (.lit (.int 2)) (.bin .fdiv (.idx (.var 0) (.lit (.int 2))) (.var 1))) (.cons (.ret (.var 2)) .nil)))) (eDef false P)) := by
      intro cell
      rw [wk_cons]
      simp only [ws_ife, we_cmp, we_bin, we_var, we_lit, List.getElem?_cons_zero, List.getElem?_cons_succ, shD_sh, wo_some, pow18, c_lt, asB_bl, decide_eq_true_eq]
      split
      · rename_i hlt
        simp only [wk_cons, ws_set, we_bin, we_idx, we_var, we_lit, List.getElem?_cons_zero, List.getElem?_cons_succ, shD_sh, drf_ptr, wo_map, wo_some, ix_lst, ix3, b_mod, b_add, b_mul, wo_ite, show (0 : Int) < 2147483647 by decide, show (0 : Int) < 2147483629 by decide, if_true, w64_lit (i := 613) (by decide) (by decide), w64_lit (i := 48271) (by decide) (by decide), Bool.true_or, Bool.or_true, nxt_nx, List.set_cons_succ, List.set_cons_zero]
        generalize ((cell % 2147483647 + 613 * a + 7) * 48271) = e
        have h1 := Int.emod_nonneg e (b := 2147483647) (by decide)
        have h2 := Int.emod_lt_of_pos e (b := 2147483647) (by decide)
        rw [w64_lit (i := e % 2147483647) (by omega) (by omega)]
        simp only [Bool.true_or, if_true, ws_ret, we_bin, we_var, we_lit, List.getElem?_cons_zero, List.getElem?_cons_succ, shD_sh, wo_some, b_fdiv, b_mod, wo_ite, show (0 : Int) < 64 ∧ (64 : Int) < 1073741824 by decide, hm, and_self, nxt_rt, eDef_rt]
        exact ⟨(fun z => by cases z), q _ _ (Int.emod_nonneg _ (by omega)) (Int.emod_lt_of_pos _ hm) ⟨ns, a, 0, rfl, ha', by decide⟩⟩
      · rename_i hge
        rw [wk_nil, nxt_nx, wk_cons]
        simp only [ws_sip, we_var, we_lit, List.getElem?_cons_zero, List.getElem?_cons_succ, shD_sh, D.ptr.injEq, exists_eq_left', true_and, lf_int, asI_int, wo_some, List.length_cons, List.length_nil, ixN3, List.set_cons_succ, List.set_cons_zero, nxt_nx, wk_nil, Nat.zero_add, Nat.reduceAdd]
        exact fin a cell ha' (by omega) _ _
    rw [wk_cons, ws_set]
    simp only [we_idx, we_var, we_lit, List.getElem?_cons_zero, List.getElem?_cons_succ, shD_sh, drf_ptr, wo_map, wo_some, ix_lst, ix3, nxt_nx, List.set_cons_succ, List.set_cons_zero]
    rw [wk_cons]
    simp only [ws_ife, we_cmp, we_bi, wl_cons, wl_nil, we_idx, we_var, we_lit, List.getElem?_cons_zero, List.getElem?_cons_succ, shD_sh, drf_ptr, wo_map, wo_some, ix_lst, ix3, len_lst, c_gt, asB_bl, decide_eq_true_eq]
    split
    · rename_i hpos
      have hl : 0 < ((ns.map D.int).length : Int) := by omega
      simp only [wk_cons, ws_set, we_bin, we_bi, wl_cons, wl_nil, we_idx, we_var, we_lit, List.getElem?_cons_zero, List.getElem?_cons_succ, shD_sh, drf_ptr, drf_lst, wo_map, wo_some, ix_lst, ix3, len_lst, b_mod, wo_ite, hl, if_true]
      have h1 := Int.emod_nonneg a (b := ((ns.map D.int).length : Int)) (by omega)
      have h2 := Int.emod_lt_of_pos a hl
      rw [at_nn h1]
      have h3 : (a % ((ns.map D.int).length : Int)).toNat < ns.length := by
        rw [List.length_map] at h1 h2 ⊢
        omega
      rw [List.getElem?_map, List.getElem?_eq_getElem h3]
      simp only [Option.map_some, wo_some, nxt_nx, wk_nil, List.set_cons_succ, List.set_cons_zero]
      exact rest _
    · rw [wk_nil, nxt_nx]
      exact rest _
  · rw [wk_nil, nxt_nx]
    exact fin a b ha' hb _ _
end RH

set_option Elab.async false
set_option linter.all false
set_option maxRecDepth 100000
set_option maxHeartbeats 1000000
/-! RHPure2: more about the operators; simp rules. -/
namespace RH
open PySem PySem.Spec PyProof.Rows L2
@[simp] theorem len_tup {ds : List D} : biD .len [.tup ds] = some (.int ds.length) := rfl
@[simp] theorem len_scr {ds : List Int} : biD .len [.scr ds] = some (.int ds.length) := rfl
@[simp] theorem len_str {l : List Nat} : biD .len [.str l] = if l.length ≤ 16777216 then some (.int l.length) else none := rfl
@[simp] theorem bi_lst {ds : List D} : biD .lst [.lst ds] = some (.lst ds) := rfl
@[simp] theorem bi_lstT {ds : List D} : biD .lst [.tup ds] = some (.lst ds) := rfl
@[simp] theorem bi_tup {ds : List D} : biD .tup [.lst ds] = some (.tup ds) := rfl
@[simp] theorem bi_tupT {ds : List D} : biD .tup [.tup ds] = some (.tup ds) := rfl
@[simp] theorem bi_min {i j : Int} : biD .min [.int i, .int j] = some (.int (if j < i then j else i)) := rfl
@[simp] theorem bi_max {i j : Int} : biD .max [.int i, .int j] = some (.int (if j > i then j else i)) := rfl
@[simp] theorem bt_name {i : Nat} {d : D} {ρ : List Cell} : bindT (.name i) d ρ = some (ρ.set i (.sh d)) := by rw [bindT]
@[simp] theorem bt_tup {l : Tgs} {ds : List D} {ρ : List Cell} : bindT (.tup l) (.tup ds) ρ = bindTs l ds ρ := by rw [bindT]
@[simp] theorem bt_nil {ρ : List Cell} : bindTs .nil [] ρ = some ρ := by rw [bindTs]
@[simp] theorem bt_cons {t : Tg} {r : Tgs} {d : D} {ds : List D} {ρ : List Cell} : bindTs (.cons t r) (d :: ds) ρ = (bindT t d ρ).bind fun ρ' => bindTs r ds ρ' := by
  rw [bindTs]; cases bindT t d ρ <;> rfl
@[simp] theorem wo_bind {α β : Type} {o : Option α} {f : α → Option β} {Q : β → Prop} : wo (o.bind f) Q = wo o (fun a => wo (f a) Q) := by cases o <;> rfl
@[simp] theorem w_r1 {j : Int} : wcD .r1 [.int j] = if w62 j then some ((List.range j.toNat).map fun i => .int ((i : Nat) : Int)) else none := rfl
@[simp] theorem w_zip {ds es : List D} : wcD .zip [.lst ds, .lst es] = some (zipD ds es) := rfl
@[simp] theorem w_rev {ds : List D} : wcD .rev [.lst ds] = some ds.reverse := rfl
@[simp] theorem w_enum {ds : List D} : wcD .enum [.lst ds] = some (enumD 0 ds) := rfl
@[simp] theorem w_r2 {i j : Int} : wcD .r2 [.int i, .int j] = if w62 i && w62 j then some ((List.range (j - i).toNat).map fun (k : Nat) => .int (i + (k : Int))) else none := rfl
@[simp] theorem sq_lst {ds : List D} : seqOf (.lst ds) = some ds := rfl
@[simp] theorem sq_tup {ds : List D} : seqOf (.tup ds) = some ds := rfl
@[simp] theorem sq_str {l : List Nat} : seqOf (.str l) = some (l.map fun c => .str [c]) := rfl
@[simp] theorem wipe_nil {ρ : List Cell} : wipeC ρ [] = ρ := rfl
@[simp] theorem wipe_cons {ρ : List Cell} {v : Nat} {vs : List Nat} : wipeC ρ (v :: vs) = (wipeC ρ vs).set v .u := rfl
theorem w62_of {i : Int} (h : -(4611686018427387904) ≤ i) (h' : i < 4611686018427387904) : w62 i = true := by simp [w62, h, h']
@[simp] theorem no_nil {ρ : List Cell} : noOw ρ [] = true := rfl
def nOw : Option Cell → Bool
  | some (.ow _) => false
  | _ => true
@[simp] theorem no_cons {ρ : List Cell} {v : Nat} {vs : List Nat} : noOw ρ (v :: vs) = (nOw ρ[v]? && noOw ρ vs) := rfl
@[simp] theorem nOw_u : nOw (some .u) = true := rfl
@[simp] theorem nOw_sh {d : D} : nOw (some (.sh d)) = true := rfl
theorem wp_compMap {step : D → Store → Res (Option D)} {g : D → D} {S : Store} {ds : List D} {P : D → Store → Prop} (h : ∀ d, d ∈ ds → wp (step d S) (fun o S' => o = some (g d) ∧ S' = S)) (hl : ds.length ≤ 16777216) (q : P (.lst (ds.map g)) S) : wp (compL step ds S []) P := by
  rw [compL_map (g := g) ds (fun d hd => by obtain ⟨a, S', e, rfl, rfl⟩ := wp_of (h d hd); exact e) hl]
  exact q
theorem wp_compFm {step : D → Store → Res (Option D)} {g : D → Option D} {S : Store} {ds : List D} {P : D → Store → Prop} (h : ∀ d, d ∈ ds → wp (step d S) (fun o S' => o = g d ∧ S' = S)) (hl : ds.length ≤ 16777216) (q : P (.lst (ds.filterMap g)) S) : wp (compL step ds S []) P := by
  rw [compL_pure (g := g) ds [] (fun d hd => by obtain ⟨a, S', e, rfl, rfl⟩ := wp_of (h d hd); exact e) (by simpa using hl)]
  exact q
/-! ### texts -/
theorem textsOf_map (ls : List (List Nat)) : textsOf (ls.map .str) = some ls := by
  induction ls with
  | nil => rfl
  | cons a r ih => rw [List.map_cons, textsOf, ih]; rfl
theorem lens_map1 (l : List Nat) : lens (l.map fun c => [c]) = l.length := by
  induction l with
  | nil => rfl
  | cons a r ih => simp only [lens, List.map_cons, List.sum_cons] at ih ⊢; rw [ih]; simp; omega
theorem joinL_nil1 (l : List Nat) : TL.joinL [] (l.map fun c => [c]) = l := by
  induction l with
  | nil => rfl
  | cons a r ih =>
    cases r with
    | nil => rfl
    | cons b r =>
      simp only [List.map_cons] at ih ⊢
      simp only [TL.joinL] at ih ⊢
      simp_all
theorem join_signs {l : List Nat} (h : l.length ≤ 16777216) : m1D .join [] (.lst (l.map fun c => .str [c])) = some (.str l) := by
  have e : (l.map fun c => D.str [c]) = (l.map fun c => [c]).map .str := by rw [List.map_map]; rfl
  show joinD [] _ = _
  unfold joinD
  rw [e, textsOf_map]
  simp only [lens_map1, List.length_map, List.length_nil, Nat.mul_zero, Nat.add_zero, h, if_true, joinL_nil1]
/-! ### == -/
mutual
theorem eqb_refl : ∀ d : D, pln d = true → eqb d d = true
  | .non, _ => by unfold eqb; rfl
  | .bl b, _ => by unfold eqb; simp
  | .int b, _ => by unfold eqb; simp
  | .str b, _ => by unfold eqb; simp
  | .tup ds, h => by unfold eqb; exact eqbs_refl ds (by unfold pln at h; exact h)
  | .lst ds, h => by unfold eqb; exact eqbs_refl ds (by unfold pln at h; exact h)
  | .ptr _, h => by unfold pln at h; cases h
  | .scr _, h => by unfold pln at h; cases h
theorem eqbs_refl : ∀ ds : List D, plns ds = true → eqbs ds ds = true
  | [], _ => by unfold eqbs; rfl
  | d :: ds, h => by
    unfold plns at h
    simp only [Bool.and_eq_true] at h
    unfold eqbs
    rw [eqb_refl d h.1, eqbs_refl ds h.2]; rfl
end
theorem eqD_refl {d : D} (h : okD d = true) : eqD d d = some true := by
  unfold eqD; rw [h]; simp [eqb_refl d (okD_pln h)]
theorem pln_of {ds : List D} (h : ∀ d, d ∈ ds → pln d = true) : plns ds = true := by
  induction ds with
  | nil => unfold plns; rfl
  | cons d ds ih => unfold plns; rw [h d (by simp), ih fun d hd => h d (List.mem_cons_of_mem _ hd)]; rfl
theorem deps_le {ds : List D} {n : Nat} (h : ∀ d, d ∈ ds → dep d ≤ n) : deps ds ≤ n := by
  induction ds with
  | nil => unfold deps; omega
  | cons d ds ih =>
    unfold deps
    have := h d (by simp)
    have := ih fun d hd => h d (List.mem_cons_of_mem _ hd)
    omega
theorem lfDs_of {ds : List D} (h : ∀ d, d ∈ ds → lfD d = true) : lfDs ds = true := by
  induction ds with
  | nil => unfold lfDs; rfl
  | cons d ds ih => unfold lfDs; rw [h d (by simp), ih fun d hd => h d (List.mem_cons_of_mem _ hd)]; rfl
/-- data of depth n, no pointer within -/
def Pl (n : Nat) (d : D) : Prop := pln d = true ∧ dep d ≤ n
theorem Pl.mono {m n : Nat} {d : D} (h : Pl m d) (l : m ≤ n) : Pl n d := ⟨h.1, by have := h.2; omega⟩
theorem Pl.str {l : List Nat} : Pl 0 (.str l) := ⟨by unfold pln; rfl, by unfold dep; omega⟩
theorem Pl.int {l : Int} : Pl 0 (.int l) := ⟨by unfold pln; rfl, by unfold dep; omega⟩
theorem Pl.tup {n : Nat} {ds : List D} (h : ∀ d, d ∈ ds → Pl n d) : Pl (n + 1) (.tup ds) := ⟨by unfold pln; exact pln_of fun d hd => (h d hd).1, by
  unfold dep
  have := deps_le fun d hd => (h d hd).2
  omega⟩
theorem Pl.lst {n : Nat} {ds : List D} (h : ∀ d, d ∈ ds → Pl n d) : Pl (n + 1) (.lst ds) := ⟨by unfold pln; exact pln_of fun d hd => (h d hd).1, by
  unfold dep
  have := deps_le fun d hd => (h d hd).2
  omega⟩
theorem Pl.ok {n : Nat} {d : D} (h : Pl n d) (l : n ≤ 60) : okD d = true := by
  simp only [okD, Bool.and_eq_true, decide_eq_true_eq]; exact ⟨h.1, by have := h.2; omega⟩
theorem c_eqD {d e : D} : cmpB .eq d e = eqD d e := rfl
theorem c_neD {d e : D} : cmpB .ne d e = (eqD d e).map (!·) := rfl
theorem c_eq_self {d : D} {n : Nat} (h : Pl n d) (l : n ≤ 60) : cmpB .eq d d = some true := eqD_refl (h.ok l)
theorem c_ne_self {d : D} {n : Nat} (h : Pl n d) (l : n ≤ 60) : cmpB .ne d d = some false := by rw [c_neD, eqD_refl (h.ok l)]; rfl
@[simp] theorem c_eqs {a b : List Nat} : cmpB .eq (.str a) (.str b) = some (a == b) := by
  rw [c_eqD]; unfold eqD; rw [Pl.str.ok (by omega), Pl.str.ok (by omega)]
  show some (eqb (.str a) (.str b)) = _
  unfold eqb; rfl
@[simp] theorem c_nes {a b : List Nat} : cmpB .ne (.str a) (.str b) = some (!(a == b)) := by
  have := c_eqs (a := a) (b := b)
  rw [c_eqD] at this
  rw [c_neD, this]; rfl
theorem c_ne_nil {es : List D} {n : Nat} (h : Pl n (.lst es)) (l : n ≤ 60) : cmpB .ne (.lst es) (.lst []) = some (!es.isEmpty) := by
  rw [c_neD]; unfold eqD; rw [h.ok l, Pl.ok (d := .lst []) (n := 1) (.lst (n := 0) (by simp)) (by omega)]
  show some (!eqb (.lst es) (.lst [])) = _
  unfold eqb
  cases es <;> (unfold eqbs; rfl)
@[simp] theorem lf_str {l : List Nat} : lfD (.str l) = true := by unfold lfD; rfl
@[simp] theorem lf_bl {b : Bool} : lfD (.bl b) = true := by unfold lfD; rfl
@[simp] theorem lf_non : lfD .non = true := by unfold lfD; rfl
theorem lf_tup {ds : List D} (h : ∀ d, d ∈ ds → lfD d = true) : lfD (.tup ds) = true := by unfold lfD; exact lfDs_of h
@[simp] theorem isi_tt {ds : List D} : isiD .tuple (.tup ds) = some true := rfl
@[simp] theorem isi_ll {ds : List D} : isiD .list (.lst ds) = some true := rfl
@[simp] theorem isi_ss {l : List Nat} : isiD .str (.str l) = some true := rfl
@[simp] theorem isi_bb {l : Bool} : isiD .bool (.bl l) = some true := rfl
@[simp] theorem at0 {α : Type} {a : α} {r : List α} : atI (a :: r) 0 = some a := by rw [at_nn (by omega)]; rfl
@[simp] theorem at1 {α : Type} {a b : α} {r : List α} : atI (a :: b :: r) 1 = some b := by rw [at_nn (by omega)]; rfl
end RH

set_option Elab.async false
set_option linter.all false
set_option maxRecDepth 100000
set_option maxHeartbeats 0
namespace RL
open PySem PySem.Spec PyProof.Rows L2 RH
def c_turned_back : CB := (.cons (.ret (.comp [("path", 1), ("place", 2)] (.tup (.cons (.var 2) (.cons (.var 1) .nil))) (.tup (.cons (.name 1) (.cons (.name 2) .nil))) (.wlk .rev (.cons (.var 0) .nil)) .no)) .nil)
def c_law_draw : CB := (.cons (.sip 0 (.lit (.int 1)) (.bin .add (.idx (.var 0) (.lit (.int 1))) (.lit (.int 1)))) (.cons (.ife (.cmp .eq (.idx (.var 0) (.lit (.int 2))) (.lit (.int 0))) (.cons (.set 3 (.idx (.var 0) (.lit (.int 1)))) (.cons (.ife (.cmp .gt (.bi .len (.cons (.idx (.var 0) (.lit (.int 0))) .nil)) (.lit (.int 0))) (.cons (.set 3 (.idx (.idx (.var 0) (.lit (.int 0))) (.bin .mod (.idx (.var 0) (.lit (.int 1))) (.bi .len (.cons (.idx (.var 0) (.lit (.int 0))) .nil))))) .nil) .nil) (.cons (.ife (.cmp .lt (.var 3) (.bin .pow (.lit (.int 10)) (.lit (.int 18)))) (.cons (.set 4 (.bin .mod (.bin .mul (.bin .add (.bin .add (.bin .mod (.var 3) (.lit (.int 2147483647))) (.bin .mul (.lit (.int 613)) (.idx (.var 0) (.lit (.int 1))))) (.lit (.int 7))) (.lit (.int 48271))) (.lit (.int 2147483647)))) (.cons (.set 4 (.bin .mod (.bin .mul (.var 4) (.bin .add (.var 4) (.lit (.int 69621)))) (.lit (.int 2147483629)))) (.cons (.ret (.bin .mod (.bin .fdiv (.var 4) (.lit (.int 64))) (.var 1))) .nil))) .nil) (.cons (.sip 0 (.lit (.int 2)) (.var 3)) .nil)))) .nil) (.cons (.set 2 (.bin .mod (.idx (.var 0) (.lit (.int 2))) (.var 1))) (.cons (.sip 0 (.lit (.int 2)) (.bin .fdiv (.idx (.var 0) (.lit (.int 2))) (.var 1))) (.cons (.ret (.var 2)) .nil)))))
def c_law_name : CB := (.cons (.set 1 (.lit (.str [97, 98, 99, 100, 101, 102, 103, 104, 105, 106, 107, 108, 109, 110, 111, 112, 113, 114, 115, 116, 117, 118, 119, 120, 121, 122, 65, 66, 67, 68, 69, 70, 71, 72, 73, 74, 75, 76, 77, 78, 79, 80, 81, 82, 83, 84, 85, 86, 87, 88, 89, 90, 48, 49, 50, 51, 52, 53, 54, 55, 56, 57, 45, 95, 46]))) (.cons (.set 2 (.bin .add (.lit (.int 1)) (.call 1 (.cons (.var 0) (.cons (.lit (.int 12)) .nil))))) (.cons (.ife (.cmp .gt (.call 1 (.cons (.var 0) (.cons (.lit (.int 3)) .nil))) (.lit (.int 0))) (.cons (.set 1 (.lit (.str [97, 65, 98]))) (.cons (.set 2 (.bin .add (.lit (.int 1)) (.call 1 (.cons (.var 0) (.cons (.lit (.int 2)) .nil))))) .nil)) .nil) (.cons (.ret (.m1 .join (.lit (.str [])) (.comp [("_law_k", 3)] (.idx (.var 1) (.call 1 (.cons (.var 0) (.cons (.bi .len (.cons (.var 1) .nil)) .nil)))) (.name 3) (.wlk .r1 (.cons (.var 2) .nil)) .no))) .nil))))
def c_law_path : CB := (.cons (.ret (.bi .tup (.cons (.comp [("_law_k", 1)] (.call 2 (.cons (.var 0) .nil)) (.name 1) (.wlk .r1 (.cons (.bin .add (.lit (.int 1)) (.call 1 (.cons (.var 0) (.cons (.lit (.int 6)) .nil)))) .nil)) .no) .nil))) .nil)
def c_law_row : CB := (.cons (.setO 1 (.lst .nil)) (.cons (.forr (.name 2) (.wlk .r1 (.cons (.call 1 (.cons (.var 0) (.cons (.idx (.lst (.cons (.lit (.int 4)) (.cons (.lit (.int 12)) (.cons (.lit (.int 201)) .nil)))) (.call 1 (.cons (.var 0) (.cons (.lit (.int 3)) .nil)))) .nil))) .nil)) (.cons (.set 3 (.call 3 (.cons (.var 0) .nil))) (.cons (.set 4 (.idx (.lst (.cons (.var 3) (.cons (.call 3 (.cons (.var 0) .nil)) .nil))) (.bi .min (.cons (.lit (.int 1)) (.cons (.call 1 (.cons (.var 0) (.cons (.lit (.int 6)) .nil))) .nil))))) (.cons (.ife (.bop true (.cons (.cmp .ne (.bor 1) (.lst .nil)) (.cons (.cmp .eq (.call 1 (.cons (.var 0) (.cons (.lit (.int 8)) .nil))) (.lit (.int 0))) .nil))) (.cons (.setT (.tup (.cons (.name 3) (.cons (.name 4) .nil))) (.idx (.bor 1) (.call 1 (.cons (.var 0) (.cons (.bi .len (.cons (.bor 1) .nil)) .nil))))) .nil) .nil) (.cons (.app 1 (.tup (.cons (.var 3) (.cons (.var 4) .nil)))) .nil))))) (.cons (.ret (.bor 1)) .nil)))
def c_law_is : CB := (.cons (.ife (.bop false (.cons (.nt (.isi .list (.var 0))) (.cons (.cmp .ne (.bi .len (.cons (.var 0) .nil)) (.bi .len (.cons (.var 1) .nil))) .nil))) (.cons (.ret (.lit (.bl false))) .nil) .nil) (.cons (.forr (.tup (.cons (.name 2) (.cons (.tup (.cons (.name 3) (.cons (.name 4) .nil))) .nil))) (.wlk .zip (.cons (.var 0) (.cons (.var 1) .nil))) (.cons (.ife (.bop false (.cons (.nt (.isi .tuple (.var 2))) (.cons (.cmp .ne (.bi .len (.cons (.var 2) .nil)) (.lit (.int 2))) (.cons (.nt (.isi .tuple (.idx (.var 2) (.lit (.int 0))))) .nil)))) (.cons (.ret (.lit (.bl false))) .nil) .nil) (.cons (.ife (.bop false (.cons (.nt (.isi .tuple (.idx (.var 2) (.lit (.int 1))))) (.cons (.cmp .ne (.idx (.var 2) (.lit (.int 0))) (.var 3)) (.cons (.cmp .ne (.idx (.var 2) (.lit (.int 1))) (.var 4)) .nil)))) (.cons (.ret (.lit (.bl false))) .nil) .nil) .nil))) (.cons (.ret (.lit (.bl true))) .nil)))
def c_law : CB := (.cons (.feed 1 0) (.cons (.forr (.name 2) (.wlk .r1 (.cons (.bi .max (.cons (.lit (.int 8)) (.cons (.bi .min (.cons (.lit (.int 30)) (.cons (.bi .len (.cons (.var 0) .nil)) .nil))) .nil))) .nil)) (.cons (.set 3 (.call 4 (.cons (.var 1) .nil))) (.cons (.setO 4 (.lst .nil)) (.cons (.forr (.tup (.cons (.name 7) (.cons (.name 8) .nil))) (.seq (.var 3)) (.cons (.mth .insert 4 (.cons (.lit (.int 0)) (.cons (.tup (.cons (.var 8) (.cons (.var 7) .nil))) .nil))) .nil)) (.cons (.set 5 (.bi .lst (.cons (.var 3) .nil))) (.cons (.setO 6 (.call 0 (.cons (.var 5) .nil))) (.cons (.ife (.bop false (.cons (.nt (.lend 5 (.cons (.bor 6) (.cons (.bor 4) .nil)))) (.cons (.cmp .ne (.var 5) (.var 3)) (.cons (.nt (.call 5 (.cons (.lend 0 (.cons (.bor 6) .nil)) (.cons (.var 3) .nil)))) .nil)))) (.cons (.ret (.lit (.bl false))) .nil) .nil) (.cons (.app 6 (.lit (.int 0))) (.cons (.mth .reverse 6 .nil) (.frz 4 (.cons (.ife (.bop false (.cons (.nt (.call 5 (.cons (.call 0 (.cons (.var 5) .nil)) (.cons (.var 4) .nil)))) (.cons (.cmp .ne (.var 5) (.var 3)) .nil))) (.cons (.ret (.lit (.bl false))) .nil) .nil) .nil))))))))))) (.cons (.ret (.lit (.bl true))) .nil)))
def d_turned_back : Df := ⟨"turned_back", 1, 1, ["row", "path", "place"], true, c_turned_back⟩
def d_law_draw : Df := ⟨"_law_draw", 3, 2, ["_law_feed", "_law_many", "_law_found", "_law_cell", "_law_number"], false, c_law_draw⟩
def d_law_name : Df := ⟨"_law_name", 4, 1, ["_law_feed", "_law_signs", "_law_size", "_law_k"], true, c_law_name⟩
def d_law_path : Df := ⟨"_law_path", 5, 1, ["_law_feed", "_law_k"], true, c_law_path⟩
def d_law_row : Df := ⟨"_law_row", 6, 1, ["_law_feed", "_law_row_here", "_law_k", "_law_path_here", "_law_place"], true, c_law_row⟩
def d_law_is : Df := ⟨"_law_is", 7, 2, ["_law_found", "_law_due", "_law_move", "_law_path_here", "_law_place"], true, c_law_is⟩
def d_law : Df := ⟨"law", 8, 1, ["_law_script", "_law_feed", "_law_k", "_law_row_here", "_law_due", "_law_handed", "_law_found", "_law_path_here", "_law_place"], true, c_law⟩
def tab : List Df := [d_turned_back, d_law_draw, d_law_name, d_law_path, d_law_row, d_law_is, d_law]
def T : Tab := ⟨tab.map (·.name), [], ["isinstance", "len", "list", "max", "min", "range", "reversed", "tuple", "zip"], []⟩
abbrev prg : Program := PySem.Challenge.pw_renamehall_k52_rows_turned_back
theorem g_turned_back : Good prg T tab d_turned_back := ⟨⟨rfl, rfl, rfl, by decide +kernel, rfl, by decide +kernel, by decide +kernel⟩, rfl, fun _ _ _ _ _ _ us hl => match us, hl with | [_], _ => rfl, fun k => by kernel_rfl⟩
theorem g_law_draw : Good prg T tab d_law_draw := ⟨⟨rfl, rfl, rfl, by decide +kernel, rfl, by decide +kernel, by decide +kernel⟩, rfl, fun _ _ _ _ _ _ us hl => match us, hl with | [_, _], _ => rfl, fun k => by kernel_rfl⟩
theorem g_law_name : Good prg T tab d_law_name := ⟨⟨rfl, rfl, rfl, by decide +kernel, rfl, by decide +kernel, by decide +kernel⟩, rfl, fun _ _ _ _ _ _ us hl => match us, hl with | [_], _ => rfl, fun k => by kernel_rfl⟩
theorem g_law_path : Good prg T tab d_law_path := ⟨⟨rfl, rfl, rfl, by decide +kernel, rfl, by decide +kernel, by decide +kernel⟩, rfl, fun _ _ _ _ _ _ us hl => match us, hl with | [_], _ => rfl, fun k => by kernel_rfl⟩
theorem g_law_row : Good prg T tab d_law_row := ⟨⟨rfl, rfl, rfl, by decide +kernel, rfl, by decide +kernel, by decide +kernel⟩, rfl, fun _ _ _ _ _ _ us hl => match us, hl with | [_], _ => rfl, fun k => by kernel_rfl⟩
theorem g_law_is : Good prg T tab d_law_is := ⟨⟨rfl, rfl, rfl, by decide +kernel, rfl, by decide +kernel, by decide +kernel⟩, rfl, fun _ _ _ _ _ _ us hl => match us, hl with | [_, _], _ => rfl, fun k => by kernel_rfl⟩
theorem g_law : Good prg T tab d_law := ⟨⟨rfl, rfl, rfl, by decide +kernel, rfl, by decide +kernel, by decide +kernel⟩, rfl, fun _ _ _ _ _ _ us hl => match us, hl with | [_], _ => rfl, fun k => by kernel_rfl⟩
theorem good : ∀ d, d ∈ tab → Good prg T tab d := List.forall_mem_cons.mpr ⟨g_turned_back, List.forall_mem_cons.mpr ⟨g_law_draw, List.forall_mem_cons.mpr ⟨g_law_name, List.forall_mem_cons.mpr ⟨g_law_path, List.forall_mem_cons.mpr ⟨g_law_row, List.forall_mem_cons.mpr ⟨g_law_is, List.forall_mem_cons.mpr ⟨g_law, List.forall_mem_nil _⟩⟩⟩⟩⟩⟩⟩
end RL

set_option Elab.async false
set_option linter.all false
set_option maxRecDepth 100000
set_option maxHeartbeats 1000000
namespace RL
open PySem PySem.Spec PyProof.Rows L2 RH
/-! ### what is drawn -/
theorem dr {k : Nat} {R S : Store} {m : Int} {P : D → Store → Prop} (F : Feed R S) (hm : 0 < m) (hm2 : m < 1073741824) (q : ∀ (r : Int) S', 0 ≤ r → r < m → Feed R S' → P (.int r) S') : wp ((Phi tab (k + 1) 1).m [.ptr 0, .int m] S) P :=
  draw_wp (d := d_law_draw) rfl rfl rfl rfl rfl F hm hm2 q
theorem name_wp {k : Nat} {R S : Store} {P : D → Store → Prop} (F : Feed R S) (q : ∀ l S', l.length ≤ 12 → Feed R S' → P (.str l) S') : wp ((Phi tab (k + 2) 2).m [.ptr 0] S) P := by
  refine wp_def (d := d_law_name) rfl rfl ?_
  simp only [d_law_name, c_law_name, List.map_cons, List.map_nil, List.length_cons, List.length_nil, Nat.reduceAdd, Nat.reduceSub, List.replicate, List.cons_append, List.nil_append]
  have fin : ∀ (signs : List Nat) (size : Int) S, Feed R S → 0 < signs.length → signs.length ≤ 100 → 0 ≤ size → size ≤ 12 → wp (evBk (Phi tab (k + 1)) (.cons (.ret (.m1 .join (.lit (.str [])) (.comp [("_law_k", 3)] (.idx (.var 1) (.call 1 (.cons (.var 0) (.cons (.bi .len (.cons (.var 1) .nil)) .nil)))) (.name 3) (.wlk .r1 (.cons (.var 2) .nil)) .no))) .nil) [.sh (.ptr 0), .sh (.str signs), .sh (.int size), .u] S) (eDef true P) := by
    intro signs size S F h1 h2 h3 h4
    simp [w62_of (i := size) (by omega) (by omega)]
    refine wp_compL (fun ds S acc => Feed R S ∧ acc.length + ds.length ≤ 12 ∧ ∃ l : List Nat, acc = l.map fun c => .str [c]) (fun S acc h => ?_) (fun d ds S acc h => ?_) _ _ _ ⟨F, by simp; omega, [], rfl⟩
    · obtain ⟨F, hl, l, rfl⟩ := h
      simp at hl
      rw [join_signs (by omega)]
      simp [kE, isBor]
      exact q l S hl F
    · obtain ⟨F, hl, l, rfl⟩ := h
      simp at hl
      simp [show signs.length ≤ 16777216 by omega]
      refine dr F (by omega) (by omega) fun r S' r0 r1 F' => ?_
      rw [RH.ix_str, if_pos (show signs.length ≤ 16777216 by omega), at_nn r0, List.getElem?_eq_getElem (by omega)]
      simp
      exact ⟨by omega, F', by omega, l ++ [signs[r.toNat]'(by omega)], by simp⟩
  simp
  refine dr F (by decide) (by decide) fun r S r0 r1 F => ?_
  simp
  refine dr F (by decide) (by decide) fun r' S r0' r1' F => ?_
  simp
  split
  · refine dr F (by decide) (by decide) fun r S r0 r1 F => ?_
    simp
    have := fin [97, 65, 98] (1 + r) S F (by decide) (by decide) (by omega) (by omega)
    simpa using this
  · have := fin [97, 98, 99, 100, 101, 102, 103, 104, 105, 106, 107, 108, 109, 110, 111, 112, 113, 114, 115, 116, 117, 118, 119, 120, 121, 122, 65, 66, 67, 68, 69, 70, 71, 72, 73, 74, 75, 76, 77, 78, 79, 80, 81, 82, 83, 84, 85, 86, 87, 88, 89, 90, 48, 49, 50, 51, 52, 53, 54, 55, 56, 57, 45, 95, 46] (1 + r) S F (by decide) (by decide) (by omega) (by omega)
    simpa using this
/-! ### paths, rows -/
def IsPath (d : D) : Prop := ∃ ds, d = .tup ds ∧ ds.length ≤ 6 ∧ ∀ x, x ∈ ds → ∃ l, x = .str l
def IsPair (d : D) : Prop := ∃ p q, d = .tup [p, q] ∧ IsPath p ∧ IsPath q
theorem IsPath.pl {d : D} (h : IsPath d) : Pl 1 d := by
  obtain ⟨ds, rfl, _, h⟩ := h
  exact .tup fun x hx => by obtain ⟨l, rfl⟩ := h x hx; exact .str
theorem IsPath.lf {d : D} (h : IsPath d) : lfD d = true := by
  obtain ⟨ds, rfl, _, h⟩ := h
  exact lf_tup fun x hx => by obtain ⟨l, rfl⟩ := h x hx; exact lf_str
theorem IsPath.isi {d : D} (h : IsPath d) : isiD .tuple d = some true := by
  obtain ⟨ds, rfl, _, h⟩ := h
  rfl
theorem IsPair.pl {d : D} (h : IsPair d) : Pl 2 d := by
  obtain ⟨p, q, rfl, h1, h2⟩ := h
  exact .tup fun x hx => by
    simp at hx
    rcases hx with rfl | rfl
    · exact h1.pl
    · exact h2.pl
theorem IsPair.lf {d : D} (h : IsPair d) : lfD d = true := by
  obtain ⟨p, q, rfl, h1, h2⟩ := h
  exact lf_tup fun x hx => by
    simp at hx
    rcases hx with rfl | rfl
    · exact h1.lf
    · exact h2.lf
theorem rows_pl {es : List D} (h : ∀ e, e ∈ es → IsPair e) : Pl 3 (.lst es) := .lst fun e he => (h e he).pl
theorem path_wp {k : Nat} {R S : Store} {P : D → Store → Prop} (F : Feed R S) (q : ∀ d S', IsPath d → Feed R S' → P d S') : wp ((Phi tab (k + 3) 3).m [.ptr 0] S) P := by
  refine wp_def (d := d_law_path) rfl rfl ?_
  simp only [d_law_path, c_law_path, List.map_cons, List.map_nil, List.length_cons, List.length_nil, Nat.reduceAdd, Nat.reduceSub, List.replicate, List.cons_append, List.nil_append]
  simp
  refine dr F (by decide) (by decide) fun r S r0 r1 F => ?_
  simp [w62_of (i := 1 + r) (by omega) (by omega)]
  refine wp_compL (fun ds S acc => Feed R S ∧ acc.length + ds.length ≤ 6 ∧ ∀ x, x ∈ acc → ∃ l, x = .str l) (fun S acc h => ?_) (fun d ds S acc h => ?_) _ _ _ ⟨F, by simp; omega, by simp⟩
  · obtain ⟨F, hl, h⟩ := h
    simp at hl
    simp [kE, isBor]
    exact q _ S ⟨acc, rfl, hl, h⟩ F
  · obtain ⟨F, hl, h⟩ := h
    simp at hl
    simp
    refine name_wp F fun l S' _ F' => ⟨by omega, F', by omega, fun x hx => ?_⟩
    rcases hx with z | z
    · exact h x z
    · exact ⟨l, z⟩
theorem row_wp {k : Nat} {R S : Store} {P : D → Store → Prop} (F : Feed R S) (q : ∀ es S', (∀ e, e ∈ es → IsPair e) → es.length ≤ 201 → Feed R S' → P (.lst es) S') : wp ((Phi tab (k + 4) 4).m [.ptr 0] S) P := by
  refine wp_def (d := d_law_row) rfl rfl ?_
  simp only [d_law_row, c_law_row, List.map_cons, List.map_nil, List.length_cons, List.length_nil, Nat.reduceAdd, Nat.reduceSub, List.replicate, List.cons_append, List.nil_append]
  simp
  refine dr F (by decide) (by decide) fun r S r0 r1 F => ?_
  have hi : ∃ m : Int, atI [D.int 4, .int 12, .int 201] r = some (.int m) ∧ 0 < m ∧ m ≤ 201 := by
    have : r = 0 ∨ r = 1 ∨ r = 2 := by omega
    rcases this with rfl | rfl | rfl
    · exact ⟨4, rfl, by decide, by decide⟩
    · exact ⟨12, rfl, by decide, by decide⟩
    · exact ⟨201, rfl, by decide, by decide⟩
  obtain ⟨m, em, m0, m1⟩ := hi
  simp [em]
  refine dr F (by omega) (by omega) fun n S n0 n1 F => ?_
  simp [w62_of (i := n) (by omega) (by omega)]
  refine wp_loopF (fun ds ρ S => Feed R S ∧ ∃ es c2 c3 c4, ρ = [.sh (.ptr 0), .ow es, c2, c3, c4] ∧ (∀ e, e ∈ es → IsPair e) ∧ es.length + ds.length ≤ 201) (fun ρ S h => ?_) (fun d ds ρ S h => ?_) _ _ _ ⟨F, [], .u, .u, .u, rfl, by simp, by simp; omega⟩
  · obtain ⟨F, es, c2, c3, c4, rfl, h, hl⟩ := h
    simp at hl
    simp [isBor]
    exact q es S h hl F
  · obtain ⟨F, es, c2, c3, c4, rfl, h, hl⟩ := h
    simp at hl
    simp
    refine path_wp F fun p S hp F => ?_
    refine path_wp F fun p2 S hp2 F => ?_
    refine dr F (by decide) (by decide) fun r S r0 r1 F => ?_
    have hq : ∃ q, atI [p, p2] (if r < 1 then r else 1) = some q ∧ IsPath q := by
      split
      · have : r = 0 := by omega
        subst this
        exact ⟨p, by simp, hp⟩
      · exact ⟨p2, by simp, hp2⟩
    obtain ⟨q', eq', hq'⟩ := hq
    simp [eq', c_ne_nil (rows_pl h) (by omega)]
    have fin : ∀ a b S, Feed R S → IsPath a → IsPath b → es.length < 16777216 ∧ Feed R S ∧ ∃ es', (∃ c2' c3' c4', [Cell.sh (.ptr 0), .ow (es ++ [.tup [a, b]]), .sh d, .sh a, .sh b] = [.sh (.ptr 0), .ow es', c2', c3', c4']) ∧ (∀ e, e ∈ es' → IsPair e) ∧ es'.length + ds.length ≤ 201 := fun a b S F ha hb => ⟨by omega, F, _, ⟨_, _, _, rfl⟩, fun e he => by
      rcases List.mem_append.mp he with z | z
      · exact h e z
      · simp at z; exact ⟨a, b, z, ha, hb⟩, by simp; omega⟩
    split
    · simpa using fin p q' S F hp hq'
    · rename_i he
      refine dr F (by decide) (by decide) fun r S r0 r1 F => ?_
      simp
      split
      · have hlen : 0 < es.length := by
          cases es with
          | nil => simp at he
          | cons _ _ => simp
        refine dr F (by omega) (by omega) fun r S r0 r1 F => ?_
        rw [RH.ix_lst, at_nn r0, List.getElem?_eq_getElem (by omega)]
        obtain ⟨a, b, e, ha, hb⟩ := h (es[r.toNat]'(by omega)) (List.getElem_mem _)
        simp [e]
        simpa using fin a b S F ha hb
      · simpa using fin p q' S F hp hq'
/-! ### the program -/
def swp : D → D
  | .tup [p, q] => .tup [q, p]
  | d => d
theorem swp_pair {e : D} (h : IsPair e) : IsPair (swp e) := by
  obtain ⟨p, q, rfl, h1, h2⟩ := h
  exact ⟨q, p, rfl, h2, h1⟩
theorem swp_swp {es : List D} (h : ∀ e, e ∈ es → IsPair e) : (es.map swp).map swp = es := by
  rw [List.map_map]
  conv => rhs; rw [← List.map_id es]
  refine List.map_congr_left fun e he => ?_
  obtain ⟨p, q, rfl, h1, h2⟩ := h e he
  rfl
theorem turned_wp {k : Nat} {S : Store} {es : List D} {P : D → Store → Prop} (h : ∀ e, e ∈ es → IsPair e) (hl : es.length ≤ 1000) (q : P (.lst (es.reverse.map swp)) S) : wp ((Phi tab (k + 1) 0).m [.lst es] S) P := by
  refine wp_def (d := d_turned_back) rfl rfl ?_
  simp only [d_turned_back, c_turned_back, List.map_cons, List.map_nil, List.length_cons, List.length_nil, Nat.reduceAdd, Nat.reduceSub, List.replicate, List.cons_append, List.nil_append]
  simp
  refine wp_compMap (g := swp) (fun d hd => ?_) (by simp; omega) ?_
  · obtain ⟨a, b, rfl, ha, hb⟩ := h d (by simpa using hd)
    simp [swp]
  · simp [kE, isBor]
    simpa using q
theorem is_wp {k : Nat} {S : Store} {es : List D} {P : D → Store → Prop} (h : ∀ e, e ∈ es → IsPair e) (hl : es.length ≤ 1000) (q : P (.bl true) S) : wp ((Phi tab (k + 1) 5).m [.lst es, .lst es] S) P := by
  refine wp_def (d := d_law_is) rfl rfl ?_
  simp only [d_law_is, c_law_is, List.map_cons, List.map_nil, List.length_cons, List.length_nil, Nat.reduceAdd, Nat.reduceSub, List.replicate, List.cons_append, List.nil_append]
  simp
  have hz : ∀ fs : List D, (∀ e, e ∈ fs → IsPair e) → ∀ d, d ∈ zipD fs fs → ∃ e, IsPair e ∧ d = .tup [e, e] := by
    intro fs
    induction fs with
    | nil => intro _ d hd; simp [zipD] at hd
    | cons f fs ih =>
      intro hf d hd
      simp [zipD] at hd
      rcases hd with rfl | hd
      · exact ⟨f, hf f (by simp), rfl⟩
      · exact ih (fun e he => hf e (List.mem_cons_of_mem _ he)) d hd
  refine wp_loopF (fun ds ρ S' => S' = S ∧ (∀ d, d ∈ ds → ∃ e, IsPair e ∧ d = .tup [e, e]) ∧ ∃ c2 c3 c4, ρ = [.sh (.lst es), .sh (.lst es), c2, c3, c4]) (fun ρ S' h => ?_) (fun d ds ρ S' h => ?_) _ _ _ ⟨rfl, hz es h, _, _, _, rfl⟩
  · obtain ⟨rfl, _, c2, c3, c4, rfl⟩ := h
    simp [kE, isBor]
    exact q
  · obtain ⟨rfl, hd, c2, c3, c4, rfl⟩ := h
    obtain ⟨e, ⟨a, b, rfl, ha, hb⟩, rfl⟩ := hd _ (List.mem_cons_self ..)
    simp [ha.isi, hb.isi, c_ne_self ha.pl (by omega), c_ne_self hb.pl (by omega)]
    exact fun x hx => hd x (List.mem_cons_of_mem _ hx)
theorem fr0 {k : Nat} : (Phi tab k 0).fr = true := rfl
theorem law_run (ns : List Int) (hn : ns.length ≤ 63) : ∃ S, (Phi tab (7 + 1) 6).m [.scr ns] [] = .ok (.bl true) S := by
  have : wp ((Phi tab (7 + 1) 6).m [.scr ns] []) (fun d _ => d = .bl true) := by
    refine wp_def (d := d_law) rfl rfl ?_
    simp only [d_law, c_law, List.map_cons, List.map_nil, List.length_cons, List.length_nil, Nat.reduceAdd, Nat.reduceSub, List.replicate, List.cons_append, List.nil_append]
    rw [wk_cons]
    simp only [ws_feed, List.getElem?_cons_zero, shD_sh, D.scr.injEq, exists_eq_left', nxt_nx, List.length_nil, List.nil_append, List.set_cons_succ, List.set_cons_zero]
    rw [wk_cons, ws_forr]
    have F0 : Feed [] [[.lst (ns.map .int), .int 0, .int 0]] := ⟨ns, 0, 0, rfl, by omega, by omega⟩
    simp only [wI_wlk, wl_cons, wl_nil, we_bi, we_lit, we_var, List.getElem?_cons_zero, shD_sh, len_scr, wo_some, bi_min, bi_max, w_r1]
    have hb : 0 ≤ (if (if (ns.length : Int) < 30 then (ns.length : Int) else 30) > 8 then (if (ns.length : Int) < 30 then (ns.length : Int) else 30) else 8) ∧ (if (if (ns.length : Int) < 30 then (ns.length : Int) else 30) > 8 then (if (ns.length : Int) < 30 then (ns.length : Int) else 30) else 8) ≤ 30 := by
      split <;> split <;> omega
    generalize (if (if (ns.length : Int) < 30 then (ns.length : Int) else 30) > 8 then (if (ns.length : Int) < 30 then (ns.length : Int) else 30) else 8) = n at hb
    rw [w62_of (i := n) (by omega) (by omega)]
    simp only [if_true, wo_some]
    refine wp_loopF (fun ds ρ S => Feed [] S ∧ ∃ c2 c3 c4 c5 c6 c7 c8, ρ = [.sh (.scr ns), .sh (.ptr 0), c2, c3, c4, c5, c6, c7, c8]) (fun ρ S h => ?_) (fun d ds ρ S h => ?_) _ _ _ ⟨F0, _, _, _, _, _, _, _, rfl⟩
    · simp [kE, isBor]
    · obtain ⟨F, c2, c3, c4, c5, c6, c7, c8, rfl⟩ := h
      rw [wp_bodyF]
      simp only [bt_name, wo_some, List.set_cons_succ, List.set_cons_zero]
      rw [wk_cons, ws_set]
      simp only [we_call, wl_cons, wl_nil, we_var, List.getElem?_cons_zero, List.getElem?_cons_succ, shD_sh]
      refine row_wp F fun es S hes hl F => ?_
      rw [nxt_nx, wk_cons, ws_setO]
      simp only [we_lst, wl_nil, D.lst.injEq, exists_eq_left', nxt_nx, List.set_cons_succ, List.set_cons_zero, List.length_nil]
      refine ⟨by decide, ?_⟩
      rw [wk_cons, ws_forr]
      simp only [wI_seq, we_var, List.getElem?_cons_zero, List.getElem?_cons_succ, shD_sh, sq_lst, wo_some]
      refine wp_loopF (fun ds ρ S' => S' = S ∧ (∀ e, e ∈ ds → IsPair e) ∧ ∃ acc c7 c8, acc.reverse ++ ds.map swp = es.map swp ∧ ρ = [.sh (.scr ns), .sh (.ptr 0), .sh d, .sh (.lst es), .ow acc, c5, c6, c7, c8]) (fun ρ S' h => ?_) (fun d' ds' ρ S' h => ?_) _ _ _ ⟨rfl, hes, [], _, _, rfl, rfl⟩
      · obtain ⟨rfl, _, acc, c7, c8, hacc, rfl⟩ := h
        simp only [List.map_nil, List.append_nil] at hacc
        have eacc : acc = es.reverse.map swp := by
          rw [← List.reverse_reverse acc, hacc, List.map_reverse]
        subst eacc
        have hsw : ∀ e, e ∈ es.reverse.map swp → IsPair e := fun e he => by
          obtain ⟨x, hx, rfl⟩ := List.mem_map.mp he
          exact swp_pair (hes x (by simpa using hx))
        have hsl : (es.reverse.map swp).length ≤ 201 := by simpa using hl
        have eback : (es.reverse.map swp).reverse.map swp = es := by
          rw [← List.map_reverse, List.reverse_reverse, swp_swp hes]
        rw [nxt_nx, wk_cons, ws_set]
        simp only [we_bi, wl_cons, wl_nil, we_var, List.getElem?_cons_zero, List.getElem?_cons_succ, shD_sh, bi_lst, wo_some, nxt_nx, List.set_cons_succ, List.set_cons_zero]
        rw [wk_cons, ws_setO]
        simp only [we_call, wl_cons, wl_nil, we_var, List.getElem?_cons_zero, List.getElem?_cons_succ, shD_sh]
        refine turned_wp hes (by omega) ?_
        simp only [D.lst.injEq, exists_eq_left', nxt_nx, List.set_cons_succ, List.set_cons_zero]
        rw [wk_cons, ws_ife]
        simp only [we_bop, wb_cons, wb_one, we_nt, we_lend, wl_cons, wl_nil, we_bor, List.getElem?_cons_zero, List.getElem?_cons_succ, owD_ow]
        refine is_wp hsw (by omega) ⟨by simp, ?_⟩
        simp only [asB_bl, wo_some, Bool.not_true, if_true, we_cmp, we_var, List.getElem?_cons_zero, List.getElem?_cons_succ, shD_sh, c_ne_self (rows_pl hes) (by omega), we_call, wl_cons, wl_nil, we_lend, we_bor, owD_ow]
        refine turned_wp hsw (by omega) ⟨?_, ?_⟩
        · rw [eback, fr0]
          show (false || (true && lfDs es)) = true
          rw [lfDs_of fun e he => (hes e he).lf]; rfl
        rw [eback]
        refine is_wp hes (by omega) ?_
        simp only [asB_bl, wo_some, Bool.not_true, Bool.false_eq_true, if_false, wk_nil, nxt_nx]
        rw [wk_cons, ws_app]
        simp only [List.getElem?_cons_zero, List.getElem?_cons_succ, owD_ow, we_lit, nxt_nx, List.set_cons_succ, List.set_cons_zero]
        refine ⟨by omega, ?_⟩
        rw [wk_cons, ws_mth]
        simp only [List.getElem?_cons_zero, List.getElem?_cons_succ, owD_ow, wl_nil, lmD, wo_some, nxt_nx, List.set_cons_succ, List.set_cons_zero, wk_frz]
        rw [wk_cons, ws_ife]
        simp only [we_bop, wb_cons, wb_one, we_nt, we_call, wl_cons, wl_nil, we_var, List.getElem?_cons_zero, List.getElem?_cons_succ, shD_sh]
        refine turned_wp hes (by omega) ?_
        refine is_wp hsw (by omega) ?_
        simp only [asB_bl, wo_some, Bool.not_true, if_true, we_cmp, we_var, List.getElem?_cons_zero, List.getElem?_cons_succ, shD_sh, c_ne_self (rows_pl hes) (by omega), Bool.false_eq_true, if_false, wk_nil, nxt_nx, aft_nx]
        exact ⟨F, _, _, _, _, _, _, _, rfl⟩
      · obtain ⟨rfl, hd, acc, c7, c8, hacc, rfl⟩ := h
        obtain ⟨a, b, rfl, ha, hb⟩ := hd _ (List.mem_cons_self ..)
        have hlen : acc.length + ds'.length + 1 = es.length := by
          have := congrArg List.length hacc
          simp at this; omega
        simp [lmD, show acc.length < 16777216 by omega]
        refine ⟨fun e he => hd e (List.mem_cons_of_mem _ he), ?_⟩
        rw [← hacc]
        simp [swp]
  obtain ⟨a, S, e, rfl⟩ := wp_of this
  exact ⟨S, e⟩
end RL

set_option Elab.async false
set_option linter.all false
set_option maxRecDepth 100000
set_option maxHeartbeats 0
namespace RL
open PySem PySem.Spec PyProof.Rows L2 RH
abbrev R : PySem.W.OpenRow := PySem.W.OpenLaw.row PySem.Challenge.rw_renamehall_k52_rows_turned_back
def fns : List He.DefD := tab.map (mkD prg)
def fas : List He.Fa := faOf T tab
abbrev hk : PySem.W.Hook := He.hookD 4 fas fns
def ob (s : PySem.W.SharedT) : He.AlD := He.obsDG 4 fas fns (HandSHeadRun.getT s)
theorem ob_eq (s : PySem.W.SharedT) : ob s = hk.obs s.abs := He.obsDG_eq (HandSHeadRun.getT_eq s)
def loose : List Str := ["turned_back", "_law_draw", "_law_name", "_law_path", "_law_row", "_law_is"]
theorem run (w : World) : HandSHeadRun.RunEq R (PySem.W.view R.prog [8]) hk ob 2000 loose w := by
  intro os
  kernel_rfl
end RL
open PySem PySem.W PySem.Calls PyProof.Rows L2 RH
theorem PySem.Challenge.cw_renamehall_k52_rows_turned_back_holds : PySem.Challenge.rw_renamehall_k52_rows_turned_back.Holds := by
  w_on; o_law
  refine HandSHeadRun.head_any (r := RL.R) (q := view RL.R.prog [8]) (H := RL.hk) (ob := RL.ob) (M := 2000) (loose := RL.loose) (d := HandSHeadRun.topDef RL.R.prog 8) (kwd := []) RL.ob_eq
    (by kernel_rfl) (fun s => by kernel_rfl) RL.run (by kernel_rfl) (by kernel_rfl) (by kernel_rfl) (by rfl) (by first | assumption | decide +kernel) (by decide +kernel) ⟨rfl, rfl, rfl, rfl, rfl, by decide +kernel⟩ ?hw ?hc
  case hw => w_witness2
  case hc =>
    exact law_walk (l := PySem.Challenge.rw_renamehall_k52_rows_turned_back) (n := 63) (k := 7) (i := 6) (x := "_law_script") (e := RL.d_law) rfl (by decide) (by kernel_rfl) ⟨rfl, by decide, by decide⟩ rfl (by kernel_rfl) rfl rfl rfl rfl RL.good RL.law_run

