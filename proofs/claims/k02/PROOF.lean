import PyProof.Rows.All
import Wide.All
import OpenK.AllK
import Wide.FinOn
import HandS.ForMost
import HandS.IsInst
import HandS.TupAny
import HandS.TupMul
import HandS.Style
import HandS.Deep
import HandS.TupLe
import HandS.Flow
import HandS.Wide
import HandS.Text
import HandS.Dict
import KE.SortData
import KE.DataMinMax
import HandS.Comp
import HandS.Iter
import HandS.Zip
import HandS.Small
import HandS.RaiseMore
import HandS.Conv
import HandS.TupLen
import HandS.WordsDict
import KE.GoesEnum
import KE.GoesMore
import KE.DataFind
import HandS.TupSets
import KE.DataCmp
import PyProof.WalksMore
import PySem.Challenge.RW_jigsawyard_k02_whole_kinds_of_pieces
set_option Elab.async false
set_option linter.all false
set_option maxRecDepth 100000
/-! DL: a layer of data over the hand layer: a def's body as a function on plain data (PyData), with owned lists and dicts that change. -/
namespace DL
open PySem PySem.Spec PyProof.Rows L2

/-! ### what stands for a datum -/
mutual
inductive Rp (K : PySem.W.Frag) (F : Hp) : V → PyData → Prop
  | non : Rp K F .non .none
  | bl (b : Bool) : Rp K F (.bl b) (.bool b)
  | int (i : Int) : Rp K F (.int i) (.int i)
  | str (x : Str) : Rp K F (.str x) (.str x)
  | lst {a : Addr} {xs : List V} {ds : List PyData} : F a = some (.lst xs) → RpA K F xs ds → Rp K F (.ref a) (.list ds)
  | tup {a : Addr} {xs : List V} {ds : List PyData} : F a = some (.tup xs) → RpA K F xs ds → Rp K F (.ref a) (.tuple ds)
inductive RpA (K : PySem.W.Frag) (F : Hp) : List V → List PyData → Prop
  | nil : RpA K F [] []
  | cons {v : V} {vs : List V} {d : PyData} {ds : List PyData} : Rp K F v d → RpA K F vs ds → RpA K F (v :: vs) (d :: ds)
end
section
variable {K : PySem.W.Frag} {F F' : Hp}
theorem Same.tupD {H H' : Hp} {a : Addr} {xs : List V} (e : Same H H') (h : H a = some (.tup xs)) : SqT K H' a xs := .inl (.inl (e _ _ h))
mutual
theorem Rp.mono (e : Same F F') : ∀ {d : PyData} {v : V}, Rp K F v d → Rp K F' v d
  | .none, _, h => by cases h; exact .non
  | .bool b, _, h => by cases h; exact .bl b
  | .int i, _, h => by cases h; exact .int i
  | .str x, _, h => by cases h; exact .str x
  | .list ds, _, h => by
    cases h with
    | lst hs ha => exact .lst (e _ _ hs) (RpA.mono e ha)
  | .tuple ds, _, h => by
    cases h with
    | tup hs ha => exact .tup (e _ _ hs) (RpA.mono e ha)
  | .dict _, _, h => by cases h
theorem RpA.mono (e : Same F F') : ∀ {ds : List PyData} {vs : List V}, RpA K F vs ds → RpA K F' vs ds
  | [], _, h => by cases h; exact .nil
  | d :: ds, _, h => by
    cases h with
    | cons h1 h2 => exact .cons (Rp.mono e h1) (RpA.mono e h2)
end
mutual
theorem Rp.dp : ∀ {d : PyData} {v : V}, Rp K F v d → Dp K F v d
  | .none, _, h => by cases h; exact .non
  | .bool b, _, h => by cases h; exact .bl b
  | .int i, _, h => by cases h; exact .int i
  | .str x, _, h => by cases h; exact .str x
  | .list ds, _, h => by
    cases h with
    | lst hs ha => exact .lst (SqL.of hs) (RpA.dp ha)
  | .tuple ds, _, h => by
    cases h with
    | tup hs ha => exact .tup (.inl (.inl hs)) (RpA.dp ha)
  | .dict _, _, h => by cases h
theorem RpA.dp : ∀ {ds : List PyData} {vs : List V}, RpA K F vs ds → DpAll K F vs ds
  | [], _, h => by cases h; exact .nil
  | d :: ds, _, h => by
    cases h with
    | cons h1 h2 => exact .cons (Rp.dp h1) (RpA.dp h2)
end
theorem RpA.length : ∀ {ds : List PyData} {vs : List V}, RpA K F vs ds → vs.length = ds.length
  | [], _, h => by cases h; rfl
  | d :: ds, _, h => by
    cases h with
    | cons h1 h2 => rw [List.length_cons, List.length_cons, RpA.length h2]
theorem RpA.get : ∀ {ds : List PyData} {vs : List V} {i : Nat} {d : PyData}, RpA K F vs ds → ds[i]? = some d → ∃ v, vs[i]? = some v ∧ Rp K F v d
  | [], _, i, _, _, e => by simp at e
  | d :: ds, _, 0, d', h, e => by
    cases h with
    | cons h1 h2 =>
      simp at e
      subst e
      exact ⟨_, rfl, h1⟩
  | d :: ds, _, i + 1, d', h, e => by
    cases h with
    | cons h1 h2 =>
      obtain ⟨v, e1, e2⟩ := RpA.get h2 (i := i) (d := d') (by simpa using e)
      exact ⟨v, by simpa using e1, e2⟩
theorem RpA.get' : ∀ {ds : List PyData} {vs : List V} {i : Nat} {v : V}, RpA K F vs ds → vs[i]? = some v → ∃ d, ds[i]? = some d ∧ Rp K F v d
  | [], _, i, v, h, e => by cases h; simp at e
  | d :: ds, _, 0, v, h, e => by
    cases h with
    | cons h1 h2 =>
      simp at e
      subst e
      exact ⟨_, rfl, h1⟩
  | d :: ds, _, i + 1, v, h, e => by
    cases h with
    | cons h1 h2 =>
      obtain ⟨d', e1, e2⟩ := RpA.get' h2 (i := i) (v := v) (by simpa using e)
      exact ⟨d', by simpa using e1, e2⟩
theorem RpA.append : ∀ {ds es : List PyData} {vs ws : List V}, RpA K F vs ds → RpA K F ws es → RpA K F (vs ++ ws) (ds ++ es)
  | [], _, _, _, h, h' => by cases h; exact h'
  | d :: ds, _, _, _, h, h' => by
    cases h with
    | cons h1 h2 => exact .cons h1 (RpA.append h2 h')
theorem RpA.take : ∀ {ds : List PyData} {vs : List V} (n : Nat), RpA K F vs ds → RpA K F (vs.take n) (ds.take n)
  | [], _, n, h => by cases h; simp; exact .nil
  | d :: ds, _, 0, h => by simp; exact .nil
  | d :: ds, _, n + 1, h => by
    cases h with
    | cons h1 h2 => exact .cons h1 (RpA.take n h2)
theorem RpA.drop : ∀ {ds : List PyData} {vs : List V} (n : Nat), RpA K F vs ds → RpA K F (vs.drop n) (ds.drop n)
  | [], _, n, h => by cases h; simp; exact .nil
  | d :: ds, _, 0, h => h
  | d :: ds, _, n + 1, h => by
    cases h with
    | cons h1 h2 => exact RpA.drop n h2
theorem RpA.set : ∀ {ds : List PyData} {vs : List V} {v : V} {d : PyData} (n : Nat), RpA K F vs ds → Rp K F v d → RpA K F (vs.set n v) (ds.set n d)
  | [], _, _, _, n, h, _ => by cases h; simp; exact .nil
  | d :: ds, _, _, _, 0, h, h' => by
    cases h with
    | cons h1 h2 => exact .cons h' h2
  | d :: ds, _, _, _, n + 1, h, h' => by
    cases h with
    | cons h1 h2 => exact .cons h1 (RpA.set n h2 h')
theorem RpA.reverse : ∀ {ds : List PyData} {vs : List V}, RpA K F vs ds → RpA K F vs.reverse ds.reverse
  | [], _, h => by cases h; exact .nil
  | d :: ds, _, h => by
    cases h with
    | cons h1 h2 =>
      rw [List.reverse_cons, List.reverse_cons]
      exact RpA.append (RpA.reverse h2) (.cons h1 .nil)
theorem RpA.rep {ds : List PyData} {vs : List V} (h : RpA K F vs ds) : ∀ k : Nat, RpA K F (List.replicate k vs).flatten (List.replicate k ds).flatten
  | 0 => by simp; exact .nil
  | k + 1 => by
    rw [List.replicate_succ, List.replicate_succ, List.flatten_cons, List.flatten_cons]
    exact h.append (RpA.rep h k)
theorem RpA.ints : ∀ {ns : List Int}, RpA K F (ns.map V.int) (ns.map PyData.int)
  | [] => .nil
  | n :: ns => .cons (.int n) RpA.ints
theorem RpA.of_ints : ∀ {ns : List Int} {vs : List V}, RpA K F vs (ns.map PyData.int) → vs = ns.map V.int
  | [], _, h => by cases h; rfl
  | n :: ns, _, h => by
    cases h with
    | cons h1 h2 =>
      cases h1
      rw [RpA.of_ints h2]
      rfl
theorem RpA.mem : ∀ {ds : List PyData} {vs : List V} {v : V}, RpA K F vs ds → v ∈ vs → ∃ d ∈ ds, Rp K F v d
  | [], _, v, h, e => by cases h; cases e
  | d :: ds, _, v, h, e => by
    cases h with
    | cons h1 h2 =>
      cases e with
      | head => exact ⟨_, List.mem_cons_self, h1⟩
      | tail _ e =>
        obtain ⟨d', e1, e2⟩ := RpA.mem h2 e
        exact ⟨d', List.mem_cons_of_mem _ e1, e2⟩
end

/-! ### the state: slots -/
inductive Sl where
  | emp
  | dat (d : PyData)
  | own (d : PyData)
  | scr (ns : List Int)
abbrev Ev := List Sl
inductive Out (α : Type) where
  | ok (a : α) (ρ : Ev)
  | exc (c : Str) (ρ : Ev)
  | bad
def Out.bind {α β : Type} (x : Out α) (k : α → Ev → Out β) : Out β := match x with
  | .ok a ρ => k a ρ
  | .exc c ρ => .exc c ρ
  | .bad => .bad

/-- a def's entry: the slots of borrowed things, their places, the heaps at the entry, the wish for what is raised -/
structure Cg where
  B : List Nat
  A : Nat → Option Addr
  H0 : Hp
  F0 : Hp
  W : Str → Ev → Hp → Prop

def keyD : Key → PyData
  | .inl i => .int i
  | .inr x => .str x
/-- an owned thing's content -/
inductive OwnOk (K : PySem.W.Frag) (F H : Hp) (p : Addr) : PyData → Prop
  | lst {vs : List V} {ds : List PyData} : H p = some (.lst vs) → RpA K F vs ds → OwnOk K F H p (.list ds)
  | dK {kv : List (Key × V)} {kvs : List (PyData × PyData)} : H p = some (.dK kv) → Paired (fun (a : Key × V) (b : PyData × PyData) => b.1 = keyD a.1 ∧ Rp K F a.2 b.2) kv kvs → OwnOk K F H p (.dict kvs)
  | dT {kv : List (List Key × V)} {kvs : List (PyData × PyData)} : H p = some (.dT kv) → Paired (fun (a : List Key × V) (b : PyData × PyData) => b.1 = .tuple (a.1.map keyD) ∧ Rp K F a.2 b.2) kv kvs → OwnOk K F H p (.dict ((.none, .none) :: kvs))
theorem OwnOk.at' {K : PySem.W.Frag} {F F' H H' : Hp} {p : Addr} {d : PyData} (h : OwnOk K F H p d) (e : Same F F') (q : H' p = H p) : OwnOk K F' H' p d := by
  cases h with
  | lst h1 h2 => exact .lst (q.trans h1) (h2.mono e)
  | dK h1 h2 => exact .dK (q.trans h1) (Paired.mapP h2 fun a b z => ⟨z.1, z.2.mono e⟩)
  | dT h1 h2 => exact .dT (q.trans h1) (Paired.mapP h2 fun a b z => ⟨z.1, z.2.mono e⟩)
theorem OwnOk.some {K : PySem.W.Frag} {F H : Hp} {p : Addr} {d : PyData} (h : OwnOk K F H p d) : ∃ o, H p = some o := by
  cases h with
  | lst h1 h2 => exact ⟨_, h1⟩
  | dK h1 h2 => exact ⟨_, h1⟩
  | dT h1 h2 => exact ⟨_, h1⟩

def Pl (G : Cg) (i : Nat) (p : Addr) : Prop := G.A i = some p ∨ (G.A i = none ∧ G.H0 p = none)
def SlOk (K : PySem.W.Frag) (G : Cg) (F H : Hp) (σ : L2.St) (i : Nat) : Sl → Prop
  | .emp => True
  | .dat d => ∃ v, σ[i]? = some (some v) ∧ Rp K F v d
  | .own d => ∃ p, σ[i]? = some (some (.ref p)) ∧ F p = none ∧ OwnOk K F H p d ∧ Pl G i p
  | .scr ns => ∃ a, σ[i]? = some (some (.ref a)) ∧ SqL K F a (ns.map V.int)
structure Rel (K : PySem.W.Frag) (G : Cg) (σ : L2.St) (H : Hp) (ρ : Ev) (F : Hp) : Prop where
  sub : Same F H
  f0 : Same G.F0 F
  keep : ∀ a o, G.H0 a = some o → (∀ i, G.A i ≠ some a) → H a = some o
  newF : ∀ a o, G.H0 a = some o → G.F0 a = none → F a = none
  len : ρ.length = σ.length
  sl : ∀ (i : Nat) (s : Sl), ρ[i]? = some s → SlOk K G F H σ i s
  inj : ∀ (i j : Nat) (di dj : PyData) (p : Addr), ρ[i]? = some (.own di) → ρ[j]? = some (.own dj) → σ[i]? = some (some (.ref p)) → σ[j]? = some (some (.ref p)) → i = j
  bor : ∀ (i : Nat) (p : Addr), G.A i = some p → i ∈ G.B ∧ (∃ o, G.H0 p = some o) ∧ ∃ d, ρ[i]? = some (.own d)
def VOk (K : PySem.W.Frag) (G : Cg) (F H : Hp) (σ : L2.St) (ρ : Ev) (v : V) : Sl → Prop
  | .emp => False
  | .dat d => Rp K F v d
  | .own d => ∃ p, v = .ref p ∧ F p = none ∧ OwnOk K F H p d ∧ G.H0 p = none ∧ ∀ (i : Nat) (d' : PyData), ρ[i]? = some (.own d') → σ[i]? ≠ some (some (.ref p))
  | .scr ns => ∃ a, v = .ref a ∧ SqL K F a (ns.map V.int)

/-! ### what is wanted behind a step -/
def Post {α β : Type} (K : PySem.W.Frag) (G : Cg) (σ : L2.St) (F : Hp) (r : Out α) (ok : Hp → Hp → Ev → β → α → Prop) (Q : β → Hp → Prop) : Prop :=
  match r with
  | .ok a ρ' => ∀ b H' F', Same F F' → Rel K G σ H' ρ' F' → ok F' H' ρ' b a → Q b H'
  | .exc c ρ' => ∀ (σ' : L2.St) H' F', Same F F' → Rel K G σ' H' ρ' F' → G.W c ρ' H'
  | .bad => False
section
variable {K : PySem.W.Frag} {G : Cg} {σ : L2.St} {F : Hp} {α β γ δ : Type}
theorem Post.up {F1 : Hp} {r : Out α} {ok : Hp → Hp → Ev → β → α → Prop} {Q : β → Hp → Prop} (h : Post K G σ F r ok Q) (e : Same F F1) : Post K G σ F1 r ok Q := by
  cases r with
  | ok a ρ => exact fun b H' F' s r o => h b H' F' (e.trans s) r o
  | exc c ρ => exact fun σ' H' F' s r => h σ' H' F' (e.trans s) r
  | bad => exact h
theorem Post.bind {r : Out α} {k : α → Ev → Out γ} {ok : Hp → Hp → Ev → β → α → Prop} {ok2 : Hp → Hp → Ev → δ → γ → Prop} {Q : δ → Hp → Prop} {Q1 : β → Hp → Prop}
    (h : Post K G σ F (r.bind k) ok2 Q) (f : ∀ a ρ1 b H1 F1, Same F F1 → Rel K G σ H1 ρ1 F1 → ok F1 H1 ρ1 b a → Post K G σ F1 (k a ρ1) ok2 Q → Q1 b H1) : Post K G σ F r ok Q1 := by
  cases r with
  | ok a ρ => exact fun b H' F' s r o => f a ρ b H' F' s r o (Post.up h s)
  | exc c ρ => exact h
  | bad => exact h
end

abbrev okE (K : PySem.W.Frag) (G : Cg) (σ : L2.St) : Hp → Hp → Ev → V → Sl → Prop := fun F H ρ v s => VOk K G F H σ ρ v s
abbrev okX (K : PySem.W.Frag) : Hp → Hp → Ev → V → PyData → Prop := fun F _ _ v d => Rp K F v d
abbrev okT : Hp → Hp → Ev → Bool → Bool → Prop := fun _ _ _ b b' => b = b'
abbrev okL (K : PySem.W.Frag) : Hp → Hp → Ev → List V → List PyData → Prop := fun F _ _ vs ds => RpA K F vs ds

/-- a def's body, or the blocks of a comprehension in it: one text at many states, and what the rules ask of each -/
structure Fam where
  ι : Type
  X : ι → Cx
  K : PySem.W.Frag
  hK : ∀ i, (X i).K = K
  calm : ∀ i, (X i).calm = true
  hu : ∀ i, (X i).A.units + 80 < cLine
  n : Nat

/-- an expression whose value may be a new thing of its own -/
structure DE (Γ : Fam) (G : Cg) (e : Expr) (f : Ev → Out Sl) : Prop where
  ex : ∃ t : TE, (∀ i, PE (Γ.X i) e t) ∧ ∀ (σ τ : L2.St) (hn : σ.length = Γ.n) (H : Hp) (ρ : Ev) (F : Hp) (Q : VK), Rel Γ.K G (σ ++ τ) H ρ F → Post Γ.K G (σ ++ τ) F (f ρ) (okE Γ.K G (σ ++ τ)) Q → t σ H Q
/-- an expression as a datum -/
structure DX (Γ : Fam) (G : Cg) (e : Expr) (f : Ev → Out PyData) : Prop where
  ex : ∃ t : TE, (∀ i, PE (Γ.X i) e t) ∧ ∀ (σ τ : L2.St) (hn : σ.length = Γ.n) (H : Hp) (ρ : Ev) (F : Hp) (Q : VK), Rel Γ.K G (σ ++ τ) H ρ F → Post Γ.K G (σ ++ τ) F (f ρ) (okX Γ.K) Q → t σ H Q
/-- a test -/
structure DT (Γ : Fam) (G : Cg) (e : Expr) (f : Ev → Out Bool) : Prop where
  ex : ∃ t : TT, (∀ i, PT (Γ.X i) e t) ∧ ∀ (σ τ : L2.St) (hn : σ.length = Γ.n) (H : Hp) (ρ : Ev) (F : Hp) (Q : Bool → Hp → Prop), Rel Γ.K G (σ ++ τ) H ρ F → Post Γ.K G (σ ++ τ) F (f ρ) okT Q → t σ H Q
/-- arguments as data -/
structure DA (Γ : Fam) (G : Cg) (es : List Expr) (f : Ev → Out (List PyData)) : Prop where
  ex : ∃ t : TA, (∀ i, PA (Γ.X i) es t) ∧ ∀ (σ τ : L2.St) (hn : σ.length = Γ.n) (H : Hp) (ρ : Ev) (F : Hp) (Q : List V → Hp → Prop), Rel Γ.K G (σ ++ τ) H ρ F → Post Γ.K G (σ ++ τ) F (f ρ) (okL Γ.K) Q → t σ H Q

/-! ### statements -/
inductive Flw where
  | nx | brk | cnt
  | ret (s : Sl)
def PostS (K : PySem.W.Frag) (G : Cg) (n : Nat) (F : Hp) (r : Out Flw) (D : Ends) : Prop :=
  match r with
  | .ok .nx ρ' => ∀ σ' H' F', σ'.length = n → Same F F' → Rel K G σ' H' ρ' F' → D.nx σ' H'
  | .ok .brk ρ' => ∀ σ' H' F', σ'.length = n → Same F F' → Rel K G σ' H' ρ' F' → D.bk σ' H'
  | .ok .cnt ρ' => ∀ σ' H' F', σ'.length = n → Same F F' → Rel K G σ' H' ρ' F' → D.ct σ' H'
  | .ok (.ret s) ρ' => ∀ σ' v H' F', σ'.length = n → Same F F' → Rel K G σ' H' ρ' F' → VOk K G F' H' σ' ρ' v s → D.rt v H'
  | .exc c ρ' => ∀ (σ' : L2.St) H' F', Same F F' → Rel K G σ' H' ρ' F' → G.W c ρ' H'
  | .bad => False
structure DS (Γ : Fam) (G : Cg) (st : Stmt) (f : Ev → Out Flw) : Prop where
  ex : ∃ t : TS, (∀ i, PS (Γ.X i) st t) ∧ ∀ (σ : L2.St) (hn : σ.length = Γ.n) (H : Hp) (ρ : Ev) (F : Hp) (D : Ends), Rel Γ.K G σ H ρ F → PostS Γ.K G Γ.n F (f ρ) D → t D σ H
structure DSs (Γ : Fam) (G : Cg) (st : List Stmt) (f : Ev → Out Flw) : Prop where
  ex : ∃ t : TS, (∀ i, PSs (Γ.X i) st t) ∧ ∀ (σ : L2.St) (hn : σ.length = Γ.n) (H : Hp) (ρ : Ev) (F : Hp) (D : Ends), Rel Γ.K G σ H ρ F → PostS Γ.K G Γ.n F (f ρ) D → t D σ H
section
variable {K : PySem.W.Frag} {G : Cg} {F : Hp}
theorem PostS.up {F1 : Hp} {r : Out Flw} {D : Ends} (h : PostS K G n F r D) (e : Same F F1) : PostS K G n F1 r D := by
  cases r with
  | ok a ρ =>
    cases a with
    | nx => exact fun σ' H' F' hl s r => h σ' H' F' hl (e.trans s) r
    | brk => exact fun σ' H' F' hl s r => h σ' H' F' hl (e.trans s) r
    | cnt => exact fun σ' H' F' hl s r => h σ' H' F' hl (e.trans s) r
    | ret s => exact fun σ' v H' F' hl s r => h σ' v H' F' hl (e.trans s) r
  | exc c ρ => exact fun σ' H' F' s r => h σ' H' F' (e.trans s) r
  | bad => exact h
/-- an expression ahead of a statement's end -/
theorem PostS.bindE {α β : Type} {σ : L2.St} (hn : σ.length = n) {r : Out α} {k : α → Ev → Out Flw} {ok : Hp → Hp → Ev → β → α → Prop} {D : Ends} {Q1 : β → Hp → Prop}
    (h : PostS K G n F (r.bind k) D) (f : ∀ a ρ1 b H1 F1, Same F F1 → Rel K G σ H1 ρ1 F1 → ok F1 H1 ρ1 b a → PostS K G n F1 (k a ρ1) D → Q1 b H1) : Post K G σ F r ok Q1 := by
  cases r with
  | ok a ρ => exact fun b H' F' s r o => f a ρ b H' F' s r o (PostS.up h s)
  | exc c ρ => exact h
  | bad => exact h
end
/-- no ghosts -/
theorem q0 {K : PySem.W.Frag} {G : Cg} {n : Nat} {α β : Type} {f : Ev → Out α} {ok : L2.St → Hp → Hp → Ev → β → α → Prop} {t : L2.St → Hp → (β → Hp → Prop) → Prop}
    (q : ∀ (σ τ : L2.St) (hn : σ.length = n) (H : Hp) (ρ : Ev) (F : Hp) (Q : β → Hp → Prop), Rel K G (σ ++ τ) H ρ F → Post K G (σ ++ τ) F (f ρ) (ok (σ ++ τ)) Q → t σ H Q) (σ : L2.St) (hn : σ.length = n) (H : Hp) (ρ : Ev) (F : Hp) (Q : β → Hp → Prop)
    (R : Rel K G σ H ρ F) (h : Post K G σ F (f ρ) (ok σ) Q) : t σ H Q := q σ [] hn H ρ F Q (by rw [List.append_nil]; exact R) (by rw [List.append_nil]; exact h)
def rNext : Ev → Out Flw := fun ρ => .ok .nx ρ
def seqK (g : Ev → Out Flw) (fl : Flw) (ρ : Ev) : Out Flw := match fl with
  | .nx => g ρ
  | f => .ok f ρ
def rSeq (f g : Ev → Out Flw) : Ev → Out Flw := fun ρ => (f ρ).bind (seqK g)
section
variable {Γ : Fam} {G : Cg}
theorem dss_nil : DSs Γ G [] rNext := ⟨_, fun _ => pss_nil, fun σ hn H ρ F D R h => h σ H F hn (Same.refl F) R⟩
theorem dss_one {st : Stmt} {f : Ev → Out Flw} (h : DS Γ G st f) : DSs Γ G [st] f := by
  obtain ⟨t, p, q⟩ := h.ex
  exact ⟨t, fun i => pss_one (p i), q⟩
theorem dss_cons {st : Stmt} {rest : List Stmt} {f g : Ev → Out Flw} (h : DS Γ G st f) (h2 : DSs Γ G rest g) : DSs Γ G (st :: rest) (rSeq f g) := by
  obtain ⟨t, p, q⟩ := h.ex
  obtain ⟨t2, p2, q2⟩ := h2.ex
  refine ⟨_, fun i => pss_cons (p i) (p2 i), fun σ hn H ρ F D R h => ?_⟩
  refine q σ hn H ρ F _ R ?_
  unfold rSeq at h
  cases e : f ρ with
  | ok a ρ1 =>
    rw [e] at h
    cases a with
    | nx =>
      exact fun σ' H' F' hl s r => q2 σ' hl H' ρ1 F' D r (PostS.up (show PostS Γ.K G Γ.n F (g ρ1) D from h) s)
    | brk => exact h
    | cnt => exact h
    | ret s => exact h
  | exc c ρ1 =>
    rw [e] at h
    exact h
  | bad =>
    rw [e] at h
    exact h
/-- a block from its rule term, weakened -/
theorem ds_if {c : Expr} {a b : List Stmt} {pos : Pos} {f : Ev → Out Bool} {g k : Ev → Out Flw} (hc : DT Γ G c f) (ha : DSs Γ G a g) (hb : DSs Γ G b k) : DS Γ G (.If c a b pos) (fun ρ => (f ρ).bind fun z ρ1 => if z = true then g ρ1 else k ρ1) := by
  obtain ⟨t, p, q⟩ := hc.ex
  obtain ⟨t2, p2, q2⟩ := ha.ex
  obtain ⟨t3, p3, q3⟩ := hb.ex
  refine ⟨_, fun i => ps_if (p i) (p2 i) (p3 i), fun σ hn H ρ F D R h => ?_⟩
  refine q0 (ok := fun _ => okT) q σ hn H ρ F _ R (PostS.bindE hn h fun a ρ1 b H1 F1 s1 R1 e h1 => ?_)
  subst e
  show if b = true then t2 D σ H1 else t3 D σ H1
  cases b with
  | true => exact q2 σ hn H1 ρ1 F1 D R1 h1
  | false => exact q3 σ hn H1 ρ1 F1 D R1 h1
end
end DL
namespace DL
open PySem PySem.Spec PyProof.Rows L2
/-! ### the heap grows; an own thing is frozen -/
section
variable {K : PySem.W.Frag} {G : Cg} {σ : L2.St} {H : Hp} {ρ : Ev} {F : Hp} {p : Addr} {o : HO}
theorem same_upd0 (h : H p = none) : Same H (upd H p o) := fun b x e => by
  rw [upd_ne (ne_of_none e h)]
  exact e
/-- what an abstract heap that grows keeps -/
theorem Rel.grown {H' : Hp} (R : Rel K G σ H ρ F) (s : Same H H') : Rel K G σ H' ρ F := by
  refine ⟨R.sub.trans s, R.f0, fun a o h1 h2 => s _ _ (R.keep a o h1 h2), R.newF, R.len, fun i sl e => ?_, R.inj, R.bor⟩
  have q := R.sl i sl e
  cases sl with
  | emp => exact q
  | dat d => exact q
  | scr ns => exact q
  | own d =>
    obtain ⟨p, h1, h2, h3, h4⟩ := q
    obtain ⟨o, ho⟩ := h3.some
    exact ⟨p, h1, h2, h3.at' (Same.refl F) ((s p o ho).trans ho.symm), h4⟩
/-- a place that is new at the entry and belongs to no slot may go to what is frozen -/
theorem Rel.froze (R : Rel K G σ H ρ F) (h1 : F p = none) (h2 : H p = some o) (h3 : G.H0 p = none) (h4 : ∀ (i : Nat) (d : PyData), ρ[i]? = some (.own d) → σ[i]? ≠ some (some (.ref p))) : Rel K G σ H ρ (upd F p o) := by
  refine ⟨fun b u e => ?_, R.f0.trans (same_upd0 h1), R.keep, fun a u e1 e2 => ?_, R.len, fun i sl e => ?_, R.inj, R.bor⟩
  · by_cases hb : b = p
    · subst hb
      rw [upd_same] at e
      exact h2.trans e
    · rw [upd_ne hb] at e
      exact R.sub b u e
  · have na : a ≠ p := fun z => by rw [z, h3] at e1; cases e1
    rw [upd_ne na]
    exact R.newF a u e1 e2
  · have q := R.sl i sl e
    cases sl with
    | emp => exact q
    | dat d =>
      obtain ⟨v, a, b⟩ := q
      exact ⟨v, a, b.mono (same_upd0 h1)⟩
    | scr ns =>
      obtain ⟨a, b, c⟩ := q
      exact ⟨a, b, Same.seq (same_upd0 h1) c⟩
    | own d =>
      obtain ⟨q', a1, a2, a3, a4⟩ := q
      have nq : q' ≠ p := fun z => h4 i d e (z ▸ a1)
      exact ⟨q', a1, by rw [upd_ne nq]; exact a2, a3.at' (same_upd0 h1) rfl, a4⟩
/-- H0 knows no free place -/
theorem Rel.h0 (R : Rel K G σ H ρ F) (h : H p = none) : G.H0 p = none := by
  cases q : G.H0 p with
  | none => rfl
  | some o =>
    by_cases hb : ∃ i, G.A i = some p
    · obtain ⟨i, hi⟩ := hb
      obtain ⟨_, _, d, e⟩ := R.bor i p hi
      obtain ⟨p', a1, a2, a3, a4⟩ := R.sl i _ e
      rcases a4 with z | ⟨z, _⟩
      · rw [hi] at z
        cases z
        obtain ⟨o', ho'⟩ := a3.some
        rw [h] at ho'
        cases ho'
      · rw [hi] at z
        cases z
    · have := R.keep p o q fun i z => hb ⟨i, z⟩
      rw [h] at this
      cases this
theorem Rel.noSlot (R : Rel K G σ H ρ F) (h : H p = none) : ∀ (i : Nat) (d : PyData), ρ[i]? = some (.own d) → σ[i]? ≠ some (some (.ref p)) := fun i d e z => by
  obtain ⟨p', a1, a2, a3, a4⟩ := R.sl i _ e
  rw [z] at a1
  cases a1
  obtain ⟨o', ho'⟩ := a3.some
  rw [h] at ho'
  cases ho'
theorem Rel.freeF (R : Rel K G σ H ρ F) (h : H p = none) : F p = none := Same.free R.sub h
/-- a new tuple: a datum at once -/
theorem Rel.newTup {vs : List V} {ds : List PyData} (R : Rel K G σ H ρ F) (h : H p = none) (r : RpA K F vs ds) :
    Same F (upd F p (.tup vs)) ∧ Rel K G σ (upd H p (.tup vs)) ρ (upd F p (.tup vs)) ∧ Rp K (upd F p (.tup vs)) (.ref p) (.tuple ds) := by
  have hF := R.freeF h
  have s := same_upd0 (o := .tup vs) hF
  refine ⟨s, (R.grown (same_upd0 h)).froze hF upd_same (R.h0 h) (R.noSlot h), .tup upd_same (r.mono s)⟩
/-- a new list: a thing of its own -/
theorem Rel.newLst {vs : List V} {ds : List PyData} (R : Rel K G σ H ρ F) (h : H p = none) (r : RpA K F vs ds) :
    Rel K G σ (upd H p (.lst vs)) ρ F ∧ VOk K G F (upd H p (.lst vs)) σ ρ (.ref p) (.own (.list ds)) :=
  ⟨R.grown (same_upd0 h), p, rfl, R.freeF h, .lst upd_same r, R.h0 h, R.noSlot h⟩
/-- an own list becomes a datum -/
theorem Rel.datum {v : V} {ds : List PyData} (R : Rel K G σ H ρ F) (h : VOk K G F H σ ρ v (.own (.list ds))) : ∃ F', Same F F' ∧ Rel K G σ H ρ F' ∧ Rp K F' v (.list ds) := by
  obtain ⟨p, rfl, a1, a2, a3, a4⟩ := h
  cases a2 with
  | lst e r => exact ⟨_, same_upd0 a1, R.froze a1 e a3 a4, .lst upd_same (r.mono (same_upd0 a1))⟩
/-- a slot's list becomes a datum, the slot keeps it -/
theorem Rel.lent {i : Nat} {ds : List PyData} (R : Rel K G σ H ρ F) (e : ρ[i]? = some (.own (.list ds))) (hB : i ∉ G.B) :
    ∃ v F', σ[i]? = some (some v) ∧ Same F F' ∧ Rel K G σ H (ρ.set i (.dat (.list ds))) F' ∧ Rp K F' v (.list ds) := by
  obtain ⟨p, a1, a2, a3, a4⟩ := R.sl i _ e
  have hA : G.A i = none := by
    cases z : G.A i with
    | none => rfl
    | some q => exact absurd (R.bor i q z).1 hB
  have h0 : G.H0 p = none := by
    rcases a4 with z | z
    · rw [hA] at z; cases z
    · exact z.2
  have hi : i < ρ.length := (List.getElem?_eq_some_iff.mp e).1
  cases a3 with
  | @lst vs _ eH r =>
    have s := same_upd0 (o := .lst vs) a2
    have rp : Rp K (upd F p (.lst vs)) (.ref p) (.list ds) := .lst upd_same (r.mono s)
    refine ⟨.ref p, upd F p (.lst vs), a1, s, ?_, rp⟩
    refine ⟨fun b u e' => ?_, R.f0.trans s, R.keep, fun a u e1 e2 => ?_, by rw [List.length_set]; exact R.len, fun j sl ej => ?_, fun j k dj dk q ej ek => ?_, fun j q ej => ?_⟩
    · by_cases hb : b = p
      · subst hb
        rw [upd_same] at e'
        exact eH.trans e'
      · rw [upd_ne hb] at e'
        exact R.sub b u e'
    · have na : a ≠ p := fun z => by rw [z, h0] at e1; cases e1
      rw [upd_ne na]
      exact R.newF a u e1 e2
    · by_cases hj : j = i
      · subst hj
        rw [List.getElem?_set_self hi] at ej
        cases ej
        exact ⟨.ref p, a1, rp⟩
      · rw [List.getElem?_set_ne (Ne.symm hj)] at ej
        have q := R.sl j sl ej
        cases sl with
        | emp => exact q
        | dat d =>
          obtain ⟨v, a, b⟩ := q
          exact ⟨v, a, b.mono s⟩
        | scr ns =>
          obtain ⟨a, b, c⟩ := q
          exact ⟨a, b, Same.seq s c⟩
        | own d =>
          obtain ⟨q', b1, b2, b3, b4⟩ := q
          have nq : q' ≠ p := fun z => hj (R.inj j i d _ p ej e (z ▸ b1) a1)
          exact ⟨q', b1, by rw [upd_ne nq]; exact b2, b3.at' s rfl, b4⟩
    · have nj : j ≠ i := fun z => by
        rw [z, List.getElem?_set_self hi] at ej
        cases ej
      have nk : k ≠ i := fun z => by
        rw [z, List.getElem?_set_self hi] at ek
        cases ek
      rw [List.getElem?_set_ne (Ne.symm nj)] at ej
      rw [List.getElem?_set_ne (Ne.symm nk)] at ek
      exact R.inj j k dj dk q ej ek
    · obtain ⟨b1, b2, d, b3⟩ := R.bor j q ej
      have nj : j ≠ i := fun z => hB (z ▸ b1)
      exact ⟨b1, b2, d, by rw [List.getElem?_set_ne (Ne.symm nj)]; exact b3⟩
/-- a slot is forgotten -/
theorem Rel.drop {i : Nat} (R : Rel K G σ H ρ F) (hB : i ∉ G.B) : Rel K G σ H (ρ.set i .emp) F := by
  refine ⟨R.sub, R.f0, R.keep, R.newF, by rw [List.length_set]; exact R.len, fun j sl ej => ?_, fun j k dj dk q ej ek => ?_, fun j q ej => ?_⟩
  · by_cases hj : j = i
    · subst hj
      by_cases hi : j < ρ.length
      · rw [List.getElem?_set_self hi] at ej
        cases ej
        exact trivial
      · rw [List.getElem?_eq_none (by rw [List.length_set]; omega)] at ej
        cases ej
    · rw [List.getElem?_set_ne (Ne.symm hj)] at ej
      exact R.sl j sl ej
  · have own {j : Nat} {d : PyData} (ej : (ρ.set i .emp)[j]? = some (.own d)) : ρ[j]? = some (.own d) := by
      by_cases hj : i = j
      · subst hj
        by_cases hi : i < ρ.length
        · rw [List.getElem?_set_self hi] at ej
          cases ej
        · rw [List.getElem?_eq_none (by rw [List.length_set]; omega)] at ej
          cases ej
      · rw [List.getElem?_set_ne hj] at ej
        exact ej
    exact R.inj j k dj dk q (own ej) (own ek)
  · obtain ⟨b1, b2, d, b3⟩ := R.bor j q ej
    have nj : j ≠ i := fun z => hB (z ▸ b1)
    exact ⟨b1, b2, d, by rw [List.getElem?_set_ne (Ne.symm nj)]; exact b3⟩
end

/-! ### data and things -/
def asDat : Sl → Ev → Out PyData
  | .dat d, ρ => .ok d ρ
  | .own (.list ds), ρ => .ok (.list ds) ρ
  | _, _ => .bad
def lift {α : Type} (o : Option α) (ρ : Ev) : Out α := match o with
  | some a => .ok a ρ
  | none => .bad
section
variable {Γ : Fam} {G : Cg} {e e1 e2 : Expr} {pos : Pos}
theorem DE.toX {f : Ev → Out Sl} (h : DE Γ G e f) : DX Γ G e (fun ρ => (f ρ).bind asDat) := by
  obtain ⟨t, p, q⟩ := h.ex
  refine ⟨t, p, fun σ τ hn H ρ F Q R h => q σ τ hn H ρ F Q R (Post.bind h fun s ρ1 v H1 F1 s1 R1 o1 h1 => ?_)⟩
  cases s with
  | emp => exact h1.elim
  | scr ns => exact h1.elim
  | dat d => exact h1 v H1 F1 (Same.refl _) R1 o1
  | own d =>
    cases d with
    | list ds =>
      obtain ⟨F2, s2, R2, r2⟩ := R1.datum o1
      exact h1 v H1 F2 s2 R2 r2
    | none => exact h1.elim
    | bool b => exact h1.elim
    | int b => exact h1.elim
    | str b => exact h1.elim
    | tuple b => exact h1.elim
    | dict b => exact h1.elim
theorem DX.toE {f : Ev → Out PyData} (h : DX Γ G e f) : DE Γ G e (fun ρ => (f ρ).bind fun d ρ => .ok (.dat d) ρ) := by
  obtain ⟨t, p, q⟩ := h.ex
  refine ⟨t, p, fun σ τ hn H ρ F Q R h => q σ τ hn H ρ F Q R (Post.bind h fun d ρ1 v H1 F1 s1 R1 o1 h1 => ?_)⟩
  exact h1 v H1 F1 (Same.refl _) R1 o1

/-! ### constants and names -/
def rC (d : PyData) : Ev → Out PyData := fun ρ => .ok d ρ
theorem dx_const {v : V} {d : PyData} (h : ∀ i, PE (Γ.X i) e (tC v)) (r : ∀ K F, Rp K F v d) : DX Γ G e (rC d) :=
  ⟨_, h, fun σ τ hn H ρ F Q R h => h v H F (Same.refl F) R (r _ _)⟩
theorem dx_int {i : Int} {j : Nat} : DX Γ G (.Constant (.int i) j pos) (rC (.int i)) := dx_const (fun _ => pe_int) fun _ _ => .int i
theorem dx_bl {b : Bool} {j : Nat} : DX Γ G (.Constant (.bool b) j pos) (rC (.bool b)) := dx_const (fun _ => pe_bl) fun _ _ => .bl b
theorem dx_non {j : Nat} : DX Γ G (.Constant .none j pos) (rC .none) := dx_const (fun _ => pe_non) fun _ _ => .non
theorem dx_str {x : Str} {j : Nat} : DX Γ G (.Constant (.str x) j pos) (rC (.str x)) := dx_const (fun _ => pe_str) fun _ _ => .str x
/-- a name as a datum; an own list is frozen -/
def rVar (i : Nat) : Ev → Out PyData := fun ρ => match ρ[i]? with
  | some (.dat d) => .ok d ρ
  | some (.own (.list ds)) => .ok (.list ds) (ρ.set i (.dat (.list ds)))
  | _ => .bad
/-- a borrowed name as a datum: where it is one -/
def rVarB (i : Nat) : Ev → Out PyData := fun ρ => match ρ[i]? with
  | some (.dat d) => .ok d ρ
  | _ => .bad
/-- a name handed on -/
def rMove (i : Nat) : Ev → Out Sl := fun ρ => match ρ[i]? with
  | some (.dat d) => .ok (.dat d) ρ
  | some (.own d) => .ok (.own d) (ρ.set i .emp)
  | some (.scr ns) => .ok (.scr ns) ρ
  | _ => .bad
theorem ghost {σ τ : L2.St} {n i : Nat} {x : Option (Option V)} (hn : σ.length = n) (hi : Nat.blt i n = true) (h : (σ ++ τ)[i]? = x) : σ[i]? = x := by
  rw [List.getElem?_append_left (by rw [hn]; exact Nat.le_of_ble_eq_true hi)] at h
  exact h
theorem dx_var {i : Nat} (h : ∀ k, PE (Γ.X k) e (tVar i)) (hi : Nat.blt i Γ.n = true) (hB : G.B.contains i = false) : DX Γ G e (rVar i) := by
  refine ⟨_, h, fun σ τ hn H ρ F Q R h => ?_⟩
  have hB' : i ∉ G.B := fun z => by rw [List.contains_iff_mem.mpr z] at hB; cases hB
  unfold rVar at h
  split at h
  · next d e =>
    obtain ⟨v, a, b⟩ := R.sl i _ e
    exact ⟨v, ghost hn hi a, h v H F (Same.refl F) R b⟩
  · next ds e =>
    obtain ⟨v, F', a, s, R', r⟩ := R.lent e hB'
    exact ⟨v, ghost hn hi a, h v H F' s R' r⟩
  · exact h.elim
theorem dx_varB {i : Nat} (h : ∀ k, PE (Γ.X k) e (tVar i)) (hi : Nat.blt i Γ.n = true) : DX Γ G e (rVarB i) := by
  refine ⟨_, h, fun σ τ hn H ρ F Q R h => ?_⟩
  unfold rVarB at h
  split at h
  · next d e =>
    obtain ⟨v, a, b⟩ := R.sl i _ e
    exact ⟨v, ghost hn hi a, h v H F (Same.refl F) R b⟩
  · exact h.elim
theorem de_move {i : Nat} (h : ∀ k, PE (Γ.X k) e (tVar i)) (hi : Nat.blt i Γ.n = true) (hB : G.B.contains i = false) : DE Γ G e (rMove i) := by
  refine ⟨_, h, fun σ τ hn H ρ F Q R h => ?_⟩
  have hB' : i ∉ G.B := fun z => by rw [List.contains_iff_mem.mpr z] at hB; cases hB
  unfold rMove at h
  split at h
  · next d e =>
    obtain ⟨v, a, b⟩ := R.sl i _ e
    exact ⟨v, ghost hn hi a, h v H F (Same.refl F) R b⟩
  · next d e =>
    obtain ⟨p, a1, a2, a3, a4⟩ := R.sl i _ e
    have hA : G.A i = none := by
      cases z : G.A i with
      | none => rfl
      | some q => exact absurd (R.bor i q z).1 hB'
    have h0 : G.H0 p = none := by
      rcases a4 with z | z
      · rw [hA] at z; cases z
      · exact z.2
    refine ⟨.ref p, ghost hn hi a1, h (.ref p) H F (Same.refl F) (R.drop hB') ⟨p, rfl, a2, a3, h0, fun j d' ej z => ?_⟩⟩
    by_cases hj : i = j
    · subst hj
      rw [List.getElem?_set_self (List.getElem?_eq_some_iff.mp e).1] at ej
      cases ej
    · rw [List.getElem?_set_ne hj] at ej
      exact hj (R.inj i j _ _ p e ej a1 z)
  · next ns e =>
    obtain ⟨a, b, c⟩ := R.sl i _ e
    exact ⟨.ref a, ghost hn hi b, h (.ref a) H F (Same.refl F) R ⟨a, rfl, c⟩⟩
  · exact h.elim
/-- a module's name of a known datum -/
theorem dx_glob {d : PyData} {v : V} (h : ∀ i, PE (Γ.X i) e (tC v)) (r : ∀ F, Rp Γ.K F v d) : DX Γ G e (rC d) :=
  ⟨_, h, fun σ τ hn H ρ F Q R h => h v H F (Same.refl F) R (r F)⟩

/-! ### operations on two data -/
/-- r serves g -/
def OpD (K : PySem.W.Frag) (r : R2) (g : PyData → PyData → Option Sl) : Prop :=
  ∀ (G : Cg) (σ : L2.St) (H : Hp) (ρ : Ev) (F : Hp) (x y : V) (a b : PyData) (s : Sl) (Q : VK), Rel K G σ H ρ F → Rp K F x a → Rp K F y b → g a b = some s →
    (∀ v H' F', Same F F' → Rel K G σ H' ρ F' → VOk K G F' H' σ ρ v s → Q v H') → r x y H Q
def rBin (g : PyData → PyData → Option Sl) (f1 f2 : Ev → Out PyData) : Ev → Out Sl := fun ρ => (f1 ρ).bind fun a ρ1 => (f2 ρ1).bind fun b ρ2 => lift (g a b) ρ2
theorem OpD.run {K : PySem.W.Frag} {r : R2} {g : PyData → PyData → Option Sl} (h : OpD K r g) {G : Cg} {σ : L2.St} {H : Hp} {ρ : Ev} {F : Hp} {x y : V} {a b : PyData} {Q : VK} (R : Rel K G σ H ρ F) (ra : Rp K F x a) (rb : Rp K F y b)
    (q : Post K G σ F (lift (g a b) ρ) (okE K G σ) Q) : r x y H Q := by
  cases e : g a b with
  | none =>
    rw [e] at q
    exact q.elim
  | some s =>
    rw [e] at q
    exact h G σ H ρ F x y a b s Q R ra rb e q
/-- both operands, in order -/
theorem two {f1 f2 : Ev → Out PyData} {r : R2} {g : PyData → PyData → Option Sl} (hd : OpD Γ.K r g) {t1 t2 : TE}
    (q1 : ∀ (σ τ : L2.St) (hn : σ.length = Γ.n) (H : Hp) (ρ : Ev) (F : Hp) (Q : VK), Rel Γ.K G (σ ++ τ) H ρ F → Post Γ.K G (σ ++ τ) F (f1 ρ) (okX Γ.K) Q → t1 σ H Q)
    (q2 : ∀ (σ τ : L2.St) (hn : σ.length = Γ.n) (H : Hp) (ρ : Ev) (F : Hp) (Q : VK), Rel Γ.K G (σ ++ τ) H ρ F → Post Γ.K G (σ ++ τ) F (f2 ρ) (okX Γ.K) Q → t2 σ H Q)
    {σ τ : L2.St} (hn : σ.length = Γ.n) {H : Hp} {ρ : Ev} {F : Hp} {Q : VK} (R : Rel Γ.K G (σ ++ τ) H ρ F) (h : Post Γ.K G (σ ++ τ) F (rBin g f1 f2 ρ) (okE Γ.K G (σ ++ τ)) Q) : t1 σ H fun x H1 => t2 σ H1 fun y H2 => r x y H2 Q := by
  refine q1 σ τ hn H ρ F _ R (Post.bind h fun a ρ1 x H1 F1 s1 R1 o1 h1 => ?_)
  refine q2 σ τ hn H1 ρ1 F1 _ R1 (Post.bind h1 fun b ρ2 y H2 F2 s2 R2 o2 h2 => ?_)
  exact hd.run R2 (o1.mono s2) o2 h2
theorem de_bin {op : Operator} {r : R2} {g : PyData → PyData → Option Sl} {f1 f2 : Ev → Out PyData} (ho : ∀ i, OpR (Γ.X i) (binaryOp op) r) (hd : OpD Γ.K r g) (h1 : DX Γ G e1 f1) (h2 : DX Γ G e2 f2) : DE Γ G (.BinOp e1 op e2 pos) (rBin g f1 f2) := by
  obtain ⟨t1, p1, q1⟩ := h1.ex
  obtain ⟨t2, p2, q2⟩ := h2.ex
  exact ⟨_, fun i => pe_op (ho i) (p1 i) (p2 i), fun σ τ hn H ρ F Q R h => two hd q1 q2 hn R h⟩
theorem de_cmp {op : CmpOp} {r : R2} {g : PyData → PyData → Option Sl} {f1 f2 : Ev → Out PyData} (ho : ∀ i, OpR (Γ.X i) (compareOp op) r) (hd : OpD Γ.K r g) (h1 : DX Γ G e1 f1) (h2 : DX Γ G e2 f2) (hm : behindInMarks op e2 = false) : DE Γ G (.Compare e1 [op] [e2] pos) (rBin g f1 f2) := by
  obtain ⟨t1, p1, q1⟩ := h1.ex
  obtain ⟨t2, p2, q2⟩ := h2.ex
  exact ⟨_, fun i => pe_cmpR (ho i) (p1 i) (p2 i) hm, fun σ τ hn H ρ F Q R h => two hd q1 q2 hn R h⟩
def asB : Sl → Ev → Out Bool
  | .dat (.bool b), ρ => .ok b ρ
  | _, _ => .bad
theorem dt_cmp {op : CmpOp} {r : R2} {g : PyData → PyData → Option Sl} {f1 f2 : Ev → Out PyData} (ho : ∀ i, OpR (Γ.X i) (compareOp op) r) (hd : OpD Γ.K r g) (h1 : DX Γ G e1 f1) (h2 : DX Γ G e2 f2) (hm : behindInMarks op e2 = false) : DT Γ G (.Compare e1 [op] [e2] pos) (fun ρ => (rBin g f1 f2 ρ).bind asB) := by
  obtain ⟨t1, p1, q1⟩ := h1.ex
  obtain ⟨t2, p2, q2⟩ := h2.ex
  refine ⟨_, fun i => pt_cmpR (ho i) (p1 i) (p2 i) hm, fun σ τ hn H ρ F Q R h => two hd q1 q2 hn R (Post.bind h fun s ρ1 v H1 F1 s1 R1 o1 h1 => ?_)⟩
  cases s with
  | dat d =>
    cases d with
    | bool b =>
      cases o1
      exact ⟨b, rfl, h1 b H1 F1 (Same.refl _) R1 rfl⟩
    | none => exact h1.elim
    | list b => exact h1.elim
    | int b => exact h1.elim
    | str b => exact h1.elim
    | tuple b => exact h1.elim
    | dict b => exact h1.elim
  | emp => exact h1.elim
  | scr ns => exact h1.elim
  | own d => exact h1.elim
theorem OpD.or {K : PySem.W.Frag} {r r' : R2} {g g' : PyData → PyData → Option Sl} (h : OpD K r g) (h' : OpD K r' g') : OpD K (fun x y H Q => r x y H Q ∨ r' x y H Q) (fun a b => (g a b).or (g' a b)) := by
  intro G σ H ρ F x y a b s Q R ra rb e q
  cases z : g a b with
  | some s' =>
    have e : (g a b).or (g' a b) = some s := e
    rw [z] at e
    exact .inl (h G σ H ρ F x y a b s Q R ra rb (z.trans e) q)
  | none =>
    have e : (g a b).or (g' a b) = some s := e
    rw [z] at e
    exact .inr (h' G σ H ρ F x y a b s Q R ra rb e q)
end
end DL
namespace DL
open PySem PySem.Spec PyProof.Rows L2
/-! ### operations -/
def line : Nat := 16777216
theorem line_eq : sizeLine = line := sizeLine_eq
def dAdd : PyData → PyData → Option Sl
  | .int i, .int j => some (.dat (.int (i + j)))
  | .str x, .str y => if x.length + y.length ≤ line then some (.dat (.str (x ++ y))) else none
  | .tuple xs, .tuple ys => if xs.length + ys.length ≤ line then some (.dat (.tuple (xs ++ ys))) else none
  | .list xs, .list ys => if xs.length + ys.length ≤ line then some (.own (.list (xs ++ ys))) else none
  | _, _ => none
def rAddA (K : PySem.W.Frag) : R2 := fun x y H Q => rI0 (fun i j => .int (i + j)) x y H Q ∨
  ((∃ i j, x = .str i ∧ y = .str j ∧ i.length + j.length ≤ sizeLine ∧ Q (.str (i ++ j)) H) ∨ (rCatA K x y H Q ∨ rCat x y H Q))
section
variable {X : Cx}
theorem op_addA : OpR X (binaryOp .Add) (rAddA X.K) := op_add.or (op_add_str.or (op_catA.or op_cat))
end
section
variable {K : PySem.W.Frag}
theorem opd_add : OpD K (rAddA K) dAdd := by
  intro G σ H ρ F x y a b s Q R ra rb e q
  cases a with
  | int i =>
    cases b with
    | int j =>
      cases ra
      cases rb
      cases e
      exact .inl ⟨i, j, rfl, rfl, q _ H F (Same.refl F) R (.int _)⟩
    | _ => cases e
  | str i =>
    cases b with
    | str j =>
      cases ra
      cases rb
      have e : (if i.length + j.length ≤ line then some (Sl.dat (.str (i ++ j))) else none) = some s := e
      split at e
      · next h =>
        cases e
        exact .inr (.inl ⟨i, j, rfl, rfl, by rw [line_eq]; exact h, q _ H F (Same.refl F) R (.str _)⟩)
      · cases e
    | _ => cases e
  | tuple ds =>
    cases b with
    | tuple es =>
      cases ra with
      | @tup a xs _ ha r1 =>
        cases rb with
        | @tup b ys _ hb r2 =>
          have e : (if ds.length + es.length ≤ line then some (Sl.dat (.tuple (ds ++ es))) else none) = some s := e
          split at e
          · next h =>
            cases e
            refine .inr (.inr (.inl ⟨a, b, xs, ys, rfl, rfl, Same.tupD R.sub ha, Same.tupD R.sub hb, by rw [line_eq, r1.length, r2.length]; exact h, fun z => ?_, fun z1 z => ?_, fun z1 z2 p hp => ?_⟩))
            · subst z
              cases r1
              exact q _ H F (Same.refl F) R (.tup hb r2)
            · subst z
              cases r2
              refine q _ H F (Same.refl F) R ?_
              show Rp K F (.ref a) (.tuple (ds ++ []))
              rw [List.append_nil]
              exact .tup ha r1
            · obtain ⟨s1, R1, o1⟩ := R.newTup hp (r1.append r2)
              exact q _ _ _ s1 R1 o1
          · cases e
    | _ => cases e
  | list ds =>
    cases b with
    | list es =>
      cases ra with
      | @lst a xs _ ha r1 =>
        cases rb with
        | @lst b ys _ hb r2 =>
          have e : (if ds.length + es.length ≤ line then some (Sl.own (.list (ds ++ es))) else none) = some s := e
          split at e
          · next h =>
            cases e
            refine .inr (.inr (.inr ⟨a, b, xs, ys, rfl, rfl, R.sub _ _ ha, R.sub _ _ hb, by rw [line_eq, r1.length, r2.length]; exact h, fun p hp => ?_⟩))
            obtain ⟨R1, o1⟩ := R.newLst hp (r1.append r2)
            exact q _ _ _ (Same.refl F) R1 o1
          · cases e
    | _ => cases e
  | none => cases b <;> cases e
  | bool _ => cases b <;> cases e
  | dict _ => cases b <;> cases e

/-- two ints -/
def dII (C : Int → Int → Bool) (g : Int → Int → PyData) : PyData → PyData → Option Sl
  | .int i, .int j => if C i j = true then some (.dat (g i j)) else none
  | _, _ => none
theorem opd_ii {C : Int → Int → Prop} {c : Int → Int → Bool} {g : Int → Int → V} {gd : Int → Int → PyData} (hC : ∀ i j, c i j = true → C i j) (hv : ∀ F i j, Rp K F (g i j) (gd i j)) : OpD K (rI C g) (dII c gd) := by
  intro G σ H ρ F x y a b s Q R ra rb e q
  cases a with
  | int i =>
    cases b with
    | int j =>
      cases ra
      cases rb
      have e : (if c i j = true then some (Sl.dat (gd i j)) else none) = some s := e
      split at e
      · next h =>
        cases e
        exact ⟨i, j, rfl, rfl, hC i j h, q _ H F (Same.refl F) R (hv F i j)⟩
      · cases e
    | _ => cases e
  | _ => cases e
theorem opd_ii0 {g : Int → Int → V} {gd : Int → Int → PyData} (hv : ∀ F i j, Rp K F (g i j) (gd i j)) : OpD K (rI0 g) (dII (fun _ _ => true) gd) := by
  intro G σ H ρ F x y a b s Q R ra rb e q
  cases a with
  | int i =>
    cases b with
    | int j =>
      cases ra
      cases rb
      cases e
      exact ⟨i, j, rfl, rfl, q _ H F (Same.refl F) R (hv F i j)⟩
    | _ => cases e
  | _ => cases e
def dSub := dII (fun _ _ => true) fun i j => .int (i - j)
theorem opd_sub : OpD K (rI0 fun i j => .int (i - j)) dSub := opd_ii0 fun _ _ _ => .int _
def dDiv := dII (fun _ j => decide (0 < j) && decide (j < 1073741824)) fun i j => .int (i / j)
theorem opd_div : OpD K (rI CDiv fun i j => .int (i / j)) dDiv := opd_ii (fun i j h => by simpa [CDiv] using h) fun _ _ _ => .int _
def dMod := dII (fun _ j => decide (0 < j)) fun i j => .int (i % j)
theorem opd_mod : OpD K (rI (fun _ j => 0 < j) fun i j => .int (i % j)) dMod := opd_ii (fun i j h => by simpa using h) fun _ _ _ => .int _
def dPow := dII (fun i j => decide (0 ≤ j) && (decide (j ≤ 1000000) && decide (i.natAbs < 2 ^ 64))) fun i j => .int (i ^ j.toNat)
theorem opd_pow : OpD K (rI CPow fun i j => .int (i ^ j.toNat)) dPow := opd_ii (fun i j h => by simpa [CPow] using h) fun _ _ _ => .int _
def cMul (i j : Int) : Bool := (decide (-(2 ^ 64) < i) && decide (i < 2 ^ 64)) || (decide (-(2 ^ 64) < j) && decide (j < 2 ^ 64))
/-- a * b: ints; a tuple or a list so often -/
def dMul : PyData → PyData → Option Sl
  | .int i, .int j => if cMul i j = true then some (.dat (.int (i * j))) else none
  | .tuple xs, .int k => if 1 ≤ k ∧ k ≤ 1000 ∧ xs.length ≤ 1000 ∧ xs ≠ [] then some (.dat (.tuple (List.replicate k.toNat xs).flatten)) else none
  | .list xs, .int k => if -(2 ^ 63) ≤ k ∧ k < 2 ^ 63 ∧ xs.length * k.toNat ≤ line then some (.own (.list (List.replicate k.toNat xs).flatten)) else none
  | _, _ => none
theorem tupleOnce (l : Addr) (items : Array Value) (n : Nat) (dd : Option Addr) (sl : Array (Option Value)) (u : Tok) :
    Meets (Builtin.«tuple.__mul__» ⟨[.ref l, .int 1 u], []⟩) (fun _ R s => s.heap.get? l = some { cls := .type "tuple", dict := dd, data := .seq items n, slots := sl } ∧ R (.ok (.ret (Value.ref l))) s) :=
  .of_wp fun prog w A R s h => by
    obtain ⟨hp, g, d, tk, os⟩ := s
    obtain ⟨hl, h⟩ := h
    have f1 := AutoSeq1.idx_int
    wp_walk using wpAny_loadPart' hl
    exact ⟨_, rfl, h⟩
def rOnce (K : PySem.W.Frag) : R2 := fun x y H Q => ∃ l xs, x = .ref l ∧ y = .int 1 ∧ SqT K H l xs ∧ Q (.ref l) H
theorem op_once {X : Cx} : OpR X (binaryOp .Mult) (rOnce X.K) := by
  intro pins s σ H x y v u Q I rx ry h
  obtain ⟨l, xs, rfl, rfl, hT, q⟩ := h
  cases rx
  obtain ⟨t, rfl⟩ := ry
  obtain ⟨its, r, ⟨⟨cls, dd, data, sl⟩, ho, hc, n, hd⟩, hs⟩ := I.tuple hT
  simp only at hc hd
  subst hc hd
  refine wpAny_binaryOp_repeat_ref (T := "tuple") (U := "int") (by decide) ⟨_, ho, rfl⟩ (fun s' => typeIs_int s' 1 t) noFill_tuple_mul F.fills_int_mul F.slot_int_rmul repeat_tuple F.slot_int_index.lookup
    (call_meets F.slot_int_rmul (typeIs_int s 1 t) F.entry_int_rmul (F.args_int_rmul_2 _ _) (int_rmul_tuple 1 t l its.toArray n dd sl)
      ⟨ho, rfl, ⟨_, ho, rfl⟩, call_meets F.slot_tuple_mul ⟨_, ho, rfl⟩ F.entry_tuple_mul (F.args_tuple_mul_2 _ _) (tupleOnce l its.toArray n dd sl t) ⟨ho, ?_⟩⟩)
  exact ⟨.ref l, H, I, rfl, q⟩
def rMulA (K : PySem.W.Frag) : R2 := fun x y H Q => rI CMul (fun i j => .int (i * j)) x y H Q ∨ (rRepT K x y H Q ∨ (rRep x y H Q ∨ rOnce K x y H Q))
theorem op_mulA {X : Cx} : OpR X (binaryOp .Mult) (rMulA X.K) := op_mul.or (op_repT.or (op_rep.or op_once))
theorem RpA.ne_nil {F : Hp} {vs : List V} {ds : List PyData} (r : RpA K F vs ds) (h : ds ≠ []) : vs ≠ [] := fun z => by
  subst z
  cases r
  exact h rfl
theorem opd_mul : OpD K (rMulA K) dMul := by
  intro G σ H ρ F x y a b s Q R ra rb e q
  cases a with
  | int i =>
    cases b with
    | int j =>
      cases ra
      cases rb
      have e : (if cMul i j = true then some (Sl.dat (.int (i * j))) else none) = some s := e
      split at e
      · next h =>
        cases e
        exact .inl ⟨i, j, rfl, rfl, by simpa [CMul, cMul] using h, q _ H F (Same.refl F) R (.int _)⟩
      · cases e
    | _ => cases e
  | tuple ds =>
    cases b with
    | int k =>
      cases ra with
      | @tup a xs _ ha r1 =>
        cases rb
        have e : (if 1 ≤ k ∧ k ≤ 1000 ∧ ds.length ≤ 1000 ∧ ds ≠ [] then some (Sl.dat (.tuple (List.replicate k.toNat ds).flatten)) else none) = some s := e
        split at e
        · next h =>
          cases e
          by_cases k1 : k = 1
          · subst k1
            refine .inr (.inr (.inr ⟨a, xs, rfl, rfl, Same.tupD R.sub ha, q _ H F (Same.refl F) R ?_⟩))
            show Rp K F (.ref a) (.tuple (List.replicate 1 ds).flatten)
            rw [List.replicate_one, List.flatten_singleton]
            exact .tup ha r1
          refine .inr (.inl ⟨a, k, xs, rfl, rfl, Same.tupD R.sub ha, r1.ne_nil h.2.2.2, by omega, h.2.1, by rw [r1.length]; exact h.2.2.1, fun p hp => ?_⟩)
          obtain ⟨s1, R1, o1⟩ := R.newTup hp (r1.rep k.toNat)
          exact q _ _ _ s1 R1 o1
        · cases e
    | _ => cases e
  | list ds =>
    cases b with
    | int k =>
      cases ra with
      | @lst a xs _ ha r1 =>
        cases rb
        have e : (if -(2 ^ 63) ≤ k ∧ k < 2 ^ 63 ∧ ds.length * k.toNat ≤ line then some (Sl.own (.list (List.replicate k.toNat ds).flatten)) else none) = some s := e
        split at e
        · next h =>
          cases e
          refine .inr (.inr (.inl ⟨a, k, xs, rfl, rfl, R.sub _ _ ha, h.1, h.2.1, by rw [line_eq, r1.length]; exact h.2.2, fun p hp => ?_⟩))
          obtain ⟨R1, o1⟩ := R.newLst hp (r1.rep k.toNat)
          exact q _ _ _ (Same.refl F) R1 o1
        · cases e
    | _ => cases e
  | none => cases b <;> cases e
  | bool _ => cases b <;> cases e
  | dict _ => cases b <;> cases e
  | str _ => cases b <;> cases e

/-! ### comparisons -/
def dEq (a b : PyData) : Option Sl := if (SeqAt.shaped a && SeqAt.shaped b) = true then some (.dat (.bool (PyData.eqv a b))) else none
def dNe (a b : PyData) : Option Sl := if (SeqAt.shaped a && SeqAt.shaped b) = true then some (.dat (.bool (!PyData.eqv a b))) else none
theorem opd_eq : OpD K (rEqD K) dEq := by
  intro G σ H ρ F x y a b s Q R ra rb e q
  unfold dEq at e
  split at e
  · next h =>
    cases e
    rw [Bool.and_eq_true] at h
    exact ⟨a, b, (ra.mono R.sub).dp, (rb.mono R.sub).dp, h.1, h.2, q _ H F (Same.refl F) R (.bl _)⟩
  · cases e
theorem opd_ne : OpD K (rNeD K) dNe := by
  intro G σ H ρ F x y a b s Q R ra rb e q
  unfold dNe at e
  split at e
  · next h =>
    cases e
    rw [Bool.and_eq_true] at h
    exact ⟨a, b, (ra.mono R.sub).dp, (rb.mono R.sub).dp, h.1, h.2, q _ H F (Same.refl F) R (.bl _)⟩
  · cases e
def dLtI := dII (fun _ _ => true) fun i j => .bool (decide (i < j))
def dLeI := dII (fun _ _ => true) fun i j => .bool (decide (i ≤ j))
def dGtI := dII (fun _ _ => true) fun i j => .bool (decide (j < i))
def dGeI := dII (fun _ _ => true) fun i j => .bool (decide (j ≤ i))
theorem opd_ltI : OpD K (rI0 fun i j => .bl (decide (i < j))) dLtI := opd_ii0 fun _ _ _ => .bl _
theorem opd_leI : OpD K (rI0 fun i j => .bl (decide (i ≤ j))) dLeI := opd_ii0 fun _ _ _ => .bl _
theorem opd_gtI : OpD K (rI0 fun i j => .bl (decide (j < i))) dGtI := opd_ii0 fun _ _ _ => .bl _
theorem opd_geI : OpD K (rI0 fun i j => .bl (decide (j ≤ i))) dGeI := opd_ii0 fun _ _ _ => .bl _
/-- is, for None and truth values -/
def rIsA : R2 := fun x y H Q => (y = .non ∧ Q (.bl (decide (x = .non))) H) ∨ (∃ a b, x = .bl a ∧ y = .bl b ∧ Q (.bl (decide (a = b))) H)
def rIsNotA : R2 := fun x y H Q => (y = .non ∧ Q (.bl (!decide (x = .non))) H) ∨ (∃ a b, x = .bl a ∧ y = .bl b ∧ Q (.bl (!decide (a = b))) H)
theorem op_isA {X : Cx} : OpR X (compareOp .Is) rIsA := op_isN.or op_is_bl
theorem op_isNotA {X : Cx} : OpR X (compareOp .IsNot) rIsNotA := op_notN.or op_isnot_bl
def isN : PyData → Bool
  | .none => true
  | _ => false
theorem Rp.isN {F : Hp} {x : V} {a : PyData} (r : Rp K F x a) : decide (x = .non) = isN a := by
  cases r with
  | non => rfl
  | bl b => exact decide_eq_false fun z => nomatch z
  | int b => exact decide_eq_false fun z => nomatch z
  | str b => exact decide_eq_false fun z => nomatch z
  | lst _ _ => exact decide_eq_false fun z => nomatch z
  | tup _ _ => exact decide_eq_false fun z => nomatch z
def dIs : PyData → PyData → Option Sl
  | a, .none => some (.dat (.bool (isN a)))
  | .bool a, .bool b => some (.dat (.bool (decide (a = b))))
  | _, _ => none
def dIsNot : PyData → PyData → Option Sl
  | a, .none => some (.dat (.bool (!isN a)))
  | .bool a, .bool b => some (.dat (.bool (!decide (a = b))))
  | _, _ => none
theorem opd_is : OpD K rIsA dIs := by
  intro G σ H ρ F x y a b s Q R ra rb e q
  cases b with
  | none =>
    cases rb
    have e : some (Sl.dat (.bool (isN a))) = some s := by cases a <;> exact e
    cases e
    exact .inl ⟨rfl, by rw [ra.isN]; exact q _ H F (Same.refl F) R (.bl _)⟩
  | bool b =>
    cases a with
    | bool a =>
      cases ra
      cases rb
      cases e
      exact .inr ⟨a, b, rfl, rfl, q _ H F (Same.refl F) R (.bl _)⟩
    | _ => cases e
  | _ => cases a <;> cases e
theorem opd_isNot : OpD K rIsNotA dIsNot := by
  intro G σ H ρ F x y a b s Q R ra rb e q
  cases b with
  | none =>
    cases rb
    have e : some (Sl.dat (.bool (!isN a))) = some s := by cases a <;> exact e
    cases e
    exact .inl ⟨rfl, by rw [ra.isN]; exact q _ H F (Same.refl F) R (.bl _)⟩
  | bool b =>
    cases a with
    | bool a =>
      cases ra
      cases rb
      cases e
      exact .inr ⟨a, b, rfl, rfl, q _ H F (Same.refl F) R (.bl _)⟩
    | _ => cases e
  | _ => cases a <;> cases e
end

/-! ### one operand -/
section
variable {Γ : Fam} {G : Cg} {e e1 e2 : Expr} {es : List Expr} {pos : Pos}
def dNeg : PyData → Ev → Out PyData
  | .int i, ρ => .ok (.int (-i)) ρ
  | _, _ => .bad
theorem dx_neg {f : Ev → Out PyData} (h : DX Γ G e f) : DX Γ G (.UnaryOp .USub e pos) (fun ρ => (f ρ).bind dNeg) := by
  obtain ⟨t, p, q⟩ := h.ex
  refine ⟨_, fun i => pe_un un_neg (p i), fun σ τ hn H ρ F Q R h => q σ τ hn H ρ F _ R (Post.bind h fun d ρ1 v H1 F1 s1 R1 o1 h1 => ?_)⟩
  cases d with
  | int i =>
    cases o1
    exact ⟨i, rfl, h1 _ H1 F1 (Same.refl _) R1 (.int _)⟩
  | _ => exact h1.elim

/-! ### truth -/
def dTru : PyData → Ev → Out Bool
  | .none, ρ => .ok false ρ
  | .bool b, ρ => .ok b ρ
  | .int i, ρ => .ok (i != 0) ρ
  | .str x, ρ => if x.length ≤ line then .ok ((x.length : Int) != 0) ρ else .bad
  | .list xs, ρ => .ok (!xs.isEmpty) ρ
  | .tuple xs, ρ => .ok (!xs.isEmpty) ρ
  | .dict _, _ => .bad
theorem RpA.isEmpty {K : PySem.W.Frag} {F : Hp} {vs : List V} {ds : List PyData} (r : RpA K F vs ds) : vs.isEmpty = ds.isEmpty := by
  cases r <;> rfl
theorem tru_of {K : PySem.W.Frag} {σ : L2.St} {H : Hp} {ρ : Ev} {F : Hp} {v : V} {d : PyData} {Q : Bool → Hp → Prop} (R : Rel K G σ H ρ F) (r : Rp K F v d) (h : Post K G σ F (dTru d ρ) okT Q) : ∃ k, TruV K v H k ∧ Q k H := by
  cases d with
  | none => cases r; exact ⟨false, rfl, h _ H F (Same.refl _) R rfl⟩
  | bool b => cases r; exact ⟨b, rfl, h _ H F (Same.refl _) R rfl⟩
  | int b => cases r; exact ⟨_, rfl, h _ H F (Same.refl _) R rfl⟩
  | str x =>
    cases r
    have h : Post K G σ F (if x.length ≤ line then Out.ok ((x.length : Int) != 0) ρ else .bad) okT Q := h
    split at h
    · next z => exact ⟨_, ⟨by rw [line_eq]; exact z, rfl⟩, h _ H F (Same.refl _) R rfl⟩
    · exact h.elim
  | list ds =>
    cases r with
    | @lst a xs _ ha r1 => exact ⟨!ds.isEmpty, .inl ⟨xs, SqL.of (R.sub _ _ ha), by rw [r1.isEmpty]⟩, h _ H F (Same.refl _) R rfl⟩
  | tuple ds =>
    cases r with
    | @tup a xs _ ha r1 => exact ⟨!ds.isEmpty, .inr (.inl ⟨xs, Same.tupD R.sub ha, by rw [r1.isEmpty]⟩), h _ H F (Same.refl _) R rfl⟩
  | dict _ => exact h.elim
/-- a test by truth -/
theorem dt_tru {f : Ev → Out PyData} (h : DX Γ G e f) (he : ∀ i, ∀ whole, isTrue e (Γ.X i).env whole = (do let v ← whole; standAt e.pos; holding [v] (truthy v)) := by intro _ _; rfl) : DT Γ G e (fun ρ => (f ρ).bind dTru) := by
  obtain ⟨t, p, q⟩ := h.ex
  refine ⟨fun σ H Q => t σ H fun x H' => ∃ k, TruV Γ.K x H' k ∧ Q k H', fun i => by have z := pt_truth (p i) (he i); rw [Γ.hK i] at z; exact z, fun σ τ hn H ρ F Q R h => q σ τ hn H ρ F _ R (Post.bind h fun d ρ1 v H1 F1 s1 R1 o1 h1 => tru_of R1 o1 h1)⟩
theorem dt_not {f : Ev → Out Bool} (h : DT Γ G e f) : DT Γ G (.UnaryOp .Not e pos) (fun ρ => (f ρ).bind fun b ρ => .ok (!b) ρ) := by
  obtain ⟨t, p, q⟩ := h.ex
  refine ⟨_, fun i => pt_not (p i), fun σ τ hn H ρ F Q R h => q σ τ hn H ρ F _ R (Post.bind h fun d ρ1 v H1 F1 s1 R1 o1 h1 => ?_)⟩
  subst o1
  exact h1 _ H1 F1 (Same.refl _) R1 rfl
theorem dx_not {f : Ev → Out PyData} (h : DX Γ G e f) : DX Γ G (.UnaryOp .Not e pos) (fun ρ => ((f ρ).bind dTru).bind fun b ρ => .ok (.bool (!b)) ρ) := by
  obtain ⟨t, p, q⟩ := h.ex
  refine ⟨tNotT Γ.K t, fun i => by have z := pe_notT (pos := pos) (p i); rw [Γ.hK i] at z; exact z, fun σ τ hn H ρ F Q R h => ?_⟩
  have h : Post Γ.K G (σ ++ τ) F ((f ρ).bind fun d ρ1 => (dTru d ρ1).bind fun b ρ => .ok (.bool (!b)) ρ) (okX Γ.K) Q := by
    have z : ((f ρ).bind dTru).bind (fun b ρ => Out.ok (PyData.bool (!b)) ρ) = (f ρ).bind fun d ρ1 => (dTru d ρ1).bind fun b ρ => .ok (.bool (!b)) ρ := by
      cases f ρ <;> rfl
    rw [← z]
    exact h
  refine q σ τ hn H ρ F _ R (Post.bind h fun d ρ1 v H1 F1 s1 R1 o1 h1 => ?_)
  exact tru_of R1 o1 (Post.bind h1 fun b ρ2 k H2 F2 s2 R2 o2 h2 => by subst o2; exact h2 _ H2 F2 (Same.refl _) R2 (.bl _))
/-- and, or in a test -/
structure DW (Γ : Fam) (G : Cg) (e : Expr) (f : Ev → Out Bool) : Prop where
  ex : ∃ t : TT, (∀ i, PW (Γ.X i) e t) ∧ ∀ (σ τ : L2.St) (hn : σ.length = Γ.n) (H : Hp) (ρ : Ev) (F : Hp) (Q : Bool → Hp → Prop), Rel Γ.K G (σ ++ τ) H ρ F → Post Γ.K G (σ ++ τ) F (f ρ) okT Q → t σ H Q
theorem DW.t {f : Ev → Out Bool} (h : DW Γ G e f) : DT Γ G e f := by
  obtain ⟨t, p, q⟩ := h.ex
  exact ⟨t, fun i => (p i).pt, q⟩
def rAndB (f g : Ev → Out Bool) : Ev → Out Bool := fun ρ => (f ρ).bind fun b ρ1 => if b = true then g ρ1 else .ok false ρ1
def rOrB (f g : Ev → Out Bool) : Ev → Out Bool := fun ρ => (f ρ).bind fun b ρ1 => if b = true then .ok true ρ1 else g ρ1
theorem dw_and1 {f : Ev → Out Bool} (h : DT Γ G e f) : DW Γ G (.BoolOp .And [e] pos) f := by
  obtain ⟨t, p, q⟩ := h.ex
  exact ⟨t, fun i => pw_and1 (p i), q⟩
theorem dw_or1 {f : Ev → Out Bool} (h : DT Γ G e f) : DW Γ G (.BoolOp .Or [e] pos) f := by
  obtain ⟨t, p, q⟩ := h.ex
  exact ⟨t, fun i => pw_or1 (p i), q⟩
theorem dw_and {f g : Ev → Out Bool} (h : DT Γ G e1 f) (h2 : DW Γ G (.BoolOp .And (e2 :: es) pos) g) : DW Γ G (.BoolOp .And (e1 :: e2 :: es) pos) (rAndB f g) := by
  obtain ⟨t, p, q⟩ := h.ex
  obtain ⟨t2, p2, q2⟩ := h2.ex
  refine ⟨_, fun i => pw_and (p i) (p2 i), fun σ τ hn H ρ F Q R h => q σ τ hn H ρ F _ R (Post.bind h fun b ρ1 v H1 F1 s1 R1 o1 h1 => ?_)⟩
  subst o1
  show if v = true then t2 σ H1 Q else Q false H1
  cases v with
  | true => exact q2 σ τ hn H1 ρ1 F1 Q R1 h1
  | false => exact h1 _ H1 F1 (Same.refl _) R1 rfl
theorem dw_or {f g : Ev → Out Bool} (h : DT Γ G e1 f) (h2 : DW Γ G (.BoolOp .Or (e2 :: es) pos) g) : DW Γ G (.BoolOp .Or (e1 :: e2 :: es) pos) (rOrB f g) := by
  obtain ⟨t, p, q⟩ := h.ex
  obtain ⟨t2, p2, q2⟩ := h2.ex
  refine ⟨_, fun i => pw_or (p i) (p2 i), fun σ τ hn H ρ F Q R h => q σ τ hn H ρ F _ R (Post.bind h fun b ρ1 v H1 F1 s1 R1 o1 h1 => ?_)⟩
  subst o1
  show if v = true then Q true H1 else t2 σ H1 Q
  cases v with
  | true => exact h1 _ H1 F1 (Same.refl _) R1 rfl
  | false => exact q2 σ τ hn H1 ρ1 F1 Q R1 h1
/-- and, or of truth values, as a value -/
def rAndV (f g : Ev → Out PyData) : Ev → Out PyData := fun ρ => (f ρ).bind fun d ρ1 => match d with
  | .bool true => g ρ1
  | .bool false => .ok (.bool false) ρ1
  | _ => .bad
def rOrV (f g : Ev → Out PyData) : Ev → Out PyData := fun ρ => (f ρ).bind fun d ρ1 => match d with
  | .bool true => .ok (.bool true) ρ1
  | .bool false => g ρ1
  | _ => .bad
theorem dx_one {op : BoolOp} {f : Ev → Out PyData} (h : DX Γ G e f) : DX Γ G (.BoolOp op [e] pos) f := by
  obtain ⟨t, p, q⟩ := h.ex
  exact ⟨t, fun i => pe_one (p i), q⟩
theorem dx_and {f g : Ev → Out PyData} (h : DX Γ G e1 f) (h2 : DX Γ G (.BoolOp .And (e2 :: es) pos) g) : DX Γ G (.BoolOp .And (e1 :: e2 :: es) pos) (rAndV f g) := by
  obtain ⟨t, p, q⟩ := h.ex
  obtain ⟨t2, p2, q2⟩ := h2.ex
  refine ⟨_, fun i => pe_and (p i) (p2 i), fun σ τ hn H ρ F Q R h => q σ τ hn H ρ F _ R (Post.bind h fun d ρ1 v H1 F1 s1 R1 o1 h1 => ?_)⟩
  cases d with
  | bool b =>
    cases o1
    refine ⟨b, rfl, ?_⟩
    cases b with
    | true => exact q2 σ τ hn H1 ρ1 F1 Q R1 h1
    | false => exact h1 _ H1 F1 (Same.refl _) R1 (.bl _)
  | _ => exact h1.elim
theorem dx_or {f g : Ev → Out PyData} (h : DX Γ G e1 f) (h2 : DX Γ G (.BoolOp .Or (e2 :: es) pos) g) : DX Γ G (.BoolOp .Or (e1 :: e2 :: es) pos) (rOrV f g) := by
  obtain ⟨t, p, q⟩ := h.ex
  obtain ⟨t2, p2, q2⟩ := h2.ex
  refine ⟨_, fun i => pe_or (p i) (p2 i), fun σ τ hn H ρ F Q R h => q σ τ hn H ρ F _ R (Post.bind h fun d ρ1 v H1 F1 s1 R1 o1 h1 => ?_)⟩
  cases d with
  | bool b =>
    cases o1
    refine ⟨b, rfl, ?_⟩
    cases b with
    | true => exact h1 _ H1 F1 (Same.refl _) R1 (.bl _)
    | false => exact q2 σ τ hn H1 ρ1 F1 Q R1 h1
  | _ => exact h1.elim
def rIf {α : Type} (c : Ev → Out Bool) (f g : Ev → Out α) : Ev → Out α := fun ρ => (c ρ).bind fun b ρ1 => if b = true then f ρ1 else g ρ1
theorem de_if {c : Expr} {fc : Ev → Out Bool} {f g : Ev → Out Sl} (hc : DT Γ G c fc) (h1 : DE Γ G e1 f) (h2 : DE Γ G e2 g) : DE Γ G (.IfExp c e1 e2 pos) (rIf fc f g) := by
  obtain ⟨t, p, q⟩ := hc.ex
  obtain ⟨t1, p1, q1⟩ := h1.ex
  obtain ⟨t2, p2, q2⟩ := h2.ex
  refine ⟨_, fun i => pe_ifExp (p i) (p1 i) (p2 i), fun σ τ hn H ρ F Q R h => q σ τ hn H ρ F _ R (Post.bind h fun b ρ1 v H1 F1 s1 R1 o1 h1 => ?_)⟩
  subst o1
  show if v = true then t1 σ H1 Q else t2 σ H1 Q
  cases v with
  | true => exact q1 σ τ hn H1 ρ1 F1 Q R1 h1
  | false => exact q2 σ τ hn H1 ρ1 F1 Q R1 h1
theorem dx_if {c : Expr} {fc : Ev → Out Bool} {f g : Ev → Out PyData} (hc : DT Γ G c fc) (h1 : DX Γ G e1 f) (h2 : DX Γ G e2 g) : DX Γ G (.IfExp c e1 e2 pos) (rIf fc f g) := by
  obtain ⟨t, p, q⟩ := hc.ex
  obtain ⟨t1, p1, q1⟩ := h1.ex
  obtain ⟨t2, p2, q2⟩ := h2.ex
  refine ⟨_, fun i => pe_ifExp (p i) (p1 i) (p2 i), fun σ τ hn H ρ F Q R h => q σ τ hn H ρ F _ R (Post.bind h fun b ρ1 v H1 F1 s1 R1 o1 h1 => ?_)⟩
  subst o1
  show if v = true then t1 σ H1 Q else t2 σ H1 Q
  cases v with
  | true => exact q1 σ τ hn H1 ρ1 F1 Q R1 h1
  | false => exact q2 σ τ hn H1 ρ1 F1 Q R1 h1
/-- a op b op' c: c is not looked at where the first fails -/
def rChain (g g' : PyData → PyData → Option Sl) (f1 f2 f3 : Ev → Out PyData) : Ev → Out PyData := fun ρ => (f1 ρ).bind fun a ρ1 => (f2 ρ1).bind fun b ρ2 => (lift (g a b) ρ2).bind fun s ρ3 => (asB s ρ3).bind fun k ρ4 =>
  if k = true then (f3 ρ4).bind fun c ρ5 => (lift (g' b c) ρ5).bind asDat else .ok (.bool false) ρ4
theorem okB {K : PySem.W.Frag} {σ : L2.St} {F H : Hp} {ρ : Ev} {v : V} {s : Sl} {α δ : Type} {k : Bool → Ev → Out α} {ok : Hp → Hp → Ev → δ → α → Prop} {Q : δ → Hp → Prop} (o : VOk K G F H σ ρ v s) (h : Post K G σ F ((asB s ρ).bind k) ok Q) : ∃ b, v = .bl b ∧ Post K G σ F (k b ρ) ok Q := by
  cases s with
  | dat d =>
    cases d with
    | bool b =>
      cases o
      exact ⟨b, rfl, h⟩
    | _ => exact h.elim
  | _ => exact h.elim
theorem dx_chain {op op' : CmpOp} {r r' : R2} {g g' : PyData → PyData → Option Sl} {a b c : Expr} {f1 f2 f3 : Ev → Out PyData} (ho : ∀ i, OpR (Γ.X i) (compareOp op) r) (hd : OpD Γ.K r g) (ho' : ∀ i, OpR (Γ.X i) (compareOp op') r') (hd' : OpD Γ.K r' g')
    (h1 : DX Γ G a f1) (h2 : DX Γ G b f2) (h3 : DX Γ G c f3) (hm : lastMarks [op, op'] [b, c] = false := by rfl) : DX Γ G (.Compare a [op, op'] [b, c] pos) (rChain g g' f1 f2 f3) := by
  obtain ⟨t1, p1, q1⟩ := h1.ex
  obtain ⟨t2, p2, q2⟩ := h2.ex
  obtain ⟨t3, p3, q3⟩ := h3.ex
  refine ⟨_, fun i => pe_chain (ho i) (ho' i) (p1 i) (p2 i) (p3 i) hm, fun σ τ hn H ρ F Q R h => ?_⟩
  refine q1 σ τ hn H ρ F _ R (Post.bind h fun a ρ1 x H1 F1 s1 R1 o1 h1 => ?_)
  refine q2 σ τ hn H1 ρ1 F1 _ R1 (Post.bind h1 fun b ρ2 y H2 F2 s2 R2 o2 h2 => ?_)
  refine hd.run R2 (o1.mono s2) o2 (Post.bind h2 fun s ρ3 v H3 F3 s3 R3 o3 h3 => ?_)
  obtain ⟨k, rfl, h4⟩ := okB o3 h3
  refine ⟨k, rfl, ?_⟩
  cases k with
  | true =>
    refine q3 σ τ hn H3 ρ3 F3 _ R3 (Post.bind h4 fun c ρ4 z H4 F4 s4 R4 o4 h5 => ?_)
    refine hd'.run R4 ((o2.mono s3).mono s4) o4 (Post.bind h5 fun s ρ5 v H5 F5 s5 R5 o5 h6 => ?_)
    cases s with
    | dat d => exact h6 _ H5 F5 (Same.refl _) R5 o5
    | own d =>
      cases d with
      | list ds =>
        obtain ⟨F6, s6, R6, r6⟩ := R5.datum o5
        exact h6 v H5 F6 s6 R6 r6
      | _ => exact h6.elim
    | _ => exact h6.elim
  | false => exact h4 _ H3 F3 (Same.refl _) R3 (.bl _)
theorem dt_chain {op op' : CmpOp} {r r' : R2} {g g' : PyData → PyData → Option Sl} {a b c : Expr} {f1 f2 f3 : Ev → Out PyData} (ho : ∀ i, OpR (Γ.X i) (compareOp op) r) (hd : OpD Γ.K r g) (ho' : ∀ i, OpR (Γ.X i) (compareOp op') r') (hd' : OpD Γ.K r' g')
    (h1 : DX Γ G a f1) (h2 : DX Γ G b f2) (h3 : DX Γ G c f3) (hm : lastMarks [op, op'] [b, c] = false := by rfl) : DT Γ G (.Compare a [op, op'] [b, c] pos) (fun ρ => (f1 ρ).bind fun a ρ1 => (f2 ρ1).bind fun b ρ2 => (lift (g a b) ρ2).bind fun s ρ3 => (asB s ρ3).bind fun k ρ4 =>
      if k = true then (f3 ρ4).bind fun c ρ5 => (lift (g' b c) ρ5).bind fun s ρ => (asB s ρ).bind fun k ρ => .ok k ρ else .ok false ρ4) := by
  obtain ⟨t1, p1, q1⟩ := h1.ex
  obtain ⟨t2, p2, q2⟩ := h2.ex
  obtain ⟨t3, p3, q3⟩ := h3.ex
  refine ⟨_, fun i => pt_chain (ho i) (ho' i) (p1 i) (p2 i) (p3 i) hm, fun σ τ hn H ρ F Q R h => ?_⟩
  refine q1 σ τ hn H ρ F _ R (Post.bind h fun a ρ1 x H1 F1 s1 R1 o1 h1 => ?_)
  refine q2 σ τ hn H1 ρ1 F1 _ R1 (Post.bind h1 fun b ρ2 y H2 F2 s2 R2 o2 h2 => ?_)
  refine hd.run R2 (o1.mono s2) o2 (Post.bind h2 fun s ρ3 v H3 F3 s3 R3 o3 h3 => ?_)
  obtain ⟨k, rfl, h4⟩ := okB o3 h3
  refine ⟨k, rfl, ?_⟩
  cases k with
  | true =>
    refine q3 σ τ hn H3 ρ3 F3 _ R3 (Post.bind h4 fun c ρ4 z H4 F4 s4 R4 o4 h5 => ?_)
    refine hd'.run R4 ((o2.mono s3).mono s4) o4 (Post.bind h5 fun s ρ5 v H5 F5 s5 R5 o5 h6 => ?_)
    obtain ⟨k, rfl, h7⟩ := okB o5 h6
    exact ⟨k, rfl, h7 _ H5 F5 (Same.refl _) R5 rfl⟩
  | false => exact ⟨false, rfl, h4 _ H3 F3 (Same.refl _) R3 rfl⟩

/-! ### displays, arguments -/
def rNil : Ev → Out (List PyData) := fun ρ => .ok [] ρ
def rCons (f : Ev → Out PyData) (g : Ev → Out (List PyData)) : Ev → Out (List PyData) := fun ρ => (f ρ).bind fun d ρ1 => (g ρ1).bind fun ds ρ2 => .ok (d :: ds) ρ2
theorem da_nil : DA Γ G [] rNil := ⟨_, fun _ => pa_nil, fun σ τ hn H ρ F Q R h => h _ H F (Same.refl _) R .nil⟩
theorem da_cons {f : Ev → Out PyData} {g : Ev → Out (List PyData)} (h : DX Γ G e f) (h2 : DA Γ G es g) (hs : ∀ i, starEach (e :: es) (Γ.X i).env = (false, eval e (Γ.X i).env) :: starEach es (Γ.X i).env := by intro _; rfl) : DA Γ G (e :: es) (rCons f g) := by
  obtain ⟨t, p, q⟩ := h.ex
  obtain ⟨t2, p2, q2⟩ := h2.ex
  refine ⟨_, fun i => pa_cons (p i) (p2 i) (hs i), fun σ τ hn H ρ F Q R h => q σ τ hn H ρ F _ R (Post.bind h fun d ρ1 v H1 F1 s1 R1 o1 h1 => ?_)⟩
  refine q2 σ τ hn H1 ρ1 F1 _ R1 (Post.bind h1 fun ds ρ2 vs H2 F2 s2 R2 o2 h2 => ?_)
  exact h2 _ H2 F2 (Same.refl _) R2 (.cons (o1.mono s2) o2)
def tupOf (ds : List PyData) (ρ : Ev) : Out PyData := if ds.length ≤ line then .ok (.tuple ds) ρ else .bad
def lstOf (ds : List PyData) (ρ : Ev) : Out Sl := if ds.length ≤ line then .ok (.own (.list ds)) ρ else .bad
theorem dx_tup {x1 : Nat} {f : Ev → Out (List PyData)} (h : DA Γ G es f) : DX Γ G (.Tuple es x1 pos) (fun ρ => (f ρ).bind tupOf) := by
  obtain ⟨t, p, q⟩ := h.ex
  refine ⟨_, fun i => pe_tup (p i), fun σ τ hn H ρ F Q R h => q σ τ hn H ρ F _ R (Post.bind h fun ds ρ1 vs H1 F1 s1 R1 o1 h1 => ?_)⟩
  unfold tupOf at h1
  split at h1
  · next z =>
    refine ⟨by rw [line_eq, o1.length]; exact z, fun p hp => ?_⟩
    obtain ⟨s2, R2, o2⟩ := R1.newTup hp o1
    exact h1 _ _ _ s2 R2 o2
  · exact h1.elim
theorem de_lst {f : Ev → Out (List PyData)} (h : DA Γ G es f) : DE Γ G (.List es pos) (fun ρ => (f ρ).bind lstOf) := by
  obtain ⟨t, p, q⟩ := h.ex
  refine ⟨_, fun i => pe_lst (p i), fun σ τ hn H ρ F Q R h => q σ τ hn H ρ F _ R (Post.bind h fun ds ρ1 vs H1 F1 s1 R1 o1 h1 => ?_)⟩
  unfold lstOf at h1
  split at h1
  · next z =>
    refine ⟨by rw [line_eq, o1.length]; exact z, fun p hp => ?_⟩
    obtain ⟨R2, o2⟩ := R1.newLst hp o1
    exact h1 _ _ _ (Same.refl _) R2 o2
  · exact h1.elim
end
end DL
namespace DL
open PySem PySem.Spec PyProof.Rows L2
/-! ### a thing looked at, as it stands now -/
inductive Vw (K : PySem.W.Frag) (F H : Hp) : V → PyData → Prop
  | val {v : V} {d : PyData} : Rp K F v d → Vw K F H v d
  | lst {p : Addr} {vs : List V} {ds : List PyData} : H p = some (.lst vs) → RpA K F vs ds → Vw K F H (.ref p) (.list ds)
  | dct {p : Addr} {kvs : List (PyData × PyData)} : OwnOk K F H p (.dict kvs) → Vw K F H (.ref p) (.dict kvs)
  | scr {a : Addr} {ns : List Int} : SqL K F a (ns.map V.int) → Vw K F H (.ref a) (.list (ns.map .int))
section
variable {K : PySem.W.Frag} {F H : Hp} {v : V}
theorem Vw.list {ds : List PyData} (h : Vw K F H v (.list ds)) (s : Same F H) : ∃ a vs, v = .ref a ∧ SqL K H a vs ∧ RpA K F vs ds := by
  cases h with
  | val r =>
    cases r with
    | lst e r => exact ⟨_, _, rfl, SqL.of (s _ _ e), r⟩
  | lst e r => exact ⟨_, _, rfl, SqL.of e, r⟩
  | scr e => exact ⟨_, _, rfl, Same.seq s e, RpA.ints⟩
theorem Vw.tuple {ds : List PyData} (h : Vw K F H v (.tuple ds)) (s : Same F H) : ∃ a vs, v = .ref a ∧ SqT K H a vs ∧ RpA K F vs ds ∧ Rp K F v (.tuple ds) := by
  cases h with
  | val r => cases r with
    | tup e r => exact ⟨_, _, rfl, Same.tupD s e, r, .tup e r⟩
theorem Vw.str {x : Str} (h : Vw K F H v (.str x)) : v = .str x := by
  cases h with
  | val r => cases r; rfl
theorem Vw.int {x : Int} (h : Vw K F H v (.int x)) : v = .int x := by
  cases h with
  | val r => cases r; rfl
theorem Vw.bool {x : Bool} (h : Vw K F H v (.bool x)) : v = .bl x := by
  cases h with
  | val r => cases r; rfl
end
abbrev VwA (K : PySem.W.Frag) (F H : Hp) : List V → List PyData → Prop := Paired (Vw K F H)
theorem RpA.vw {K : PySem.W.Frag} {F H : Hp} : ∀ {ds : List PyData} {vs : List V}, RpA K F vs ds → VwA K F H vs ds
  | [], _, h => by cases h; exact .nil
  | d :: ds, _, h => by
    cases h with
    | cons h1 h2 => exact .cons (.val h1) (RpA.vw h2)
abbrev okV (K : PySem.W.Frag) : Hp → Hp → Ev → V → PyData → Prop := fun F H _ v d => Vw K F H v d
structure DV (Γ : Fam) (G : Cg) (e : Expr) (f : Ev → Out PyData) : Prop where
  ex : ∃ t : TE, (∀ i, PE (Γ.X i) e t) ∧ ∀ (σ τ : L2.St) (hn : σ.length = Γ.n) (H : Hp) (ρ : Ev) (F : Hp) (Q : VK), Rel Γ.K G (σ ++ τ) H ρ F → Post Γ.K G (σ ++ τ) F (f ρ) (okV Γ.K) Q → t σ H Q
abbrev okVA (K : PySem.W.Frag) : Hp → Hp → Ev → List V → List PyData → Prop := fun F H _ vs ds => VwA K F H vs ds
structure DAV (Γ : Fam) (G : Cg) (es : List Expr) (f : Ev → Out (List PyData)) : Prop where
  ex : ∃ t : TA, (∀ i, PA (Γ.X i) es t) ∧ ∀ (σ τ : L2.St) (hn : σ.length = Γ.n) (H : Hp) (ρ : Ev) (F : Hp) (Q : List V → Hp → Prop), Rel Γ.K G (σ ++ τ) H ρ F → Post Γ.K G (σ ++ τ) F (f ρ) (okVA Γ.K) Q → t σ H Q
/-- what a slot shows -/
def see : Option Sl → Option PyData
  | some (.dat d) => some d
  | some (.own d) => some d
  | some (.scr ns) => some (.list (ns.map .int))
  | _ => none
def rView (i : Nat) : Ev → Out PyData := fun ρ => lift (see ρ[i]?) ρ
theorem Rel.see {K : PySem.W.Frag} {G : Cg} {σ : L2.St} {H : Hp} {ρ : Ev} {F : Hp} {i : Nat} {d : PyData} (R : Rel K G σ H ρ F) (e : see ρ[i]? = some d) : ∃ v, σ[i]? = some (some v) ∧ Vw K F H v d := by
  cases z : ρ[i]? with
  | none => rw [z] at e; cases e
  | some s =>
    rw [z] at e
    have q := R.sl i s z
    cases s with
    | emp => cases e
    | dat d' =>
      cases e
      obtain ⟨v, a, b⟩ := q
      exact ⟨v, a, .val b⟩
    | own d' =>
      cases e
      obtain ⟨p, a, b, c, _⟩ := q
      refine ⟨.ref p, a, ?_⟩
      cases c with
      | lst h1 h2 => exact .lst h1 h2
      | dK h1 h2 => exact .dct (.dK h1 h2)
      | dT h1 h2 => exact .dct (.dT h1 h2)
    | scr ns =>
      cases e
      obtain ⟨a, b, c⟩ := q
      exact ⟨.ref a, b, .scr c⟩
section
variable {Γ : Fam} {G : Cg} {e e1 e2 : Expr} {es : List Expr} {pos : Pos}
theorem dv_name {i : Nat} (h : ∀ k, PE (Γ.X k) e (tVar i)) (hi : Nat.blt i Γ.n = true) : DV Γ G e (rView i) := by
  refine ⟨_, h, fun σ τ hn H ρ F Q R h => ?_⟩
  unfold rView at h
  cases z : see ρ[i]? with
  | none => rw [z] at h; exact h.elim
  | some d =>
    rw [z] at h
    obtain ⟨v, a, b⟩ := R.see z
    exact ⟨v, ghost hn hi a, h v H F (Same.refl _) R b⟩
theorem DX.v {f : Ev → Out PyData} (h : DX Γ G e f) : DV Γ G e f := by
  obtain ⟨t, p, q⟩ := h.ex
  refine ⟨t, p, fun σ τ hn H ρ F Q R h => q σ τ hn H ρ F Q R ?_⟩
  cases z : f ρ with
  | ok d ρ1 =>
    rw [z] at h
    exact fun v H1 F1 s1 R1 o1 => h v H1 F1 s1 R1 (.val o1)
  | exc c ρ1 => rw [z] at h; exact h
  | bad => rw [z] at h; exact h
theorem dav_one {f : Ev → Out PyData} (h : DV Γ G e f) (hs : ∀ i, starEach [e] (Γ.X i).env = (false, eval e (Γ.X i).env) :: starEach [] (Γ.X i).env := by intro _; rfl) : DAV Γ G [e] (fun ρ => (f ρ).bind fun d ρ => .ok [d] ρ) := by
  obtain ⟨t, p, q⟩ := h.ex
  refine ⟨_, fun i => pa_cons (p i) pa_nil (hs i), fun σ τ hn H ρ F Q R h => q σ τ hn H ρ F _ R (Post.bind h fun d ρ1 v H1 F1 s1 R1 o1 h1 => ?_)⟩
  exact h1 _ H1 F1 (Same.refl _) R1 (.cons o1 .nil)
theorem DA.v {f : Ev → Out (List PyData)} (h : DA Γ G es f) : DAV Γ G es f := by
  obtain ⟨t, p, q⟩ := h.ex
  refine ⟨t, p, fun σ τ hn H ρ F Q R h => q σ τ hn H ρ F Q R ?_⟩
  cases z : f ρ with
  | ok d ρ1 =>
    rw [z] at h
    exact fun v H1 F1 s1 R1 o1 => h v H1 F1 s1 R1 o1.vw
  | exc c ρ1 => rw [z] at h; exact h
  | bad => rw [z] at h; exact h

/-! ### an item -/
def dIx : PyData → PyData → Option PyData
  | .list ds, .int i => atI ds i
  | .tuple ds, .int i => atI ds i
  | .str z, .int i => if z.length ≤ line then (atI z.cps.toList i).map fun c => .str ⟨#[c]⟩ else none
  | _, _ => none
theorem RpA.atI {K : PySem.W.Frag} {F : Hp} {vs : List V} {ds : List PyData} {i : Int} {d : PyData} (r : RpA K F vs ds) (e : atI ds i = some d) : ∃ v, L2.atI vs i = some v ∧ Rp K F v d := by
  unfold L2.atI at e ⊢
  rw [r.length]
  cases z : ixN ds.length i with
  | none => rw [z] at e; cases e
  | some j =>
    rw [z] at e
    exact r.get e
theorem ix_run {K : PySem.W.Frag} {σ : L2.St} {H : Hp} {ρ : Ev} {F : Hp} {x y : V} {a b : PyData} {Q : VK} (R : Rel K G σ H ρ F) (ra : Vw K F H x a) (rb : Rp K F y b) (q : Post K G σ F (lift (dIx a b) ρ) (okX K) Q) : rIx K x y H Q := by
  cases b with
  | int i =>
    cases rb
    cases a with
    | list ds =>
      obtain ⟨p, vs, rfl, h1, h2⟩ := ra.list R.sub
      cases z : atI ds i with
      | none =>
        have q : Post K G σ F (lift (atI ds i) ρ) (okX K) Q := q
        rw [z] at q
        exact q.elim
      | some d =>
        have q : Post K G σ F (lift (atI ds i) ρ) (okX K) Q := q
        rw [z] at q
        obtain ⟨v, e1, e2⟩ := h2.atI z
        exact .inl ⟨p, vs, i, v, rfl, rfl, h1, e1, q v H F (Same.refl _) R e2⟩
    | tuple ds =>
      obtain ⟨p, vs, rfl, h1, h2, _⟩ := ra.tuple R.sub
      cases z : atI ds i with
      | none =>
        have q : Post K G σ F (lift (atI ds i) ρ) (okX K) Q := q
        rw [z] at q
        exact q.elim
      | some d =>
        have q : Post K G σ F (lift (atI ds i) ρ) (okX K) Q := q
        rw [z] at q
        obtain ⟨v, e1, e2⟩ := h2.atI z
        exact .inr (.inl ⟨p, vs, i, v, rfl, rfl, h1, e1, q v H F (Same.refl _) R e2⟩)
    | str x =>
      cases ra.str
      have q : Post K G σ F (lift (if x.length ≤ line then (atI x.cps.toList i).map fun c => PyData.str ⟨#[c]⟩ else none) ρ) (okX K) Q := q
      split at q
      · next hl =>
        cases z : atI x.cps.toList i with
        | none => rw [z] at q; exact q.elim
        | some c =>
          rw [z] at q
          exact .inr (.inr ⟨x, i, c, rfl, rfl, by rw [line_eq]; exact hl, z, q _ H F (Same.refl _) R (.str _)⟩)
      · exact q.elim
    | _ => exact q.elim
  | _ => cases a <;> exact q.elim
theorem dx_ix {f g : Ev → Out PyData} (h1 : DX Γ G e1 f) (h2 : DX Γ G e2 g) (hs : PlainIx e2 := by intro _ _; rfl) : DX Γ G (.Subscript e1 e2 pos) (fun ρ => (f ρ).bind fun a ρ1 => (g ρ1).bind fun b ρ2 => lift (dIx a b) ρ2) := by
  obtain ⟨t, p, q⟩ := h1.ex
  obtain ⟨t2, p2, q2⟩ := h2.ex
  refine ⟨tOp (rIx Γ.K) t t2, fun i => by have z := pe_ix (pos := pos) ix_seq (p i) (p2 i) hs; rw [Γ.hK i] at z; exact z, fun σ τ hn H ρ F Q R h => ?_⟩
  refine q σ τ hn H ρ F _ R (Post.bind h fun a ρ1 x H1 F1 s1 R1 o1 h1 => ?_)
  refine q2 σ τ hn H1 ρ1 F1 _ R1 (Post.bind h1 fun b ρ2 y H2 F2 s2 R2 o2 h2 => ?_)
  exact ix_run R2 (.val (o1.mono s2)) o2 h2
/-- a name's item: the name is looked at behind the index -/
theorem dx_ixN {k : Nat} {g : Ev → Out PyData} (h1 : ∀ i, PE (Γ.X i) e1 (tVar k)) (hi : Nat.blt k Γ.n = true) (h2 : DX Γ G e2 g) (hs : PlainIx e2 := by intro _ _; rfl) : DX Γ G (.Subscript e1 e2 pos) (fun ρ => (lift (see ρ[k]?) ρ).bind fun _ ρ1 => (g ρ1).bind fun b ρ2 => (lift (see ρ2[k]?) ρ2).bind fun a ρ3 => lift (dIx a b) ρ3) := by
  obtain ⟨t2, p2, q2⟩ := h2.ex
  refine ⟨tOp (rIx Γ.K) (tVar k) t2, fun i => by have z := pe_ix (pos := pos) ix_seq (h1 i) (p2 i) hs; rw [Γ.hK i] at z; exact z, fun σ τ hn H ρ F Q R h => ?_⟩
  cases z : see ρ[k]? with
  | none => rw [z] at h; exact h.elim
  | some d =>
    rw [z] at h
    obtain ⟨v, a, b⟩ := R.see z
    refine ⟨v, ghost hn hi a, q2 σ τ hn H ρ F _ R (Post.bind h fun b ρ2 y H2 F2 s2 R2 o2 h2 => ?_)⟩
    cases z2 : see ρ2[k]? with
    | none => rw [z2] at h2; exact h2.elim
    | some d2 =>
      rw [z2] at h2
      obtain ⟨v2, a2, b2⟩ := R2.see z2
      rw [a] at a2
      cases a2
      exact ix_run R2 b2 o2 h2

/-! ### slices -/
structure DO (Γ : Fam) (G : Cg) (e : Option Expr) (f : Ev → Out (Option Int)) : Prop where
  ex : ∃ t : TO, (∀ i, PO (Γ.X i) e t) ∧ ∀ (σ τ : L2.St) (hn : σ.length = Γ.n) (H : Hp) (ρ : Ev) (F : Hp) (Q : Option Int → Hp → Prop), Rel Γ.K G (σ ++ τ) H ρ F → Post Γ.K G (σ ++ τ) F (f ρ) (fun _ _ _ a b => a = b) Q → t σ H Q
theorem do_none : DO Γ G none (fun ρ => .ok none ρ) := ⟨_, fun _ => po_none, fun σ τ hn H ρ F Q R h => h _ H F (Same.refl _) R rfl⟩
def asI : PyData → Ev → Out (Option Int)
  | .int i, ρ => .ok (some i) ρ
  | _, _ => .bad
theorem do_some {f : Ev → Out PyData} (h : DX Γ G e f) : DO Γ G (some e) (fun ρ => (f ρ).bind asI) := by
  obtain ⟨t, p, q⟩ := h.ex
  refine ⟨_, fun i => po_some (p i), fun σ τ hn H ρ F Q R h => q σ τ hn H ρ F _ R (Post.bind h fun d ρ1 v H1 F1 s1 R1 o1 h1 => ?_)⟩
  cases d with
  | int i =>
    cases o1
    exact ⟨i, rfl, h1 _ H1 F1 (Same.refl _) R1 rfl⟩
  | _ => exact h1.elim
def cut {α : Type} (xs : List α) (lo hi : Option Int) : List α := (xs.drop (HT.sIx xs.length 0 lo)).take (HT.sIx xs.length xs.length hi - HT.sIx xs.length 0 lo)
def dSlice : PyData → Option Int → Option Int → Option Sl
  | .list ds, lo, hi => some (.own (.list (cut ds lo hi)))
  | .tuple ds, lo, hi => some (.dat (.tuple (cut ds lo hi)))
  | .str z, lo, hi => if z.length ≤ line then some (.dat (.str (cutS z lo hi))) else none
  | _, _, _ => none
theorem RpA.cut {K : PySem.W.Frag} {F : Hp} {vs : List V} {ds : List PyData} (r : RpA K F vs ds) (lo hi : Option Int) : RpA K F (cutV vs lo hi) (DL.cut ds lo hi) := by
  unfold cutV DL.cut
  rw [r.length]
  exact (r.drop _).take _
theorem cut_whole {ds : List PyData} {lo hi : Option Int} (h : HT.sIx ds.length 0 lo = 0 ∧ HT.sIx ds.length ds.length hi = ds.length) : cut ds lo hi = ds := by
  unfold cut
  rw [h.1, h.2]
  simp
def rSlAll (K : PySem.W.Frag) : V → Option Int → Option Int → Hp → VK → Prop := fun x lo hi H Q => rSlA K x lo hi H Q ∨ (rSlL K x lo hi H Q ∨ rSlS x lo hi H Q)
theorem sl_all {X : Cx} : SlR X (rSlAll X.K) := sl_tupA.or (sl_list.or sl_str)
theorem sl_run {K : PySem.W.Frag} {σ : L2.St} {H : Hp} {ρ : Ev} {F : Hp} {x : V} {a : PyData} {lo hi : Option Int} {Q : VK} (R : Rel K G σ H ρ F) (ra : Vw K F H x a) (q : Post K G σ F (lift (dSlice a lo hi) ρ) (okE K G σ) Q) : rSlAll K x lo hi H Q := by
  cases a with
  | list ds =>
    obtain ⟨p, vs, rfl, h1, h2⟩ := ra.list R.sub
    refine .inr (.inl ⟨p, vs, rfl, h1, fun p hp => ?_⟩)
    obtain ⟨R1, o1⟩ := R.newLst hp (h2.cut lo hi)
    exact q _ _ _ (Same.refl _) R1 o1
  | tuple ds =>
    obtain ⟨p, vs, rfl, h1, h2, h3⟩ := ra.tuple R.sub
    refine .inl ⟨p, vs, rfl, h1, fun z => ?_, fun z p hp => ?_⟩
    · rw [h2.length] at z
      refine q _ H F (Same.refl _) R ?_
      show Rp K F (.ref p) (.tuple (cut ds lo hi))
      rw [cut_whole z]
      exact h3
    · obtain ⟨s1, R1, o1⟩ := R.newTup hp (h2.cut lo hi)
      exact q _ _ _ s1 R1 o1
  | str x =>
    cases ra.str
    have q : Post K G σ F (lift (if x.length ≤ line then some (Sl.dat (.str (cutS x lo hi))) else none) ρ) (okE K G σ) Q := q
    split at q
    · next hl => exact .inr (.inr ⟨x, rfl, by rw [line_eq]; exact hl, q _ H F (Same.refl _) R (.str _)⟩)
    · exact q.elim
  | _ => exact q.elim
theorem de_slice {lo hi : Option Expr} {p2 : Pos} {f : Ev → Out PyData} {g k : Ev → Out (Option Int)} (h1 : DX Γ G e f) (h2 : DO Γ G lo g) (h3 : DO Γ G hi k) : DE Γ G (.Subscript e (.Slice lo hi none p2) pos) (fun ρ => (f ρ).bind fun a ρ1 => (g ρ1).bind fun l ρ2 => (k ρ2).bind fun u ρ3 => lift (dSlice a l u) ρ3) := by
  obtain ⟨t1, p1, q1⟩ := h1.ex
  obtain ⟨t2, p2', q2⟩ := h2.ex
  obtain ⟨t3, p3, q3⟩ := h3.ex
  refine ⟨tSl (rSlAll Γ.K) t1 t2 t3, fun i => by have z := pe_slice (pos := pos) (p2 := p2) sl_all (p1 i) (p2' i) (p3 i); rw [Γ.hK i] at z; exact z, fun σ τ hn H ρ F Q R h => ?_⟩
  refine q1 σ τ hn H ρ F _ R (Post.bind h fun a ρ1 x H1 F1 s1 R1 o1 h1 => ?_)
  refine q2 σ τ hn H1 ρ1 F1 _ R1 (Post.bind h1 fun l ρ2 l' H2 F2 s2 R2 o2 h2 => ?_)
  refine q3 σ τ hn H2 ρ2 F2 _ R2 (Post.bind h2 fun u ρ3 u' H3 F3 s3 R3 o3 h3 => ?_)
  subst o2 o3
  exact sl_run R3 (.val ((o1.mono s2).mono s3)) h3
/-- xs[::-1] of a list -/
def dRevL : PyData → Option Sl
  | .list ds => some (.own (.list ds.reverse))
  | _ => none
theorem de_revL {k : Nat} {p1 p2 p3 : Pos} {f : Ev → Out PyData} (h : DV Γ G e f) : DE Γ G (.Subscript e (.Slice none none (some (.UnaryOp .USub (.Constant (.int 1) k p1) p2)) p3) pos) (fun ρ => (f ρ).bind fun a ρ1 => lift (dRevL a) ρ1) := by
  obtain ⟨t1, q1, q2⟩ := h.ex
  refine ⟨tRevL Γ.K t1, fun i => by have z := pe_revL (k := k) (p1 := p1) (p2 := p2) (p3 := p3) (pos := pos) (q1 i); rw [Γ.hK i] at z; exact z, fun σ τ hn H ρ F Q R h => q2 σ τ hn H ρ F _ R (Post.bind h fun a ρ1 x H1 F1 s1 R1 o1 h1 => ?_)⟩
  cases a with
  | list ds =>
    obtain ⟨p, vs, rfl, e1, e2⟩ := o1.list R1.sub
    refine ⟨p, vs, rfl, e1, fun p hp => ?_⟩
    obtain ⟨R2, o2⟩ := R1.newLst hp e2.reverse
    exact h1 _ _ _ (Same.refl _) R2 o2
  | _ => exact h1.elim

/-! ### built-in functions -/
def CallV (K : PySem.W.Frag) (r : List V → Hp → VK → Prop) (g : List PyData → Option Sl) : Prop :=
  ∀ (G : Cg) (σ : L2.St) (H : Hp) (ρ : Ev) (F : Hp) (xs : List V) (ds : List PyData) (s : Sl) (Q : VK), Rel K G σ H ρ F → VwA K F H xs ds → g ds = some s →
    (∀ v H' F', Same F F' → Rel K G σ H' ρ F' → VOk K G F' H' σ ρ v s → Q v H') → r xs H Q
theorem CallV.run {K : PySem.W.Frag} {r : List V → Hp → VK → Prop} {g : List PyData → Option Sl} (h : CallV K r g) {σ : L2.St} {H : Hp} {ρ : Ev} {F : Hp} {xs : List V} {ds : List PyData} {Q : VK} (R : Rel K G σ H ρ F) (ra : VwA K F H xs ds) (q : Post K G σ F (lift (g ds) ρ) (okE K G σ) Q) : r xs H Q := by
  cases e : g ds with
  | none => rw [e] at q; exact q.elim
  | some s =>
    rw [e] at q
    exact h G σ H ρ F xs ds s Q R ra e q
theorem de_callB {x : Str} {p : Pos} {id : String} {r : List V → Hp → VK → Prop} {g : List PyData → Option Sl} {f : Ev → Out (List PyData)} (hc : ∀ i, CallR (Γ.X i) (.builtin id) r) (hg : ∀ i, Gl (Γ.X i) x) (hm : ∀ i, (Γ.X i).mg x = none) (hv : bootBuiltins x = some (.builtin id)) (hd : CallV Γ.K r g) (ha : DAV Γ G (e :: es) f)
    (hn : x ≠ "__name__" := by decide) (hdb : (x == ("__debug__" : Str)) = false := by decide) (he : ∀ i, starEach (e :: es) (Γ.X i).env = (false, eval e (Γ.X i).env) :: starEach es (Γ.X i).env := by intro _; rfl) (hpl : ∀ i, (backTo pos (starEach es (Γ.X i).env)).any (·.1) = false := by intro _; rfl) :
    DE Γ G (.Call (.Name x p) (e :: es) [] pos) (fun ρ => (f ρ).bind fun ds ρ1 => lift (g ds) ρ1) := by
  obtain ⟨t, q1, q2⟩ := ha.ex
  refine ⟨_, fun i => pe_callB (hc i) (hg i) (hm i) hv (q1 i) hn hdb (he i) (hpl i), fun σ τ hn H ρ F Q R h => q2 σ τ hn H ρ F _ R (Post.bind h fun ds ρ1 xs H1 F1 s1 R1 o1 h1 => hd.run R1 o1 h1)⟩
theorem de_callTy {x : Str} {p : Pos} {T : String} {r : List V → Hp → VK → Prop} {g : List PyData → Option Sl} {f : Ev → Out (List PyData)} (hc : ∀ i, CallR (Γ.X i) (.type T) r) (hg : ∀ i, Gl (Γ.X i) x) (hm : ∀ i, (Γ.X i).mg x = none) (hv : bootBuiltins x = some (.type T)) (hd : CallV Γ.K r g) (ha : DAV Γ G (e :: es) f)
    (hn : x ≠ "__name__" := by decide) (hdb : (x == ("__debug__" : Str)) = false := by decide) (he : ∀ i, starEach (e :: es) (Γ.X i).env = (false, eval e (Γ.X i).env) :: starEach es (Γ.X i).env := by intro _; rfl) (hpl : ∀ i, (backTo pos (starEach es (Γ.X i).env)).any (·.1) = false := by intro _; rfl) :
    DE Γ G (.Call (.Name x p) (e :: es) [] pos) (fun ρ => (f ρ).bind fun ds ρ1 => lift (g ds) ρ1) := by
  obtain ⟨t, q1, q2⟩ := ha.ex
  refine ⟨_, fun i => pe_callTy (hc i) (hg i) (hm i) hv (q1 i) hn hdb (he i) (hpl i), fun σ τ hn H ρ F Q R h => q2 σ τ hn H ρ F _ R (Post.bind h fun ds ρ1 xs H1 F1 s1 R1 o1 h1 => hd.run R1 o1 h1)⟩
end
section
variable {K : PySem.W.Frag}
theorem VwA.one {F H : Hp} {xs : List V} {d : PyData} (h : VwA K F H xs [d]) : ∃ x, xs = [x] ∧ Vw K F H x d := by
  cases h with
  | cons a b => cases b; exact ⟨_, rfl, a⟩
theorem VwA.two {F H : Hp} {xs : List V} {d d' : PyData} (h : VwA K F H xs [d, d']) : ∃ x y, xs = [x, y] ∧ Vw K F H x d ∧ Vw K F H y d' := by
  cases h with
  | cons a b =>
    obtain ⟨y, rfl, h2⟩ := VwA.one b
    exact ⟨_, y, rfl, a, h2⟩
/-- len -/
def dLen : List PyData → Option Sl
  | [.list ds] => some (.dat (.int ds.length))
  | [.tuple ds] => some (.dat (.int ds.length))
  | [.str z] => if z.length ≤ line then some (.dat (.int z.length)) else none
  | _ => none
def rLenA (K : PySem.W.Frag) : List V → Hp → VK → Prop := fun xs H Q => (∃ p ys, xs = [.ref p] ∧ (SqL K H p ys ∨ SqT K H p ys) ∧ Q (.int ys.length) H) ∨ (∃ z, xs = [.str z] ∧ z.length ≤ sizeLine ∧ Q (.int z.length) H)
theorem call_lenA {X : Cx} : CallR X (.builtin "len") (rLenA X.K) := call_len_seq.or call_len_str
theorem cv_len : CallV K (rLenA K) dLen := by
  intro G σ H ρ F xs ds s Q R ra e q
  match ds, e with
  | [.list ds], e =>
    cases e
    obtain ⟨x, rfl, h⟩ := ra.one
    obtain ⟨p, vs, rfl, h1, h2⟩ := h.list R.sub
    exact .inl ⟨p, vs, rfl, .inl h1, by rw [h2.length]; exact q _ H F (Same.refl _) R (.int _)⟩
  | [.tuple ds], e =>
    cases e
    obtain ⟨x, rfl, h⟩ := ra.one
    obtain ⟨p, vs, rfl, h1, h2, _⟩ := h.tuple R.sub
    exact .inl ⟨p, vs, rfl, .inr h1, by rw [h2.length]; exact q _ H F (Same.refl _) R (.int _)⟩
  | [.str z], e =>
    obtain ⟨x, rfl, h⟩ := ra.one
    cases h.str
    have e : (if z.length ≤ line then some (Sl.dat (.int z.length)) else none) = some s := e
    split at e
    · next hz =>
      cases e
      exact .inr ⟨z, rfl, by rw [line_eq]; exact hz, q _ H F (Same.refl _) R (.int _)⟩
    · cases e
/-- abs -/
def dAbs : List PyData → Option Sl
  | [.int i] => some (.dat (.int (if i < 0 then -i else i)))
  | _ => none
theorem cv_abs : CallV K (fun xs H Q => ∃ i, xs = [.int i] ∧ Q (.int (if i < 0 then -i else i)) H) dAbs := by
  intro G σ H ρ F xs ds s Q R ra e q
  match ds, e with
  | [.int i], e =>
    cases e
    obtain ⟨x, rfl, h⟩ := ra.one
    cases h.int
    exact ⟨i, rfl, q _ H F (Same.refl _) R (.int _)⟩
/-- int(..) of an int, a truth value -/
def dInt : List PyData → Option Sl
  | [.int i] => some (.dat (.int i))
  | [.bool b] => some (.dat (.int (if b then 1 else 0)))
  | _ => none
theorem cv_int : CallV K (fun xs H Q => (∃ i, xs = [.int i] ∧ Q (.int i) H) ∨ ∃ k, xs = [.bl k] ∧ Q (.int (if k then 1 else 0)) H) dInt := by
  intro G σ H ρ F xs ds s Q R ra e q
  match ds, e with
  | [.int i], e =>
    cases e
    obtain ⟨x, rfl, h⟩ := ra.one
    cases h.int
    exact .inl ⟨i, rfl, q _ H F (Same.refl _) R (.int _)⟩
  | [.bool i], e =>
    cases e
    obtain ⟨x, rfl, h⟩ := ra.one
    cases h.bool
    exact .inr ⟨i, rfl, q _ H F (Same.refl _) R (.int _)⟩
/-- tuple(..), list(..) -/
def dTuple : List PyData → Option Sl
  | [.list ds] => some (.dat (.tuple ds))
  | [.tuple ds] => some (.dat (.tuple ds))
  | _ => none
theorem cv_tuple : CallV K (fun xs H Q => ∃ p ys, xs = [.ref p] ∧ ((SqL K H p ys ∧ ∀ l, H l = none → Q (.ref l) (upd H l (.tup ys))) ∨ (SqT K H p ys ∧ Q (.ref p) H))) dTuple := by
  intro G σ H ρ F xs ds s Q R ra e q
  match ds, e with
  | [.list ds], e =>
    cases e
    obtain ⟨x, rfl, h⟩ := ra.one
    obtain ⟨p, vs, rfl, h1, h2⟩ := h.list R.sub
    refine ⟨p, vs, rfl, .inl ⟨h1, fun p hp => ?_⟩⟩
    obtain ⟨s1, R1, o1⟩ := R.newTup hp h2
    exact q _ _ _ s1 R1 o1
  | [.tuple ds], e =>
    cases e
    obtain ⟨x, rfl, h⟩ := ra.one
    obtain ⟨p, vs, rfl, h1, h2, h3⟩ := h.tuple R.sub
    exact ⟨p, vs, rfl, .inr ⟨h1, q _ H F (Same.refl _) R h3⟩⟩
def dList : List PyData → Option Sl
  | [.list ds] => some (.own (.list ds))
  | [.tuple ds] => some (.own (.list ds))
  | _ => none
theorem cv_list : CallV K (fun xs H Q => ∃ p ys, xs = [.ref p] ∧ (SqL K H p ys ∨ SqT K H p ys) ∧ ∀ l, H l = none → Q (.ref l) (upd H l (.lst ys))) dList := by
  intro G σ H ρ F xs ds s Q R ra e q
  match ds, e with
  | [.list ds], e =>
    cases e
    obtain ⟨x, rfl, h⟩ := ra.one
    obtain ⟨p, vs, rfl, h1, h2⟩ := h.list R.sub
    refine ⟨p, vs, rfl, .inl h1, fun p hp => ?_⟩
    obtain ⟨R1, o1⟩ := R.newLst hp h2
    exact q _ _ _ (Same.refl _) R1 o1
  | [.tuple ds], e =>
    cases e
    obtain ⟨x, rfl, h⟩ := ra.one
    obtain ⟨p, vs, rfl, h1, h2, h3⟩ := h.tuple R.sub
    refine ⟨p, vs, rfl, .inr h1, fun p hp => ?_⟩
    obtain ⟨R1, o1⟩ := R.newLst hp h2
    exact q _ _ _ (Same.refl _) R1 o1
/-- all, any, of truth values; sum of ints -/
def bools : List PyData → Option (List Bool)
  | [] => some []
  | .bool b :: ds => (bools ds).map (b :: ·)
  | _ :: _ => none
def intsOf : List PyData → Option (List Int)
  | [] => some []
  | .int b :: ds => (intsOf ds).map (b :: ·)
  | _ :: _ => none
theorem bools_eq : ∀ {ds : List PyData} {bs : List Bool}, bools ds = some bs → ds = bs.map .bool
  | [], _, e => by cases e; rfl
  | d :: ds, bs, e => by
    cases d with
    | bool b =>
      have e : (bools ds).map (b :: ·) = some bs := e
      cases z : bools ds with
      | none => rw [z] at e; cases e
      | some cs =>
        rw [z] at e
        cases e
        rw [bools_eq z]
        rfl
    | _ => cases e
theorem ints_eq : ∀ {ds : List PyData} {bs : List Int}, intsOf ds = some bs → ds = bs.map .int
  | [], _, e => by cases e; rfl
  | d :: ds, bs, e => by
    cases d with
    | int b =>
      have e : (intsOf ds).map (b :: ·) = some bs := e
      cases z : intsOf ds with
      | none => rw [z] at e; cases e
      | some cs =>
        rw [z] at e
        cases e
        rw [ints_eq z]
        rfl
    | _ => cases e
theorem bools_map (bs : List Bool) : bools (bs.map .bool) = some bs := by
  induction bs with
  | nil => rfl
  | cons b bs ih =>
    show (bools (bs.map .bool)).map (b :: ·) = _
    rw [ih]
    rfl
theorem intsOf_map (bs : List Int) : intsOf (bs.map .int) = some bs := by
  induction bs with
  | nil => rfl
  | cons b bs ih =>
    show (intsOf (bs.map .int)).map (b :: ·) = _
    rw [ih]
    rfl
theorem RpA.of_bools {F : Hp} : ∀ {ns : List Bool} {vs : List V}, RpA K F vs (ns.map PyData.bool) → vs = ns.map V.bl
  | [], _, h => by cases h; rfl
  | n :: ns, _, h => by
    cases h with
    | cons h1 h2 =>
      cases h1
      rw [RpA.of_bools h2]
      rfl
def dAll : List PyData → Option Sl
  | [.list ds] => (bools ds).map fun bs => .dat (.bool (bs.all id))
  | _ => none
def dAny : List PyData → Option Sl
  | [.list ds] => (bools ds).map fun bs => .dat (.bool (bs.any id))
  | _ => none
def dSum : List PyData → Option Sl
  | [.list ds] => (intsOf ds).map fun bs => .dat (.int bs.sum)
  | _ => none
theorem cv_all : CallV K (rAll K) dAll := by
  intro G σ H ρ F xs ds s Q R ra e q
  match ds, e with
  | [.list ds], e =>
    have e : (bools ds).map (fun bs => Sl.dat (.bool (bs.all id))) = some s := e
    cases z : bools ds with
    | none => rw [z] at e; cases e
    | some bs =>
      rw [z] at e
      cases e
      obtain ⟨x, rfl, h⟩ := ra.one
      obtain ⟨p, vs, rfl, h1, h2⟩ := h.list R.sub
      rw [bools_eq z] at h2
      rw [h2.of_bools] at h1
      exact ⟨p, bs, rfl, h1, q _ H F (Same.refl _) R (.bl _)⟩
theorem cv_any : CallV K (rAny K) dAny := by
  intro G σ H ρ F xs ds s Q R ra e q
  match ds, e with
  | [.list ds], e =>
    have e : (bools ds).map (fun bs => Sl.dat (.bool (bs.any id))) = some s := e
    cases z : bools ds with
    | none => rw [z] at e; cases e
    | some bs =>
      rw [z] at e
      cases e
      obtain ⟨x, rfl, h⟩ := ra.one
      obtain ⟨p, vs, rfl, h1, h2⟩ := h.list R.sub
      rw [bools_eq z] at h2
      rw [h2.of_bools] at h1
      exact ⟨p, bs, rfl, h1, q _ H F (Same.refl _) R (.bl _)⟩
theorem cv_sum : CallV K (rSum K) dSum := by
  intro G σ H ρ F xs ds s Q R ra e q
  match ds, e with
  | [.list ds], e =>
    have e : (intsOf ds).map (fun bs => Sl.dat (.int bs.sum)) = some s := e
    cases z : intsOf ds with
    | none => rw [z] at e; cases e
    | some bs =>
      rw [z] at e
      cases e
      obtain ⟨x, rfl, h⟩ := ra.one
      obtain ⟨p, vs, rfl, h1, h2⟩ := h.list R.sub
      rw [ints_eq z] at h2
      rw [h2.of_ints] at h1
      exact ⟨p, bs, rfl, h1, q _ H F (Same.refl _) R (.int _)⟩
end
end DL
namespace DL
open PySem PySem.Spec PyProof.Rows L2
/-! ### slots stored, changed, moved -/
section
variable {K : PySem.W.Frag} {G : Cg} {σ : L2.St} {H : Hp} {ρ : Ev} {F : Hp} {p : Addr}
theorem Rel.noA (R : Rel K G σ H ρ F) {i : Nat} (hB : i ∉ G.B) : G.A i = none := by
  cases z : G.A i with
  | none => rfl
  | some q => exact absurd (R.bor i q z).1 hB
theorem Rel.store {i : Nat} {v : V} {s : Sl} (R : Rel K G σ H ρ F) (hB : i ∉ G.B) (hi : i < σ.length) (o : VOk K G F H σ ρ v s) : Rel K G (σ.set i (some v)) H (ρ.set i s) F := by
  have hi' : i < ρ.length := by rw [R.len]; exact hi
  have hA := R.noA hB
  have back : ∀ {j : Nat} {d : PyData}, j ≠ i → (ρ.set i s)[j]? = some (.own d) → ρ[j]? = some (.own d) := fun {j d} hj e => by
    rw [List.getElem?_set_ne (Ne.symm hj)] at e
    exact e
  refine ⟨R.sub, R.f0, R.keep, R.newF, by rw [List.length_set, List.length_set]; exact R.len, fun j sl ej => ?_, fun j k dj dk q ej ek zj zk => ?_, fun j q ej => ?_⟩
  · by_cases hj : j = i
    · subst hj
      rw [List.getElem?_set_self hi'] at ej
      cases ej
      cases s with
      | emp => exact trivial
      | dat d => exact ⟨v, List.getElem?_set_self hi, o⟩
      | own d =>
        obtain ⟨p, rfl, a1, a2, a3, _⟩ := o
        exact ⟨p, List.getElem?_set_self hi, a1, a2, .inr ⟨hA, a3⟩⟩
      | scr ns =>
        obtain ⟨a, rfl, b⟩ := o
        exact ⟨a, List.getElem?_set_self hi, b⟩
    · rw [List.getElem?_set_ne (Ne.symm hj)] at ej
      have q := R.sl j sl ej
      cases sl with
      | emp => exact q
      | dat d =>
        obtain ⟨w, a, b⟩ := q
        exact ⟨w, by rw [List.getElem?_set_ne (Ne.symm hj)]; exact a, b⟩
      | own d =>
        obtain ⟨w, a, b⟩ := q
        exact ⟨w, by rw [List.getElem?_set_ne (Ne.symm hj)]; exact a, b⟩
      | scr d =>
        obtain ⟨w, a, b⟩ := q
        exact ⟨w, by rw [List.getElem?_set_ne (Ne.symm hj)]; exact a, b⟩
  · have self : ∀ {j : Nat} {d dk : PyData} {k : Nat}, j = i → k ≠ i → (ρ.set i s)[j]? = some (.own d) → (ρ.set i s)[k]? = some (.own dk) → (σ.set i (some v))[j]? = some (some (.ref q)) → (σ.set i (some v))[k]? = some (some (.ref q)) → False := fun {j d dk k} hj hk ej ek zj zk => by
      subst hj
      rw [List.getElem?_set_self hi'] at ej
      cases ej
      rw [List.getElem?_set_self hi] at zj
      cases zj
      obtain ⟨p, e, _, _, _, nn⟩ := o
      cases e
      rw [List.getElem?_set_ne (Ne.symm hk)] at zk
      exact nn k dk (back hk ek) zk
    by_cases hj : j = i
    · by_cases hk : k = i
      · rw [hj, hk]
      · exact (self hj hk ej ek zj zk).elim
    · by_cases hk : k = i
      · exact (self hk hj ek ej zk zj).elim
      · rw [List.getElem?_set_ne (Ne.symm hj)] at zj
        rw [List.getElem?_set_ne (Ne.symm hk)] at zk
        exact R.inj j k dj dk q (back hj ej) (back hk ek) zj zk
  · obtain ⟨b1, b2, d, b3⟩ := R.bor j q ej
    have nj : j ≠ i := fun z => hB (z ▸ b1)
    exact ⟨b1, b2, d, by rw [List.getElem?_set_ne (Ne.symm nj)]; exact b3⟩
/-- an own thing changes -/
theorem Rel.change {k : Nat} {d d' : PyData} {o : HO} (R : Rel K G σ H ρ F) (e : ρ[k]? = some (.own d)) (a : σ[k]? = some (some (.ref p))) (new : OwnOk K F (upd H p o) p d') : Rel K G σ (upd H p o) (ρ.set k (.own d')) F := by
  obtain ⟨p', a1, a2, a3, a4⟩ := R.sl k _ e
  rw [a] at a1
  cases a1
  have hk : k < ρ.length := (List.getElem?_eq_some_iff.mp e).1
  have own : ∀ {j : Nat} {dj : PyData}, (ρ.set k (.own d'))[j]? = some (.own dj) → ∃ dj', ρ[j]? = some (.own dj') := fun {j dj} ej => by
    by_cases hj : k = j
    · subst hj; exact ⟨d, e⟩
    · rw [List.getElem?_set_ne hj] at ej
      exact ⟨dj, ej⟩
  refine ⟨fun b u e' => ?_, R.f0, fun b u e1 e2 => ?_, R.newF, by rw [List.length_set]; exact R.len, fun j sl ej => ?_, fun i j di dj q ei ej => ?_, fun j q ej => ?_⟩
  · have nb : b ≠ p := fun z => by rw [z, a2] at e'; cases e'
    rw [upd_ne nb]
    exact R.sub b u e'
  · have nb : b ≠ p := fun z => by
      subst z
      rcases a4 with z | ⟨_, z⟩
      · exact e2 k z
      · rw [z] at e1; cases e1
    rw [upd_ne nb]
    exact R.keep b u e1 e2
  · by_cases hj : j = k
    · subst hj
      rw [List.getElem?_set_self hk] at ej
      cases ej
      exact ⟨p, a, a2, new, a4⟩
    · rw [List.getElem?_set_ne (Ne.symm hj)] at ej
      have q := R.sl j sl ej
      cases sl with
      | emp => exact q
      | dat d => exact q
      | scr ns => exact q
      | own dj =>
        obtain ⟨q', b1, b2, b3, b4⟩ := q
        have nq : q' ≠ p := fun z => hj (R.inj j k dj d p ej e (z ▸ b1) a)
        exact ⟨q', b1, b2, b3.at' (Same.refl F) (upd_ne nq), b4⟩
  · obtain ⟨_, ei'⟩ := own ei
    obtain ⟨_, ej'⟩ := own ej
    exact R.inj i j _ _ q ei' ej'
  · obtain ⟨b1, b2, dj, b3⟩ := R.bor j q ej
    by_cases hj : k = j
    · subst hj
      exact ⟨b1, b2, d', List.getElem?_set_self hk⟩
    · exact ⟨b1, b2, dj, by rw [List.getElem?_set_ne hj]; exact b3⟩
/-- a ghost slot behind the others -/
theorem Rel.ghost {v : V} {s : Sl} (R : Rel K G σ H ρ F) (hB : σ.length ∉ G.B) (o : VOk K G F H σ ρ v s) : Rel K G (σ ++ [some v]) H (ρ ++ [s]) F := by
  have l := R.len
  have R0 : Rel K G (σ ++ [none]) H (ρ ++ [.emp]) F := by
    refine ⟨R.sub, R.f0, R.keep, R.newF, by simp [l], fun j sl ej => ?_, fun j k dj dk q ej ek zj zk => ?_, fun j q ej => ?_⟩
    · by_cases hj : j < ρ.length
      · rw [List.getElem?_append_left hj] at ej
        have q := R.sl j sl ej
        cases sl with
        | emp => exact q
        | dat d =>
          obtain ⟨w, a, b⟩ := q
          exact ⟨w, by rw [List.getElem?_append_left (by rw [← l]; exact hj)]; exact a, b⟩
        | own d =>
          obtain ⟨w, a, b⟩ := q
          exact ⟨w, by rw [List.getElem?_append_left (by rw [← l]; exact hj)]; exact a, b⟩
        | scr d =>
          obtain ⟨w, a, b⟩ := q
          exact ⟨w, by rw [List.getElem?_append_left (by rw [← l]; exact hj)]; exact a, b⟩
      · rw [List.getElem?_append_right (by omega)] at ej
        have : sl = .emp := by
          cases z : j - ρ.length with
          | zero => rw [z] at ej; exact (Option.some.inj ej).symm
          | succ n => rw [z] at ej; cases ej
        subst this
        exact trivial
    · have lt : ∀ {j : Nat} {d : PyData}, (ρ ++ [Sl.emp])[j]? = some (.own d) → j < ρ.length ∧ ρ[j]? = some (.own d) := fun {j d} ej => by
        by_cases hj : j < ρ.length
        · rw [List.getElem?_append_left hj] at ej
          exact ⟨hj, ej⟩
        · rw [List.getElem?_append_right (by omega)] at ej
          cases z : j - ρ.length with
          | zero => rw [z] at ej; cases ej
          | succ n => rw [z] at ej; cases ej
      obtain ⟨l1, e1⟩ := lt ej
      obtain ⟨l2, e2⟩ := lt ek
      rw [List.getElem?_append_left (by rw [← l]; exact l1)] at zj
      rw [List.getElem?_append_left (by rw [← l]; exact l2)] at zk
      exact R.inj j k dj dk q e1 e2 zj zk
    · obtain ⟨b1, b2, d, b3⟩ := R.bor j q ej
      exact ⟨b1, b2, d, by rw [List.getElem?_append_left (List.getElem?_eq_some_iff.mp b3).1]; exact b3⟩
  have o' : VOk K G F H (σ ++ [none]) (ρ ++ [.emp]) v s := by
    cases s with
    | emp => exact o
    | dat d => exact o
    | scr d => exact o
    | own d =>
      obtain ⟨p, e, a1, a2, a3, nn⟩ := o
      refine ⟨p, e, a1, a2, a3, fun j d' ej zj => ?_⟩
      by_cases hj : j < ρ.length
      · rw [List.getElem?_append_left hj] at ej
        rw [List.getElem?_append_left (by rw [← l]; exact hj)] at zj
        exact nn j d' ej zj
      · rw [List.getElem?_append_right (by omega)] at ej
        cases z : j - ρ.length with
        | zero => rw [z] at ej; cases ej
        | succ n => rw [z] at ej; cases ej
  have R1 := R0.store hB (by simp) o'
  have e1 : (σ ++ [none]).set σ.length (some v) = σ ++ [some v] := by simp
  have e2 : (ρ ++ [Sl.emp]).set σ.length s = ρ ++ [s] := by rw [← l]; simp
  rw [e1, e2] at R1
  exact R1
/-- the ghosts go -/
theorem Rel.noGhost {τ : L2.St} (R : Rel K G (σ ++ τ) H ρ F) (hB : ∀ i ∈ G.B, i < σ.length) : Rel K G σ H (ρ.take σ.length) F := by
  have l := R.len
  rw [List.length_append] at l
  have back : ∀ {j : Nat} {s : Sl}, (ρ.take σ.length)[j]? = some s → j < σ.length ∧ ρ[j]? = some s := fun {j s} e => by
    have h := (List.getElem?_eq_some_iff.mp e).1
    rw [List.length_take] at h
    have h' : j < σ.length := by omega
    rw [List.getElem?_take_of_lt h'] at e
    exact ⟨h', e⟩
  refine ⟨R.sub, R.f0, R.keep, R.newF, by rw [List.length_take]; omega, fun j sl ej => ?_, fun j k dj dk q ej ek zj zk => ?_, fun j q ej => ?_⟩
  · obtain ⟨h1, h2⟩ := back ej
    have q := R.sl j sl h2
    cases sl with
    | emp => exact q
    | dat d =>
      obtain ⟨w, a, b⟩ := q
      exact ⟨w, by rw [List.getElem?_append_left h1] at a; exact a, b⟩
    | own d =>
      obtain ⟨w, a, b⟩ := q
      exact ⟨w, by rw [List.getElem?_append_left h1] at a; exact a, b⟩
    | scr d =>
      obtain ⟨w, a, b⟩ := q
      exact ⟨w, by rw [List.getElem?_append_left h1] at a; exact a, b⟩
  · obtain ⟨h1, e1⟩ := back ej
    obtain ⟨h2, e2⟩ := back ek
    exact R.inj j k dj dk q e1 e2 (by rw [List.getElem?_append_left h1]; exact zj) (by rw [List.getElem?_append_left h2]; exact zk)
  · obtain ⟨b1, b2, d, b3⟩ := R.bor j q ej
    exact ⟨b1, b2, d, by rw [List.getElem?_take_of_lt (hB j b1)]; exact b3⟩
/-- what a slot holds, taken out -/
theorem Rel.take {g : Nat} {s : Sl} {v : V} (R : Rel K G σ H ρ F) (e : ρ[g]? = some s) (a : σ[g]? = some (some v)) (hs : s ≠ .emp) (hB : g ∉ G.B) : VOk K G F H σ (ρ.set g .emp) v s := by
  have q := R.sl g s e
  have hg : g < ρ.length := (List.getElem?_eq_some_iff.mp e).1
  cases s with
  | emp => exact absurd rfl hs
  | dat d =>
    obtain ⟨w, b, c⟩ := q
    rw [a] at b
    cases b
    exact c
  | scr d =>
    obtain ⟨w, b, c⟩ := q
    rw [a] at b
    cases b
    exact ⟨w, rfl, c⟩
  | own d =>
    obtain ⟨p, b, c1, c2, c3⟩ := q
    rw [a] at b
    cases b
    have h0 : G.H0 p = none := by
      rcases c3 with z | ⟨_, z⟩
      · rw [R.noA hB] at z; cases z
      · exact z
    refine ⟨p, rfl, c1, c2, h0, fun j d' ej zj => ?_⟩
    by_cases hj : g = j
    · subst hj
      rw [List.getElem?_set_self hg] at ej
      cases ej
    · rw [List.getElem?_set_ne hj] at ej
      exact hj (R.inj g j _ _ p e ej a zj)
end
theorem notin {l : List Nat} {i : Nat} (h : l.contains i = false) : i ∉ l := fun z => by
  rw [List.contains_iff_mem.mpr z] at h
  cases h
theorem allLt {l : List Nat} {n : Nat} (h : l.all (fun i => Nat.blt i n) = true) : ∀ i ∈ l, i < n := fun i hi => Nat.le_of_ble_eq_true (List.all_eq_true.mp h i hi)
theorem blt {i n : Nat} (h : Nat.blt i n = true) : i < n := Nat.le_of_ble_eq_true h

/-! ### targets -/
structure DG (Γ : Fam) (G : Cg) (tg : Expr) (ts : List Nat) (g : PyData → Ev → Option Ev) : Prop where
  ex : ∃ t : TG, (∀ i, PG (Γ.X i) tg t) ∧ ∀ (σ τ : L2.St) (hn : σ.length = Γ.n) (H : Hp) (ρ : Ev) (F : Hp) (v : V) (d : PyData) (ρ' : Ev) (Q : L2.St → Hp → Prop), Rel Γ.K G (σ ++ τ) H ρ F → Rp Γ.K F v d → g d ρ = some ρ' →
    (∀ σ' : L2.St, σ'.length = Γ.n → (∀ j, j ∉ ts → σ'[j]? = σ[j]?) → Rel Γ.K G (σ' ++ τ) H ρ' F → Q σ' H) → t v σ H Q
structure DGs (Γ : Fam) (G : Cg) (tg : List Expr) (ts : List Nat) (g : List PyData → Ev → Option Ev) : Prop where
  ex : ∃ t : TGs, (∀ i, PGs (Γ.X i) tg t) ∧ ∀ (σ τ : L2.St) (hn : σ.length = Γ.n) (H : Hp) (ρ : Ev) (F : Hp) (v : List V) (d : List PyData) (ρ' : Ev) (Q : L2.St → Hp → Prop), Rel Γ.K G (σ ++ τ) H ρ F → RpA Γ.K F v d → g d ρ = some ρ' →
    (∀ σ' : L2.St, σ'.length = Γ.n → (∀ j, j ∉ ts → σ'[j]? = σ[j]?) → Rel Γ.K G (σ' ++ τ) H ρ' F → Q σ' H) → t v σ H Q
section
variable {Γ : Fam} {G : Cg} {e e1 e2 : Expr} {es : List Expr} {pos : Pos}
def gN (i : Nat) : PyData → Ev → Option Ev := fun d ρ => some (ρ.set i (.dat d))
theorem dg_name {i : Nat} {x : Str} (hN : ∀ k, (Γ.X k).N.Nodup) (hi : ∀ k, (Γ.X k).N[i]? = some x) (hx : ∀ k, Loc (Γ.X k).env.scope x) (hf : ∀ k, (Γ.X k).fn x = true ∨ (Γ.X k).env.scope.names.lookup x = some .local) (hB : G.B.contains i = false) (hn' : Nat.blt i Γ.n = true) : DG Γ G (.Name x pos) [i] (gN i) := by
  refine ⟨_, fun k => pg_name (hN k) (hi k) (hx k) (hf k), fun σ τ hn H ρ F v d ρ' Q R r e h => ?_⟩
  cases e
  have hl : i < σ.length := by rw [hn]; exact blt hn'
  have R1 := R.store (v := v) (s := .dat d) (notin hB) (by rw [List.length_append]; omega) r
  rw [List.set_append_left _ _ hl] at R1
  exact h _ (by rw [List.length_set]; exact hn) (fun j hj => List.getElem?_set_ne (fun z => hj (by rw [z]; exact List.mem_singleton.mpr rfl))) R1
def gsNil : List PyData → Ev → Option Ev
  | [], ρ => some ρ
  | _, _ => none
def gsCons (g : PyData → Ev → Option Ev) (gs : List PyData → Ev → Option Ev) : List PyData → Ev → Option Ev
  | d :: ds, ρ => (g d ρ).bind (gs ds)
  | [], _ => none
theorem dgs_nil : DGs Γ G [] [] gsNil := by
  refine ⟨_, fun _ => pgs_nil, fun σ τ hn H ρ F v d ρ' Q R r e h => ?_⟩
  cases d with
  | nil =>
    cases r
    cases e
    exact ⟨rfl, h σ hn (fun _ _ => rfl) R⟩
  | cons _ _ => cases e
theorem dgs_cons {tg : Expr} {tgs : List Expr} {ts ts' : List Nat} {g : PyData → Ev → Option Ev} {gs : List PyData → Ev → Option Ev} (h1 : DG Γ G tg ts g) (h2 : DGs Γ G tgs ts' gs) (hs : ∀ i (t : TG) (u : TGs), PG (Γ.X i) tg t → PGs (Γ.X i) tgs u → PGs (Γ.X i) (tg :: tgs) (gCons t u)) : DGs Γ G (tg :: tgs) (ts ++ ts') (gsCons g gs) := by
  obtain ⟨t, p, q⟩ := h1.ex
  obtain ⟨t2, p2, q2⟩ := h2.ex
  refine ⟨_, fun i => hs i _ _ (p i) (p2 i), fun σ τ hn H ρ F v d ρ' Q R r e h => ?_⟩
  cases d with
  | nil => cases e
  | cons d ds =>
    cases r with
    | @cons v vs _ _ r1 r2 =>
      have e : (g d ρ).bind (gs ds) = some ρ' := e
      cases z : g d ρ with
      | none => rw [z] at e; cases e
      | some ρ1 =>
        rw [z] at e
        refine ⟨v, vs, rfl, q σ τ hn H ρ F v d ρ1 _ R r1 z fun σ1 l1 k1 R1 => ?_⟩
        exact q2 σ1 τ l1 H ρ1 F vs ds ρ' Q R1 r2 e fun σ2 l2 k2 R2 => h σ2 l2 (fun j hj => (k2 j fun z => hj (List.mem_append_right _ z)).trans (k1 j fun z => hj (List.mem_append_left _ z))) R2
def gTupD (n : Nat) (gs : List PyData → Ev → Option Ev) : PyData → Ev → Option Ev
  | .tuple ds, ρ => if ds.length = n then gs ds ρ else none
  | _, _ => none
theorem dg_tup {tgs : List Expr} {k n : Nat} {ts : List Nat} {gs : List PyData → Ev → Option Ev} (h : DGs Γ G tgs ts gs) (hp : ∀ i (t : TGs), PGs (Γ.X i) tgs t → PG (Γ.X i) (.Tuple tgs k pos) (gTup (Γ.X i).K n t)) : DG Γ G (.Tuple tgs k pos) ts (gTupD n gs) := by
  obtain ⟨t, p, q⟩ := h.ex
  refine ⟨gTup Γ.K n t, fun i => by have z := hp i t (p i); rw [Γ.hK i] at z; exact z, fun σ τ hn H ρ F v d ρ' Q R r e h => ?_⟩
  cases d with
  | tuple ds =>
    cases r with
    | @tup a vs _ h1 h2 =>
      have e : (if ds.length = n then gs ds ρ else none) = some ρ' := e
      split at e
      · next hl => exact ⟨a, vs, rfl, Same.tupD R.sub h1, by rw [h2.length]; exact hl, q σ τ hn H ρ F vs ds ρ' Q R h2 e h⟩
      · cases e
  | _ => cases e

/-! ### statements -/
def rSet (i : Nat) (f : Ev → Out Sl) : Ev → Out Flw := fun ρ => (f ρ).bind fun s ρ1 => .ok .nx (ρ1.set i s)
theorem ds_set {i : Nat} {x : Str} {pos' : Pos} {f : Ev → Out Sl} (he : DE Γ G e f) (hB : G.B.contains i = false) (hn' : Nat.blt i Γ.n = true) (hps : ∀ k t, PE (Γ.X k) e t → PS (Γ.X k) (.Assign [.Name x pos'] e pos) (tAsg t (gName i))) : DS Γ G (.Assign [.Name x pos'] e pos) (rSet i f) := by
  obtain ⟨t, p, q⟩ := he.ex
  refine ⟨_, fun k => hps k t (p k), fun σ hn H ρ F D R h => ?_⟩
  refine q0 (ok := fun σ => okE Γ.K G σ) q σ hn H ρ F _ R (PostS.bindE hn h fun s ρ1 v H1 F1 s1 R1 o1 h1 => ?_)
  refine h1 (σ.set i (some v)) H1 F1 (by rw [List.length_set]; exact hn) (Same.refl _) ?_
  exact R1.store (notin hB) (by rw [hn]; exact blt hn') o1
/-- any target -/
def rAsg (g : PyData → Ev → Option Ev) (f : Ev → Out PyData) : Ev → Out Flw := fun ρ => (f ρ).bind fun d ρ1 => (lift (g d ρ1) ρ1).bind fun ρ2 _ => .ok .nx ρ2
theorem ds_asg {tg : Expr} {ts : List Nat} {f : Ev → Out PyData} {g : PyData → Ev → Option Ev} (he : DX Γ G e f) (hg : DG Γ G tg ts g) (hps : ∀ k t u, PE (Γ.X k) e t → PG (Γ.X k) tg u → PS (Γ.X k) (.Assign [tg] e pos) (tAsg t u)) : DS Γ G (.Assign [tg] e pos) (rAsg g f) := by
  obtain ⟨t, p, q⟩ := he.ex
  obtain ⟨u, p2, q2⟩ := hg.ex
  refine ⟨_, fun k => hps k t u (p k) (p2 k), fun σ hn H ρ F D R h => ?_⟩
  refine q0 (ok := fun _ => okX Γ.K) q σ hn H ρ F _ R (PostS.bindE hn h fun d ρ1 v H1 F1 s1 R1 o1 h1 => ?_)
  cases z : g d ρ1 with
  | none => rw [z] at h1; exact h1.elim
  | some ρ2 =>
    rw [z] at h1
    refine q2 σ [] hn H1 ρ1 F1 v d ρ2 _ (by rw [List.append_nil]; exact R1) o1 z fun σ' l _ R2 => ?_
    rw [List.append_nil] at R2
    exact h1 σ' H1 F1 l (Same.refl _) R2
def rRet (f : Ev → Out Sl) : Ev → Out Flw := fun ρ => (f ρ).bind fun s ρ1 => .ok (.ret s) ρ1
theorem ds_ret {f : Ev → Out Sl} (he : DE Γ G e f) : DS Γ G (.Return (some e) pos) (rRet f) := by
  obtain ⟨t, p, q⟩ := he.ex
  refine ⟨_, fun k => ps_ret (p k), fun σ hn H ρ F D R h => ?_⟩
  exact q0 (ok := fun σ => okE Γ.K G σ) q σ hn H ρ F _ R (PostS.bindE hn h fun s ρ1 v H1 F1 s1 R1 o1 h1 => h1 σ v H1 F1 hn (Same.refl _) R1 o1)
def rDrop (f : Ev → Out Sl) : Ev → Out Flw := fun ρ => (f ρ).bind fun _ ρ1 => .ok .nx ρ1
theorem ds_expr {f : Ev → Out Sl} (he : DE Γ G e f) (hs : ∀ k, swapsWith e none pos.line (Γ.X k).env = pure false := by intro _; rfl) : DS Γ G (.Expr e pos) (rDrop f) := by
  obtain ⟨t, p, q⟩ := he.ex
  refine ⟨_, fun k => ps_expr (p k) (hs k), fun σ hn H ρ F D R h => ?_⟩
  exact q0 (ok := fun σ => okE Γ.K G σ) q σ hn H ρ F _ R (PostS.bindE hn h fun s ρ1 v H1 F1 s1 R1 o1 h1 => h1 σ H1 F1 hn (Same.refl _) R1)
def rNever : Ev → Out Flw := fun _ => .bad
theorem ds_never {st : Stmt} : DS Γ G st rNever := ⟨_, fun _ => ps_never, fun σ hn H ρ F D R h => h.elim⟩
theorem ds_pass : DS Γ G (.Pass pos) rNext := ⟨_, fun _ => ps_pass, fun σ hn H ρ F D R h => h σ H F hn (Same.refl F) R⟩
def rBrk : Ev → Out Flw := fun ρ => .ok .brk ρ
def rCnt : Ev → Out Flw := fun ρ => .ok .cnt ρ
theorem ds_break : DS Γ G (.Break pos) rBrk := ⟨_, fun _ => ps_break, fun σ hn H ρ F D R h => h σ H F hn (Same.refl F) R⟩
theorem ds_continue : DS Γ G (.Continue pos) rCnt := ⟨_, fun _ => ps_continue, fun σ hn H ρ F D R h => h σ H F hn (Same.refl F) R⟩
/-- slots that are forgotten behind a statement -/
def wipeE (ρ : Ev) : List Nat → Ev
  | [] => ρ
  | i :: is => wipeE (ρ.set i .emp) is
theorem Rel.wipes {K : PySem.W.Frag} {σ : L2.St} {H : Hp} {F : Hp} : ∀ {is : List Nat} {ρ : Ev}, Rel K G σ H ρ F → (∀ i ∈ is, i ∉ G.B) → Rel K G σ H (wipeE ρ is) F
  | [], _, R, _ => R
  | i :: is, _, R, h => Rel.wipes (is := is) (R.drop (h i List.mem_cons_self)) fun j hj => h j (List.mem_cons_of_mem _ hj)
def rKill (is : List Nat) (f : Ev → Out Flw) : Ev → Out Flw := fun ρ => (f ρ).bind fun fl ρ1 => .ok fl (wipeE ρ1 is)
theorem VOk.wipes {K : PySem.W.Frag} {σ : L2.St} {H F : Hp} {v : V} {s : Sl} : ∀ {is : List Nat} {ρ : Ev}, VOk K G F H σ ρ v s → VOk K G F H σ (wipeE ρ is) v s
  | [], _, o => o
  | i :: is, ρ, o => VOk.wipes (is := is) (by
    cases s with
    | emp => exact o
    | dat d => exact o
    | scr d => exact o
    | own d =>
      obtain ⟨p, e, a1, a2, a3, nn⟩ := o
      refine ⟨p, e, a1, a2, a3, fun j d' ej zj => ?_⟩
      by_cases hj : i = j
      · subst hj
        by_cases hi : i < ρ.length
        · rw [List.getElem?_set_self hi] at ej
          cases ej
        · rw [List.getElem?_eq_none (by rw [List.length_set]; omega)] at ej
          cases ej
      · rw [List.getElem?_set_ne hj] at ej
        exact nn j d' ej zj)
theorem ds_kill {st : Stmt} {f : Ev → Out Flw} (is : List Nat) (h : DS Γ G st f) (hB : is.all (fun i => !G.B.contains i) = true) : DS Γ G st (rKill is f) := by
  have hB' : ∀ i ∈ is, i ∉ G.B := fun i hi => notin (by simpa using List.all_eq_true.mp hB i hi)
  obtain ⟨t, p, q⟩ := h.ex
  refine ⟨t, p, fun σ hn H ρ F D R h => q σ hn H ρ F D R ?_⟩
  unfold rKill at h
  cases z : f ρ with
  | ok fl ρ1 =>
    rw [z] at h
    cases fl with
    | nx => exact fun σ' H' F' l s R' => h σ' H' F' l s (R'.wipes hB')
    | brk => exact fun σ' H' F' l s R' => h σ' H' F' l s (R'.wipes hB')
    | cnt => exact fun σ' H' F' l s R' => h σ' H' F' l s (R'.wipes hB')
    | ret s => exact fun σ' v H' F' l s R' o => h σ' v H' F' l s (R'.wipes hB') o.wipes
  | exc c ρ1 => rw [z] at h; exact h
  | bad => rw [z] at h; exact h

/-! ### a, b = x, y: own things too -/
structure DEs (Γ : Fam) (G : Cg) (es : List Expr) (f : Ev → Out Unit) : Prop where
  ex : ∃ t : TA, (∀ i, PA (Γ.X i) es t) ∧ ∀ (σ τ : L2.St) (hn : σ.length = Γ.n) (H : Hp) (ρ : Ev) (F : Hp) (Q : List V → Hp → Prop), Rel Γ.K G (σ ++ τ) H ρ F →
    (match f ρ with
      | .ok _ ρ' => ∀ vs H' F', Same F F' → vs.length = es.length → Rel Γ.K G (σ ++ τ ++ vs.map some) H' ρ' F' → Q vs H'
      | .exc c ρ' => ∀ (σ' : L2.St) H' F', Same F F' → Rel Γ.K G σ' H' ρ' F' → G.W c ρ' H'
      | .bad => False) → t σ H Q
def gNil' : Ev → Out Unit := fun ρ => .ok () ρ
def gPush (f : Ev → Out Sl) (g : Ev → Out Unit) : Ev → Out Unit := fun ρ => (f ρ).bind fun s ρ1 => g (ρ1 ++ [s])
theorem des_nil : DEs Γ G [] gNil' := ⟨_, fun _ => pa_nil, fun σ τ hn H ρ F Q R h => h [] H F (Same.refl _) rfl (by rw [List.map_nil, List.append_nil]; exact R)⟩
theorem des_cons {f : Ev → Out Sl} {g : Ev → Out Unit} (h : DE Γ G e f) (h2 : DEs Γ G es g) (hBn : G.B.all (fun i => Nat.blt i Γ.n) = true) (hs : ∀ i, starEach (e :: es) (Γ.X i).env = (false, eval e (Γ.X i).env) :: starEach es (Γ.X i).env := by intro _; rfl) : DEs Γ G (e :: es) (gPush f g) := by
  obtain ⟨t, p, q⟩ := h.ex
  obtain ⟨t2, p2, q2⟩ := h2.ex
  refine ⟨_, fun i => pa_cons (p i) (p2 i) (hs i), fun σ τ hn H ρ F Q R h => ?_⟩
  unfold gPush at h
  refine q σ τ hn H ρ F _ R ?_
  cases z : f ρ with
  | ok s ρ1 =>
    rw [z] at h
    intro v H1 F1 s1 R1 o1
    have hB : (σ ++ τ).length ∉ G.B := fun z => by
      have := allLt hBn _ z
      rw [List.length_append] at this
      omega
    have R2 := R1.ghost hB o1
    rw [List.append_assoc] at R2
    refine q2 σ (τ ++ [some v]) hn H1 (ρ1 ++ [s]) F1 _ R2 ?_
    have h : (match g (ρ1 ++ [s]) with
      | .ok _ ρ' => ∀ vs H' F', Same F F' → vs.length = (e :: es).length → Rel Γ.K G (σ ++ τ ++ vs.map some) H' ρ' F' → Q vs H'
      | .exc c ρ' => ∀ (σ' : L2.St) H' F', Same F F' → Rel Γ.K G σ' H' ρ' F' → G.W c ρ' H'
      | .bad => False) := h
    cases z2 : g (ρ1 ++ [s]) with
    | ok u ρ2 =>
      rw [z2] at h
      intro vs H2 F2 s2 l2 R3
      refine h (v :: vs) H2 F2 (s1.trans s2) (by rw [List.length_cons, List.length_cons, l2]) ?_
      have e2 : σ ++ (τ ++ [some v]) ++ vs.map some = σ ++ τ ++ (v :: vs).map some := by simp
      rw [← e2]
      exact R3
    | exc c ρ2 =>
      rw [z2] at h
      exact fun σ' H' F' s' R' => h σ' H' F' (s1.trans s') R'
    | bad => rw [z2] at h; exact h
  | exc c ρ1 =>
    rw [z] at h
    exact h
  | bad => rw [z] at h; exact h
/-- ghosts from place n on go to the slots is -/
def unpack (n : Nat) : List Nat → Nat → Ev → Ev
  | [], _, ρ => ρ.take n
  | i :: is, k, ρ => unpack n is (k + 1) ((ρ.set (n + k) .emp).set i (ρ[n + k]?.getD .emp))
def setAll (σ : L2.St) : List (Nat × V) → L2.St
  | [] => σ
  | (i, v) :: r => setAll (σ.set i (some v)) r
theorem setAll_length : ∀ {l : List (Nat × V)} {σ : L2.St}, (setAll σ l).length = σ.length
  | [], _ => rfl
  | (i, v) :: r, σ => by
    unfold setAll
    rw [setAll_length, List.length_set]
theorem unpacked {K : PySem.W.Frag} {H F : Hp} {n : Nat} (hBn : G.B.all (fun i => Nat.blt i n) = true) : ∀ {is : List Nat} {us vs : List V} {σ : L2.St} {ρ : Ev}, σ.length = n → vs.length = is.length → (∀ i ∈ is, i ∉ G.B ∧ i < n) → Rel K G (σ ++ us.map some ++ vs.map some) H ρ F →
    Rel K G (setAll σ (is.zip vs)) H (unpack n is us.length ρ) F
  | [], us, vs, σ, ρ, hn, _, _, R => by
    have R1 : Rel K G (σ ++ (us.map some ++ vs.map some)) H ρ F := by rw [← List.append_assoc]; exact R
    have R2 := R1.noGhost fun i hi => by rw [hn]; exact allLt hBn i hi
    rw [hn] at R2
    exact R2
  | i :: is, us, [], σ, ρ, hn, hl, _, R => by cases hl
  | i :: is, us, v :: vs, σ, ρ, hn, hl, hB, R => by
    obtain ⟨b1, b2⟩ := hB i List.mem_cons_self
    have l := R.len
    simp only [List.length_append, List.length_map, List.length_cons] at l
    have hg : n + us.length < ρ.length := by omega
    have gB : n + us.length ∉ G.B := fun z => by
      have := allLt hBn _ z
      omega
    have eg : (σ ++ us.map some ++ (v :: vs).map some)[n + us.length]? = some (some v) := by
      rw [List.getElem?_append_right (by simp [hn])]
      simp [hn]
    obtain ⟨s, es⟩ : ∃ s, ρ[n + us.length]? = some s := ⟨ρ[n + us.length], List.getElem?_eq_getElem hg⟩
    have next : Rel K G (σ.set i (some v) ++ (us ++ [v]).map some ++ vs.map some) H ((ρ.set (n + us.length) .emp).set i s) F := by
      have e1 : (σ ++ us.map some ++ (v :: vs).map some).set i (some v) = σ.set i (some v) ++ (us ++ [v]).map some ++ vs.map some := by
        rw [List.append_assoc, List.set_append_left _ _ (by rw [hn]; exact b2)]
        simp
      rw [← e1]
      by_cases hs : s = .emp
      · subst hs
        have R1 := (R.drop gB)
        have R2 : Rel K G (σ ++ us.map some ++ (v :: vs).map some) H ((ρ.set (n + us.length) .emp).set i .emp) F := R1.drop b1
        refine ⟨R2.sub, R2.f0, R2.keep, R2.newF, by rw [List.length_set (as := σ ++ List.map some us ++ List.map some (v :: vs))]; exact R2.len, fun j sl ej => ?_, fun j k dj dk q ej ek zj zk => ?_, R2.bor⟩
        · by_cases hj : i = j
          · subst hj
            rw [List.getElem?_set_self (by rw [List.length_set]; omega)] at ej
            cases ej
            exact trivial
          · have q := R2.sl j sl ej
            cases sl with
            | emp => exact q
            | dat d =>
              obtain ⟨w, a, b⟩ := q
              exact ⟨w, by rw [List.getElem?_set_ne hj]; exact a, b⟩
            | own d =>
              obtain ⟨w, a, b⟩ := q
              exact ⟨w, by rw [List.getElem?_set_ne hj]; exact a, b⟩
            | scr d =>
              obtain ⟨w, a, b⟩ := q
              exact ⟨w, by rw [List.getElem?_set_ne hj]; exact a, b⟩
        · have nj : ∀ {j : Nat} {d : PyData}, ((ρ.set (n + us.length) .emp).set i .emp)[j]? = some (.own d) → i ≠ j := fun {j d} ej z => by
            subst z
            rw [List.getElem?_set_self (by rw [List.length_set]; omega)] at ej
            cases ej
          rw [List.getElem?_set_ne (nj ej)] at zj
          rw [List.getElem?_set_ne (nj ek)] at zk
          exact R2.inj j k dj dk q ej ek zj zk
      · exact (R.drop gB).store b1 (by simp [hn]; omega) (R.take es eg hs gB)
    have IH := unpacked hBn (is := is) (us := us ++ [v]) (vs := vs) (σ := σ.set i (some v)) (ρ := (ρ.set (n + us.length) .emp).set i s) (by rw [List.length_set]; exact hn) (by simpa using hl) (fun j hj => hB j (List.mem_cons_of_mem _ hj)) next
    rw [List.length_append, List.length_singleton] at IH
    show Rel K G (setAll (σ.set i (some v)) (is.zip vs)) H (unpack n is (us.length + 1) ((ρ.set (n + us.length) .emp).set i (ρ[n + us.length]?.getD .emp))) F
    rw [es]
    exact IH
def rPar (n : Nat) (is : List Nat) (f : Ev → Out Unit) : Ev → Out Flw := fun ρ => (f ρ).bind fun _ ρ1 => .ok .nx (unpack n is 0 ρ1)
/-- the statement's own rule: two or three plain names, or through a tuple; C: what it wants of the values -/
structure ParRule (Γ : Fam) (st : Stmt) (es : List Expr) (is : List Nat) (C : Ends → L2.St → List V → Hp → Prop) : Prop where
  run : ∀ ta : TA, (∀ i, PA (Γ.X i) es ta) → ∃ ts : TS, (∀ i, PS (Γ.X i) st ts) ∧ ∀ D σ H, ta σ H (C D σ) → ts D σ H
  ok : ∀ (D : Ends) (σ : L2.St) (vs : List V) (H1 : Hp), vs.length = is.length → vs.length ≤ sizeLine → (∀ H2, Same H1 H2 → D.nx (setAll σ (is.zip vs)) H2) → C D σ vs H1
theorem par2 {st : Stmt} {a b : Expr} {i j : Nat} (h : ∀ k ta, PA (Γ.X k) [a, b] ta → PS (Γ.X k) st (tPar i j ta)) : ParRule Γ st [a, b] [i, j] (fun D σ vs H1 => ∃ v w, vs = [v, w] ∧ D.nx ((σ.set i (some v)).set j (some w)) H1) where
  run := fun ta p => ⟨tPar i j ta, fun k => h k ta (p k), fun D σ H q => q⟩
  ok := fun D σ vs H1 hl _ q => match vs, hl with
    | [v, w], _ => ⟨v, w, rfl, q H1 (Same.refl _)⟩
theorem par3 {st : Stmt} {a b c : Expr} {i j l : Nat} (h : ∀ k ta, PA (Γ.X k) [a, b, c] ta → PS (Γ.X k) st (tPar3 i j l ta)) : ParRule Γ st [a, b, c] [i, j, l] (fun D σ vs H1 => ∃ u v w, vs = [u, v, w] ∧ D.nx (((σ.set i (some u)).set j (some v)).set l (some w)) H1) where
  run := fun ta p => ⟨tPar3 i j l ta, fun k => h k ta (p k), fun D σ H q => q⟩
  ok := fun D σ vs H1 hl _ q => match vs, hl with
    | [u, v, w], _ => ⟨u, v, w, rfl, q H1 (Same.refl _)⟩
def gNms : List Nat → TGs
  | [] => gNil
  | i :: is => gCons (gName i) (gNms is)
theorem gNms_run : ∀ {is : List Nat} {vs : List V} {σ : L2.St} {H : Hp} {Q : L2.St → Hp → Prop}, vs.length = is.length → Q (setAll σ (is.zip vs)) H → gNms is vs σ H Q
  | [], [], _, _, _, _, q => ⟨rfl, q⟩
  | i :: is, v :: vs, σ, H, Q, hl, q => ⟨v, vs, rfl, gNms_run (is := is) (by simpa using hl) q⟩
  | [], _ :: _, _, _, _, hl, _ => by cases hl
  | _ :: _, [], _, _, _, hl, _ => by cases hl
theorem parT {tgs es : List Expr} {is : List Nat} {k k2 : Nat} {p1 p2 : Pos} (hg : ∀ i, PGs (Γ.X i) tgs (gNms is)) (hp : ∀ i, PG (Γ.X i) (.Tuple tgs k p1) (gTup (Γ.X i).K is.length (gNms is))) (hs : ∀ i, swapsWithSole [.Tuple tgs k p1] (.Tuple es k2 p2) pos.line (Γ.X i).env = pure false := by intro _; rfl)
    (hw : ∀ i, swappedStores [.Tuple tgs k p1] (.Tuple es k2 p2) (Γ.X i).env = pure none := by intro _; rfl) (h1 : ∀ i, (assignEach [.Tuple tgs k p1] (Γ.X i).env).map (·.2) = [assign (.Tuple tgs k p1) (Γ.X i).env] := by intro _; rfl) :
    ParRule Γ (.Assign [.Tuple tgs k p1] (.Tuple es k2 p2) pos) es is (fun D σ vs H1 => vs.length ≤ sizeLine ∧ ∀ p, H1 p = none → gTup Γ.K is.length (gNms is) (.ref p) σ (upd H1 p (.tup vs)) D.nx) where
  run := fun ta p => ⟨tAsg (tTup ta) (gTup Γ.K is.length (gNms is)), fun i => by have z := ps_asg (pos := pos) (pe_tup (x1 := k2) (pos := p2) (p i)) (hp i) (hs i) (hw i) (h1 i); rw [Γ.hK i] at z; exact z, fun D σ H q => q⟩
  ok := fun D σ vs H1 hl hz q => ⟨hz, fun p hp' => ⟨p, vs, rfl, .inl (.inl upd_same), hl, gNms_run hl (q _ (same_upd0 hp'))⟩⟩
theorem ds_par {st : Stmt} {is : List Nat} {f : Ev → Out Unit} (he : DEs Γ G es f) {C : Ends → L2.St → List V → Hp → Prop} (hr : ParRule Γ st es is C) (hl : es.length = is.length) (hz : Nat.ble is.length 16 = true) (hB : is.all (fun i => !G.B.contains i && Nat.blt i Γ.n) = true) (hBn : G.B.all (fun i => Nat.blt i Γ.n) = true) : DS Γ G st (rPar Γ.n is f) := by
  obtain ⟨t, p, q⟩ := he.ex
  obtain ⟨ts, p2, q2⟩ := hr.run t p
  have hB' : ∀ i ∈ is, i ∉ G.B ∧ i < Γ.n := fun i hi => by
    have := List.all_eq_true.mp hB i hi
    rw [Bool.and_eq_true] at this
    exact ⟨notin (by simpa using this.1), blt this.2⟩
  refine ⟨ts, p2, fun σ hn H ρ F D R h => q2 D σ H ?_⟩
  unfold rPar at h
  refine q σ [] hn H ρ F _ (by rw [List.append_nil]; exact R) ?_
  cases z : f ρ with
  | ok u ρ1 =>
    rw [z] at h
    intro vs H1 F1 s1 l1 R1
    rw [List.append_nil] at R1
    have hz' : is.length ≤ 16 := Nat.le_of_ble_eq_true hz
    refine hr.ok D σ vs H1 (l1.trans hl) (by rw [sizeLine_eq]; omega) fun H2 s2 => ?_
    have R2 := unpacked (n := Γ.n) hBn (is := is) (us := []) (vs := vs) hn (l1.trans hl) hB' (by rw [List.map_nil, List.append_nil]; exact R1)
    exact h _ H2 F1 (by rw [setAll_length]; exact hn) s1 (R2.grown s2)
  | exc c ρ1 =>
    rw [z] at h
    exact h
  | bad => rw [z] at h; exact h
end
end DL
namespace DL
open PySem PySem.Spec PyProof.Rows L2
/-! ### what is walked -/
def ItOk (K : PySem.W.Frag) (G : Cg) (F0 : Hp) (J : It) (ds : List PyData) : Prop :=
  ∀ (σ : L2.St) (H : Hp) (ρ : Ev) (F : Hp), Rel K G σ H ρ F → Same F0 F → ∀ i : Nat, (∀ d, ds[i]? = some d → J.go i H ∧ ∀ x H', J.yld i H x H' → ∃ F', Same F F' ∧ Rel K G σ H' ρ F' ∧ Rp K F' x d) ∧ (ds.length ≤ i → J.stop i H)
structure DI (Γ : Fam) (G : Cg) (tg e : Expr) (f : Ev → Out (List PyData)) : Prop where
  ex : ∃ t : TI, (∀ i, PI (Γ.X i) tg e t) ∧ ∀ (σ τ : L2.St) (hn : σ.length = Γ.n) (H : Hp) (ρ : Ev) (F : Hp) (R : It → Hp → Prop), Rel Γ.K G (σ ++ τ) H ρ F → Post Γ.K G (σ ++ τ) F (f ρ) (fun F' _ _ J ds => ItOk Γ.K G F' J ds) R → t σ H R
def seqOf : PyData → Ev → Out (List PyData)
  | .list ds, ρ => .ok ds ρ
  | .tuple ds, ρ => .ok ds ρ
  | _, _ => .bad
section
variable {K : PySem.W.Frag} {G : Cg}
theorem itl_ok {F0 : Hp} {a : Addr} {vs : List V} {ds : List PyData} (h : F0 a = some (.lst vs)) (r : RpA K F0 vs ds) : ItOk K G F0 (Itl K a) ds := by
  intro σ H ρ F R s i
  have hH : SqL K H a vs := SqL.of (R.sub _ _ (s _ _ h))
  have r' := r.mono s
  refine ⟨fun d e => ?_, fun hl => ⟨vs, hH, by rw [r.length]; exact hl⟩⟩
  obtain ⟨v, e1, e2⟩ := r'.get e
  refine ⟨⟨vs, v, hH, e1⟩, fun x H' y => ?_⟩
  obtain ⟨rfl, y⟩ := y
  have := (y vs hH).symm.trans e1
  cases this
  exact ⟨F, Same.refl F, R, e2⟩
theorem itt_ok {F0 : Hp} {a : Addr} {vs : List V} {ds : List PyData} (h : F0 a = some (.tup vs)) (r : RpA K F0 vs ds) : ItOk K G F0 (Itt K a) ds := by
  intro σ H ρ F R s i
  have hH : SqT K H a vs := Same.tupD R.sub (s _ _ h)
  have r' := r.mono s
  refine ⟨fun d e => ?_, fun hl => ⟨vs, hH, by rw [r.length]; exact hl⟩⟩
  obtain ⟨v, e1, e2⟩ := r'.get e
  refine ⟨⟨vs, v, hH, e1⟩, fun x H' y => ?_⟩
  obtain ⟨rfl, y⟩ := y
  have := (y vs hH).symm.trans e1
  cases this
  exact ⟨F, Same.refl F, R, e2⟩
theorem itr_ok {F0 : Hp} {lo : Int} {n : Nat} : ItOk K G F0 (Itr lo n) ((List.range n).map fun (k : Nat) => PyData.int (lo + k)) := by
  intro σ H ρ F R s i
  refine ⟨fun d e => ?_, fun hl => ?_⟩
  · rw [List.getElem?_map] at e
    by_cases hi : i < n
    · rw [List.getElem?_range hi] at e
      cases e
      refine ⟨hi, fun x H' y => ?_⟩
      obtain ⟨rfl, rfl⟩ := y
      exact ⟨F, Same.refl F, R, .int _⟩
    · rw [List.getElem?_eq_none (by simp; omega)] at e
      cases e
  · rw [List.length_map, List.length_range] at hl
    exact hl
/-- enumerate -/
def enumD (ds : List PyData) : List PyData := (List.range ds.length).map fun i => .tuple [.int (i : Nat), ds[i]?.getD .none]
theorem ite_ok {F0 : Hp} {a : Addr} {vs : List V} {ds : List PyData} (h : F0 a = some (.lst vs)) (r : RpA K F0 vs ds) : ItOk K G F0 (Ite K a) (enumD ds) := by
  intro σ H ρ F R s i
  have hH : SqL K H a vs := SqL.of (R.sub _ _ (s _ _ h))
  have r' := r.mono s
  refine ⟨fun d e => ?_, fun hl => ⟨vs, hH, by rw [r.length]; simpa [enumD] using hl⟩⟩
  unfold enumD at e
  rw [List.getElem?_map] at e
  by_cases hi : i < ds.length
  · rw [List.getElem?_range hi] at e
    cases e
    obtain ⟨v, e1, e2⟩ := r'.get (List.getElem?_eq_getElem hi)
    refine ⟨⟨vs, v, hH, e1⟩, fun x H' y => ?_⟩
    obtain ⟨T, z, rfl, hT, rfl, y⟩ := y
    have := (y vs hH).symm.trans e1
    cases this
    obtain ⟨s1, R1, o1⟩ := R.newTup hT (.cons (.int i) (.cons e2 .nil))
    refine ⟨_, s1, R1, ?_⟩
    show Rp K _ (V.ref T) (PyData.tuple [PyData.int (i : Nat), ds[i]?.getD PyData.none])
    rw [List.getElem?_eq_getElem hi]
    exact o1
  · rw [List.getElem?_eq_none (by simp; omega)] at e
    cases e
/-- zip -/
def zipD (ds es : List PyData) : List PyData := (ds.zip es).map fun p => .tuple [p.1, p.2]
theorem zip_at {α β : Type} {xs : List α} {ys : List β} {i : Nat} {p : α × β} (h : (xs.zip ys)[i]? = some p) : xs[i]? = some p.1 ∧ ys[i]? = some p.2 := by
  rw [List.getElem?_zip_eq_some] at h
  exact h
theorem itz_ok {F0 : Hp} {a b : Addr} {vs ws : List V} {ds es : List PyData} (h : F0 a = some (.lst vs)) (r : RpA K F0 vs ds) (h2 : F0 b = some (.lst ws)) (r2 : RpA K F0 ws es) : ItOk K G F0 (Itz K a b) (zipD ds es) := by
  intro σ H ρ F R s i
  have hH : SqL K H a vs := SqL.of (R.sub _ _ (s _ _ h))
  have hH2 : SqL K H b ws := SqL.of (R.sub _ _ (s _ _ h2))
  have r' := r.mono s
  have r2' := r2.mono s
  refine ⟨fun d e => ?_, fun hl => ⟨vs, ws, hH, hH2, by rw [r.length, r2.length]; simp [zipD] at hl; omega⟩⟩
  unfold zipD at e
  rw [List.getElem?_map] at e
  cases z : (ds.zip es)[i]? with
  | none => rw [z] at e; cases e
  | some p =>
    rw [z] at e
    cases e
    obtain ⟨z1, z2⟩ := zip_at z
    obtain ⟨v, e1, e2⟩ := r'.get z1
    obtain ⟨w, e3, e4⟩ := r2'.get z2
    refine ⟨⟨vs, ws, v, w, hH, hH2, e1, e3⟩, fun x H' y => ?_⟩
    obtain ⟨T, x1, x2, rfl, hT, rfl, y1, y2⟩ := y
    have t1 := (y1 vs hH).symm.trans e1
    have t2 := (y2 ws hH2).symm.trans e3
    cases t1
    cases t2
    obtain ⟨s1, R1, o1⟩ := R.newTup hT (.cons e2 (.cons e4 .nil))
    exact ⟨_, s1, R1, o1⟩
theorem itzT_ok {F0 : Hp} {a b : Addr} {vs ws : List V} {ds es : List PyData} (h : F0 a = some (.tup vs)) (r : RpA K F0 vs ds) (h2 : F0 b = some (.tup ws)) (r2 : RpA K F0 ws es) : ItOk K G F0 (RZ.ItzT K a b) (zipD ds es) := by
  intro σ H ρ F R s i
  have hH : SqT K H a vs := Same.tupD R.sub (s _ _ h)
  have hH2 : SqT K H b ws := Same.tupD R.sub (s _ _ h2)
  have r' := r.mono s
  have r2' := r2.mono s
  refine ⟨fun d e => ?_, fun hl => ⟨vs, ws, hH, hH2, by rw [r.length, r2.length]; simp [zipD] at hl; omega⟩⟩
  unfold zipD at e
  rw [List.getElem?_map] at e
  cases z : (ds.zip es)[i]? with
  | none => rw [z] at e; cases e
  | some p =>
    rw [z] at e
    cases e
    obtain ⟨z1, z2⟩ := zip_at z
    obtain ⟨v, e1, e2⟩ := r'.get z1
    obtain ⟨w, e3, e4⟩ := r2'.get z2
    refine ⟨⟨vs, ws, v, w, hH, hH2, e1, e3⟩, fun x H' y => ?_⟩
    obtain ⟨T, x1, x2, rfl, hT, rfl, y1, y2⟩ := y
    have t1 := (y1 vs hH).symm.trans e1
    have t2 := (y2 ws hH2).symm.trans e3
    cases t1
    cases t2
    obtain ⟨s1, R1, o1⟩ := R.newTup hT (.cons e2 (.cons e4 .nil))
    exact ⟨_, s1, R1, o1⟩
end
theorem PI.or {X : Cx} {tg e : Expr} {t u : TI} (h1 : PI X tg e t) (h2 : PI X tg e u) : PI X tg e (fun σ H R => t σ H R ∨ u σ H R) :=
  ⟨fun pins s σ H R I h => h.elim (h1.run pins s σ H R I) (h2.run pins s σ H R I)⟩
section
variable {Γ : Fam} {G : Cg} {tg e e1 e2 : Expr} {es : List Expr} {pos : Pos}
theorem di_seq {f : Ev → Out PyData} (h : DX Γ G e f) : DI Γ G tg e (fun ρ => (f ρ).bind seqOf) := by
  obtain ⟨t, p, q⟩ := h.ex
  refine ⟨fun σ H R => iList Γ.K t σ H R ∨ iTup Γ.K t σ H R, fun i => by have z1 := pi_list (tg := tg) (p i); have z2 := pi_tup (tg := tg) (p i); rw [Γ.hK i] at z1 z2; exact PI.or z1 z2, fun σ τ hn H ρ F R0 R h => ?_⟩
  cases z : f ρ with
  | ok d ρ1 =>
    cases d with
    | list ds =>
      rw [z] at h
      refine .inl (q σ τ hn H ρ F _ R ?_)
      rw [z]
      intro v H1 F1 s1 R1 o1
      cases o1 with
      | @lst a vs _ h1 r1 => exact ⟨a, rfl, ⟨vs, SqL.of (R1.sub _ _ h1)⟩, h _ H1 F1 s1 R1 (itl_ok h1 r1)⟩
    | tuple ds =>
      rw [z] at h
      refine .inr (q σ τ hn H ρ F _ R ?_)
      rw [z]
      intro v H1 F1 s1 R1 o1
      cases o1 with
      | @tup a vs _ h1 r1 => exact ⟨a, rfl, ⟨vs, Same.tupD R1.sub h1⟩, h _ H1 F1 s1 R1 (itt_ok h1 r1)⟩
    | _ => rw [z] at h; exact h.elim
  | exc c ρ1 =>
    rw [z] at h
    refine .inl (q σ τ hn H ρ F _ R ?_)
    rw [z]
    exact h
  | bad => rw [z] at h; exact h.elim
def rangeOf (lo hi : Int) (ρ : Ev) : Out (List PyData) := if -(2 ^ 62) ≤ lo ∧ lo < 2 ^ 62 ∧ -(2 ^ 62) ≤ hi ∧ hi < 2 ^ 62 then .ok ((List.range (hi - lo).toNat).map fun (k : Nat) => .int (lo + k)) ρ else .bad
def range1 : PyData → Ev → Out (List PyData)
  | .int hi, ρ => rangeOf 0 hi ρ
  | _, _ => .bad
def range2 : PyData → PyData → Ev → Out (List PyData)
  | .int lo, .int hi, ρ => rangeOf lo hi ρ
  | _, _, _ => .bad
theorem di_range1 {p : Pos} {f : Ev → Out PyData} (hg : ∀ i, Gl (Γ.X i) "range") (hm : ∀ i, (Γ.X i).mg "range" = none) (h : DX Γ G e f) (hs : ∀ i, starEach [e] (Γ.X i).env = [(false, eval e (Γ.X i).env)] := by intro _; rfl) (hs' : ∀ i, starEach [e] (Γ.X i).env = (false, eval e (Γ.X i).env) :: starEach [] (Γ.X i).env := by intro _; rfl) :
    DI Γ G tg (.Call (.Name "range" p) [e] [] pos) (fun ρ => (f ρ).bind range1) := by
  obtain ⟨t, p1, q⟩ := h.ex
  refine ⟨_, fun i => pi_range1 (hg i) (hm i) (pa_cons (p1 i) pa_nil (hs' i)) (hs i), fun σ τ hn H ρ F R0 R h => q σ τ hn H ρ F _ R (Post.bind h fun d ρ1 v H1 F1 s1 R1 o1 h1 => ?_)⟩
  cases d with
  | int hi =>
    cases o1
    have h1 : Post Γ.K G (σ ++ τ) F1 (if -(2 ^ 62) ≤ (0 : Int) ∧ (0 : Int) < 2 ^ 62 ∧ -(2 ^ 62) ≤ hi ∧ hi < 2 ^ 62 then Out.ok ((List.range (hi - 0).toNat).map fun (k : Nat) => PyData.int (0 + k)) ρ1 else .bad) (fun F' _ _ J ds => ItOk Γ.K G F' J ds) R0 := h1
    split at h1
    · next hb =>
      refine ⟨hi, rfl, hb.2.2.1, hb.2.2.2, h1 _ H1 F1 (Same.refl _) R1 ?_⟩
      have e0 : (hi - 0).toNat = hi.toNat := by rw [Int.sub_zero]
      rw [e0]
      exact itr_ok
    · exact h1.elim
  | _ => exact h1.elim
theorem di_range2 {p : Pos} {f g : Ev → Out PyData} (hg : ∀ i, Gl (Γ.X i) "range") (hm : ∀ i, (Γ.X i).mg "range" = none) (h : DX Γ G e1 f) (h2 : DX Γ G e2 g) (hs : ∀ i, starEach [e1, e2] (Γ.X i).env = [(false, eval e1 (Γ.X i).env), (false, eval e2 (Γ.X i).env)] := by intro _; rfl) (hs2 : ∀ i, starEach [e2] (Γ.X i).env = [(false, eval e2 (Γ.X i).env)] := by intro _; rfl)
    (hs' : ∀ i, starEach [e2] (Γ.X i).env = (false, eval e2 (Γ.X i).env) :: starEach [] (Γ.X i).env := by intro _; rfl) (hs3 : ∀ i, starEach [e1, e2] (Γ.X i).env = (false, eval e1 (Γ.X i).env) :: starEach [e2] (Γ.X i).env := by intro _; rfl) :
    DI Γ G tg (.Call (.Name "range" p) [e1, e2] [] pos) (fun ρ => (f ρ).bind fun a ρ1 => (g ρ1).bind (range2 a)) := by
  obtain ⟨t, p1, q⟩ := h.ex
  obtain ⟨t2, p2, q2⟩ := h2.ex
  refine ⟨_, fun i => pi_range2 (hg i) (hm i) (pa_cons (p1 i) (pa_cons (p2 i) pa_nil (hs' i)) (hs3 i)) (hs i) (hs2 i), fun σ τ hn H ρ F R0 R h => q σ τ hn H ρ F _ R (Post.bind h fun d ρ1 v H1 F1 s1 R1 o1 h1 => ?_)⟩
  refine q2 σ τ hn H1 ρ1 F1 _ R1 (Post.bind h1 fun d2 ρ2 v2 H2 F2 s2 R2 o2 h2 => ?_)
  cases d with
  | int lo =>
    cases d2 with
    | int hi =>
      cases o1
      cases o2
      have h2 : Post Γ.K G (σ ++ τ) F2 (if -(2 ^ 62) ≤ lo ∧ lo < 2 ^ 62 ∧ -(2 ^ 62) ≤ hi ∧ hi < 2 ^ 62 then Out.ok ((List.range (hi - lo).toNat).map fun (k : Nat) => PyData.int (lo + k)) ρ2 else .bad) (fun F' _ _ J ds => ItOk Γ.K G F' J ds) R0 := h2
      split at h2
      · next hb => exact ⟨lo, hi, rfl, hb, h2 _ H2 F2 (Same.refl _) R2 itr_ok⟩
      · exact h2.elim
    | _ => exact h2.elim
  | _ => exact h2.elim
/-- enumerate of a list, zip of two lists or two tuples -/
def enumOf : PyData → Ev → Out (List PyData)
  | .list ds, ρ => .ok (enumD ds) ρ
  | _, _ => .bad
theorem di_enum {p tpos : Pos} {elts : List Expr} {kk : Nat} {f : Ev → Out PyData} (hg : ∀ i, Gl (Γ.X i) "enumerate") (hm : ∀ i, (Γ.X i).mg "enumerate" = none) (h : DX Γ G e f) (hs : ∀ i, starEach [e] (Γ.X i).env = [(false, eval e (Γ.X i).env)] := by intro _; rfl) (hs' : ∀ i, starEach [e] (Γ.X i).env = (false, eval e (Γ.X i).env) :: starEach [] (Γ.X i).env := by intro _; rfl) :
    DI Γ G (.Tuple elts kk tpos) (.Call (.Name "enumerate" p) [e] [] pos) (fun ρ => (f ρ).bind enumOf) := by
  obtain ⟨t, p1, q⟩ := h.ex
  refine ⟨iEnum Γ.K (tCons t tNil), fun i => by have z := pi_enum (elts := elts) (kk := kk) (tpos := tpos) (pos := pos) (p := p) (hg i) (hm i) (pa_cons (p1 i) pa_nil (hs' i)) (hs i); rw [Γ.hK i] at z; exact z, fun σ τ hn H ρ F R0 R h => q σ τ hn H ρ F _ R (Post.bind h fun d ρ1 v H1 F1 s1 R1 o1 h1 => ?_)⟩
  cases d with
  | list ds =>
    cases o1 with
    | @lst a vs _ e1 r1 => exact ⟨a, vs, rfl, SqL.of (R1.sub _ _ e1), h1 _ H1 F1 (Same.refl _) R1 (ite_ok e1 r1)⟩
  | _ => exact h1.elim
def zipOf : PyData → PyData → Ev → Out (List PyData)
  | .list ds, .list es, ρ => .ok (zipD ds es) ρ
  | .tuple ds, .tuple es, ρ => .ok (zipD ds es) ρ
  | _, _, _ => .bad
theorem di_zip {p tpos : Pos} {elts : List Expr} {kk : Nat} {f g : Ev → Out PyData} (hg : ∀ i, Gl (Γ.X i) "zip") (hm : ∀ i, (Γ.X i).mg "zip" = none) (h : DX Γ G e1 f) (h2 : DX Γ G e2 g) (hs : ∀ i, starEach [e1, e2] (Γ.X i).env = (false, eval e1 (Γ.X i).env) :: starEach [e2] (Γ.X i).env := by intro _; rfl) (hpl : ∀ i, (backTo pos (starEach [e2] (Γ.X i).env)).any (·.1) = false := by intro _; rfl)
    (hs' : ∀ i, starEach [e2] (Γ.X i).env = (false, eval e2 (Γ.X i).env) :: starEach [] (Γ.X i).env := by intro _; rfl) :
    DI Γ G (.Tuple elts kk tpos) (.Call (.Name "zip" p) [e1, e2] [] pos) (fun ρ => (f ρ).bind fun a ρ1 => (g ρ1).bind (zipOf a)) := by
  obtain ⟨t, p1, q⟩ := h.ex
  obtain ⟨t2, p2, q2⟩ := h2.ex
  refine ⟨RZ.iZipA Γ.K (tCons t (tCons t2 tNil)), fun i => by have z := RZ.pi_zipA (elts := elts) (kk := kk) (tpos := tpos) (pos := pos) (p := p) (hg i) (hm i) (pa_cons (p1 i) (pa_cons (p2 i) pa_nil (hs' i)) (hs i)) (hs i) (hpl i); rw [Γ.hK i] at z; exact z, fun σ τ hn H ρ F R0 R h => q σ τ hn H ρ F _ R (Post.bind h fun d ρ1 v H1 F1 s1 R1 o1 h1 => ?_)⟩
  refine q2 σ τ hn H1 ρ1 F1 _ R1 (Post.bind h1 fun d2 ρ2 v2 H2 F2 s2 R2 o2 h2 => ?_)
  cases d with
  | list ds =>
    cases d2 with
    | list es =>
      cases o1.mono s2 with
      | @lst a vs _ e1 r1 =>
        cases o2 with
        | @lst b ws _ e2 r2 => exact ⟨a, b, vs, ws, rfl, .inl ⟨SqL.of (R2.sub _ _ e1), SqL.of (R2.sub _ _ e2), h2 _ H2 F2 (Same.refl _) R2 (itz_ok e1 r1 e2 r2)⟩⟩
    | _ => exact h2.elim
  | tuple ds =>
    cases d2 with
    | tuple es =>
      cases o1.mono s2 with
      | @tup a vs _ e1 r1 =>
        cases o2 with
        | @tup b ws _ e2 r2 => exact ⟨a, b, vs, ws, rfl, .inr ⟨Same.tupD R2.sub e1, Same.tupD R2.sub e2, h2 _ H2 F2 (Same.refl _) R2 (itzT_ok e1 r1 e2 r2)⟩⟩
    | _ => exact h2.elim
  | _ => exact h2.elim

/-! ### for -/
def forD (ks : List Nat) (g : PyData → Ev → Option Ev) (b : Ev → Out Flw) : List PyData → Ev → Out Flw
  | [], ρ => .ok .nx ρ
  | d :: ds, ρ => (lift (g d ρ) ρ).bind fun ρ1 _ => (b ρ1).bind fun fl ρ2 => match fl with
    | .nx => forD ks g b ds (wipeE ρ2 ks)
    | .cnt => forD ks g b ds (wipeE ρ2 ks)
    | .brk => .ok .nx (wipeE ρ2 ks)
    | .ret s => .ok (.ret s) ρ2
def rFor (ks : List Nat) (g : PyData → Ev → Option Ev) (b : Ev → Out Flw) (fi : Ev → Out (List PyData)) : Ev → Out Flw := fun ρ => (fi ρ).bind fun ds ρ1 => forD ks g b ds (wipeE ρ1 ks)
theorem ds_for {iter : Expr} {body : List Stmt} {ts : List Nat} {fi : Ev → Out (List PyData)} {g : PyData → Ev → Option Ev} {b : Ev → Out Flw} (ks : List Nat) (hks : ks.all (fun i => !G.B.contains i) = true) (hi : DI Γ G tg iter fi) (hg : DG Γ G tg ts g) (hb : DSs Γ G body b)
    (hp : ∀ i, PassesOwn (model (Γ.X i).prog (Γ.X i).w) (Γ.X i).A (Γ.X i).env (Γ.X i).xe) (hs : ∀ i, ∀ x, foldedSetIterable iter (Γ.X i).env x = pure x := by intro _ _; rfl) : DS Γ G (.For tg iter body [] pos) (rFor ks g b fi) := by
  have hks' : ∀ i ∈ ks, i ∉ G.B := fun i hi => notin (by simpa using List.all_eq_true.mp hks i hi)
  obtain ⟨ti, p1, q1⟩ := hi.ex
  obtain ⟨tg', p2, q2⟩ := hg.ex
  obtain ⟨tb, p3, q3⟩ := hb.ex
  refine ⟨_, fun i => ps_for (hp i) (Γ.calm i) (p1 i) (p2 i) (p3 i) (hs i), fun σ hn H ρ F D R h => ?_⟩
  refine q1 σ [] hn H ρ F _ (by rw [List.append_nil]; exact R) (PostS.bindE (n := Γ.n) (σ := σ ++ []) (by rw [List.append_nil]; exact hn) h fun ds ρ1 J H1 F1 s1 R1 o1 h1 => ?_)
  rw [List.append_nil] at R1
  refine ⟨fun i m σ' H' => ∃ ρ' F', m = ds.length - i ∧ i ≤ ds.length ∧ σ'.length = Γ.n ∧ Same F1 F' ∧ Rel Γ.K G σ' H' ρ' F' ∧ PostS Γ.K G Γ.n F' (forD ks g b (ds.drop i) ρ') D, ⟨ds.length, wipeE ρ1 ks, F1, by simp, Nat.zero_le _, hn, Same.refl _, R1.wipes hks', by rw [List.drop_zero]; exact h1⟩, ?_⟩
  rintro i m σ' H' ⟨ρ', F', rfl, hle, hl, sF, R', hP⟩
  obtain ⟨k1, k2⟩ := o1 σ' H' ρ' F' R' sF i
  by_cases hlt : i < ds.length
  · have hd : ds.drop i = ds[i] :: ds.drop (i + 1) := List.drop_eq_getElem_cons hlt
    rw [hd] at hP
    obtain ⟨go, yl⟩ := k1 ds[i] (List.getElem?_eq_getElem hlt)
    refine .inr ⟨go, fun σ2 H2 => ∃ ρ2 F2, i + 1 ≤ ds.length ∧ σ2.length = Γ.n ∧ Same F1 F2 ∧ Rel Γ.K G σ2 H2 ρ2 F2 ∧ PostS Γ.K G Γ.n F2 (forD ks g b (ds.drop (i + 1)) ρ2) D, fun σ2 H2 ⟨ρ2, F2, a1, a2, a3, a4, a5⟩ => ⟨ds.length - (i + 1), by omega, ρ2, F2, rfl, a1, a2, a3, a4, a5⟩, fun x H2 y => ?_⟩
    obtain ⟨F2, s2, R2, r2⟩ := yl x H2 y
    have hP : PostS Γ.K G Γ.n F' ((lift (g ds[i] ρ') ρ').bind fun ρ1 _ => (b ρ1).bind fun fl ρ2 => match fl with
      | .nx => forD ks g b (ds.drop (i + 1)) (wipeE ρ2 ks)
      | .cnt => forD ks g b (ds.drop (i + 1)) (wipeE ρ2 ks)
      | .brk => .ok .nx (wipeE ρ2 ks)
      | .ret s => .ok (.ret s) ρ2) D := hP
    cases zg : g ds[i] ρ' with
    | none => rw [zg] at hP; exact hP.elim
    | some ρ2 =>
      rw [zg] at hP
      refine q2 σ' [] hl H2 ρ' F2 x ds[i] ρ2 _ (by rw [List.append_nil]; exact R2) r2 zg fun σ3 l3 _ R3 => ?_
      rw [List.append_nil] at R3
      refine q3 σ3 l3 H2 ρ2 F2 _ R3 ?_
      have hP : PostS Γ.K G Γ.n F' ((b ρ2).bind fun fl ρ2 => match fl with
        | .nx => forD ks g b (ds.drop (i + 1)) (wipeE ρ2 ks)
        | .cnt => forD ks g b (ds.drop (i + 1)) (wipeE ρ2 ks)
        | .brk => .ok .nx (wipeE ρ2 ks)
        | .ret s => .ok (.ret s) ρ2) D := hP
      cases zb : b ρ2 with
      | ok fl ρ3 =>
        rw [zb] at hP
        cases fl with
        | nx => exact fun σ4 H4 F4 l4 s4 R4 => ⟨wipeE ρ3 ks, F4, hlt, l4, (sF.trans s2).trans s4, R4.wipes hks', PostS.up hP (s2.trans s4)⟩
        | cnt => exact fun σ4 H4 F4 l4 s4 R4 => ⟨wipeE ρ3 ks, F4, hlt, l4, (sF.trans s2).trans s4, R4.wipes hks', PostS.up hP (s2.trans s4)⟩
        | brk => exact fun σ4 H4 F4 l4 s4 R4 => hP σ4 H4 F4 l4 (s2.trans s4) (R4.wipes hks')
        | ret s => exact fun σ4 v H4 F4 l4 s4 R4 o4 => hP σ4 v H4 F4 l4 (s2.trans s4) R4 o4
      | exc c ρ3 =>
        rw [zb] at hP
        exact fun σ4 H4 F4 s4 R4 => hP σ4 H4 F4 (s2.trans s4) R4
      | bad => rw [zb] at hP; exact hP
  · have e : i = ds.length := by omega
    subst e
    refine .inl ⟨k2 (Nat.le_refl _), ?_⟩
    rw [List.drop_length] at hP
    exact hP σ' H' F' hl (Same.refl _) R'

/-! ### while -/
def wIter (ks : List Nat) (c : Ev → Out Bool) (b : Ev → Out Flw) : Nat → Ev → Out Flw
  | 0, _ => .bad
  | n + 1, ρ => (c ρ).bind fun k ρ1 => if k = true then (b ρ1).bind fun fl ρ2 => match fl with
    | .nx => wIter ks c b n (wipeE ρ2 ks)
    | .cnt => wIter ks c b n (wipeE ρ2 ks)
    | .brk => .ok .nx (wipeE ρ2 ks)
    | .ret s => .ok (.ret s) ρ2 else .ok .nx ρ1
open Classical in
noncomputable def rWhile (ks : List Nat) (c : Ev → Out Bool) (b : Ev → Out Flw) (ρ : Ev) : Out Flw := if h : ∃ n, wIter ks c b n ρ ≠ .bad then wIter ks c b (choose h) ρ else .bad
theorem wIter_up {ks : List Nat} {c : Ev → Out Bool} {b : Ev → Out Flw} : ∀ {n : Nat} {ρ : Ev}, wIter ks c b n ρ ≠ .bad → wIter ks c b (n + 1) ρ = wIter ks c b n ρ
  | 0, ρ, h => absurd rfl h
  | n + 1, ρ, h => by
    show (c ρ).bind _ = (c ρ).bind _
    have h : (c ρ).bind (fun k ρ1 => if k = true then (b ρ1).bind fun fl ρ2 => match fl with
      | .nx => wIter ks c b n (wipeE ρ2 ks)
      | .cnt => wIter ks c b n (wipeE ρ2 ks)
      | .brk => .ok .nx (wipeE ρ2 ks)
      | .ret s => .ok (.ret s) ρ2 else .ok .nx ρ1) ≠ .bad := h
    cases zc : c ρ with
    | ok k ρ1 =>
      rw [zc] at h
      cases k with
      | true =>
        show (b ρ1).bind _ = (b ρ1).bind _
        have h : (b ρ1).bind (fun fl ρ2 => match fl with
          | .nx => wIter ks c b n (wipeE ρ2 ks)
          | .cnt => wIter ks c b n (wipeE ρ2 ks)
          | .brk => .ok .nx (wipeE ρ2 ks)
          | .ret s => .ok (.ret s) ρ2) ≠ .bad := h
        cases zb : b ρ1 with
        | ok fl ρ2 =>
          rw [zb] at h
          cases fl with
          | nx => exact wIter_up h
          | cnt => exact wIter_up h
          | brk => rfl
          | ret s => rfl
        | exc c ρ2 => rfl
        | bad => rfl
      | false => rfl
    | exc c ρ1 => rfl
    | bad => rfl
theorem wIter_le {ks : List Nat} {c : Ev → Out Bool} {b : Ev → Out Flw} {n m : Nat} {ρ : Ev} (h : wIter ks c b n ρ ≠ .bad) (hm : n ≤ m) : wIter ks c b m ρ = wIter ks c b n ρ := by
  induction hm with
  | refl => rfl
  | step _ ih => rw [wIter_up (by rw [ih]; exact h), ih]
open Classical in
theorem rWhile_eq {ks : List Nat} {c : Ev → Out Bool} {b : Ev → Out Flw} {n : Nat} {ρ : Ev} (h : wIter ks c b n ρ ≠ .bad) : rWhile ks c b ρ = wIter ks c b n ρ := by
  have he : ∃ n, wIter ks c b n ρ ≠ .bad := ⟨n, h⟩
  unfold rWhile
  rw [dif_pos he]
  have h2 := choose_spec he
  rcases Nat.le_total (choose he) n with l | l
  · exact (wIter_le h2 l).symm
  · exact wIter_le h l
open Classical in
theorem ds_while {c : Expr} {body : List Stmt} {fc : Ev → Out Bool} {b : Ev → Out Flw} (ks : List Nat) (hks : ks.all (fun i => !G.B.contains i) = true) (hc : DT Γ G c fc) (hb : DSs Γ G body b) (hp : ∀ i, PassesOwn (model (Γ.X i).prog (Γ.X i).w) (Γ.X i).A (Γ.X i).env (Γ.X i).xe) : DS Γ G (.While c body [] pos) (rWhile ks fc b) := by
  have hks' : ∀ i ∈ ks, i ∉ G.B := fun i hi => notin (by simpa using List.all_eq_true.mp hks i hi)
  obtain ⟨t, p, q⟩ := hc.ex
  obtain ⟨tb, p3, q3⟩ := hb.ex
  refine ⟨_, fun i => ps_while (hp i) (p i) (p3 i), fun σ hn H ρ F D R h => ?_⟩
  by_cases he : ∃ n, wIter ks fc b n ρ ≠ .bad
  · obtain ⟨n, hn0⟩ := he
    rw [rWhile_eq hn0] at h
    refine ⟨fun m σ' H' => ∃ ρ' F', σ'.length = Γ.n ∧ Rel Γ.K G σ' H' ρ' F' ∧ PostS Γ.K G Γ.n F' (wIter ks fc b m ρ') D, ⟨n, ρ, F, hn, R, h⟩, ?_⟩
    rintro m σ' H' ⟨ρ', F', hl, R', hP⟩
    cases m with
    | zero => exact hP.elim
    | succ m =>
      refine q0 (ok := fun _ => okT) q σ' hl H' ρ' F' _ R' (PostS.bindE hl hP fun k ρ1 k' H1 F1 s1 R1 o1 h1 => ?_)
      subst o1
      cases k' with
      | false => exact h1 σ' H1 F1 hl (Same.refl _) R1
      | true =>
        show ∃ N : L2.St → Hp → Prop, _
        refine ⟨fun σ2 H2 => ∃ ρ2 F2, σ2.length = Γ.n ∧ Rel Γ.K G σ2 H2 ρ2 F2 ∧ PostS Γ.K G Γ.n F2 (wIter ks fc b m ρ2) D, fun σ2 H2 ⟨ρ2, F2, a2, a4, a5⟩ => ⟨m, by omega, ρ2, F2, a2, a4, a5⟩, ?_⟩
        refine q3 σ' hl H1 ρ1 F1 _ R1 ?_
        have h1 : PostS Γ.K G Γ.n F1 ((b ρ1).bind fun fl ρ2 => match fl with
          | .nx => wIter ks fc b m (wipeE ρ2 ks)
          | .cnt => wIter ks fc b m (wipeE ρ2 ks)
          | .brk => .ok .nx (wipeE ρ2 ks)
          | .ret s => .ok (.ret s) ρ2) D := h1
        cases zb : b ρ1 with
        | ok fl ρ3 =>
          rw [zb] at h1
          cases fl with
          | nx => exact fun σ4 H4 F4 l4 s4 R4 => ⟨wipeE ρ3 ks, F4, l4, R4.wipes hks', PostS.up h1 s4⟩
          | cnt => exact fun σ4 H4 F4 l4 s4 R4 => ⟨wipeE ρ3 ks, F4, l4, R4.wipes hks', PostS.up h1 s4⟩
          | brk => exact fun σ4 H4 F4 l4 s4 R4 => h1 σ4 H4 F4 l4 s4 (R4.wipes hks')
          | ret s => exact h1
        | exc c ρ3 => rw [zb] at h1; exact h1
        | bad => rw [zb] at h1; exact h1
  · unfold rWhile at h
    rw [dif_neg he] at h
    exact h.elim
end
end DL
namespace DL
open PySem PySem.Spec PyProof.Rows L2
/-! ### list comprehensions -/
def Fam.blk (Γ : Fam) (scope : Scope) : Fam where
  ι := Γ.ι × Shared × Hp × Addr × List (Str × Addr) × List Addr
  X := fun z => (Γ.X z.1).blk z.2.1 z.2.2.1 scope (compEnvC scope z.2.2.2.2.1 z.2.2.2.1 (Γ.X z.1).env) z.2.2.2.2.2
  K := Γ.K
  hK := fun z => Γ.hK z.1
  calm := fun z => Γ.calm z.1
  hu := fun z => Γ.hu z.1
  n := Γ.n
theorem wipe_at {i : Nat} : ∀ {vs : List Nat} {σ : L2.St}, i ∈ vs → i < σ.length → (wipe σ vs)[i]? = some none
  | v :: vs, σ, h, hl => by
    unfold wipe
    by_cases hv : v = i
    · subst hv
      exact List.getElem?_set_self (by rw [wipe_length]; exact hl)
    · rw [List.getElem?_set_ne hv]
      refine wipe_at (vs := vs) ?_ hl
      rcases List.mem_cons.mp h with z | z
      · exact absurd z.symm hv
      · exact z
theorem wipe_agree {σ σ' : L2.St} {vs : List Nat} (hl : σ'.length = σ.length) (h : ∀ j, j ∉ vs → σ'[j]? = σ[j]?) : wipe σ' vs = wipe σ vs := by
  refine List.ext_getElem? fun j => ?_
  by_cases hj : j ∈ vs
  · by_cases hlt : j < σ.length
    · rw [wipe_at hj hlt, wipe_at hj (by rw [hl]; exact hlt)]
    · rw [List.getElem?_eq_none (by rw [wipe_length]; omega), List.getElem?_eq_none (by rw [wipe_length]; omega)]
  · rw [wipe_out hj, wipe_out hj]
    exact h j hj
theorem wipe_wipe {σ : L2.St} {vs : List Nat} : wipe (wipe σ vs) vs = wipe σ vs := wipe_agree (wipe_length σ vs) fun j hj => wipe_out hj
theorem wipeE_length : ∀ {is : List Nat} {ρ : Ev}, (wipeE ρ is).length = ρ.length
  | [], _ => rfl
  | i :: is, ρ => by
    show (wipeE (ρ.set i .emp) is).length = _
    rw [wipeE_length, List.length_set]
theorem wipeE_out {j : Nat} : ∀ {is : List Nat} {ρ : Ev}, j ∉ is → (wipeE ρ is)[j]? = ρ[j]?
  | [], _, _ => rfl
  | i :: is, ρ, h => by
    show (wipeE (ρ.set i .emp) is)[j]? = _
    rw [wipeE_out (fun z => h (List.mem_cons_of_mem _ z)), List.getElem?_set_ne (fun z => h (by rw [z]; exact List.mem_cons_self))]
theorem wipeE_in {j : Nat} {s : Sl} : ∀ {is : List Nat} {ρ : Ev}, (wipeE ρ is)[j]? = some s → s ≠ .emp → j ∉ is ∧ ρ[j]? = some s
  | [], ρ, h, _ => ⟨by simp, h⟩
  | i :: is, ρ, h, hs => by
    obtain ⟨h1, h2⟩ := wipeE_in (is := is) (ρ := ρ.set i .emp) h hs
    by_cases hi : i = j
    · subst hi
      by_cases hlt : i < ρ.length
      · rw [List.getElem?_set_self hlt] at h2
        cases h2
        exact absurd rfl hs
      · rw [List.getElem?_eq_none (by rw [List.length_set]; omega)] at h2
        cases h2
    · rw [List.getElem?_set_ne hi] at h2
      exact ⟨fun z => (List.mem_cons.mp z).elim (fun z => hi z.symm) h1, h2⟩
section
variable {K : PySem.W.Frag} {G : Cg} {σ σ' τ : L2.St} {H : Hp} {ρ : Ev} {F : Hp}
/-- the slots that are known stand the same -/
theorem Rel.agree (R : Rel K G σ H ρ F) (hl : σ'.length = σ.length) (h : ∀ (j : Nat) (s : Sl), ρ[j]? = some s → s ≠ .emp → σ'[j]? = σ[j]?) : Rel K G σ' H ρ F := by
  refine ⟨R.sub, R.f0, R.keep, R.newF, R.len.trans hl.symm, fun j sl ej => ?_, fun i j di dj p ei ej zi zj => ?_, R.bor⟩
  · have q := R.sl j sl ej
    cases sl with
    | emp => exact q
    | dat d =>
      obtain ⟨w, a, b⟩ := q
      exact ⟨w, (h j _ ej (by intro z; cases z)).trans a, b⟩
    | own d =>
      obtain ⟨w, a, b⟩ := q
      exact ⟨w, (h j _ ej (by intro z; cases z)).trans a, b⟩
    | scr d =>
      obtain ⟨w, a, b⟩ := q
      exact ⟨w, (h j _ ej (by intro z; cases z)).trans a, b⟩
  · rw [h i _ ei (by intro z; cases z)] at zi
    rw [h j _ ej (by intro z; cases z)] at zj
    exact R.inj i j di dj p ei ej zi zj
end
/-- behind the block the slots of its names show again what they showed, if that is a datum -/
def restoreE (ρ1 : Ev) : List Nat → Ev → Ev
  | [], ρ => ρ
  | j :: js, ρ => match ρ1[j]? with
    | some (.dat d) => restoreE ρ1 js (ρ.set j (.dat d))
    | some (.scr ns) => restoreE ρ1 js (ρ.set j (.scr ns))
    | _ => restoreE ρ1 js ρ
section
variable {K : PySem.W.Frag} {G : Cg} {σ : L2.St} {H H1 : Hp} {ρ1 : Ev} {F F1 : Hp}
theorem Rel.restore (R1 : Rel K G σ H1 ρ1 F1) (s : Same F1 F) : ∀ {js : List Nat} {ρ : Ev}, Rel K G σ H ρ F → (∀ j ∈ js, j ∉ G.B) → Rel K G σ H (restoreE ρ1 js ρ) F
  | [], _, R, _ => R
  | j :: js, ρ, R, hB => by
    have hB' : ∀ i ∈ js, i ∉ G.B := fun i hi => hB i (List.mem_cons_of_mem _ hi)
    unfold restoreE
    split
    · next d e =>
      obtain ⟨v, a, b⟩ := R1.sl j _ e
      refine R1.restore s ?_ hB'
      have hl := (List.getElem?_eq_some_iff.mp a).1
      have R2 := R.store (v := v) (s := .dat d) (hB j List.mem_cons_self) hl (b.mono s)
      have e2 : σ.set j (some v) = σ := List.ext_getElem? fun i => by
        by_cases hi : j = i
        · subst hi
          rw [List.getElem?_set_self hl, a]
        · rw [List.getElem?_set_ne hi]
      rw [e2] at R2
      exact R2
    · next ns e =>
      obtain ⟨v, a, b⟩ := R1.sl j _ e
      refine R1.restore s ?_ hB'
      have hl := (List.getElem?_eq_some_iff.mp a).1
      have R2 := R.store (v := .ref v) (s := .scr ns) (hB j List.mem_cons_self) hl ⟨v, rfl, Same.seq s b⟩
      have e2 : σ.set j (some (.ref v)) = σ := List.ext_getElem? fun i => by
        by_cases hi : j = i
        · subst hi
          rw [List.getElem?_set_self hl, a]
        · rw [List.getElem?_set_ne hi]
      rw [e2] at R2
      exact R2
    · exact R1.restore s R hB'
theorem restore_own {j : Nat} {d : PyData} : ∀ {js : List Nat} {ρ : Ev}, (restoreE ρ1 js ρ)[j]? = some (.own d) → ρ[j]? = some (.own d)
  | [], _, e => e
  | i :: js, ρ, e => by
    have self : ∀ {s : Sl}, (∀ d, s ≠ .own d) → (ρ.set i s)[j]? = some (.own d) → ρ[j]? = some (.own d) := fun {s} hs e => by
      by_cases hi : i = j
      · subst hi
        by_cases hl : i < ρ.length
        · rw [List.getElem?_set_self hl] at e
          exact absurd (Option.some.inj e) (hs d)
        · rw [List.getElem?_eq_none (by rw [List.length_set]; omega)] at e
          cases e
      · rw [List.getElem?_set_ne hi] at e
        exact e
    unfold restoreE at e
    split at e
    · exact self (by intro d z; cases z) (restore_own e)
    · exact self (by intro d z; cases z) (restore_own e)
    · exact restore_own e
end
def pushAt (m : Nat) (y : PyData) (ρ : Ev) : Option Ev := match ρ[m]? with
  | some (.own (.list acc)) => if acc.length < line then some (ρ.set m (.own (.list (acc ++ [y])))) else none
  | _ => none
def compGo (m : Nat) (vs : List Nat) (g : PyData → Ev → Option Ev) (ft : Ev → Out Bool) (fe : Ev → Out PyData) : List PyData → Ev → Out Unit
  | [], ρ => .ok () ρ
  | d :: ds, ρ => (lift (g d ρ) ρ).bind fun ρ1 _ => (ft ρ1).bind fun b ρ2 => if b = true then (fe ρ2).bind fun y ρ3 => (lift (pushAt m y ρ3) ρ3).bind fun ρ4 _ => compGo m vs g ft fe ds (wipeE ρ4 vs)
    else compGo m vs g ft fe ds (wipeE ρ2 vs)
def compEnd (m : Nat) (vs : List Nat) (ρ1 : Ev) (ρ2 : Ev) : Out Sl := match ρ2[m]? with
  | some (.own (.list acc)) => .ok (.own (.list acc)) (restoreE ρ1 vs (ρ2.take m))
  | _ => .bad
def rComp (vs : List Nat) (g : PyData → Ev → Option Ev) (ft : Ev → Out Bool) (fe : Ev → Out PyData) (fi : Ev → Out (List PyData)) : Ev → Out Sl := fun ρ => (fi ρ).bind fun ds ρ1 =>
  (compGo ρ1.length vs g ft fe ds (wipeE ρ1 vs ++ [.own (.list [])])).bind fun _ ρ2 => compEnd ρ1.length vs ρ1 ρ2
structure DTs (Γ : Fam) (G : Cg) (es : List Expr) (f : Ev → Out Bool) : Prop where
  ex : ∃ t : TT, (∀ i, PTs (Γ.X i) es t) ∧ ∀ (σ τ : L2.St) (hn : σ.length = Γ.n) (H : Hp) (ρ : Ev) (F : Hp) (Q : Bool → Hp → Prop), Rel Γ.K G (σ ++ τ) H ρ F → Post Γ.K G (σ ++ τ) F (f ρ) okT Q → t σ H Q
def rYes : Ev → Out Bool := fun ρ => .ok true ρ
section
variable {Γ : Fam} {G : Cg} {tg e e1 e2 : Expr} {es : List Expr} {pos : Pos}
theorem dts_nil : DTs Γ G [] rYes := ⟨_, fun _ => pts_nil, fun σ τ hn H ρ F Q R h => h true H F (Same.refl _) R rfl⟩
theorem dts_one {f : Ev → Out Bool} (h : DT Γ G e f) : DTs Γ G [e] f := by
  obtain ⟨t, p, q⟩ := h.ex
  exact ⟨t, fun i => pts_one (p i), q⟩
/-- the semantic part: a comprehension's reading -/
theorem comp_run {iter : Expr} {scope : Scope} {own : List (Str × Nat)} {ts : List Nat} {fi : Ev → Out (List PyData)} {g : PyData → Ev → Option Ev} {ft : Ev → Out Bool} {fe : Ev → Out PyData} {wi : TI} {tg' : TG} {tt : TT} {te : TE}
    (q1 : ∀ (σ τ : L2.St) (hn : σ.length = Γ.n) (H : Hp) (ρ : Ev) (F : Hp) (R : It → Hp → Prop), Rel Γ.K G (σ ++ τ) H ρ F → Post Γ.K G (σ ++ τ) F (fi ρ) (fun F' _ _ J ds => ItOk Γ.K G F' J ds) R → wi σ H R)
    (q2 : ∀ (σ τ : L2.St) (hn : σ.length = Γ.n) (H : Hp) (ρ : Ev) (F : Hp) (v : V) (d : PyData) (ρ' : Ev) (Q : L2.St → Hp → Prop), Rel Γ.K G (σ ++ τ) H ρ F → Rp Γ.K F v d → g d ρ = some ρ' → (∀ σ' : L2.St, σ'.length = Γ.n → (∀ j, j ∉ ts → σ'[j]? = σ[j]?) → Rel Γ.K G (σ' ++ τ) H ρ' F → Q σ' H) → tg' v σ H Q)
    (q3 : ∀ (σ τ : L2.St) (hn : σ.length = Γ.n) (H : Hp) (ρ : Ev) (F : Hp) (Q : Bool → Hp → Prop), Rel Γ.K G (σ ++ τ) H ρ F → Post Γ.K G (σ ++ τ) F (ft ρ) okT Q → tt σ H Q)
    (q4 : ∀ (σ τ : L2.St) (hn : σ.length = Γ.n) (H : Hp) (ρ : Ev) (F : Hp) (Q : VK), Rel Γ.K G (σ ++ τ) H ρ F → Post Γ.K G (σ ++ τ) F (fe ρ) (okX Γ.K) Q → te σ H Q)
    (hts : ts.all (fun i => (own.map (·.2)).contains i) = true) (hv : (own.map (·.2)).all (fun i => !G.B.contains i && Nat.blt i Γ.n) = true) (hBn : G.B.all (fun i => Nat.blt i Γ.n) = true)
    {σ τ : L2.St} (hn : σ.length = Γ.n) {H : Hp} {ρ : Ev} {F : Hp} {Q : VK} (R : Rel Γ.K G (σ ++ τ) H ρ F) (h : Post Γ.K G (σ ++ τ) F (rComp (own.map (·.2)) g ft fe fi ρ) (okE Γ.K G (σ ++ τ)) Q) : tLc wi tg' tt te (own.map (·.2)) σ H Q := by
  generalize own.map (·.2) = vs at hts hv h ⊢
  have hv' : ∀ i ∈ vs, i ∉ G.B ∧ i < Γ.n := fun i hi => by
    have := List.all_eq_true.mp hv i hi
    rw [Bool.and_eq_true] at this
    exact ⟨notin (by simpa using this.1), blt this.2⟩
  have hts' : ∀ i ∈ ts, i ∈ vs := fun i hi => List.contains_iff_mem.mp (List.all_eq_true.mp hts i hi)
  refine q1 σ τ hn H ρ F _ R (Post.bind h fun ds ρ1 J H1 F1 s1 R1 o1 h1 => ?_)
  intro D hD
  have len1 : ρ1.length = (σ ++ τ).length := R1.len
  have lw : (wipe σ vs ++ τ).length = (σ ++ τ).length := by rw [List.length_append, List.length_append, wipe_length]
  have mB : ρ1.length ∉ G.B := fun z => by
    have := allLt hBn _ z
    rw [len1, List.length_append] at this
    omega
  -- the block's state at its start
  have Rw : Rel Γ.K G (wipe σ vs ++ τ) H1 (wipeE ρ1 vs) F1 := by
    refine (R1.wipes fun i hi => (hv' i hi).1).agree lw fun j s ej hs => ?_
    obtain ⟨h1, h2⟩ := wipeE_in ej hs
    by_cases hj : j < σ.length
    · rw [List.getElem?_append_left (by rw [wipe_length]; exact hj), List.getElem?_append_left hj, wipe_out h1]
    · rw [List.getElem?_append_right (by rw [wipe_length]; omega), List.getElem?_append_right (by omega), wipe_length]
  have R0 : Rel Γ.K G (wipe σ vs ++ (τ ++ [some (.ref D)])) (upd H1 D (.lst [])) (wipeE ρ1 vs ++ [.own (.list [])]) F1 := by
    obtain ⟨Ra, oa⟩ := Rw.newLst hD (RpA.nil (K := Γ.K) (F := F1))
    rw [← List.append_assoc]
    exact Ra.ghost (by rw [lw, ← len1]; exact mB) oa
  refine ⟨fun i m H' => ∃ ρ' F', m = ds.length - i ∧ i ≤ ds.length ∧ Same F1 F' ∧ Rel Γ.K G (wipe σ vs ++ (τ ++ [some (.ref D)])) H' ρ' F' ∧ Post Γ.K G (σ ++ τ) F' ((compGo ρ1.length vs g ft fe (ds.drop i) ρ').bind fun _ ρ2 => compEnd ρ1.length vs ρ1 ρ2) (okE Γ.K G (σ ++ τ)) Q,
    ⟨ds.length, _, F1, by simp, Nat.zero_le _, Same.refl _, R0, by rw [List.drop_zero]; exact h1⟩, ?_⟩
  rintro i m H' ⟨ρ', F', rfl, hle, sF, R', hP⟩
  obtain ⟨k1, k2⟩ := o1 _ H' ρ' F' R' sF i
  have len' : ρ'.length = ρ1.length + 1 := by
    rw [R'.len, len1, ← List.append_assoc, List.length_append, lw]
    rfl
  by_cases hlt : i < ds.length
  · have hd : ds.drop i = ds[i] :: ds.drop (i + 1) := List.drop_eq_getElem_cons hlt
    rw [hd] at hP
    obtain ⟨go, yl⟩ := k1 ds[i] (List.getElem?_eq_getElem hlt)
    refine .inr ⟨go, fun H2 => ∃ ρ2 F2, i + 1 ≤ ds.length ∧ Same F1 F2 ∧ Rel Γ.K G (wipe σ vs ++ (τ ++ [some (.ref D)])) H2 ρ2 F2 ∧ Post Γ.K G (σ ++ τ) F2 ((compGo ρ1.length vs g ft fe (ds.drop (i + 1)) ρ2).bind fun _ ρ2 => compEnd ρ1.length vs ρ1 ρ2) (okE Γ.K G (σ ++ τ)) Q,
      fun H2 ⟨ρ2, F2, a1, a3, a4, a5⟩ => ⟨ds.length - (i + 1), by omega, ρ2, F2, rfl, a1, a3, a4, a5⟩, fun x H2 y => ?_⟩
    obtain ⟨F2, s2, R2, r2⟩ := yl x H2 y
    cases zg : g ds[i] ρ' with
    | none =>
      have hP : Post Γ.K G (σ ++ τ) F' (((lift (g ds[i] ρ') ρ').bind fun ρ1' _ => (ft ρ1').bind fun b ρ2 => if b = true then (fe ρ2).bind fun y ρ3 => (lift (pushAt ρ1.length y ρ3) ρ3).bind fun ρ4 _ => compGo ρ1.length vs g ft fe (ds.drop (i + 1)) (wipeE ρ4 vs)
        else compGo ρ1.length vs g ft fe (ds.drop (i + 1)) (wipeE ρ2 vs)).bind fun _ ρ2 => compEnd ρ1.length vs ρ1 ρ2) (okE Γ.K G (σ ++ τ)) Q := hP
      rw [zg] at hP
      exact hP.elim
    | some ρa =>
      have hP : Post Γ.K G (σ ++ τ) F' (((lift (g ds[i] ρ') ρ').bind fun ρ1' _ => (ft ρ1').bind fun b ρ2 => if b = true then (fe ρ2).bind fun y ρ3 => (lift (pushAt ρ1.length y ρ3) ρ3).bind fun ρ4 _ => compGo ρ1.length vs g ft fe (ds.drop (i + 1)) (wipeE ρ4 vs)
        else compGo ρ1.length vs g ft fe (ds.drop (i + 1)) (wipeE ρ2 vs)).bind fun _ ρ2 => compEnd ρ1.length vs ρ1 ρ2) (okE Γ.K G (σ ++ τ)) Q := hP
      rw [zg] at hP
      have hP : Post Γ.K G (σ ++ τ) F' ((((ft ρa).bind fun b ρ2 => if b = true then (fe ρ2).bind fun y ρ3 => (lift (pushAt ρ1.length y ρ3) ρ3).bind fun ρ4 _ => compGo ρ1.length vs g ft fe (ds.drop (i + 1)) (wipeE ρ4 vs)
        else compGo ρ1.length vs g ft fe (ds.drop (i + 1)) (wipeE ρ2 vs))).bind fun _ ρ2 => compEnd ρ1.length vs ρ1 ρ2) (okE Γ.K G (σ ++ τ)) Q := hP
      refine q2 (wipe σ vs) (τ ++ [some (.ref D)]) (by rw [wipe_length]; exact hn) H2 ρ' F2 x ds[i] ρa _ R2 r2 zg fun σa la ka Ra => ?_
      have wa : wipe σa vs = wipe σ vs := (wipe_agree (la.trans (by rw [wipe_length, hn])) fun j hj => ka j fun z => hj (hts' j z)).trans wipe_wipe
      refine ⟨wa, ?_⟩
      -- back to the block's names forgotten
      have back : ∀ {H' : Hp} {ρb : Ev} {Fb : Hp}, Rel Γ.K G (σa ++ (τ ++ [some (.ref D)])) H' ρb Fb → Rel Γ.K G (wipe σ vs ++ (τ ++ [some (.ref D)])) H' (wipeE ρb vs) Fb := fun {H' ρb Fb} Rb => by
        refine (Rb.wipes fun i hi => (hv' i hi).1).agree (by rw [List.length_append (as := wipe σ vs), List.length_append (as := σa), wipe_length, la, hn]) fun j s ej hs => ?_
        obtain ⟨h1, h2⟩ := wipeE_in ej hs
        rw [← wa]
        by_cases hj : j < σa.length
        · rw [List.getElem?_append_left (by rw [wipe_length]; exact hj), List.getElem?_append_left hj, wipe_out h1]
        · have j1 : (wipe σa vs).length ≤ j := by rw [wipe_length]; omega
          have j2 : σa.length ≤ j := by omega
          rw [List.getElem?_append_right j1, List.getElem?_append_right j2, wipe_length]
      refine q3 σa (τ ++ [some (.ref D)]) la H2 ρa F2 _ Ra ?_
      cases zt : ft ρa with
      | ok b ρb =>
        rw [zt] at hP
        intro b' H3 F3 s3 R3 o3
        subst o3
        cases b' with
        | false =>
          exact ⟨wipeE ρb vs, F3, hlt, (sF.trans s2).trans s3, back R3, Post.up hP (s2.trans s3)⟩
        | true =>
          have hP : Post Γ.K G (σ ++ τ) F' (((fe ρb).bind fun y ρ3 => (lift (pushAt ρ1.length y ρ3) ρ3).bind fun ρ4 _ => compGo ρ1.length vs g ft fe (ds.drop (i + 1)) (wipeE ρ4 vs)).bind fun _ ρ2 => compEnd ρ1.length vs ρ1 ρ2) (okE Γ.K G (σ ++ τ)) Q := hP
          show te σa H3 _
          refine q4 σa (τ ++ [some (.ref D)]) la H3 ρb F3 _ R3 ?_
          cases ze : fe ρb with
          | ok y' ρc =>
            rw [ze] at hP
            intro v H4 F4 s4 R4 o4
            have hP : Post Γ.K G (σ ++ τ) F' (((lift (pushAt ρ1.length y' ρc) ρc).bind fun ρ4 _ => compGo ρ1.length vs g ft fe (ds.drop (i + 1)) (wipeE ρ4 vs)).bind fun _ ρ2 => compEnd ρ1.length vs ρ1 ρ2) (okE Γ.K G (σ ++ τ)) Q := hP
            unfold pushAt at hP
            split at hP
            · next acc eacc =>
              split at hP
              · next hz =>
                have gh : (σa ++ (τ ++ [some (V.ref D)]))[ρ1.length]? = some (some (.ref D)) := by
                  have : ρ1.length = σa.length + τ.length := by rw [len1, List.length_append, la, hn]
                  rw [this, List.getElem?_append_right (by omega), List.getElem?_append_right (by omega)]
                  simp
                obtain ⟨p, e1, e2, e3, e4⟩ := R4.sl _ _ eacc
                rw [gh] at e1
                cases e1
                cases e3 with
                | @lst ws _ w1 w2 =>
                  refine ⟨ws, w1, by rw [w2.length, line_eq]; exact hz, ?_⟩
                  have R5 := R4.change (o := .lst (ws ++ [v])) (d' := .list (acc ++ [y'])) eacc gh (.lst upd_same (w2.append (.cons o4 .nil)))
                  exact ⟨_, F4, hlt, ((sF.trans s2).trans s3).trans s4, back R5, Post.up hP ((s2.trans s3).trans s4)⟩
              · exact hP.elim
            · exact hP.elim
          | exc c ρc =>
            rw [ze] at hP
            exact fun σ4 H4 F4 s4 R4 => hP σ4 H4 F4 ((s2.trans s3).trans s4) R4
          | bad => rw [ze] at hP; exact hP
      | exc c ρb =>
        rw [zt] at hP
        exact fun σ4 H4 F4 s4 R4 => hP σ4 H4 F4 (s2.trans s4) R4
      | bad => rw [zt] at hP; exact hP
  · have e : i = ds.length := by omega
    subst e
    refine .inl ⟨k2 (Nat.le_refl _), ?_⟩
    rw [List.drop_length] at hP
    have hP : Post Γ.K G (σ ++ τ) F' (compEnd ρ1.length vs ρ1 ρ') (okE Γ.K G (σ ++ τ)) Q := hP
    unfold compEnd at hP
    split at hP
    · next acc eacc =>
      have gh : (wipe σ vs ++ (τ ++ [some (V.ref D)]))[ρ1.length]? = some (some (.ref D)) := by
        have : ρ1.length = (wipe σ vs).length + τ.length := by rw [len1, List.length_append, wipe_length]
        rw [this, List.getElem?_append_right (by omega), List.getElem?_append_right (by omega)]
        simp
      have ov := R'.take eacc gh (by intro z; cases z) mB
      have Rn : Rel Γ.K G (wipe σ vs ++ τ) H' (ρ'.take ρ1.length) F' := by
        have R'' := R'
        rw [← List.append_assoc] at R''
        have z := R''.noGhost fun i hi => Nat.lt_of_lt_of_le (allLt hBn i hi) (by rw [lw, List.length_append, hn]; omega)
        rw [lw, ← len1] at z
        exact z
      have Rg : Rel Γ.K G (σ ++ τ) H' (ρ'.take ρ1.length) F' := by
        refine Rn.agree lw.symm fun j s ej hs => ?_
        by_cases hj : j < σ.length
        · have hjv : j ∉ vs := fun z => by
            have q := Rn.sl j s ej
            have e1 : (wipe σ vs ++ τ)[j]? = some none := by
              rw [List.getElem?_append_left (by rw [wipe_length]; exact hj)]
              exact wipe_at z hj
            cases s with
            | emp => exact hs rfl
            | dat d => obtain ⟨w, a, b⟩ := q; rw [e1] at a; cases a
            | own d => obtain ⟨w, a, b⟩ := q; rw [e1] at a; cases a
            | scr d => obtain ⟨w, a, b⟩ := q; rw [e1] at a; cases a
          rw [List.getElem?_append_left hj, List.getElem?_append_left (by rw [wipe_length]; exact hj), wipe_out hjv]
        · rw [List.getElem?_append_right (by omega), List.getElem?_append_right (by rw [wipe_length]; omega), wipe_length]
      have Rz := R1.restore sF Rg (js := vs) fun j hj => (hv' j hj).1
      refine hP (.ref D) H' F' (Same.refl _) Rz ?_
      obtain ⟨p, e1, e2, e3, e4, e5⟩ := ov
      cases e1
      refine ⟨D, rfl, e2, e3, e4, fun j d' ej zj => ?_⟩
      have ej' := restore_own ej
      have hj : j < ρ1.length := by
        have := (List.getElem?_eq_some_iff.mp ej').1
        rw [List.length_take] at this
        omega
      obtain ⟨w, a, b⟩ := Rn.sl j _ ej'
      obtain ⟨w', a', b'⟩ := Rg.sl j _ ej'
      rw [a'] at zj
      cases zj
      rw [List.getElem?_take_of_lt hj] at ej'
      refine e5 j d' (by rw [List.getElem?_set_ne (by omega)]; exact ej') ?_
      obtain ⟨w2, a2, b2⟩ := R'.sl j _ ej'
      have : w2 = D := by
        have l1 : j < (wipe σ vs ++ τ).length := by rw [lw, ← len1]; exact hj
        rw [← List.append_assoc, List.getElem?_append_left l1] at a2
        by_cases hjs : j < σ.length
        · have hjv : j ∉ vs := fun z => by
            rw [List.getElem?_append_left (by rw [wipe_length]; exact hjs), wipe_at z hjs] at a2
            cases a2
          rw [List.getElem?_append_left (by rw [wipe_length]; exact hjs), wipe_out hjv] at a2
          rw [List.getElem?_append_left hjs, a2] at a'
          cases a'
          rfl
        · rw [List.getElem?_append_right (by rw [wipe_length]; omega), wipe_length] at a2
          rw [List.getElem?_append_right (by omega), a2] at a'
          cases a'
          rfl
      cases this
      exact a2
    · exact hP.elim
theorem de_lc {elt iter : Expr} {ifs : List Expr} {scope : Scope} {own : List (Str × Nat)} {ts : List Nat} {fi : Ev → Out (List PyData)} {g : PyData → Ev → Option Ev} {ft : Ev → Out Bool} {fe : Ev → Out PyData} (hN : ∀ i, (Γ.X i).N.Nodup) (hi : DI Γ G tg iter fi) (ok : ∀ i, BlkOk (Γ.X i).N (Γ.X i).env.scope scope own)
    (hg : DG (Γ.blk scope) G tg ts g) (ht : DTs (Γ.blk scope) G ifs ft) (he : DX (Γ.blk scope) G elt fe) (hts : ts.all (fun i => (own.map (·.2)).contains i) = true) (hv : (own.map (·.2)).all (fun i => !G.B.contains i && Nat.blt i Γ.n) = true) (hBn : G.B.all (fun i => Nat.blt i Γ.n) = true)
    (hs : ∀ i, ∀ x, foldedSetIterable iter (Γ.X i).env x = pure x := by intro _ _; rfl) : DE Γ G (.ListComp elt [⟨tg, iter, ifs, 0⟩] scope pos) (rComp (own.map (·.2)) g ft fe fi) := by
  obtain ⟨wi, p1, q1⟩ := hi.ex
  obtain ⟨tg', p2, q2⟩ := hg.ex
  obtain ⟨tt, p3, q3⟩ := ht.ex
  obtain ⟨te, p4, q4⟩ := he.ex
  refine ⟨_, fun i => pe_lc (Γ.calm i) (hN i) (p1 i) (ok i) (fun s H C cl fp => p2 (i, s, H, C, cl, fp)) (fun s H C cl fp => p3 (i, s, H, C, cl, fp)) (fun s H C cl fp => p4 (i, s, H, C, cl, fp)) (hs i), fun σ τ hn H ρ F Q R h => ?_⟩
  exact comp_run (iter := iter) (scope := scope) q1 q2 q3 q4 hts hv hBn hn R h
/-- name = [..] on one line -/
theorem ds_setLc {elt iter : Expr} {ifs : List Expr} {scope : Scope} {own : List (Str × Nat)} {ts : List Nat} {fi : Ev → Out (List PyData)} {g : PyData → Ev → Option Ev} {ft : Ev → Out Bool} {fe : Ev → Out PyData} {y : Str} {k : Nat} {py spos : Pos} (hN : ∀ i, (Γ.X i).N.Nodup) (hi : DI Γ G tg iter fi) (ok : ∀ i, BlkOk (Γ.X i).N (Γ.X i).env.scope scope own)
    (hg : DG (Γ.blk scope) G tg ts g) (ht : DTs (Γ.blk scope) G ifs ft) (he : DX (Γ.blk scope) G elt fe) (hts : ts.all (fun i => (own.map (·.2)).contains i) = true) (hv : (own.map (·.2)).all (fun i => !G.B.contains i && Nat.blt i Γ.n) = true) (hBn : G.B.all (fun i => Nat.blt i Γ.n) = true)
    (hy : ∀ i, (Γ.X i).N[k]? = some y) (hyl : ∀ i, (Γ.X i).env.scope.names.lookup y = some .local) (hsw : ∀ i, swapsWith (.ListComp elt [⟨tg, iter, ifs, 0⟩] scope pos) (some (.Name y py)) spos.line (Γ.X i).env = pure true) (hB : G.B.contains k = false) (hk : Nat.blt k Γ.n = true)
    (hs : ∀ i, ∀ x, foldedSetIterable iter (Γ.X i).env x = pure x := by intro _ _; rfl) : DS Γ G (.Assign [.Name y py] (.ListComp elt [⟨tg, iter, ifs, 0⟩] scope pos) spos) (rSet k (rComp (own.map (·.2)) g ft fe fi)) := by
  obtain ⟨wi, p1, q1⟩ := hi.ex
  obtain ⟨tg', p2, q2⟩ := hg.ex
  obtain ⟨tt, p3, q3⟩ := ht.ex
  obtain ⟨te, p4, q4⟩ := he.ex
  refine ⟨_, fun i => ps_setLc (i := k) (Γ.calm i) (hN i) (hy i) (hyl i) (hsw i) (p1 i) (ok i) (fun s H C cl fp => p2 (i, s, H, C, cl, fp)) (fun s H C cl fp => p3 (i, s, H, C, cl, fp)) (fun s H C cl fp => p4 (i, s, H, C, cl, fp)) (hs i), fun σ hn H ρ F D R h => ?_⟩
  show tLc wi tg' tt te (own.map (·.2)) σ H (fun x H1 => gName k x σ H1 D.nx)
  refine comp_run (iter := iter) (scope := scope) (τ := []) q1 q2 q3 q4 hts hv hBn hn (by rw [List.append_nil]; exact R) ?_
  rw [List.append_nil]
  refine PostS.bindE hn h fun s ρ1 v H1 F1 s1 R1 o1 h1 => ?_
  refine h1 (σ.set k (some v)) H1 F1 (by rw [List.length_set]; exact hn) (Same.refl _) ?_
  exact R1.store (notin hB) (by rw [hn]; exact blt hk) o1
end
end DL
namespace DL
open PySem PySem.Spec PyProof.Rows L2
/-! ### what a def promises -/
structure Entry (K : PySem.W.Frag) (B : List Nat) (A : Nat → Option Addr) (F0 H : Hp) (vs : List V) (as : List Sl) : Prop where
  sub : Same F0 H
  len : as.length = vs.length
  sl : ∀ (i : Nat) (s : Sl), as[i]? = some s → match s with
    | .emp => True
    | .dat d => ∃ v, vs[i]? = some v ∧ Rp K F0 v d
    | .own d => ∃ p, vs[i]? = some (.ref p) ∧ F0 p = none ∧ OwnOk K F0 H p d ∧ A i = some p
    | .scr ns => ∃ a, vs[i]? = some (.ref a) ∧ SqL K F0 a (ns.map V.int)
  bor : ∀ (i : Nat) (p : Addr), A i = some p → i ∈ B ∧ ∃ d, as[i]? = some (.own d)
  inj : ∀ (i j : Nat) (p : Addr), A i = some p → A j = some p → i = j
structure ExitOk (K : PySem.W.Frag) (A : Nat → Option Addr) (H F0 H' F' : Hp) (as as' : List Sl) : Prop where
  f0 : Same F0 F'
  sub : Same F' H'
  keep : ∀ a o, H a = some o → (∀ i, A i ≠ some a) → H' a = some o
  newF : ∀ a o, H a = some o → F0 a = none → F' a = none
  len : as'.length = as.length
  bor : ∀ (i : Nat) (p : Addr), A i = some p → ∃ d, as'[i]? = some (.own d) ∧ OwnOk K F' H' p d
def g0 (B : List Nat) (A : Nat → Option Addr) (H F0 : Hp) : Cg := ⟨B, A, H, F0, fun _ _ _ => False⟩
def spD (K : PySem.W.Frag) (B : List Nat) (m : List Sl → Out Sl) : Sp := fun vs H Q _ => ∃ (A : Nat → Option Addr) (F0 : Hp) (as : List Sl), Entry K B A F0 H vs as ∧
  match m as with
  | .ok r as' => ∀ v H' F', ExitOk K A H F0 H' F' as as' → VOk K (g0 B A H F0) F' H' [] [] v r → Q v H'
  | _ => False
/-- the arguments' number is asked by the reading itself -/
def rLen (n : Nat) (m : List Sl → Out Sl) : List Sl → Out Sl := fun as => if as.length = n then m as else .bad
def mOf (n : Nat) (f : Ev → Out Flw) : List Sl → Out Sl := fun as => (f (as ++ List.replicate (n - as.length) .emp)).bind fun fl ρ => match fl with
  | .ret s => .ok s (ρ.take as.length)
  | .nx => .ok (.dat .none) (ρ.take as.length)
  | _ => .bad
structure Cal (P : Program) (w : World) (K : PySem.W.Frag) (mg : Str → Option Value) (base : Heap) (k : Nat) (x : Str) (ps : List Str) (B : List Nat) (m : List Sl → Out Sl) : Prop where
  ex : ∃ (f : Addr) (fd : FuncData), FnOk P w K mg base CX0 k f fd ps (spD K B m) ∧ mg x = some (.ref f) ∧ PySem.W.keepIn K (.ref f) = true ∧ Binds K fd ps []
abbrev famX (P : Program) (w : World) (K : PySem.W.Frag) (mg : Str → Option Value) (base : Heap) (N : List Str) (qual : Str) (scope : Scope) (f : Addr) (cd : Value) (A : Around) (outer : List Env) (s : Shared) (H : Hp) (E : XK) : Cx :=
  (cxOf CX0 P w K mg base N qual scope f cd A outer s H E).nox
def famD {P : Program} {w : World} {K : PySem.W.Frag} {mg : Str → Option Value} {base : Heap} {N : List Str} {qual : Str} {scope : Scope} {f : Addr} {cd : Value} {A : Around} {outer : List Env} {s : Shared} {H : Hp} {E : XK} {k : Nat} (hr : Room k (A.deeper (envOfC qual scope s.heap.objs.size f cd))) : Fam where
  ι := Unit
  X := fun _ => famX P w K mg base N qual scope f cd A outer s H E
  K := K
  hK := fun _ => rfl
  calm := fun _ => rfl
  hu := fun _ => by
    have := hr.un
    show (A.deeper (envOfC qual scope s.heap.objs.size f cd)).units + 80 < cLine
    omega
  n := N.length
section
variable {P : Program} {w : World} {K : PySem.W.Frag} {mg : Str → Option Value} {base : Heap}
theorem slot_start {N : List Str} {vs : List V} {i : Nat} {v : V} (h : vs[i]? = some v) : (L2.start N vs)[i]? = some (some v) := by
  unfold L2.start
  rw [List.getElem?_append_left (by rw [List.length_map]; exact (List.getElem?_eq_some_iff.mp h).1), List.getElem?_map, h]
  rfl
/-- THE RULE for a def -/
theorem fn_ok {x qual : Str} {st : Stmt} {f : Addr} {fd : FuncData} {N ps : List Str} {k : Nat} {B : List Nat} {fb : Ev → Out Flw} (F : Fun K x qual st f fd) (S : FnScope N ps (defScope st)) (hB : B.all (fun i => Nat.blt i ps.length) = true) (hps : Nat.ble ps.length N.length = true)
    (body : ∀ (cdv : Value) (A : Around) (outer : List Env) (s : Shared) (H : Hp) (E : XK) (hr : Room k (A.deeper (envOfC qual (defScope st) s.heap.objs.size f cdv))) (Ad : Nat → Option Addr) (F0 : Hp),
      DSs (famD (P := P) (w := w) (K := K) (mg := mg) (base := base) (N := N) (outer := outer) (H := H) (E := E) hr) (g0 B Ad H F0) (defBody st) fb) : FnOk P w K mg base CX0 (k + 1) f fd ps (spD K B (rLen ps.length (mOf N.length fb))) := by
  have hpl : ps.length ≤ N.length := Nat.le_of_ble_eq_true hps
  refine F.ok S (fun vs H Q E h => ?_) (fun cdv A outer s H vs Q E hr h => ?_)
  · obtain ⟨A, F0, as, en, h⟩ := h
    by_cases hl : as.length = ps.length
    · rw [← en.len, hl]
    · unfold rLen at h
      rw [if_neg hl] at h
      exact h.elim
  · obtain ⟨Ad, F0, as, en, h⟩ := h
    have hl : as.length = ps.length := by
      by_cases hl : as.length = ps.length
      · exact hl
      · unfold rLen at h
        rw [if_neg hl] at h
        exact h.elim
    obtain ⟨t, p, q⟩ := (body cdv A outer s H E hr Ad F0).ex
    refine ⟨t, p (), ?_⟩
    have hls : (L2.start N vs).length = N.length := by
      unfold L2.start
      rw [List.length_append, List.length_map, List.length_replicate, ← en.len, hl]
      omega
    have slot : ∀ {i : Nat} {s : Sl}, (as ++ List.replicate (N.length - as.length) Sl.emp)[i]? = some s → s ≠ .emp → as[i]? = some s := fun {i s} e hs => by
      by_cases hi : i < as.length
      · rw [List.getElem?_append_left hi] at e
        exact e
      · rw [List.getElem?_append_right (by omega), List.getElem?_replicate] at e
        split at e
        · cases e
          exact absurd rfl hs
        · cases e
    have R : Rel K (g0 B Ad H F0) (L2.start N vs) H (as ++ List.replicate (N.length - as.length) .emp) F0 := by
      refine ⟨en.sub, Same.refl _, fun a o e _ => e, fun a o _ e => e, by rw [hls, List.length_append, List.length_replicate, hl]; omega, fun i s e => ?_, fun i j di dj p ei ej zi zj => ?_, fun i p e => ?_⟩
      · cases s with
        | emp => exact trivial
        | dat d =>
          obtain ⟨v, a, b⟩ := en.sl i _ (slot e (by intro z; cases z))
          exact ⟨v, slot_start a, b⟩
        | own d =>
          obtain ⟨p, a, b, c, d⟩ := en.sl i _ (slot e (by intro z; cases z))
          exact ⟨p, slot_start a, b, c, .inl d⟩
        | scr ns =>
          obtain ⟨a, b, c⟩ := en.sl i _ (slot e (by intro z; cases z))
          exact ⟨a, slot_start b, c⟩
      · obtain ⟨p1, a1, b1, c1, d1⟩ := en.sl i _ (slot ei (by intro z; cases z))
        obtain ⟨p2, a2, b2, c2, d2⟩ := en.sl j _ (slot ej (by intro z; cases z))
        rw [slot_start a1] at zi
        rw [slot_start a2] at zj
        cases zi
        cases zj
        exact en.inj i j p d1 d2
      · obtain ⟨h1, d, h2⟩ := en.bor i p e
        obtain ⟨p1, a1, b1, c1, d1⟩ := en.sl i _ h2
        have d1 : Ad i = some p1 := d1
        have : Ad i = some p := e
        rw [this] at d1
        cases d1
        exact ⟨h1, c1.some, d, by rw [List.getElem?_append_left (List.getElem?_eq_some_iff.mp h2).1]; exact h2⟩
    refine q (L2.start N vs) hls H _ F0 _ R ?_
    -- the end
    have fin : ∀ {r : Sl} {ρ' : Ev}, (∀ v H' F', ExitOk K Ad H F0 H' F' as (ρ'.take as.length) → VOk K (g0 B Ad H F0) F' H' [] [] v r → Q v H') → ∀ (σ' : L2.St) (v : V) (H' F' : Hp), σ'.length = N.length → Same F0 F' → Rel K (g0 B Ad H F0) σ' H' ρ' F' → VOk K (g0 B Ad H F0) F' H' σ' ρ' v r → Q v H' := fun {r ρ'} h σ' v H' F' l s R' o => by
      refine h v H' F' ⟨s, R'.sub, R'.keep, R'.newF, ?_, fun i p e => ?_⟩ ?_
      · rw [List.length_take, R'.len, l]
        omega
      · obtain ⟨h1, _, d, h2⟩ := R'.bor i p e
        have hi : i < as.length := by
          have := allLt hB i h1
          omega
        obtain ⟨p1, a1, b1, c1, d1⟩ := R'.sl i _ h2
        rcases d1 with d1 | ⟨d1, _⟩
        · have e : Ad i = some p := e
          have d1 : Ad i = some p1 := d1
          rw [e] at d1
          cases d1
          exact ⟨d, by rw [List.getElem?_take_of_lt hi]; exact h2, c1⟩
        · have e : Ad i = some p := e
          have d1 : Ad i = none := d1
          rw [e] at d1
          cases d1
      · cases r with
        | emp => exact o
        | dat d => exact o
        | scr d => exact o
        | own d =>
          obtain ⟨p, e1, e2, e3, e4, _⟩ := o
          exact ⟨p, e1, e2, e3, e4, fun i d' z => by cases z⟩
    unfold rLen mOf at h
    rw [if_pos hl] at h
    cases z : fb (as ++ List.replicate (N.length - as.length) .emp) with
    | ok fl ρ' =>
      rw [z] at h
      cases fl with
      | nx => exact fun σ' H' F' l s R' => fin h σ' .non H' F' l s R' .non
      | ret r => exact fun σ' v H' F' l s R' o => fin h σ' v H' F' l s R' o
      | brk => exact h.elim
      | cnt => exact h.elim
    | exc c ρ' => rw [z] at h; exact h.elim
    | bad => rw [z] at h; exact h.elim
end
/-! ### calls -/
inductive ArgOk (K : PySem.W.Frag) (F : Hp) (σ : L2.St) : List (Option Nat) → List V → List (Option PyData) → Prop
  | nil : ArgOk K F σ [] [] []
  | val {b : List (Option Nat)} {v : V} {vs : List V} {d : PyData} {ds : List (Option PyData)} : Rp K F v d → ArgOk K F σ b vs ds → ArgOk K F σ (none :: b) (v :: vs) (some d :: ds)
  | bor {b : List (Option Nat)} {v : V} {vs : List V} {j : Nat} {ds : List (Option PyData)} : σ[j]? = some (some v) → ArgOk K F σ b vs ds → ArgOk K F σ (some j :: b) (v :: vs) (none :: ds)
theorem ArgOk.mono {K : PySem.W.Frag} {F F' : Hp} {σ : L2.St} (s : Same F F') {b : List (Option Nat)} {vs : List V} {ds : List (Option PyData)} (h : ArgOk K F σ b vs ds) : ArgOk K F' σ b vs ds := by
  induction h with
  | nil => exact .nil
  | val r _ ih => exact .val (r.mono s) ih
  | bor r _ ih => exact .bor r ih
structure DC (Γ : Fam) (G : Cg) (es : List Expr) (bs : List (Option Nat)) (f : Ev → Out (List (Option PyData))) : Prop where
  ex : ∃ t : TA, (∀ i, PA (Γ.X i) es t) ∧ ∀ (σ τ : L2.St) (hn : σ.length = Γ.n) (H : Hp) (ρ : Ev) (F : Hp) (Q : List V → Hp → Prop), Rel Γ.K G (σ ++ τ) H ρ F → Post Γ.K G (σ ++ τ) F (f ρ) (fun F' _ _ vs ds => ArgOk Γ.K F' (σ ++ τ) bs vs ds) Q → t σ H Q
def cNil : Ev → Out (List (Option PyData)) := fun ρ => .ok [] ρ
def cVal (f : Ev → Out PyData) (g : Ev → Out (List (Option PyData))) : Ev → Out (List (Option PyData)) := fun ρ => (f ρ).bind fun d ρ1 => (g ρ1).bind fun ds ρ2 => .ok (some d :: ds) ρ2
def cBor (j : Nat) (g : Ev → Out (List (Option PyData))) : Ev → Out (List (Option PyData)) := fun ρ => (lift (see ρ[j]?) ρ).bind fun _ ρ1 => (g ρ1).bind fun ds ρ2 => .ok (none :: ds) ρ2
section
variable {Γ : Fam} {G : Cg} {tg e e1 e2 : Expr} {es : List Expr} {pos : Pos}
theorem dc_nil : DC Γ G [] [] cNil := ⟨_, fun _ => pa_nil, fun σ τ hn H ρ F Q R h => h [] H F (Same.refl _) R .nil⟩
theorem dc_val {bs : List (Option Nat)} {f : Ev → Out PyData} {g : Ev → Out (List (Option PyData))} (h : DX Γ G e f) (h2 : DC Γ G es bs g) (hs : ∀ i, starEach (e :: es) (Γ.X i).env = (false, eval e (Γ.X i).env) :: starEach es (Γ.X i).env := by intro _; rfl) : DC Γ G (e :: es) (none :: bs) (cVal f g) := by
  obtain ⟨t, p, q⟩ := h.ex
  obtain ⟨t2, p2, q2⟩ := h2.ex
  refine ⟨_, fun i => pa_cons (p i) (p2 i) (hs i), fun σ τ hn H ρ F Q R h => q σ τ hn H ρ F _ R (Post.bind h fun d ρ1 v H1 F1 s1 R1 o1 h1 => ?_)⟩
  refine q2 σ τ hn H1 ρ1 F1 _ R1 (Post.bind h1 fun ds ρ2 vs H2 F2 s2 R2 o2 h2 => ?_)
  exact h2 _ H2 F2 (Same.refl _) R2 (.val (o1.mono s2) o2)
theorem dc_bor {bs : List (Option Nat)} {j : Nat} {g : Ev → Out (List (Option PyData))} (h : ∀ k, PE (Γ.X k) e (tVar j)) (hj : Nat.blt j Γ.n = true) (h2 : DC Γ G es bs g) (hs : ∀ i, starEach (e :: es) (Γ.X i).env = (false, eval e (Γ.X i).env) :: starEach es (Γ.X i).env := by intro _; rfl) : DC Γ G (e :: es) (some j :: bs) (cBor j g) := by
  obtain ⟨t2, p2, q2⟩ := h2.ex
  refine ⟨_, fun i => pa_cons (h i) (p2 i) (hs i), fun σ τ hn H ρ F Q R h => ?_⟩
  unfold cBor at h
  cases z : see ρ[j]? with
  | none => rw [z] at h; exact h.elim
  | some d =>
    rw [z] at h
    obtain ⟨v, a, b⟩ := R.see z
    have h : Post Γ.K G (σ ++ τ) F ((g ρ).bind fun ds ρ2 => .ok (none :: ds) ρ2) (fun F' _ _ vs ds => ArgOk Γ.K F' (σ ++ τ) (some j :: bs) vs ds) Q := h
    refine ⟨v, ghost hn hj a, q2 σ τ hn H ρ F _ R (Post.bind h fun ds ρ2 vs H2 F2 s2 R2 o2 h2 => ?_)⟩
    exact h2 _ H2 F2 (Same.refl _) R2 (.bor a o2)
/-- what the callee gets -/
def argsOf : List (Option Nat) → List (Option PyData) → Ev → List Sl
  | none :: bs, some d :: ds, ρ => .dat d :: argsOf bs ds ρ
  | some j :: bs, _ :: ds, ρ => ρ[j]?.getD .emp :: argsOf bs ds ρ
  | _, _, _ => []
/-- what comes back -/
def putBack : List (Option Nat) → List Sl → Ev → Ev
  | some j :: bs, s :: as, ρ => putBack bs as (match ρ[j]? with
    | some (.own _) => ρ.set j s
    | _ => ρ)
  | none :: bs, _ :: as, ρ => putBack bs as ρ
  | _, _, ρ => ρ
def callR (m : List Sl → Out Sl) (bs : List (Option Nat)) (ds : List (Option PyData)) (ρ : Ev) : Out Sl := match m (argsOf bs ds ρ) with
  | .ok r as' => .ok r (putBack bs as' ρ)
  | _ => .bad
def rCall (m : List Sl → Out Sl) (bs : List (Option Nat)) (f : Ev → Out (List (Option PyData))) : Ev → Out Sl := fun ρ => (f ρ).bind fun ds ρ1 => callR m bs ds ρ1
theorem putBack_length : ∀ {bs : List (Option Nat)} {as : List Sl} {ρ : Ev}, (putBack bs as ρ).length = ρ.length
  | some j :: bs, s :: as, ρ => by
    unfold putBack
    rw [putBack_length]
    split
    · rw [List.length_set]
    · rfl
  | none :: bs, _ :: as, ρ => by
    unfold putBack
    exact putBack_length
  | [], _, _ => by unfold putBack; rfl
  | some _ :: _, [], _ => by unfold putBack; rfl
  | none :: _, [], _ => by unfold putBack; rfl
theorem putBack_out {n : Nat} : ∀ {bs : List (Option Nat)} {as : List Sl} {ρ : Ev}, (∀ i : Nat, bs[i]? ≠ some (some n)) → (putBack bs as ρ)[n]? = ρ[n]?
  | some j :: bs, s :: as, ρ, h => by
    unfold putBack
    rw [putBack_out (bs := bs) fun i z => h (i + 1) (by simpa using z)]
    have : j ≠ n := fun z => h 0 (by rw [z]; rfl)
    split
    · rw [List.getElem?_set_ne this]
    · rfl
  | none :: bs, _ :: as, ρ, h => by
    unfold putBack
    exact putBack_out (bs := bs) fun i z => h (i + 1) (by simpa using z)
  | [], _, _, _ => by unfold putBack; rfl
  | some _ :: _, [], _, _ => by unfold putBack; rfl
  | none :: _, [], _, _ => by unfold putBack; rfl
theorem putBack_in {n : Nat} : ∀ {bs : List (Option Nat)} {as : List Sl} {ρ : Ev} {i : Nat}, (bs.filterMap id).Nodup → bs[i]? = some (some n) → i < as.length → (putBack bs as ρ)[n]? = match ρ[n]? with
    | some (.own _) => as[i]?
    | o => o
  | some j :: bs, s :: as, ρ, 0, hd, h, hl => by
    unfold putBack
    have e : j = n := by simpa using h
    subst e
    have hd : (j :: bs.filterMap id).Nodup := by simpa using hd
    rw [putBack_out (bs := bs) fun i z => (List.nodup_cons.mp hd).1 (List.mem_filterMap.mpr ⟨some j, List.mem_of_getElem? z, rfl⟩)]
    cases z : ρ[j]? with
    | none => show ρ[j]? = _; rw [z]
    | some sl =>
      cases sl with
      | own d =>
        show (ρ.set j s)[j]? = _
        rw [List.getElem?_set_self (List.getElem?_eq_some_iff.mp z).1]
        rfl
      | emp => show ρ[j]? = _; rw [z]
      | dat d => show ρ[j]? = _; rw [z]
      | scr d => show ρ[j]? = _; rw [z]
  | some j :: bs, s :: as, ρ, i + 1, hd, h, hl => by
    unfold putBack
    have hd : (j :: bs.filterMap id).Nodup := by simpa using hd
    have h : bs[i]? = some (some n) := by simpa using h
    have nj : j ≠ n := fun z => (List.nodup_cons.mp hd).1 (List.mem_filterMap.mpr ⟨some j, by rw [z]; exact List.mem_of_getElem? h, rfl⟩)
    rw [putBack_in (bs := bs) (i := i) (List.nodup_cons.mp hd).2 h (by simpa using hl)]
    have e : (match ρ[j]? with
      | some (.own _) => ρ.set j s
      | _ => ρ)[n]? = ρ[n]? := by
      split
      · rw [List.getElem?_set_ne nj]
      · rfl
    rw [e]
    rfl
  | none :: bs, _ :: as, ρ, i + 1, hd, h, hl => by
    unfold putBack
    have e := putBack_in (bs := bs) (as := as) (ρ := ρ) (i := i) (by simpa using hd) (by simpa using h) (by simpa using hl)
    rw [e]
    rfl
  | none :: bs, _ :: as, ρ, 0, hd, h, hl => by simp at h
  | [], _, _, _, _, h, _ => by simp at h
  | some _ :: _, [], _, _, _, _, hl => by simp at hl
  | none :: _, [], _, _, _, _, hl => by simp at hl
theorem args_at {K : PySem.W.Frag} {F : Hp} {σ : L2.St} {ρ : Ev} : ∀ {bs : List (Option Nat)} {vs : List V} {ds : List (Option PyData)} {i : Nat} {s : Sl}, ArgOk K F σ bs vs ds → (argsOf bs ds ρ)[i]? = some s →
    (bs[i]? = some none ∧ ∃ v d, vs[i]? = some v ∧ s = .dat d ∧ Rp K F v d) ∨ (∃ j v, bs[i]? = some (some j) ∧ vs[i]? = some v ∧ σ[j]? = some (some v) ∧ s = ρ[j]?.getD .emp)
  | _, _, _, _, _, .nil, e => by simp [argsOf] at e
  | _, _, _, 0, s, .val r h, e => by
    have e := Option.some.inj (show some _ = some s from e)
    exact .inl ⟨rfl, _, _, rfl, e.symm, r⟩
  | _, _, _, 0, s, .bor r h, e => by
    have e := Option.some.inj (show some _ = some s from e)
    exact .inr ⟨_, _, rfl, rfl, r, e.symm⟩
  | _, _, _, i + 1, s, .val r h, e => by
    rcases args_at (i := i) h (by simpa [argsOf] using e) with ⟨a, v, d, b, c⟩ | ⟨j, v, a, b, c⟩
    · exact .inl ⟨by simpa using a, v, d, by simpa using b, c⟩
    · exact .inr ⟨j, v, by simpa using a, by simpa using b, c⟩
  | _, _, _, i + 1, s, .bor r h, e => by
    rcases args_at (i := i) h (by simpa [argsOf] using e) with ⟨a, v, d, b, c⟩ | ⟨j, v, a, b, c⟩
    · exact .inl ⟨by simpa using a, v, d, by simpa using b, c⟩
    · exact .inr ⟨j, v, by simpa using a, by simpa using b, c⟩
theorem args_len {K : PySem.W.Frag} {F : Hp} {σ : L2.St} {ρ : Ev} : ∀ {bs : List (Option Nat)} {vs : List V} {ds : List (Option PyData)}, ArgOk K F σ bs vs ds → (argsOf bs ds ρ).length = vs.length ∧ bs.length = vs.length
  | _, _, _, .nil => ⟨rfl, rfl⟩
  | _, _, _, .val r h => ⟨congrArg (· + 1) (args_len (ρ := ρ) h).1, congrArg (· + 1) (args_len (ρ := ρ) h).2⟩
  | _, _, _, .bor r h => ⟨congrArg (· + 1) (args_len (ρ := ρ) h).1, congrArg (· + 1) (args_len (ρ := ρ) h).2⟩
theorem args_of {K : PySem.W.Frag} {F : Hp} {σ : L2.St} {ρ : Ev} : ∀ {bs : List (Option Nat)} {vs : List V} {ds : List (Option PyData)} {i j : Nat}, ArgOk K F σ bs vs ds → bs[i]? = some (some j) → (argsOf bs ds ρ)[i]? = some (ρ[j]?.getD .emp) ∧ ∃ v, vs[i]? = some v ∧ σ[j]? = some (some v)
  | _, _, _, _, _, .nil, e => by simp at e
  | _, _, _, 0, _, .val r h, e => by simp at e
  | _, _, _, 0, _, .bor r h, e => by
    have e := Option.some.inj (Option.some.inj (show some (some _) = some (some _) from e))
    subst e
    exact ⟨rfl, _, rfl, r⟩
  | _, _, _, i + 1, j, .val r h, e => by
    obtain ⟨a, v, b, c⟩ := args_of (ρ := ρ) (i := i) h (by simpa using e)
    exact ⟨by simpa [argsOf] using a, v, by simpa using b, c⟩
  | _, _, _, i + 1, j, .bor r h, e => by
    obtain ⟨a, v, b, c⟩ := args_of (ρ := ρ) (i := i) h (by simpa using e)
    exact ⟨by simpa [argsOf] using a, v, by simpa using b, c⟩
/-- the callee's borrowed places -/
def borA (σ : L2.St) (ρ : Ev) (bs : List (Option Nat)) (i : Nat) : Option Addr := match bs[i]? with
  | some (some j) => (match ρ[j]?, σ[j]? with
    | some (.own _), some (some (.ref p)) => some p
    | _, _ => none)
  | _ => none
theorem borA_spec {σ : L2.St} {ρ : Ev} {bs : List (Option Nat)} {i : Nat} {p : Addr} (h : borA σ ρ bs i = some p) : ∃ j d, bs[i]? = some (some j) ∧ ρ[j]? = some (.own d) ∧ σ[j]? = some (some (.ref p)) := by
  unfold borA at h
  split at h
  · next j e1 =>
    split at h
    · next d q e2 e3 =>
      cases h
      exact ⟨j, d, e1, e2, e3⟩
    · cases h
  · cases h
theorem borA_of {σ : L2.St} {ρ : Ev} {bs : List (Option Nat)} {i j : Nat} {d : PyData} {p : Addr} (h1 : bs[i]? = some (some j)) (h2 : ρ[j]? = some (.own d)) (h3 : σ[j]? = some (some (.ref p))) : borA σ ρ bs i = some p := by
  unfold borA
  rw [h1]
  show (match ρ[j]?, σ[j]? with
    | some (.own _), some (some (.ref p)) => some p
    | _, _ => none) = some p
  rw [h2, h3]
/-- the semantic part of a call -/
theorem call_run {B : List Nat} {m : List Sl → Out Sl} {bs : List (Option Nat)} {K : PySem.W.Frag} {σ : L2.St} {H : Hp} {ρ : Ev} {F : Hp} {vs : List V} {ds : List (Option PyData)} {Q : VK} {E : XK} (hd : (bs.filterMap id).Nodup) (hB : (List.range bs.length).all (fun i => match bs[i]? with
      | some (some _) => B.contains i
      | _ => true) = true) (R : Rel K G σ H ρ F) (a : ArgOk K F σ bs vs ds) (h : Post K G σ F (callR m bs ds ρ) (okE K G σ) Q) : spD K B m vs H Q E := by
  have ndx : ∀ {l : List (Option Nat)} {i i' j : Nat}, (l.filterMap id).Nodup → l[i]? = some (some j) → l[i']? = some (some j) → i = i' := by
    intro l
    induction l with
    | nil => intro i i' j _ e; simp at e
    | cons x l ih =>
      intro i i' j nd e e'
      cases x with
      | none =>
        cases i with
        | zero => simp at e
        | succ i =>
          cases i' with
          | zero => simp at e'
          | succ i' => exact congrArg (· + 1) (ih (by simpa using nd) (by simpa using e) (by simpa using e'))
      | some y =>
        have nd : (y :: l.filterMap id).Nodup := by simpa using nd
        have no : ∀ {i : Nat}, l[i]? ≠ some (some y) := fun {i} z => (List.nodup_cons.mp nd).1 (List.mem_filterMap.mpr ⟨some y, List.mem_of_getElem? z, rfl⟩)
        cases i with
        | zero =>
          cases i' with
          | zero => rfl
          | succ i' =>
            have e : y = j := by simpa using e
            subst e
            exact absurd (by simpa using e') no
        | succ i =>
          cases i' with
          | zero =>
            have ey : y = j := by simpa using e'
            subst ey
            exact absurd (by simpa using e) no
          | succ i' => exact congrArg (· + 1) (ih (List.nodup_cons.mp nd).2 (by simpa using e) (by simpa using e'))
  have lens := args_len (ρ := ρ) a
  refine ⟨borA σ ρ bs, F, argsOf bs ds ρ, ⟨R.sub, lens.1, fun i s e => ?_, fun i p e => ?_, fun i i' p e e' => ?_⟩, ?_⟩
  · rcases args_at a e with ⟨a1, v, d, a2, rfl, a3⟩ | ⟨j, v, a1, a2, a3, rfl⟩
    · exact ⟨v, a2, a3⟩
    · cases z : ρ[j]? with
      | none => exact trivial
      | some sl =>
        have q := R.sl j sl z
        cases sl with
        | emp => exact trivial
        | dat d =>
          obtain ⟨w, b1, b2⟩ := q
          rw [a3] at b1
          cases b1
          exact ⟨_, a2, b2⟩
        | own d =>
          obtain ⟨w, b1, b2, b3, b4⟩ := q
          have b1' := b1
          rw [a3] at b1
          cases b1
          exact ⟨w, a2, b2, b3, borA_of a1 z b1'⟩
        | scr d =>
          obtain ⟨w, b1, b2⟩ := q
          rw [a3] at b1
          cases b1
          exact ⟨_, a2, b2⟩
  · obtain ⟨j, d, e1, e2, e3⟩ := borA_spec e
    have hi := (List.getElem?_eq_some_iff.mp e1).1
    have hb := List.all_eq_true.mp hB i (List.mem_range.mpr hi)
    rw [e1] at hb
    refine ⟨List.contains_iff_mem.mp hb, d, ?_⟩
    rw [(args_of (ρ := ρ) a e1).1, e2]
    rfl
  · obtain ⟨j, d, e1, e2, e3⟩ := borA_spec e
    obtain ⟨j', d', e1', e2', e3'⟩ := borA_spec e'
    have := R.inj j j' d d' p e2 e2' e3 e3'
    subst this
    exact ndx hd e1 e1'
  · unfold callR at h
    cases z : m (argsOf bs ds ρ) with
    | exc c as' => rw [z] at h; exact h.elim
    | bad => rw [z] at h; exact h.elim
    | ok r as' =>
      rw [z] at h
      intro v H' F' X o
      have some_of : ∀ {n : Nat} {d : PyData} {p : Addr}, ρ[n]? = some (.own d) → σ[n]? = some (some (.ref p)) → ∃ o, H p = some o := fun {n d p} e1 e2 => by
        obtain ⟨p', b1, b2, b3, b4⟩ := R.sl n _ e1
        rw [e2] at b1
        cases b1
        exact b3.some
      have own_back : ∀ {n : Nat} {d : PyData}, (putBack bs as' ρ)[n]? = some (.own d) → ∃ d0, ρ[n]? = some (.own d0) := fun {n d} e => by
        by_cases hb : ∃ i : Nat, bs[i]? = some (some n)
        · obtain ⟨i, hi⟩ := hb
          rw [putBack_in hd hi (by rw [X.len, lens.1, ← lens.2]; exact (List.getElem?_eq_some_iff.mp hi).1)] at e
          cases z2 : ρ[n]? with
          | none => rw [z2] at e; cases e
          | some sl =>
            cases sl with
            | own d0 => exact ⟨d0, rfl⟩
            | emp => rw [z2] at e; cases e
            | dat _ => rw [z2] at e; cases e
            | scr _ => rw [z2] at e; cases e
        · rw [putBack_out fun i hi => hb ⟨i, hi⟩] at e
          exact ⟨d, e⟩
      have R' : Rel K G σ H' (putBack bs as' ρ) F' := by
        refine ⟨X.sub, R.f0.trans X.f0, fun b ob e1 e2 => ?_, fun b ob e1 e2 => ?_, by rw [putBack_length]; exact R.len, fun n s e => ?_, fun n n' d d' p e e' => ?_, fun n p e => ?_⟩
        · refine X.keep b ob (R.keep b ob e1 e2) fun i hi => ?_
          obtain ⟨j, d, f1, f2, f3⟩ := borA_spec hi
          obtain ⟨p', b1, b2, b3, b4⟩ := R.sl j _ f2
          rw [f3] at b1
          cases b1
          rcases b4 with b4 | ⟨_, b4⟩
          · exact e2 j b4
          · rw [b4] at e1
            cases e1
        · have f := R.newF b ob e1 e2
          by_cases hb : ∃ i, G.A i = some b
          · obtain ⟨i, hi⟩ := hb
            obtain ⟨_, _, d, hd⟩ := R.bor i b hi
            obtain ⟨p', b1, b2, b3, b4⟩ := R.sl i _ hd
            have : p' = b := by
              rcases b4 with b4 | ⟨b4, _⟩
              · rw [hi] at b4; cases b4; rfl
              · rw [hi] at b4; cases b4
            subst this
            obtain ⟨o', ho'⟩ := b3.some
            exact X.newF p' o' ho' f
          · exact X.newF b ob (R.keep b ob e1 fun i hi => hb ⟨i, hi⟩) f
        · by_cases hb : ∃ i : Nat, bs[i]? = some (some n)
          · obtain ⟨i, hi⟩ := hb
            rw [putBack_in hd hi (by rw [X.len, lens.1, ← lens.2]; exact (List.getElem?_eq_some_iff.mp hi).1)] at e
            cases z2 : ρ[n]? with
            | none => rw [z2] at e; cases e
            | some sl =>
              have q := R.sl n sl z2
              rw [z2] at e
              cases sl with
              | emp => cases e; exact trivial
              | dat d =>
                cases e
                obtain ⟨w, b1, b2⟩ := q
                exact ⟨w, b1, b2.mono X.f0⟩
              | scr d =>
                cases e
                obtain ⟨w, b1, b2⟩ := q
                exact ⟨w, b1, Same.seq X.f0 b2⟩
              | own d =>
                obtain ⟨p, b1, b2, b3, b4⟩ := q
                obtain ⟨d', c1, c2⟩ := X.bor i p (borA_of hi z2 b1)
                have e : as'[i]? = some s := e
                rw [c1] at e
                cases e
                obtain ⟨o', ho'⟩ := b3.some
                exact ⟨p, b1, X.newF p o' ho' b2, c2, b4⟩
          · rw [putBack_out fun i hi => hb ⟨i, hi⟩] at e
            have q := R.sl n s e
            cases s with
            | emp => exact trivial
            | dat d =>
              obtain ⟨w, b1, b2⟩ := q
              exact ⟨w, b1, b2.mono X.f0⟩
            | scr d =>
              obtain ⟨w, b1, b2⟩ := q
              exact ⟨w, b1, Same.seq X.f0 b2⟩
            | own d =>
              obtain ⟨p, b1, b2, b3, b4⟩ := q
              obtain ⟨o', ho'⟩ := b3.some
              refine ⟨p, b1, X.newF p o' ho' b2, b3.at' X.f0 ?_, b4⟩
              refine (X.keep p o' ho' fun i hi => ?_).trans ho'.symm
              obtain ⟨j, d2, f1, f2, f3⟩ := borA_spec hi
              have := R.inj n j _ _ p e f2 b1 f3
              subst this
              exact hb ⟨i, f1⟩
        · obtain ⟨_, f⟩ := own_back e
          obtain ⟨_, f'⟩ := own_back e'
          exact R.inj n n' _ _ p f f'
        · obtain ⟨b1, b2, d, b3⟩ := R.bor n p e
          refine ⟨b1, b2, ?_⟩
          by_cases hb : ∃ i : Nat, bs[i]? = some (some n)
          · obtain ⟨i, hi⟩ := hb
            obtain ⟨p', c1, c2, c3, c4⟩ := R.sl n _ b3
            obtain ⟨d', x1, x2⟩ := X.bor i p' (borA_of hi b3 c1)
            refine ⟨d', ?_⟩
            rw [putBack_in hd hi (by rw [X.len, lens.1, ← lens.2]; exact (List.getElem?_eq_some_iff.mp hi).1), b3]
            exact x1
          · exact ⟨d, by rw [putBack_out fun i hi => hb ⟨i, hi⟩]; exact b3⟩
      refine h v H' F' X.f0 R' ?_
      cases r with
      | emp => exact o
      | dat d => exact o
      | scr d => exact o
      | own d =>
        obtain ⟨p, e1, e2, e3, e4, _⟩ := o
        have e4 : H p = none := e4
        refine ⟨p, e1, e2, e3, R.h0 e4, fun n d' en zn => ?_⟩
        obtain ⟨_, f⟩ := own_back en
        obtain ⟨o', ho'⟩ := some_of f zn
        rw [e4] at ho'
        cases ho'
theorem de_call {k : Nat} {x : Str} {p : Pos} {ps : List Str} {B : List Nat} {m : List Sl → Out Sl} {bs : List (Option Nat)} {f : Ev → Out (List (Option PyData))} (c : ∀ i, Cal (Γ.X i).prog (Γ.X i).w (Γ.X i).K (Γ.X i).mg (Γ.X i).base k x ps B m) (hr : ∀ i, Room k (Γ.X i).A) (hg : ∀ i, Gl (Γ.X i) x) (ha : DC Γ G (e :: es) bs f)
    (hd : (bs.filterMap id).Nodup := by decide) (hB : (List.range bs.length).all (fun i => match bs[i]? with
      | some (some _) => B.contains i
      | _ => true) = true := by rfl) (hdb : (x == ("__debug__" : Str)) = false := by decide) (he : ∀ i, starEach (e :: es) (Γ.X i).env = (false, eval e (Γ.X i).env) :: starEach es (Γ.X i).env := by intro _; rfl) (hpl : ∀ i, (backTo pos (starEach es (Γ.X i).env)).any (·.1) = false := by intro _; rfl) :
    DE Γ G (.Call (.Name x p) (e :: es) [] pos) (rCall m bs f) := by
  obtain ⟨t, q1, q2⟩ := ha.ex
  refine ⟨tCall (spD Γ.K B m) [] E0 t, fun i => ?_, fun σ τ hn H ρ F Q R h => q2 σ τ hn H ρ F _ R (Post.bind h fun ds ρ1 vs H1 F1 s1 R1 o1 h1 => ?_)⟩
  · obtain ⟨fa, fd, hF, hm, hk, hb⟩ := (c i).ex
    have z := pe_call (pos := pos) (p := p) hF (hr i) (hg i) hm hk hb .nil pass0 (q1 i) hdb (he i) (hpl i)
    rw [Γ.hK i] at z
    exact z
  · rw [List.append_nil]
    exact call_run hd hB R1 o1 h1
end
/-- the law's own promise, at its entry -/
theorem law_sp {K : PySem.W.Frag} {H : Hp} {a : Addr} {ns : List Int} {m : List Sl → Out Sl} (hS : SqL K H a (ns.map V.int)) {as' : List Sl} (h : m [.scr ns] = .ok (.dat (.bool true)) as') : spD K [] m [.ref a] H (fun v _ => v = .bl true) (fun _ _ _ => False) := by
  refine ⟨fun _ => none, H, [.scr ns], ⟨Same.refl _, rfl, fun i s e => ?_, fun i p e => (nomatch e), fun i j p e => (nomatch e)⟩, ?_⟩
  · cases i with
    | zero =>
      cases e
      exact ⟨a, rfl, hS⟩
    | succ i => cases e
  · rw [h]
    intro v H' F' _ o
    cases o
    rfl
end DL
namespace DL
open PySem PySem.Spec PyProof.Rows L2 PySem.W
/-! ### isinstance -/
def tyN : PyData → String
  | .none => "NoneType"
  | .bool _ => "bool"
  | .int _ => "int"
  | .str _ => "str"
  | .list _ => "list"
  | .tuple _ => "tuple"
  | .dict _ => "dict"
def isInt : PyData → Bool
  | .int _ => true
  | .bool _ => true
  | _ => false
def isBool : PyData → Bool
  | .bool _ => true
  | _ => false
def isTuple : PyData → Bool
  | .tuple _ => true
  | _ => false
def isList : PyData → Bool
  | .list _ => true
  | _ => false
def isStr : PyData → Bool
  | .str _ => true
  | _ => false
theorem kit_int (d : PyData) (h : ∀ k, d ≠ .dict k) : kitB (tyN d) "int" = some (isInt d) := by
  cases d with
  | dict k => exact absurd rfl (h k)
  | _ => first | (show kitB "NoneType" "int" = some false; decide +kernel) | (show kitB "bool" "int" = some true; decide +kernel) | (show kitB "int" "int" = some true; decide +kernel) | (show kitB "str" "int" = some false; decide +kernel) | (show kitB "list" "int" = some false; decide +kernel) | (show kitB "tuple" "int" = some false; decide +kernel)
theorem kit_bool (d : PyData) (h : ∀ k, d ≠ .dict k) : kitB (tyN d) "bool" = some (isBool d) := by
  cases d with
  | dict k => exact absurd rfl (h k)
  | _ => first | (show kitB "NoneType" "bool" = some false; decide +kernel) | (show kitB "bool" "bool" = some true; decide +kernel) | (show kitB "int" "bool" = some false; decide +kernel) | (show kitB "str" "bool" = some false; decide +kernel) | (show kitB "list" "bool" = some false; decide +kernel) | (show kitB "tuple" "bool" = some false; decide +kernel)
theorem kit_tuple (d : PyData) (h : ∀ k, d ≠ .dict k) : kitB (tyN d) "tuple" = some (isTuple d) := by
  cases d with
  | dict k => exact absurd rfl (h k)
  | _ => first | (show kitB "NoneType" "tuple" = some false; decide +kernel) | (show kitB "bool" "tuple" = some false; decide +kernel) | (show kitB "int" "tuple" = some false; decide +kernel) | (show kitB "str" "tuple" = some false; decide +kernel) | (show kitB "list" "tuple" = some false; decide +kernel) | (show kitB "tuple" "tuple" = some true; decide +kernel)
theorem kit_list (d : PyData) (h : ∀ k, d ≠ .dict k) : kitB (tyN d) "list" = some (isList d) := by
  cases d with
  | dict k => exact absurd rfl (h k)
  | _ => first | (show kitB "NoneType" "list" = some false; decide +kernel) | (show kitB "bool" "list" = some false; decide +kernel) | (show kitB "int" "list" = some false; decide +kernel) | (show kitB "str" "list" = some false; decide +kernel) | (show kitB "list" "list" = some true; decide +kernel) | (show kitB "tuple" "list" = some false; decide +kernel)
theorem kit_str (d : PyData) (h : ∀ k, d ≠ .dict k) : kitB (tyN d) "str" = some (isStr d) := by
  cases d with
  | dict k => exact absurd rfl (h k)
  | _ => first | (show kitB "NoneType" "str" = some false; decide +kernel) | (show kitB "bool" "str" = some false; decide +kernel) | (show kitB "int" "str" = some false; decide +kernel) | (show kitB "str" "str" = some true; decide +kernel) | (show kitB "list" "str" = some false; decide +kernel) | (show kitB "tuple" "str" = some false; decide +kernel)
theorem Rp.ty {K : PySem.W.Frag} {H : Hp} {v : V} {d : PyData} (r : Rp K H v d) : TyX K H v (.type (tyN d)) ∧ ∀ k, d ≠ .dict k := by
  cases r with
  | non => exact ⟨.base .non, fun k z => nomatch z⟩
  | bl b => exact ⟨.base (.bl b), fun k z => nomatch z⟩
  | int b => exact ⟨.base (.int b), fun k z => nomatch z⟩
  | str b => exact ⟨.base (.str b), fun k z => nomatch z⟩
  | lst h _ => exact ⟨.base (.lst h), fun k z => nomatch z⟩
  | tup h _ => exact ⟨.base (.tup h), fun k z => nomatch z⟩
section
variable {Γ : Fam} {G : Cg} {e e1 e2 : Expr} {es : List Expr} {pos : Pos}
theorem dx_isi {p pT : Pos} {T : Str} {n : String} {b : PyData → Bool} {f : Ev → Out PyData} (h : DX Γ G e f) (hk : ∀ d, (∀ k, d ≠ .dict k) → kitB (tyN d) n = some (b d)) (hg : ∀ i, Gl (Γ.X i) "isinstance") (hm : ∀ i, (Γ.X i).mg "isinstance" = none) (hgT : ∀ i, Gl (Γ.X i) T) (hmT : ∀ i, (Γ.X i).mg T = none) (hvT : bootBuiltins T = some (.type n))
    (hnT : T ≠ "__name__" := by decide) (hdT : (T == ("__debug__" : Str)) = false := by decide)
    (hs : ∀ i, starEach [e, .Name T pT] (Γ.X i).env = (false, eval e (Γ.X i).env) :: starEach [.Name T pT] (Γ.X i).env := by intro _; rfl) (hs2 : ∀ i, starEach [.Name T pT] (Γ.X i).env = (false, eval (.Name T pT) (Γ.X i).env) :: starEach [] (Γ.X i).env := by intro _; rfl) (hpl : ∀ i, (backTo pos (starEach [.Name T pT] (Γ.X i).env)).any (·.1) = false := by intro _; rfl) :
    DX Γ G (.Call (.Name "isinstance" p) [e, .Name T pT] [] pos) (fun ρ => (f ρ).bind fun d ρ1 => .ok (.bool (b d)) ρ1) := by
  obtain ⟨t, p1, q⟩ := h.ex
  refine ⟨tCB (rIsi Γ.K) (tCons t (tCons (tC (.ty n)) tNil)), fun i => ?_, fun σ τ hn H ρ F Q R h => q σ τ hn H ρ F _ R (Post.bind h fun d ρ1 v H1 F1 s1 R1 o1 h1 => ?_)⟩
  · have z := pe_callB (pos := pos) (p := p) (call_isi (X := Γ.X i)) (hg i) (hm i) (by first | exact PySem.boot_isinstance | exact PyProof.Rows.boot_isinstance | decide +kernel) (pa_cons (p1 i) (pa_cons (pe_bltn (hgT i) (hmT i) hvT (v := .ty n) rfl hnT hdT) pa_nil (hs2 i)) (hs i)) (by decide) (by decide) (hs i) (hpl i)
    rw [Γ.hK i] at z
    exact z
  · obtain ⟨ty, nd⟩ := (o1.mono R1.sub).ty
    exact ⟨v, .ty n, .type (tyN d), .type n, b d, rfl, .ty n, ty, kit_ty (hk d nd), h1 _ H1 F1 (Same.refl _) R1 (.bl _)⟩
end
/-! ### sorted, min, max of a list of data -/
def dLe (a b : PyData) : Bool := !dataLt b a
def tupNe : PyData → Bool
  | .tuple (_ :: _) => true
  | _ => false
def flatS : PyData → Bool
  | .tuple _ => false
  | .none => false
  | _ => true
def alikeOk (ds : List PyData) : Bool := ds.all (fun a => ds.all (alike a)) && ds.all (fun d => Nat.ble d.depth 60)
def sortOk (ds : List PyData) : Bool := alikeOk ds && (ds.all tupNe || ds.all flatS) && Nat.ble ds.length line
theorem sortOk_of {ds : List PyData} (h : sortOk ds = true) : AllAlike ds ∧ Sortable ds ∧ ds.length ≤ sizeLine ∧ ∀ d ∈ ds, d.depth ≤ 60 := by
  unfold sortOk alikeOk at h
  simp only [Bool.and_eq_true, Bool.or_eq_true, List.all_eq_true] at h
  obtain ⟨⟨⟨h1, h2⟩, h3⟩, h4⟩ := h
  refine ⟨fun d hd d' hd' => h1 d hd d' hd', ?_, by rw [line_eq]; exact Nat.le_of_ble_eq_true h4, fun d hd => Nat.le_of_ble_eq_true (h2 d hd)⟩
  rcases h3 with h3 | h3
  · refine .inl fun d hd => ?_
    have := h3 d hd
    cases d with
    | tuple xs =>
      cases xs with
      | nil => cases this
      | cons x r => exact ⟨x, r, rfl⟩
    | _ => cases this
  · refine .inr fun d hd => ?_
    have := h3 d hd
    exact ⟨fun z => (by rw [z] at this; cases this), fun xs z => (by rw [z] at this; cases this)⟩
def srt (ds : List PyData) (vs : List V) : List (PyData × V) := (ds.zip vs).mergeSort (dataLe false Prod.fst)
def rSortD (K : PySem.W.Frag) : List V → Hp → VK → Prop := fun xs H Q => ∃ (a : Addr) (vs : List V) (ds : List PyData), xs = [.ref a] ∧ SqL K H a vs ∧ DpAll K H vs ds ∧ sortOk ds = true ∧ ∀ p, H p = none → Q (.ref p) (upd H p (.lst ((srt ds vs).map (·.2))))
theorem DpAll.len {K : PySem.W.Frag} {H : Hp} : ∀ {ds : List PyData} {vs : List V}, DpAll K H vs ds → vs.length = ds.length
  | [], _, h => by cases h; rfl
  | d :: ds, _, h => by
    cases h with
    | cons h1 h2 => rw [List.length_cons, List.length_cons, DpAll.len h2]
theorem each_zip {K : PySem.W.Frag} {X : Cx} {pins : List (Addr × Obj)} {σ : L2.St} {H : Hp} {s : Shared} (I : Inv X pins σ H s) : ∀ {ds : List PyData} {vs : List V} {us : List Value}, DpAll X.K H vs ds → Vals vs us →
    EachIs (fun (u : Value) (b : PyData × V) => RelV b.2 u) us (ds.zip vs) ∧ EachIs (fun (u : Value) (b : PyData × V) => ∃ as, Reads s.heap u b.1 as) us (ds.zip vs)
  | [], _, _, h, r => by cases h; cases r; exact ⟨.nil, .nil⟩
  | d :: ds, _, _, h, r => by
    cases h with
    | cons h1 h2 =>
      cases r with
      | cons r1 r2 =>
        obtain ⟨a, b⟩ := each_zip (K := K) I h2 r2
        exact ⟨.cons r1 a, .cons (Dp.reads I d _ _ h1 r1) b⟩
theorem vals_each : ∀ {us : List Value} {bs : List (PyData × V)}, EachIs (fun (u : Value) (b : PyData × V) => RelV b.2 u) us bs → Vals (bs.map (·.2)) us
  | _, _, .nil => .nil
  | _, _, .cons r t => .cons r (vals_each t)
theorem zip_fst {α β : Type} : ∀ {l : List α} {m : List β}, m.length = l.length → (l.zip m).map (·.1) = l
  | [], _, _ => rfl
  | a :: l, [], h => by cases h
  | a :: l, b :: m, h => by
    show a :: (l.zip m).map (·.1) = a :: l
    rw [zip_fst (by simpa using h)]
theorem cr_sortD {X : Cx} (hu : X.A.units + 80 < cLine) : CallR X (.builtin "sorted") (rSortD X.K) := by
  intro pins s σ H xs us Q I r h
  obtain ⟨a, vs, ds, rfl, hs, hd, ho, q⟩ := h
  obtain ⟨its, rv, hl, hz⟩ := I.list hs
  rw [Vals.ref1 r]
  obtain ⟨o1, o2, o3, o4⟩ := sortOk_of ho
  obtain ⟨e1, e2⟩ := each_zip (K := X.K) I hd rv
  have hlen : vs.length = ds.length := DpAll.len hd
  have ez : (ds.zip vs).map Prod.fst = ds := zip_fst hlen
  have lz : (ds.zip vs).length = ds.length := by rw [List.length_zip, hlen, Nat.min_self]
  refine sorted_data (enc := Prod.fst) hl.isList e1 e2 (by rw [ez]; exact o1) (by rw [ez]; exact o2) (by rw [lz]; exact o3) (fun b hb => ?_) fun out l1 h1 => ?_
  · have := o4 b.1 (by rw [← ez]; exact List.mem_map.mpr ⟨b, hb, rfl⟩)
    omega
  · obtain ⟨ep, he'⟩ := PyProof.Rows.sortedAll_at s.heap its out.toArray
    have hv := vals_each h1
    have hlen2 : ((srt ds vs).map (·.2)).length ≤ sizeLine := by
      unfold srt
      rw [List.length_map, List.length_mergeSort, lz]
      exact o3
    exact ⟨.ref _, upd H (s.heap.objs.size + 1) (.lst ((srt ds vs).map (·.2))), I.laid (t' := s.toks) (fun _ _ => PyProof.Rows.sortedAll_old) (Nat.le_succ _) ⟨hlen2, out, ep, hv, he'⟩, rfl, q _ (I.hok.fresh (Nat.le_succ _))⟩
theorem RpA.of_pairs {K : PySem.W.Frag} {F : Hp} : ∀ {bs : List (PyData × V)}, (∀ b ∈ bs, Rp K F b.2 b.1) → RpA K F (bs.map (·.2)) (bs.map (·.1))
  | [], _ => .nil
  | b :: bs, h => .cons (h b List.mem_cons_self) (RpA.of_pairs fun c hc => h c (List.mem_cons_of_mem _ hc))
theorem RpA.pairs {K : PySem.W.Frag} {F : Hp} : ∀ {ds : List PyData} {vs : List V}, RpA K F vs ds → ∀ b ∈ ds.zip vs, Rp K F b.2 b.1
  | [], _, h, b, hb => by simp at hb
  | d :: ds, _, h, b, hb => by
    cases h with
    | cons h1 h2 =>
      rcases List.mem_cons.mp hb with z | z
      · rw [z]; exact h1
      · exact RpA.pairs h2 b z
theorem srt_fst {ds : List PyData} {vs : List V} (h : vs.length = ds.length) : (srt ds vs).map (·.1) = ds.mergeSort dLe := by
  unfold srt
  have e := sort_maps (r := dataLe false Prod.fst) (s := dLe) Prod.fst (l := ds.zip vs) fun a _ b _ => rfl
  rw [zip_fst h] at e
  exact e
def dSorted : List PyData → Option Sl
  | [.list ds] => if sortOk ds = true then some (.own (.list (ds.mergeSort dLe))) else none
  | _ => none
theorem cv_sorted {K : PySem.W.Frag} : CallV K (rSortD K) dSorted := by
  intro G σ H ρ F xs ds s Q R ra e q
  match ds, e with
  | [.list ds], e =>
    have e : (if sortOk ds = true then some (Sl.own (.list (ds.mergeSort dLe))) else none) = some s := e
    split at e
    · next ho =>
      cases e
      obtain ⟨x, rfl, h⟩ := ra.one
      obtain ⟨p, vs, rfl, h1, h2⟩ := h.list R.sub
      refine ⟨p, vs, ds, rfl, h1, (h2.mono R.sub).dp, ho, fun p hp => ?_⟩
      have hr : RpA K F ((srt ds vs).map (·.2)) (ds.mergeSort dLe) := by
        rw [← srt_fst h2.length]
        exact RpA.of_pairs fun b hb => h2.pairs b ((List.mergeSort_perm _ _).mem_iff.mp hb)
      obtain ⟨R1, o1⟩ := R.newLst hp hr
      exact q _ _ _ (Same.refl _) R1 o1
    · cases e
/-- min, max of a list -/
def minOk (ds : List PyData) : Bool := alikeOk ds && ds.all fun d => !isN d
def rMinD (K : PySem.W.Frag) (pick : PyData → List PyData → PyData) : List V → Hp → VK → Prop := fun xs H Q => ∃ (a : Addr) (vs : List V) (d : PyData) (ds : List PyData), xs = [.ref a] ∧ SqL K H a vs ∧ DpAll K H vs (d :: ds) ∧ minOk (d :: ds) = true ∧ ∀ (i : Nat) (v : V), vs[i]? = some v → (d :: ds)[i]? = some (pick d ds) → Q v H
theorem minOk_of {ds : List PyData} (h : minOk ds = true) : AlikeAll ds ∧ ∀ d ∈ ds, d.depth ≤ 60 := by
  unfold minOk alikeOk at h
  simp only [Bool.and_eq_true, List.all_eq_true] at h
  obtain ⟨⟨h1, h2⟩, h3⟩ := h
  exact ⟨⟨fun d hd d' hd' => h1 d hd d' hd', fun d hd z => by have := h3 d hd; rw [z] at this; cases this⟩, fun d hd => Nat.le_of_ble_eq_true (h2 d hd)⟩
theorem depthAll_le {n : Nat} : ∀ {ds : List PyData}, (∀ d ∈ ds, d.depth ≤ n) → PyData.depthAll ds ≤ n
  | [], _ => by unfold PyData.depthAll; omega
  | d :: ds, h => by
    unfold PyData.depthAll
    have h1 := h d List.mem_cons_self
    have h2 := depthAll_le (ds := ds) fun x hx => h x (List.mem_cons_of_mem _ hx)
    omega
theorem foldMin_mem {f : PyData → PyData → Bool} : ∀ (ds : List PyData) (d : PyData), ds.foldl (fun a y => if f y a = true then y else a) d ∈ d :: ds
  | [], d => List.mem_cons_self
  | x :: ds, d => by
    show ds.foldl _ (if f x d = true then x else d) ∈ _
    have := foldMin_mem (f := f) ds (if f x d = true then x else d)
    rcases List.mem_cons.mp this with z | z
    · rw [z]
      split
      · exact List.mem_cons_of_mem _ List.mem_cons_self
      · exact List.mem_cons_self
    · exact List.mem_cons_of_mem _ (List.mem_cons_of_mem _ z)
theorem min_pick {X : Cx} {pins : List (Addr × Obj)} {σ : L2.St} {H : Hp} {s : Shared} {vs : List V} {ds : List PyData} {its : List Value} {m : PyData} {Q : VK} (I : Inv X pins σ H s) (rv : Vals vs its) (hd : DpAll X.K H vs ds) (hm : m ∈ ds) (ha : AlikeAll ds) (q : ∀ (i : Nat) (v : V), vs[i]? = some v → ds[i]? = some m → Q v H)
    (i : Nat) (u : Value) (h' : Heap) (tk : Nat) (bs : List Addr) (e : its.toArray[i]? = some u) (r : Reads h' u m bs) (k : ∀ b o, s.heap.get? b = some o → h'.get? b = some o) : EP X pins σ Q u { s with heap := h', toks := tk } := by
  have e' : its[i]? = some u := by simpa using e
  obtain ⟨as, ra⟩ := Dp.readsAll I ds vs its hd rv
  obtain ⟨cs, r2, hlt, hmem, _⟩ := readsAll_at ra i u e'
  have := alike_unique _ _ u cs bs (ha.1 _ hmem _ hm) (reads_keeps k r2) r
  have hlt' : i < vs.length := by rw [DpAll.len hd]; exact hlt
  obtain ⟨u', e2, r3⟩ := rv.get (List.getElem?_eq_getElem hlt')
  rw [e'] at e2
  cases e2
  refine ⟨vs[i], H, I.kept (t' := tk) k, r3, q i _ (List.getElem?_eq_getElem hlt') ?_⟩
  rw [← this, List.getElem?_eq_getElem hlt, List.getD_eq_getElem?_getD, List.getElem?_eq_getElem hlt]
  rfl
theorem cr_minD {X : Cx} (hu : X.A.units + 80 < cLine) (hc : X.calm = true) : CallR X (.builtin "min") (rMinD X.K minD) := by
  intro pins s σ H xs us Q I r h
  obtain ⟨a, vs, d, ds, rfl, hs, hd, ho, q⟩ := h
  obtain ⟨its, rv, hl, hz⟩ := I.list hs
  rw [Vals.ref1 r]
  obtain ⟨o1, o2⟩ := minOk_of ho
  obtain ⟨as, ra⟩ := Dp.readsAll I (d :: ds) vs its hd rv
  exact min_list_data (I.ok.hd hc) hl.isList ra o1 (by have := depthAll_le o2; omega) fun i u h' tk bs e r k => min_pick I rv hd (foldMin_mem ds d) o1 q i u h' tk bs e r k
theorem cr_maxD {X : Cx} (hu : X.A.units + 80 < cLine) (hc : X.calm = true) : CallR X (.builtin "max") (rMinD X.K maxD) := by
  intro pins s σ H xs us Q I r h
  obtain ⟨a, vs, d, ds, rfl, hs, hd, ho, q⟩ := h
  obtain ⟨its, rv, hl, hz⟩ := I.list hs
  rw [Vals.ref1 r]
  obtain ⟨o1, o2⟩ := minOk_of ho
  obtain ⟨as, ra⟩ := Dp.readsAll I (d :: ds) vs its hd rv
  exact max_list_data (I.ok.hd hc) hl.isList ra o1 (by have := depthAll_le o2; omega) fun i u h' tk bs e r k => min_pick I rv hd (foldMin_mem (f := fun y a => dataLt a y) ds d) o1 q i u h' tk bs e r k
def dMin : List PyData → Option Sl
  | [.list (d :: ds)] => if minOk (d :: ds) = true then some (.dat (minD d ds)) else none
  | _ => none
def dMax : List PyData → Option Sl
  | [.list (d :: ds)] => if minOk (d :: ds) = true then some (.dat (maxD d ds)) else none
  | _ => none
theorem cv_pick {K : PySem.W.Frag} {pick : PyData → List PyData → PyData} {g : List PyData → Option Sl} (hg : ∀ l s, g l = some s → ∃ d ds, l = [.list (d :: ds)] ∧ minOk (d :: ds) = true ∧ s = .dat (pick d ds)) : CallV K (rMinD K pick) g := by
  intro G σ H ρ F xs ds s Q R ra e q
  obtain ⟨d, ds, rfl, ho, rfl⟩ := hg _ _ e
  obtain ⟨x, rfl, h⟩ := ra.one
  obtain ⟨p, vs, rfl, h1, h2⟩ := h.list R.sub
  refine ⟨p, vs, d, ds, rfl, h1, (h2.mono R.sub).dp, ho, fun i v e1 e2 => ?_⟩
  obtain ⟨d', e3, e4⟩ := h2.get' e1
  rw [e2] at e3
  cases e3
  exact q v H F (Same.refl _) R e4
theorem cv_min {K : PySem.W.Frag} : CallV K (rMinD K minD) dMin := cv_pick fun l s e => by
  match l, e with
  | [.list (d :: ds)], e =>
    have e : (if minOk (d :: ds) = true then some (Sl.dat (minD d ds)) else none) = some s := e
    split at e
    · next ho => cases e; exact ⟨d, ds, rfl, ho, rfl⟩
    · cases e
theorem cv_max {K : PySem.W.Frag} : CallV K (rMinD K maxD) dMax := cv_pick fun l s e => by
  match l, e with
  | [.list (d :: ds)], e =>
    have e : (if minOk (d :: ds) = true then some (Sl.dat (maxD d ds)) else none) = some s := e
    split at e
    · next ho => cases e; exact ⟨d, ds, rfl, ho, rfl⟩
    · cases e

/-! ### a list's item stored; append -/
section
variable {Γ : Fam} {G : Cg} {e e1 e2 : Expr} {es : List Expr} {pos : Pos}
def putIx (k : Nat) (i : PyData) (d : PyData) (ρ : Ev) : Out Flw := match ρ[k]?, i with
  | some (.own (.list ds)), .int j => (match ixN ds.length j with
    | some n => .ok .nx (ρ.set k (.own (.list (ds.set n d))))
    | none => .bad)
  | _, _ => .bad
/-- name[index] = value -/
theorem ds_setIx {k : Nat} {tpos : Pos} {f g : Ev → Out PyData} (hv : DX Γ G e f) (hk : ∀ i, PE (Γ.X i) e1 (tVar k)) (hk' : Nat.blt k Γ.n = true) (hi : DX Γ G e2 g) (hps : ∀ i tv ti, PE (Γ.X i) e tv → PE (Γ.X i) e2 ti → PS (Γ.X i) (.Assign [.Subscript e1 e2 tpos] e pos) (tAsg tv (gSub (tVar k) ti rSetL))) :
    DS Γ G (.Assign [.Subscript e1 e2 tpos] e pos) (fun ρ => (f ρ).bind fun d ρ1 => (lift (see ρ1[k]?) ρ1).bind fun _ ρ2 => (g ρ2).bind fun i ρ3 => putIx k i d ρ3) := by
  obtain ⟨t, p, q⟩ := hv.ex
  obtain ⟨t2, p2, q2⟩ := hi.ex
  refine ⟨_, fun i => hps i t t2 (p i) (p2 i), fun σ hn H ρ F D R h => ?_⟩
  refine q0 (ok := fun _ => okX Γ.K) q σ hn H ρ F _ R (PostS.bindE hn h fun d ρ1 v H1 F1 s1 R1 o1 h1 => ?_)
  cases z : see ρ1[k]? with
  | none => rw [z] at h1; exact h1.elim
  | some dk =>
    rw [z] at h1
    obtain ⟨v1, a1, b1⟩ := R1.see z
    refine ⟨v1, a1, ?_⟩
    have h1 : PostS Γ.K G Γ.n F1 ((g ρ1).bind fun i ρ3 => putIx k i d ρ3) D := h1
    refine q0 (ok := fun _ => okX Γ.K) q2 σ hn H1 ρ1 F1 _ R1 (PostS.bindE hn h1 fun i ρ2 vi H2 F2 s2 R2 o2 h2 => ?_)
    unfold putIx at h2
    split at h2
    · next ds j e3 =>
      split at h2
      · next n en =>
        cases o2
        obtain ⟨p, x1, x2, x3, x4⟩ := R2.sl k _ e3
        rw [a1] at x1
        cases x1
        cases x3 with
        | @lst ws _ w1 w2 =>
          have en' : ixN ws.length j = some n := by rw [w2.length]; exact en
          refine ⟨p, ws, j, n, rfl, rfl, w1, en', ?_⟩
          exact h2 σ _ F2 hn (Same.refl _) (R2.change e3 a1 (.lst upd_same (w2.set n (o1.mono s2))))
      · exact h2.elim
    · exact h2.elim
/-- name.append(value) -/
def isOwnL : Option Sl → Bool
  | some (.own (.list _)) => true
  | _ => false
def app (k : Nat) (d : PyData) (ρ : Ev) : Out PyData := match ρ[k]? with
  | some (.own (.list ds)) => if ds.length < line then .ok .none (ρ.set k (.own (.list (ds ++ [d])))) else .bad
  | _ => .bad
theorem dx_append {k : Nat} {apos : Pos} {f : Ev → Out PyData} (hk : ∀ i, PE (Γ.X i) e1 (tVar k)) (hk' : Nat.blt k Γ.n = true) (hv : DX Γ G e f) (hbase : ∀ i, attributeBase e1 "append" (Γ.X i).env (eval e1 (Γ.X i).env) = eval e1 (Γ.X i).env := by intro _; rfl)
    (hfew : ∀ i, ((backTo pos (starEach [e] (Γ.X i).env)).all (fun x => !x.1) && (backToKw pos (keywordEach [] (Γ.X i).env)).all (fun x => x.1.isSome) && decide ([e].length + ([] : List Keyword).length + (if ([] : List Keyword).isEmpty then 0 else 1) < 30)) = true := by intro _; rfl)
    (hline : (apos.endLine == pos.line) = true := by rfl) (hs : ∀ i, starEach [e] (Γ.X i).env = (false, eval e (Γ.X i).env) :: starEach [] (Γ.X i).env := by intro _; rfl) (hplain : ∀ i, (backTo pos (starEach [] (Γ.X i).env)).any (·.1) = false := by intro _; rfl) :
    DX Γ G (.Call (.Attribute e1 "append" apos) [e] [] pos) (fun ρ => if isOwnL ρ[k]? = true then (f ρ).bind fun d ρ1 => app k d ρ1 else .bad) := by
  obtain ⟨t, p, q⟩ := hv.ex
  refine ⟨tBM Γ.K "list" rAppend (tVar k) (tCons t tNil), fun i => ?_, fun σ τ hn H ρ F Q R h => ?_⟩
  · have z := pe_bm (X := Γ.X i) (apos := apos) (cpos := pos) PySem.F.plainAttrs_list PySem.F.slot_list_append PySem.F.type_list_append mt_append (hk i) (pa_cons (p i) pa_nil (hs i)) (hbase i) (hfew i) hline (hs i) (hplain i)
    rw [Γ.hK i] at z
    exact z
  · split at h
    · next ho =>
      cases z : ρ[k]? with
      | none => rw [z] at ho; cases ho
      | some sl =>
        cases sl with
        | own d =>
          cases d with
          | list ds =>
            obtain ⟨p, x1, x2, x3, x4⟩ := R.sl k _ z
            cases x3 with
            | @lst ws _ w1 w2 =>
              refine ⟨.ref p, ghost hn hk' x1, .inl ⟨rfl, ws, SqL.of w1⟩, q σ τ hn H ρ F _ R (Post.bind h fun d ρ1 v H1 F1 s1 R1 o1 h1 => ?_)⟩
              unfold app at h1
              split at h1
              · next ds' e3 =>
                split at h1
                · next hz =>
                  obtain ⟨p', y1, y2, y3, y4⟩ := R1.sl k _ e3
                  have : p' = p := by rw [x1] at y1; cases y1; rfl
                  subst this
                  cases y3 with
                  | @lst ws' _ w1' w2' =>
                    refine ⟨p', ws', v, rfl, rfl, w1', by rw [w2'.length, line_eq]; exact hz, ?_⟩
                    exact h1 _ _ F1 (Same.refl _) (R1.change e3 y1 (.lst upd_same (w2'.append (.cons o1 .nil)))) .non
                · exact h1.elim
              · exact h1.elim
          | _ => rw [z] at ho; cases ho
        | _ => rw [z] at ho; cases ho
    · exact h.elim
end
end DL
namespace HT
open PySem PySem.Spec PyProof.Rows L2
section
variable {prog : Program} {w : World} {A : Around} {E : Value → Shared → Prop} {s : Shared}
theorem adjust_rev (n : Nat) : Builtin.Slice.sliceAdjust none none (-1) (n : Int) = ((n : Int) - 1, -1) := by
  unfold Builtin.Slice.sliceAdjust
  simp
theorem places_rev (n : Nat) : Builtin.Slice.slicePlaces ((n : Int) - 1) (-1) (-1) = n := by
  unfold Builtin.Slice.slicePlaces
  simp
  try omega
theorem sliceApplied_rev {sl : Addr} {vl vu vs : Value} {n : Nat} {Q : Int × Int × Nat → Shared → Prop} (hs : s.heap.IsSliceOf sl vl vu vs) (pl : IsPart vl none) (pu : IsPart vu none) (ps : IsPart vs (some (-1)))
    (h : Q ((n : Int) - 1, -1, n) s) : wpAny (model prog w) A (Builtin.Slice.sliceApplied (.ref sl) (pure (n : Int))) Q E s := by
  obtain ⟨os, hos, hcs, hds⟩ := id hs
  unfold Builtin.Slice.sliceApplied Builtin.Slice.sliceFields
  refine wpAny_bind (wpAny_bind (wpAny_field hos hds (x := vl) rfl (wpAny_bind (wpAny_field hos hds (x := vu) rfl (wpAny_bind (wpAny_field hos hds (x := vs) rfl (wpAny_pure ?_)))))))
  refine wpAny_bind (slicePart_ ps ?_)
  show wpAny _ _ (if ((-1 : Int) == 0) = true then _ else _) _ _ s
  rw [if_neg (by decide)]
  refine wpAny_bind (slicePart_ pl (wpAny_bind (slicePart_ pu (wpAny_bind (wpAny_pure ?_)))))
  show wpAny _ _ (match Builtin.Slice.sliceAdjust none none (-1) (n : Int) with | (lo, hi) => pure (lo, (-1 : Int), Builtin.Slice.slicePlaces lo hi (-1))) _ _ s
  rw [adjust_rev n]
  show wpAny _ _ (pure ((n : Int) - 1, (-1 : Int), Builtin.Slice.slicePlaces ((n : Int) - 1) (-1) (-1))) _ _ s
  rw [places_rev]
  exact wpAny_pure h
theorem fm_congr {f g : Nat → Option Value} : ∀ {l : List Nat}, (∀ m ∈ l, f m = g m) → l.filterMap f = l.filterMap g
  | [], _ => rfl
  | a :: l, h => by
    rw [List.filterMap_cons, List.filterMap_cons, h a List.mem_cons_self, fm_congr fun m hm => h m (List.mem_cons_of_mem _ hm)]
theorem pick_rev (xs : Array Value) : ((List.range xs.size).filterMap fun (m : Nat) => xs[((xs.size : Int) - 1 + (m : Int) * (-1)).toNat]?).toArray = xs.toList.reverse.toArray := by
  have e : (List.range xs.size).filterMap (fun (m : Nat) => xs[((xs.size : Int) - 1 + (m : Int) * (-1)).toNat]?) = xs.toList.reverse := by
    have h1 : (List.range xs.size).filterMap (fun (m : Nat) => xs[((xs.size : Int) - 1 + (m : Int) * (-1)).toNat]?) = (List.range xs.size).filterMap fun m => xs.toList.reverse[m]? := by
      refine fm_congr fun m hm => ?_
      have hm : m < xs.size := List.mem_range.mp hm
      have e1 : ((xs.size : Int) - 1 + (m : Int) * (-1)).toNat = xs.size - 1 - m := by omega
      rw [e1, List.getElem?_reverse (by rw [Array.length_toList]; exact hm), Array.length_toList, Array.getElem?_toList]
    rw [h1]
    have h2 : ∀ l : List Value, (List.range l.length).filterMap (fun m => l[m]?) = l := by
      intro l
      refine List.ext_getElem? fun i => ?_
      induction l generalizing i with
      | nil => rfl
      | cons a l ih =>
        rw [List.length_cons, List.range_succ_eq_map, List.filterMap_cons]
        show (a :: List.filterMap _ (List.map Nat.succ (List.range l.length)))[i]? = _
        cases i with
        | zero => rfl
        | succ i =>
          rw [List.filterMap_map]
          exact ih i
    have h3 := h2 xs.toList.reverse
    rw [List.length_reverse, Array.length_toList] at h3
    exact h3
  rw [e]
theorem getItem_tuple_rev {t sl : Addr} {items : Array Value} {vl vu vs : Value} {Q : Value → Shared → Prop} (ht : IsTup s.heap t items) (hs : s.heap.IsSliceOf sl vl vu vs) (pl : IsPart vl none) (pu : IsPart vu none) (ps : IsPart vs (some (-1)))
    (h : Q (.ref s.heap.objs.size) { s with heap := s.heap.push { cls := .type "tuple", data := .seq items.toList.reverse.toArray } }) (hsz : items.size ≤ sizeLine) : wpAny (model prog w) A (getItem (.ref t) (.ref sl)) Q E s := by
  have htake : sizeOk (.seq items.toList.reverse.toArray) := by
    show items.toList.reverse.toArray.size ≤ sizeLine
    rw [List.size_toArray, List.length_reverse, Array.length_toList]
    exact hsz
  obtain ⟨os, hos, hcs, hds⟩ := id hs
  have hTs : s.TypeIs (.ref sl) "slice" := ⟨os, hos, hcs⟩
  unfold getItem
  try with_reducible refine wpAny_holding ?_
  first | refine wpAny_bind (wpAny_pure ?_) | skip
  refine wpAny_bind (wpAny_sequenceKey ht.typeIs (by decide) ?_)
  refine wpAny_bind (wpAny_callSpecial?_slot (name := Str.ofString "__getitem__") ht.typeIs PyProof.Rows.slot_tuple_getitem
    (wpAny_call_entry PyProof.Rows.slot_tuple_getitem ht.typeIs entry_tuple_getitem ?_ (args_tuple_getitem _ _)))
  show wpAny _ _ (Builtin.Tuple.tupleItemsOf (.ref t) >>= _) _ _ s
  refine wpAny_bind (tupleItemsOf_ ht ?_)
  refine wpAny_bind (wpAny_typeOf hTs ?_)
  rw [if_pos (by decide)]
  refine wpAny_bind (sliceApplied_rev hs pl pu ps ?_)
  have hno : ¬ ((((items.size : Int) - 1) == 0 && (-1 : Int) == 1 && items.size == items.size) = true) := by simp
  show wpAny _ _ (if (((items.size : Int) - 1) == 0 && (-1 : Int) == 1 && items.size == items.size) = true then _ else _) _ _ s
  rw [if_neg hno, pick_rev]
  first
    | exact wpAny_bind (m := Builtin.Tuple.tupleExact _) (wpAny_newObj_type (wpAny_pure ⟨_, rfl, wpAny_pure h⟩) htake)
    | exact wpAny_bind (m := Builtin.Tuple.tupleExact _) (wpAny_newObj_type (wpAny_bind (wpAny_pure (wpAny_pure ⟨_, rfl, wpAny_pure h⟩))) htake)
    | exact wpAny_bind (wpAny_bind (m := Builtin.Tuple.tupleExact _) (wpAny_newObj_type (wpAny_pure (wpAny_pure ⟨_, rfl, wpAny_pure h⟩)) htake))
    | exact wpAny_bind (wpAny_bind (m := Builtin.Tuple.tupleExact _) (wpAny_newObj_type (wpAny_pure ⟨_, rfl, wpAny_pure h⟩) htake))
end
end HT
namespace DL
open PySem PySem.Spec PyProof.Rows L2 PySem.W
/-- xs[::-1] of a list or a tuple -/
def tRevA (K : PySem.W.Frag) (te : TE) : TE := fun σ H Q => te σ H fun x H1 => ∃ a xs, x = .ref a ∧ ((SqL K H1 a xs ∧ ∀ p, H1 p = none → Q (.ref p) (upd H1 p (.lst xs.reverse))) ∨ (SqT K H1 a xs ∧ ∀ p, H1 p = none → Q (.ref p) (upd H1 p (.tup xs.reverse))))
theorem pe_revA {X : Cx} {e : Expr} {te : TE} {k : Nat} {p1 p2 p3 pos : Pos} (he : PE X e te) : PE X (.Subscript e (.Slice none none (some (.UnaryOp .USub (.Constant (.int 1) k p1) p2)) p3) pos) (tRevA X.K te) := by
  refine ⟨fun pins s σ H Q I h => ?_⟩
  refine Subscript_ (thn (he.run pins s σ H _ I h) fun v s1 ⟨x, H1, I1, r1, q1⟩ => ?_)
  obtain ⟨a, xs, ex, hx⟩ := q1
  subst ex
  cases r1
  have hst : PO X (some (.UnaryOp .USub (.Constant (.int 1) k p1) p2)) (tPart (tUn (rU fun i => .int (-i)) (tC (.int 1)))) := po_some (pe_un un_neg pe_int)
  refine wpAny_Slice (thn (po_none.run pins s1 σ H1 (fun o H2 => o = none ∧ H2 = H1) I1 ⟨rfl, rfl⟩) fun vl s2 ⟨l, H2, I2, pl, el, e2⟩ => ?_)
  subst el e2
  refine thn (po_none.run pins s2 σ H2 (fun o H3 => o = none ∧ H3 = H2) I2 ⟨rfl, rfl⟩) fun vu s3 ⟨u, H3, I3, pu, eu, e3⟩ => ?_
  subst eu e3
  refine thn (hst.run pins s3 σ H3 (fun o H4 => o = some (-1) ∧ H4 = H3) I3 ⟨1, rfl, -1, rfl, rfl, rfl⟩) fun vs s4 ⟨o, H4, I4, ps, eo, e4⟩ => ?_
  subst eo e4
  have I5 : Inv X pins σ H4 { s4 with heap := s4.heap.push { cls := .type "slice", data := .fields #[vl, vu, vs] } } := I4.kept (t' := s4.toks) fun b ob q => Heap.get?_push_of_some _ q
  show wpAny (model X.prog X.w) X.A (subscriptTail e (.Slice none none (some (.UnaryOp .USub (.Constant (.int 1) k p1) p2)) p3) (.ref a) (.ref s4.heap.objs.size)) (EP X pins σ Q) X.xe { s4 with heap := s4.heap.push { cls := .type "slice", data := .fields #[vl, vu, vs] } }
  rcases hx with ⟨hx, q⟩ | ⟨hx, q⟩
  · obtain ⟨its, r, ht, hz⟩ := I5.list hx
    have hlen := r.length
    refine tail_any (ops := [.ref a, .ref s4.heap.objs.size]) ht.isList.typeIs (PySem.slot_list_getitem.lookup) ?_ (by with_unfolding_all rfl)
    refine wpAny_getItem_list_slice ht.isList (Heap.IsSliceOf.new _ vl vu vs) pl pu ps (by decide) ?_ (by rw [List.size_toArray]; omega)
    rw [PySem.W.krv_pick]
    refine ⟨.ref _, _, I5.laid (t' := s4.toks) (o := .lst xs.reverse) (fun b ob q => Heap.get?_push_of_some _ q) (Nat.le_refl _) ?_, rfl, q _ (I5.hok.fresh (Nat.le_refl _))⟩
    exact ⟨by rw [List.length_reverse]; exact hz, _, 0, r.reverse, Heap.get?_push_size _ rfl⟩
  · obtain ⟨its, r, ht, hz⟩ := I5.tuple hx
    have hlen := r.length
    refine tail_any (ops := [.ref a, .ref s4.heap.objs.size]) ht.typeIs (PyProof.Rows.slot_tuple_getitem.lookup) ?_ (by with_unfolding_all rfl)
    refine HT.getItem_tuple_rev ht (Heap.IsSliceOf.new _ vl vu vs) pl pu ps ?_ (by rw [List.size_toArray]; omega)
    refine ⟨.ref _, _, I5.laid (t' := s4.toks) (o := .tup xs.reverse) (fun b ob q => Heap.get?_push_of_some _ q) (Nat.le_refl _) ?_, rfl, q _ (I5.hok.fresh (Nat.le_refl _))⟩
    exact ⟨by rw [List.length_reverse]; exact hz, _, r.reverse, IsTup.new _ _⟩
def dRev : PyData → Option Sl
  | .list ds => some (.own (.list ds.reverse))
  | .tuple ds => some (.dat (.tuple ds.reverse))
  | _ => none
section
variable {Γ : Fam} {G : Cg} {e e1 e2 : Expr} {es : List Expr} {pos : Pos}
theorem de_rev {k : Nat} {p1 p2 p3 : Pos} {f : Ev → Out PyData} (h : DV Γ G e f) : DE Γ G (.Subscript e (.Slice none none (some (.UnaryOp .USub (.Constant (.int 1) k p1) p2)) p3) pos) (fun ρ => (f ρ).bind fun a ρ1 => lift (dRev a) ρ1) := by
  obtain ⟨t1, q1, q2⟩ := h.ex
  refine ⟨tRevA Γ.K t1, fun i => by have z := pe_revA (k := k) (p1 := p1) (p2 := p2) (p3 := p3) (pos := pos) (q1 i); rw [Γ.hK i] at z; exact z, fun σ τ hn H ρ F Q R h => q2 σ τ hn H ρ F _ R (Post.bind h fun a ρ1 x H1 F1 s1 R1 o1 h1 => ?_)⟩
  cases a with
  | list ds =>
    obtain ⟨p, vs, rfl, e1, e2⟩ := o1.list R1.sub
    refine ⟨p, vs, rfl, .inl ⟨e1, fun p hp => ?_⟩⟩
    obtain ⟨R2, o2⟩ := R1.newLst hp e2.reverse
    exact h1 _ _ _ (Same.refl _) R2 o2
  | tuple ds =>
    obtain ⟨p, vs, rfl, e1, e2, _⟩ := o1.tuple R1.sub
    refine ⟨p, vs, rfl, .inr ⟨e1, fun p hp => ?_⟩⟩
    obtain ⟨s2, R2, o2⟩ := R1.newTup hp e2.reverse
    exact h1 _ _ _ s2 R2 o2
  | _ => exact h1.elim
end
/-! ### in -/
def rInA (K : PySem.W.Frag) (neg : Bool) : R2 := fun x y H Q => ∃ d e ds, Dp K H x d ∧ Dp K H y e ∧ (e = .list ds ∨ e = .tuple ds) ∧ SeqAt.shaped d = true ∧ SeqAt.shaped e = true ∧ Q (.bl (if neg then !ds.any fun z => PyData.eqv z d else ds.any fun z => PyData.eqv z d)) H
theorem canAll_tuple {ds : List PyData} (h : SeqAt.shaped (.tuple ds) = true) : PyData.canLayAll0 ds = true := by
  have := SeqAt.canLay_of_shaped h
  simpa [PyData.canLay0] using this
theorem op_inA {X : Cx} (hu : X.A.units + 80 < cLine) : OpR X (compareOp .In) (rInA X.K false) := by
  intro pins s σ H x y v u Q I rx ry h
  obtain ⟨d, e, ds, hd, he, hor, sd, se, q⟩ := h
  obtain ⟨as, r1⟩ := Dp.reads I d x v hd rx
  obtain ⟨bs, r2⟩ := Dp.reads I e y u he ry
  rcases hor with rfl | rfl
  · exact SeqAt.in_list_reads r2 r1 (SeqAt.canLay_of_shaped se) (SeqAt.canLay_of_shaped sd) (room_in_shaped sd (by omega)) ⟨.bl _, H, I, rfl, q⟩
  · exact SeqAt.in_tuple_reads r2 r1 (canAll_tuple se) (SeqAt.canLay_of_shaped sd) (room_in_shaped sd (by omega)) ⟨.bl _, H, I, rfl, q⟩
theorem op_notInA {X : Cx} (hu : X.A.units + 80 < cLine) : OpR X (compareOp .NotIn) (rInA X.K true) := by
  intro pins s σ H x y v u Q I rx ry h
  obtain ⟨d, e, ds, hd, he, hor, sd, se, q⟩ := h
  obtain ⟨as, r1⟩ := Dp.reads I d x v hd rx
  obtain ⟨bs, r2⟩ := Dp.reads I e y u he ry
  rcases hor with rfl | rfl
  · exact SeqAt.notIn_list_reads r2 r1 (SeqAt.canLay_of_shaped se) (SeqAt.canLay_of_shaped sd) (room_in_shaped sd (by omega)) ⟨.bl _, H, I, rfl, q⟩
  · exact SeqAt.notIn_tuple_reads r2 r1 (canAll_tuple se) (SeqAt.canLay_of_shaped sd) (room_in_shaped sd (by omega)) ⟨.bl _, H, I, rfl, q⟩
def itemsOf : PyData → Option (List PyData)
  | .list ds => some ds
  | .tuple ds => some ds
  | _ => none
def dIn (neg : Bool) (a b : PyData) : Option Sl := match itemsOf b with
  | some ds => if (SeqAt.shaped a && SeqAt.shaped b) = true then some (.dat (.bool (if neg then !ds.any fun z => PyData.eqv z a else ds.any fun z => PyData.eqv z a))) else none
  | none => none
theorem opd_in {K : PySem.W.Frag} {neg : Bool} : OpD K (rInA K neg) (dIn neg) := by
  intro G σ H ρ F x y a b s Q R ra rb e q
  unfold dIn at e
  split at e
  · next ds hb =>
    split at e
    · next h =>
      cases e
      rw [Bool.and_eq_true] at h
      refine ⟨a, b, ds, (ra.mono R.sub).dp, (rb.mono R.sub).dp, ?_, h.1, h.2, q _ H F (Same.refl F) R (.bl _)⟩
      cases b with
      | list es => cases hb; exact .inl rfl
      | tuple es => cases hb; exact .inr rfl
      | _ => cases hb
    · cases e
  · cases e

/-- str of a text, of an int -/
def dStr : List PyData → Option Sl
  | [.str z] => some (.dat (.str z))
  | [.int i] => if i.natAbs.log2 < 1920 then some (.dat (.str (toString i))) else none
  | _ => none
theorem cv_str {K : PySem.W.Frag} : CallV K (fun xs H Q => (∃ a, xs = [.str a] ∧ Q (.str a) H) ∨ ∃ i, xs = [.int i] ∧ i.natAbs.log2 < 1920 ∧ Q (.str (toString i)) H) dStr := by
  intro G σ H ρ F xs ds s Q R ra e q
  match ds, e with
  | [.str z], e =>
    cases e
    obtain ⟨x, rfl, h⟩ := ra.one
    cases h.str
    exact .inl ⟨z, rfl, q _ H F (Same.refl _) R (.str _)⟩
  | [.int i], e =>
    obtain ⟨x, rfl, h⟩ := ra.one
    cases h.int
    have e : (if i.natAbs.log2 < 1920 then some (Sl.dat (.str (toString i))) else none) = some s := e
    split at e
    · next hz =>
      cases e
      exact .inr ⟨i, rfl, hz, q _ H F (Same.refl _) R (.str _)⟩
    · cases e

/-! ### the rules, over a family -/
section
variable {Γ : Fam}
theorem ho_add : ∀ i, OpR (Γ.X i) (binaryOp .Add) (rAddA Γ.K) := fun i => by have z := op_addA (X := Γ.X i); rw [Γ.hK i] at z; exact z
theorem ho_sub : ∀ i, OpR (Γ.X i) (binaryOp .Sub) (rI0 fun i j => .int (i - j)) := fun _ => op_sub
theorem ho_mul : ∀ i, OpR (Γ.X i) (binaryOp .Mult) (rMulA Γ.K) := fun i => by have z := op_mulA (X := Γ.X i); rw [Γ.hK i] at z; exact z
theorem ho_div : ∀ i, OpR (Γ.X i) (binaryOp .FloorDiv) (rI CDiv fun i j => .int (i / j)) := fun _ => op_fdiv
theorem ho_mod : ∀ i, OpR (Γ.X i) (binaryOp .Mod) (rI (fun _ j => 0 < j) fun i j => .int (i % j)) := fun _ => op_mod
theorem ho_pow : ∀ i, OpR (Γ.X i) (binaryOp .Pow) (rI CPow fun i j => .int (i ^ j.toNat)) := fun _ => op_pow
theorem ho_eq : ∀ i, OpR (Γ.X i) (compareOp .Eq) (rEqD Γ.K) := fun i => by have z := op_eqD (X := Γ.X i) (by have := Γ.hu i; omega); rw [Γ.hK i] at z; exact z
theorem ho_ne : ∀ i, OpR (Γ.X i) (compareOp .NotEq) (rNeD Γ.K) := fun i => by have z := op_neD (X := Γ.X i) (by have := Γ.hu i; omega); rw [Γ.hK i] at z; exact z
theorem ho_lt : ∀ i, OpR (Γ.X i) (compareOp .Lt) (rI0 fun i j => .bl (decide (i < j))) := fun _ => op_lt
theorem ho_le : ∀ i, OpR (Γ.X i) (compareOp .LtE) (rI0 fun i j => .bl (decide (i ≤ j))) := fun _ => op_le
theorem ho_gt : ∀ i, OpR (Γ.X i) (compareOp .Gt) (rI0 fun i j => .bl (decide (j < i))) := fun _ => op_gt
theorem ho_ge : ∀ i, OpR (Γ.X i) (compareOp .GtE) (rI0 fun i j => .bl (decide (j ≤ i))) := fun _ => op_ge
theorem ho_is : ∀ i, OpR (Γ.X i) (compareOp .Is) rIsA := fun _ => op_isA
theorem ho_isNot : ∀ i, OpR (Γ.X i) (compareOp .IsNot) rIsNotA := fun _ => op_isNotA
theorem ho_in : ∀ i, OpR (Γ.X i) (compareOp .In) (rInA Γ.K false) := fun i => by have z := op_inA (X := Γ.X i) (Γ.hu i); rw [Γ.hK i] at z; exact z
theorem ho_notIn : ∀ i, OpR (Γ.X i) (compareOp .NotIn) (rInA Γ.K true) := fun i => by have z := op_notInA (X := Γ.X i) (Γ.hu i); rw [Γ.hK i] at z; exact z
theorem hc_len : ∀ i, CallR (Γ.X i) (.builtin "len") (rLenA Γ.K) := fun i => by have z := call_lenA (X := Γ.X i); rw [Γ.hK i] at z; exact z
theorem hc_abs : ∀ i, CallR (Γ.X i) (.builtin "abs") (fun xs H Q => ∃ i, xs = [.int i] ∧ Q (.int (if i < 0 then -i else i)) H) := fun _ => call_abs
theorem hc_int : ∀ i, CallR (Γ.X i) (.type "int") (fun xs H Q => (∃ i, xs = [.int i] ∧ Q (.int i) H) ∨ ∃ k, xs = [.bl k] ∧ Q (.int (if k then 1 else 0)) H) := fun _ => call_int1
theorem hc_tuple : ∀ i, CallR (Γ.X i) (.type "tuple") (fun xs H Q => ∃ p ys, xs = [.ref p] ∧ ((SqL Γ.K H p ys ∧ ∀ l, H l = none → Q (.ref l) (upd H l (.tup ys))) ∨ (SqT Γ.K H p ys ∧ Q (.ref p) H))) := fun i => by have z := call_tuple_of (X := Γ.X i); rw [Γ.hK i] at z; exact z
theorem hc_list : ∀ i, CallR (Γ.X i) (.type "list") (fun xs H Q => ∃ p ys, xs = [.ref p] ∧ (SqL Γ.K H p ys ∨ SqT Γ.K H p ys) ∧ ∀ l, H l = none → Q (.ref l) (upd H l (.lst ys))) := fun i => by have z := call_list_of (X := Γ.X i); rw [Γ.hK i] at z; exact z
theorem hc_str : ∀ i, CallR (Γ.X i) (.type "str") (fun xs H Q => (∃ a, xs = [.str a] ∧ Q (.str a) H) ∨ ∃ i, xs = [.int i] ∧ i.natAbs.log2 < 1920 ∧ Q (.str (toString i)) H) := fun _ => CallR.or SkE.call_str_str call_str_int
theorem hc_all : ∀ i, CallR (Γ.X i) (.builtin "all") (rAll Γ.K) := fun i => by have z := cr_all (X := Γ.X i) (Γ.calm i); rw [Γ.hK i] at z; exact z
theorem hc_any : ∀ i, CallR (Γ.X i) (.builtin "any") (rAny Γ.K) := fun i => by have z := cr_any (X := Γ.X i) (Γ.calm i); rw [Γ.hK i] at z; exact z
theorem hc_sum : ∀ i, CallR (Γ.X i) (.builtin "sum") (rSum Γ.K) := fun i => by have z := cr_sum (X := Γ.X i) (Γ.calm i); rw [Γ.hK i] at z; exact z
theorem hc_sorted : ∀ i, CallR (Γ.X i) (.builtin "sorted") (rSortD Γ.K) := fun i => by have z := cr_sortD (X := Γ.X i) (Γ.hu i); rw [Γ.hK i] at z; exact z
theorem hc_min : ∀ i, CallR (Γ.X i) (.builtin "min") (rMinD Γ.K minD) := fun i => by have z := cr_minD (X := Γ.X i) (Γ.hu i) (Γ.calm i); rw [Γ.hK i] at z; exact z
theorem hc_max : ∀ i, CallR (Γ.X i) (.builtin "max") (rMinD Γ.K maxD) := fun i => by have z := cr_maxD (X := Γ.X i) (Γ.hu i) (Γ.calm i); rw [Γ.hK i] at z; exact z
end
/-- a def of which nothing is promised -/
theorem cal_bad {P : Program} {w : World} {K : PySem.W.Frag} {mg : Str → Option Value} {base : Heap} {k : Nat} {x : Str} {ps : List Str} {B : List Nat} {f : Addr} {fd : FuncData} (h1 : mg x = some (.ref f)) (h2 : PySem.W.keepIn K (.ref f) = true) (h3 : Binds K fd ps []) : Cal P w K mg base k x ps B (fun _ => .bad) :=
  ⟨f, fd, ⟨fun vs H Q E ⟨A, F0, as, en, h⟩ => h.elim, fun A outer s H args us vs Q E hr he hb hv ⟨A', F0, as, en, h⟩ => h.elim⟩, h1, h2, h3⟩
abbrev rThen {α β : Type} (f : Ev → Out α) (k : α → Ev → Out β) : Ev → Out β := fun ρ => (f ρ).bind k
abbrev rX (f : Ev → Out Sl) : Ev → Out PyData := fun ρ => (f ρ).bind asDat
abbrev rE (f : Ev → Out PyData) : Ev → Out Sl := fun ρ => (f ρ).bind fun d ρ => .ok (.dat d) ρ
end DL
namespace DL
open PySem
/-! ### names of readings -/
abbrev rNotV (f : Ev → Out PyData) : Ev → Out PyData := fun ρ => ((f ρ).bind dTru).bind fun b ρ => .ok (.bool (!b)) ρ
abbrev rNotB (f : Ev → Out Bool) : Ev → Out Bool := fun ρ => (f ρ).bind fun b ρ => .ok (!b) ρ
abbrev rIxN (k : Nat) (g : Ev → Out PyData) : Ev → Out PyData := fun ρ => (lift (see ρ[k]?) ρ).bind fun _ ρ1 => (g ρ1).bind fun b ρ2 => (lift (see ρ2[k]?) ρ2).bind fun a ρ3 => lift (dIx a b) ρ3
abbrev rIx2 (f g : Ev → Out PyData) : Ev → Out PyData := fun ρ => (f ρ).bind fun a ρ1 => (g ρ1).bind fun b ρ2 => lift (dIx a b) ρ2
abbrev rIsi (b : PyData → Bool) (f : Ev → Out PyData) : Ev → Out PyData := fun ρ => (f ρ).bind fun d ρ1 => .ok (.bool (b d)) ρ1
abbrev rApp (k : Nat) (f : Ev → Out PyData) : Ev → Out PyData := fun ρ => if isOwnL ρ[k]? = true then (f ρ).bind fun d ρ1 => app k d ρ1 else .bad
abbrev rRev (f : Ev → Out PyData) : Ev → Out Sl := fun ρ => (f ρ).bind fun a ρ1 => lift (dRev a) ρ1
abbrev rNo : Ev → Out (Option Int) := fun ρ => .ok none ρ
abbrev rSlice (f : Ev → Out PyData) (g k : Ev → Out (Option Int)) : Ev → Out Sl := fun ρ => (f ρ).bind fun a ρ1 => (g ρ1).bind fun l ρ2 => (k ρ2).bind fun u ρ3 => lift (dSlice a l u) ρ3
abbrev rCall1 (g : List PyData → Option Sl) (f : Ev → Out PyData) : Ev → Out Sl := fun ρ => ((f ρ).bind fun d ρ => .ok [d] ρ).bind fun ds ρ1 => lift (g ds) ρ1
abbrev rChainB (g g' : PyData → PyData → Option Sl) (f1 f2 f3 : Ev → Out PyData) : Ev → Out Bool := fun ρ => (f1 ρ).bind fun a ρ1 => (f2 ρ1).bind fun b ρ2 => (lift (g a b) ρ2).bind fun s ρ3 => (asB s ρ3).bind fun k ρ4 =>
      if k = true then (f3 ρ4).bind fun c ρ5 => (lift (g' b c) ρ5).bind fun s ρ => (asB s ρ).bind fun k ρ => .ok k ρ else .ok false ρ4
abbrev rRange2 (f g : Ev → Out PyData) : Ev → Out (List PyData) := fun ρ => (f ρ).bind fun a ρ1 => (g ρ1).bind (range2 a)
abbrev rZip (f g : Ev → Out PyData) : Ev → Out (List PyData) := fun ρ => (f ρ).bind fun a ρ1 => (g ρ1).bind (zipOf a)
abbrev rSetIx (k : Nat) (f g : Ev → Out PyData) : Ev → Out Flw := fun ρ => (f ρ).bind fun d ρ1 => (lift (see ρ1[k]?) ρ1).bind fun _ ρ2 => (g ρ2).bind fun i ρ3 => putIx k i d ρ3
abbrev rIfS (c : Ev → Out Bool) (f g : Ev → Out Flw) : Ev → Out Flw := fun ρ => (c ρ).bind fun z ρ1 => if z = true then f ρ1 else g ρ1
end DL
namespace DL
open PySem PySem.Spec PyProof.Rows L2
section
variable {Γ : Fam} {G : Cg} {pos : Pos}
theorem dx_globI {x : Str} {n : Int} {t : Tok} (hg : ∀ i, Gl (Γ.X i) x) (hm : ∀ i, (Γ.X i).mg x = some (.int n t)) (hd : (x == ("__debug__" : Str)) = false := by decide) : DX Γ G (.Name x pos) (rC (.int n)) :=
  dx_glob (v := .int n) (fun i => pe_glob (hg i) (hm i) ⟨t, rfl⟩ hd) fun _ => .int n
theorem dx_globS {x y : Str} {t : Tok} (hg : ∀ i, Gl (Γ.X i) x) (hm : ∀ i, (Γ.X i).mg x = some (.str y t)) (hd : (x == ("__debug__" : Str)) = false := by decide) : DX Γ G (.Name x pos) (rC (.str y)) :=
  dx_glob (v := .str y) (fun i => pe_glob (hg i) (hm i) ⟨t, rfl⟩ hd) fun _ => .str y
end
end DL
/-! DL10: comprehensions of two clauses -/
namespace DL
open PySem PySem.Spec PyProof.Rows L2
section
variable {Γ : Fam} {G : Cg} {tg e e1 e2 : Expr} {es : List Expr} {pos : Pos}
/-- the end of a comprehension -/
theorem comp_close {vs : List Nat} (hv' : ∀ i ∈ vs, i ∉ G.B ∧ i < Γ.n) (hBn : G.B.all (fun i => Nat.blt i Γ.n) = true) {σ τ : L2.St} (hn : σ.length = Γ.n) {H1 H' : Hp} {ρ1 ρ' : Ev} {F1 F' : Hp} {Q : VK} {D : Addr} (len1 : ρ1.length = (σ ++ τ).length) (R1 : Rel Γ.K G (σ ++ τ) H1 ρ1 F1) (sF : Same F1 F')
    (R' : Rel Γ.K G (wipe σ vs ++ (τ ++ [some (.ref D)])) H' ρ' F') (hP : Post Γ.K G (σ ++ τ) F' (compEnd ρ1.length vs ρ1 ρ') (okE Γ.K G (σ ++ τ)) Q) : Q (.ref D) H' := by
  have lw : (wipe σ vs ++ τ).length = (σ ++ τ).length := by rw [List.length_append, List.length_append, wipe_length]
  have mB : ρ1.length ∉ G.B := fun z => by
    have := allLt hBn _ z
    rw [len1, List.length_append] at this
    omega
  unfold compEnd at hP
  split at hP
  · next acc eacc =>
    have gh : (wipe σ vs ++ (τ ++ [some (V.ref D)]))[ρ1.length]? = some (some (.ref D)) := by
      have : ρ1.length = (wipe σ vs).length + τ.length := by rw [len1, List.length_append, wipe_length]
      rw [this, List.getElem?_append_right (by omega), List.getElem?_append_right (by omega)]
      simp
    have ov := R'.take eacc gh (by intro z; cases z) mB
    have Rn : Rel Γ.K G (wipe σ vs ++ τ) H' (ρ'.take ρ1.length) F' := by
      have R'' := R'
      rw [← List.append_assoc] at R''
      have z := R''.noGhost fun i hi => Nat.lt_of_lt_of_le (allLt hBn i hi) (by rw [lw, List.length_append, hn]; omega)
      rw [lw, ← len1] at z
      exact z
    have Rg : Rel Γ.K G (σ ++ τ) H' (ρ'.take ρ1.length) F' := by
      refine Rn.agree lw.symm fun j s ej hs => ?_
      by_cases hj : j < σ.length
      · have hjv : j ∉ vs := fun z => by
          have q := Rn.sl j s ej
          have e1 : (wipe σ vs ++ τ)[j]? = some none := by
            rw [List.getElem?_append_left (by rw [wipe_length]; exact hj)]
            exact wipe_at z hj
          cases s with
          | emp => exact hs rfl
          | dat d => obtain ⟨w, a, b⟩ := q; rw [e1] at a; cases a
          | own d => obtain ⟨w, a, b⟩ := q; rw [e1] at a; cases a
          | scr d => obtain ⟨w, a, b⟩ := q; rw [e1] at a; cases a
        rw [List.getElem?_append_left hj, List.getElem?_append_left (by rw [wipe_length]; exact hj), wipe_out hjv]
      · rw [List.getElem?_append_right (by omega), List.getElem?_append_right (by rw [wipe_length]; omega), wipe_length]
    have Rz := R1.restore sF Rg (js := vs) fun j hj => (hv' j hj).1
    refine hP (.ref D) H' F' (Same.refl _) Rz ?_
    obtain ⟨p, e1, e2, e3, e4, e5⟩ := ov
    cases e1
    refine ⟨D, rfl, e2, e3, e4, fun j d' ej zj => ?_⟩
    have ej' := restore_own ej
    have hj : j < ρ1.length := by
      have := (List.getElem?_eq_some_iff.mp ej').1
      rw [List.length_take] at this
      omega
    obtain ⟨w, a, b⟩ := Rn.sl j _ ej'
    obtain ⟨w', a', b'⟩ := Rg.sl j _ ej'
    rw [a'] at zj
    cases zj
    rw [List.getElem?_take_of_lt hj] at ej'
    refine e5 j d' (by rw [List.getElem?_set_ne (by omega)]; exact ej') ?_
    obtain ⟨w2, a2, b2⟩ := R'.sl j _ ej'
    have : w2 = D := by
      have l1 : j < (wipe σ vs ++ τ).length := by rw [lw, ← len1]; exact hj
      rw [← List.append_assoc, List.getElem?_append_left l1] at a2
      by_cases hjs : j < σ.length
      · have hjv : j ∉ vs := fun z => by
          rw [List.getElem?_append_left (by rw [wipe_length]; exact hjs), wipe_at z hjs] at a2
          cases a2
        rw [List.getElem?_append_left (by rw [wipe_length]; exact hjs), wipe_out hjv] at a2
        rw [List.getElem?_append_left hjs, a2] at a'
        cases a'
        rfl
      · rw [List.getElem?_append_right (by rw [wipe_length]; omega), wipe_length] at a2
        rw [List.getElem?_append_right (by omega), a2] at a'
        cases a'
        rfl
    cases this
    exact a2
  · exact hP.elim
/-- a block's names forgotten -/
theorem rel_wipe {vs : List Nat} (hv' : ∀ i ∈ vs, i ∉ G.B ∧ i < Γ.n) {σ τ : L2.St} {H : Hp} {ρ : Ev} {F : Hp} (R : Rel Γ.K G (σ ++ τ) H ρ F) : Rel Γ.K G (wipe σ vs ++ τ) H (wipeE ρ vs) F := by
  refine (R.wipes fun i hi => (hv' i hi).1).agree (by rw [List.length_append, List.length_append, wipe_length]) fun j s ej hs => ?_
  obtain ⟨h1, h2⟩ := wipeE_in ej hs
  by_cases hj : j < σ.length
  · rw [List.getElem?_append_left (by rw [wipe_length]; exact hj), List.getElem?_append_left hj, wipe_out h1]
  · rw [List.getElem?_append_right (by rw [wipe_length]; omega), List.getElem?_append_right (by omega), wipe_length]
theorem wipe_sub {vs vs1 : List Nat} {σ : L2.St} (h : ∀ i ∈ vs1, i ∈ vs) : wipe (wipe σ vs1) vs = wipe σ vs := wipe_agree (wipe_length _ _) fun j hj => wipe_out fun z => hj (h j z)
theorem bind_assoc {α β γ : Type} (x : Out α) (f : α → Ev → Out β) (g : β → Ev → Out γ) : (x.bind f).bind g = x.bind fun a ρ => (f a ρ).bind g := by cases x <;> rfl
/-- the loop of a clause whose item is kept -/
theorem go_loop {ts vs : List Nat} {g : PyData → Ev → Option Ev} {ft : Ev → Out Bool} {fe : Ev → Out PyData} {tg' : TG} {tt : TT} {te : TE}
    (q2 : ∀ (σ τ : L2.St) (hn : σ.length = Γ.n) (H : Hp) (ρ : Ev) (F : Hp) (v : V) (d : PyData) (ρ' : Ev) (Q : L2.St → Hp → Prop), Rel Γ.K G (σ ++ τ) H ρ F → Rp Γ.K F v d → g d ρ = some ρ' → (∀ σ' : L2.St, σ'.length = Γ.n → (∀ j, j ∉ ts → σ'[j]? = σ[j]?) → Rel Γ.K G (σ' ++ τ) H ρ' F → Q σ' H) → tg' v σ H Q)
    (q3 : ∀ (σ τ : L2.St) (hn : σ.length = Γ.n) (H : Hp) (ρ : Ev) (F : Hp) (Q : Bool → Hp → Prop), Rel Γ.K G (σ ++ τ) H ρ F → Post Γ.K G (σ ++ τ) F (ft ρ) okT Q → tt σ H Q)
    (q4 : ∀ (σ τ : L2.St) (hn : σ.length = Γ.n) (H : Hp) (ρ : Ev) (F : Hp) (Q : VK), Rel Γ.K G (σ ++ τ) H ρ F → Post Γ.K G (σ ++ τ) F (fe ρ) (okX Γ.K) Q → te σ H Q)
    (hts' : ∀ i ∈ ts, i ∈ vs) (hv' : ∀ i ∈ vs, i ∉ G.B ∧ i < Γ.n) {σ τ : L2.St} (hn : σ.length = Γ.n) {D : Addr} {m : Nat} (hm : m = σ.length + τ.length) {σP : L2.St} {okf : Hp → Hp → Ev → V → Sl → Prop} {Q : VK} {kont : Unit → Ev → Out Sl} {J : It} {ds : List PyData} {F1 : Hp} (o1 : ItOk Γ.K G F1 J ds)
    {H1 : Hp} {ρ1 : Ev} (R0 : Rel Γ.K G (wipe σ vs ++ (τ ++ [some (.ref D)])) H1 ρ1 F1) (h1 : Post Γ.K G σP F1 ((compGo m vs g ft fe ds ρ1).bind kont) okf Q) {Nx : Hp → Prop}
    (hN : ∀ H' ρ' F', Same F1 F' → Rel Γ.K G (wipe σ vs ++ (τ ++ [some (.ref D)])) H' ρ' F' → Post Γ.K G σP F' (kont () ρ') okf Q → Nx H') :
    ∃ W : Nat → Nat → Hp → Prop, (∃ m, W 0 m H1) ∧ ∀ i m H, W i m H → (J.stop i H ∧ Nx H) ∨ (J.go i H ∧ ∃ Nx1 : Hp → Prop, (∀ H', Nx1 H' → ∃ m', m' < m ∧ W (i + 1) m' H') ∧ ∀ x H', J.yld i H x H' → tg' x (wipe σ vs) H' fun σ2 H2 => wipe σ2 vs = wipe σ vs ∧ tt σ2 H2 fun b H3 =>
      if b = true then te σ2 H3 fun y H4 => ∃ acc, H4 D = some (.lst acc) ∧ acc.length < sizeLine ∧ Nx1 (upd H4 D (.lst (acc ++ [y]))) else Nx1 H3) := by
  refine ⟨fun i k H' => ∃ ρ' F', k = ds.length - i ∧ i ≤ ds.length ∧ Same F1 F' ∧ Rel Γ.K G (wipe σ vs ++ (τ ++ [some (.ref D)])) H' ρ' F' ∧ Post Γ.K G σP F' ((compGo m vs g ft fe (ds.drop i) ρ').bind kont) okf Q,
    ⟨ds.length, _, F1, by simp, Nat.zero_le _, Same.refl _, R0, by rw [List.drop_zero]; exact h1⟩, ?_⟩
  rintro i k H' ⟨ρ', F', rfl, hle, sF, R', hP⟩
  obtain ⟨k1, k2⟩ := o1 _ H' ρ' F' R' sF i
  by_cases hlt : i < ds.length
  · have hd : ds.drop i = ds[i] :: ds.drop (i + 1) := List.drop_eq_getElem_cons hlt
    rw [hd] at hP
    obtain ⟨go, yl⟩ := k1 ds[i] (List.getElem?_eq_getElem hlt)
    refine .inr ⟨go, fun H2 => ∃ ρ2 F2, i + 1 ≤ ds.length ∧ Same F1 F2 ∧ Rel Γ.K G (wipe σ vs ++ (τ ++ [some (.ref D)])) H2 ρ2 F2 ∧ Post Γ.K G σP F2 ((compGo m vs g ft fe (ds.drop (i + 1)) ρ2).bind kont) okf Q,
      fun H2 ⟨ρ2, F2, a1, a3, a4, a5⟩ => ⟨ds.length - (i + 1), by omega, ρ2, F2, rfl, a1, a3, a4, a5⟩, fun x H2 y => ?_⟩
    obtain ⟨F2, s2, R2, r2⟩ := yl x H2 y
    cases zg : g ds[i] ρ' with
    | none =>
      have hP : Post Γ.K G σP F' (((lift (g ds[i] ρ') ρ').bind fun ρ1' _ => (ft ρ1').bind fun b ρ2 => if b = true then (fe ρ2).bind fun y ρ3 => (lift (pushAt m y ρ3) ρ3).bind fun ρ4 _ => compGo m vs g ft fe (ds.drop (i + 1)) (wipeE ρ4 vs)
        else compGo m vs g ft fe (ds.drop (i + 1)) (wipeE ρ2 vs)).bind kont) okf Q := hP
      rw [zg] at hP
      exact hP.elim
    | some ρa =>
      have hP : Post Γ.K G σP F' (((lift (g ds[i] ρ') ρ').bind fun ρ1' _ => (ft ρ1').bind fun b ρ2 => if b = true then (fe ρ2).bind fun y ρ3 => (lift (pushAt m y ρ3) ρ3).bind fun ρ4 _ => compGo m vs g ft fe (ds.drop (i + 1)) (wipeE ρ4 vs)
        else compGo m vs g ft fe (ds.drop (i + 1)) (wipeE ρ2 vs)).bind kont) okf Q := hP
      rw [zg] at hP
      have hP : Post Γ.K G σP F' ((((ft ρa).bind fun b ρ2 => if b = true then (fe ρ2).bind fun y ρ3 => (lift (pushAt m y ρ3) ρ3).bind fun ρ4 _ => compGo m vs g ft fe (ds.drop (i + 1)) (wipeE ρ4 vs)
        else compGo m vs g ft fe (ds.drop (i + 1)) (wipeE ρ2 vs))).bind kont) okf Q := hP
      refine q2 (wipe σ vs) (τ ++ [some (.ref D)]) (by rw [wipe_length]; exact hn) H2 ρ' F2 x ds[i] ρa _ R2 r2 zg fun σa la ka Ra => ?_
      have wa : wipe σa vs = wipe σ vs := (wipe_agree (la.trans (by rw [wipe_length, hn])) fun j hj => ka j fun z => hj (hts' j z)).trans wipe_wipe
      refine ⟨wa, ?_⟩
      -- back to the block's names forgotten
      have back : ∀ {H' : Hp} {ρb : Ev} {Fb : Hp}, Rel Γ.K G (σa ++ (τ ++ [some (.ref D)])) H' ρb Fb → Rel Γ.K G (wipe σ vs ++ (τ ++ [some (.ref D)])) H' (wipeE ρb vs) Fb := fun {H' ρb Fb} Rb => by
        refine (Rb.wipes fun i hi => (hv' i hi).1).agree (by rw [List.length_append (as := wipe σ vs), List.length_append (as := σa), wipe_length, la, hn]) fun j s ej hs => ?_
        obtain ⟨h1, h2⟩ := wipeE_in ej hs
        rw [← wa]
        by_cases hj : j < σa.length
        · rw [List.getElem?_append_left (by rw [wipe_length]; exact hj), List.getElem?_append_left hj, wipe_out h1]
        · have j1 : (wipe σa vs).length ≤ j := by rw [wipe_length]; omega
          have j2 : σa.length ≤ j := by omega
          rw [List.getElem?_append_right j1, List.getElem?_append_right j2, wipe_length]
      refine q3 σa (τ ++ [some (.ref D)]) la H2 ρa F2 _ Ra ?_
      cases zt : ft ρa with
      | ok b ρb =>
        rw [zt] at hP
        intro b' H3 F3 s3 R3 o3
        subst o3
        cases b' with
        | false =>
          exact ⟨wipeE ρb vs, F3, hlt, (sF.trans s2).trans s3, back R3, Post.up hP (s2.trans s3)⟩
        | true =>
          have hP : Post Γ.K G σP F' (((fe ρb).bind fun y ρ3 => (lift (pushAt m y ρ3) ρ3).bind fun ρ4 _ => compGo m vs g ft fe (ds.drop (i + 1)) (wipeE ρ4 vs)).bind kont) okf Q := hP
          show te σa H3 _
          refine q4 σa (τ ++ [some (.ref D)]) la H3 ρb F3 _ R3 ?_
          cases ze : fe ρb with
          | ok y' ρc =>
            rw [ze] at hP
            intro v H4 F4 s4 R4 o4
            have hP : Post Γ.K G σP F' (((lift (pushAt m y' ρc) ρc).bind fun ρ4 _ => compGo m vs g ft fe (ds.drop (i + 1)) (wipeE ρ4 vs)).bind kont) okf Q := hP
            unfold pushAt at hP
            split at hP
            · next acc eacc =>
              split at hP
              · next hz =>
                have gh : (σa ++ (τ ++ [some (V.ref D)]))[m]? = some (some (.ref D)) := by
                  have : m = σa.length + τ.length := by rw [hm, la, hn]
                  rw [this, List.getElem?_append_right (by omega), List.getElem?_append_right (by omega)]
                  simp
                obtain ⟨p, e1, e2, e3, e4⟩ := R4.sl _ _ eacc
                rw [gh] at e1
                cases e1
                cases e3 with
                | @lst ws _ w1 w2 =>
                  refine ⟨ws, w1, by rw [w2.length, line_eq]; exact hz, ?_⟩
                  have R5 := R4.change (o := .lst (ws ++ [v])) (d' := .list (acc ++ [y'])) eacc gh (.lst upd_same (w2.append (.cons o4 .nil)))
                  exact ⟨_, F4, hlt, ((sF.trans s2).trans s3).trans s4, back R5, Post.up hP ((s2.trans s3).trans s4)⟩
              · exact hP.elim
            · exact hP.elim
          | exc c ρc =>
            rw [ze] at hP
            exact fun σ4 H4 F4 s4 R4 => hP σ4 H4 F4 ((s2.trans s3).trans s4) R4
          | bad => rw [ze] at hP; exact hP
      | exc c ρb =>
        rw [zt] at hP
        exact fun σ4 H4 F4 s4 R4 => hP σ4 H4 F4 (s2.trans s4) R4
      | bad => rw [zt] at hP; exact hP
  · have e : i = ds.length := by omega
    subst e
    refine .inl ⟨k2 (Nat.le_refl _), ?_⟩
    rw [List.drop_length] at hP
    exact hN H' ρ' F' sF R' hP
/-- two clauses -/
def compGo2 (m : Nat) (vs vs1 : List Nat) (g : PyData → Ev → Option Ev) (ft : Ev → Out Bool) (fi1 : Ev → Out (List PyData)) (g1 : PyData → Ev → Option Ev) (ft1 : Ev → Out Bool) (fe : Ev → Out PyData) : List PyData → Ev → Out Unit
  | [], ρ => .ok () ρ
  | d :: ds, ρ => (lift (g d ρ) ρ).bind fun ρ1 _ => (ft ρ1).bind fun b ρ2 => if b = true then (fi1 ρ2).bind fun ds1 ρ3 => (compGo m vs1 g1 ft1 fe ds1 (wipeE ρ3 vs1)).bind fun _ ρ4 => compGo2 m vs vs1 g ft fi1 g1 ft1 fe ds (wipeE ρ4 vs)
    else compGo2 m vs vs1 g ft fi1 g1 ft1 fe ds (wipeE ρ2 vs)
def rComp2 (vs vs1 : List Nat) (g : PyData → Ev → Option Ev) (ft : Ev → Out Bool) (fi1 : Ev → Out (List PyData)) (g1 : PyData → Ev → Option Ev) (ft1 : Ev → Out Bool) (fe : Ev → Out PyData) (fi : Ev → Out (List PyData)) : Ev → Out Sl := fun ρ => (fi ρ).bind fun ds ρ1 =>
  (compGo2 ρ1.length vs vs1 g ft fi1 g1 ft1 fe ds (wipeE ρ1 vs ++ [.own (.list [])])).bind fun _ ρ2 => compEnd ρ1.length vs ρ1 ρ2
theorem comp2_run {ts ts1 vs vs1 : List Nat} {fi fi1 : Ev → Out (List PyData)} {g g1 : PyData → Ev → Option Ev} {ft ft1 : Ev → Out Bool} {fe : Ev → Out PyData} {wi wi1 : TI} {tg' tg1 : TG} {tt tt1 : TT} {te : TE}
    (q1 : ∀ (σ τ : L2.St) (hn : σ.length = Γ.n) (H : Hp) (ρ : Ev) (F : Hp) (R : It → Hp → Prop), Rel Γ.K G (σ ++ τ) H ρ F → Post Γ.K G (σ ++ τ) F (fi ρ) (fun F' _ _ J ds => ItOk Γ.K G F' J ds) R → wi σ H R)
    (q2 : ∀ (σ τ : L2.St) (hn : σ.length = Γ.n) (H : Hp) (ρ : Ev) (F : Hp) (v : V) (d : PyData) (ρ' : Ev) (Q : L2.St → Hp → Prop), Rel Γ.K G (σ ++ τ) H ρ F → Rp Γ.K F v d → g d ρ = some ρ' → (∀ σ' : L2.St, σ'.length = Γ.n → (∀ j, j ∉ ts → σ'[j]? = σ[j]?) → Rel Γ.K G (σ' ++ τ) H ρ' F → Q σ' H) → tg' v σ H Q)
    (q3 : ∀ (σ τ : L2.St) (hn : σ.length = Γ.n) (H : Hp) (ρ : Ev) (F : Hp) (Q : Bool → Hp → Prop), Rel Γ.K G (σ ++ τ) H ρ F → Post Γ.K G (σ ++ τ) F (ft ρ) okT Q → tt σ H Q)
    (p1 : ∀ (σ τ : L2.St) (hn : σ.length = Γ.n) (H : Hp) (ρ : Ev) (F : Hp) (R : It → Hp → Prop), Rel Γ.K G (σ ++ τ) H ρ F → Post Γ.K G (σ ++ τ) F (fi1 ρ) (fun F' _ _ J ds => ItOk Γ.K G F' J ds) R → wi1 σ H R)
    (p2 : ∀ (σ τ : L2.St) (hn : σ.length = Γ.n) (H : Hp) (ρ : Ev) (F : Hp) (v : V) (d : PyData) (ρ' : Ev) (Q : L2.St → Hp → Prop), Rel Γ.K G (σ ++ τ) H ρ F → Rp Γ.K F v d → g1 d ρ = some ρ' → (∀ σ' : L2.St, σ'.length = Γ.n → (∀ j, j ∉ ts1 → σ'[j]? = σ[j]?) → Rel Γ.K G (σ' ++ τ) H ρ' F → Q σ' H) → tg1 v σ H Q)
    (p3 : ∀ (σ τ : L2.St) (hn : σ.length = Γ.n) (H : Hp) (ρ : Ev) (F : Hp) (Q : Bool → Hp → Prop), Rel Γ.K G (σ ++ τ) H ρ F → Post Γ.K G (σ ++ τ) F (ft1 ρ) okT Q → tt1 σ H Q)
    (q4 : ∀ (σ τ : L2.St) (hn : σ.length = Γ.n) (H : Hp) (ρ : Ev) (F : Hp) (Q : VK), Rel Γ.K G (σ ++ τ) H ρ F → Post Γ.K G (σ ++ τ) F (fe ρ) (okX Γ.K) Q → te σ H Q)
    (hts' : ∀ i ∈ ts, i ∈ vs) (hts1 : ∀ i ∈ ts1, i ∈ vs1) (hvs : ∀ i ∈ vs1, i ∈ vs) (hv' : ∀ i ∈ vs, i ∉ G.B ∧ i < Γ.n) (hBn : G.B.all (fun i => Nat.blt i Γ.n) = true)
    {σ τ : L2.St} (hn : σ.length = Γ.n) {H : Hp} {ρ : Ev} {F : Hp} {Q : VK} (R : Rel Γ.K G (σ ++ τ) H ρ F) (h : Post Γ.K G (σ ++ τ) F (rComp2 vs vs1 g ft fi1 g1 ft1 fe fi ρ) (okE Γ.K G (σ ++ τ)) Q) : tLc2 wi tg' tt wi1 tg1 tt1 te vs vs1 σ H Q := by
  refine q1 σ τ hn H ρ F _ R (Post.bind h fun ds ρ1 J H1 F1 s1 R1 o1 h1 => ?_)
  intro D hD
  have len1 : ρ1.length = (σ ++ τ).length := R1.len
  have lw : (wipe σ vs ++ τ).length = (σ ++ τ).length := by rw [List.length_append, List.length_append, wipe_length]
  have mB : ρ1.length ∉ G.B := fun z => by
    have := allLt hBn _ z
    rw [len1, List.length_append] at this
    omega
  have hm : ρ1.length = Γ.n + τ.length := by rw [len1, List.length_append, hn]
  have R0 : Rel Γ.K G (wipe σ vs ++ (τ ++ [some (.ref D)])) (upd H1 D (.lst [])) (wipeE ρ1 vs ++ [.own (.list [])]) F1 := by
    obtain ⟨Ra, oa⟩ := (rel_wipe hv' R1).newLst hD (RpA.nil (K := Γ.K) (F := F1))
    rw [← List.append_assoc]
    exact Ra.ghost (by rw [lw, ← len1]; exact mB) oa
  generalize hmm : ρ1.length = m at h1 hm
  refine ⟨fun i k H' => ∃ ρ' F', k = ds.length - i ∧ i ≤ ds.length ∧ Same F1 F' ∧ Rel Γ.K G (wipe σ vs ++ (τ ++ [some (.ref D)])) H' ρ' F' ∧ Post Γ.K G (σ ++ τ) F' ((compGo2 m vs vs1 g ft fi1 g1 ft1 fe (ds.drop i) ρ').bind fun _ ρ2 => compEnd m vs ρ1 ρ2) (okE Γ.K G (σ ++ τ)) Q,
    ⟨ds.length, _, F1, by simp, Nat.zero_le _, Same.refl _, R0, by rw [List.drop_zero]; exact h1⟩, ?_⟩
  rintro i k H' ⟨ρ', F', rfl, hle, sF, R', hP⟩
  obtain ⟨k1, k2⟩ := o1 _ H' ρ' F' R' sF i
  by_cases hlt : i < ds.length
  · have hd : ds.drop i = ds[i] :: ds.drop (i + 1) := List.drop_eq_getElem_cons hlt
    rw [hd] at hP
    obtain ⟨go, yl⟩ := k1 ds[i] (List.getElem?_eq_getElem hlt)
    refine .inr ⟨go, fun H2 => ∃ ρ2 F2, i + 1 ≤ ds.length ∧ Same F1 F2 ∧ Rel Γ.K G (wipe σ vs ++ (τ ++ [some (.ref D)])) H2 ρ2 F2 ∧ Post Γ.K G (σ ++ τ) F2 ((compGo2 m vs vs1 g ft fi1 g1 ft1 fe (ds.drop (i + 1)) ρ2).bind fun _ ρ2 => compEnd m vs ρ1 ρ2) (okE Γ.K G (σ ++ τ)) Q,
      fun H2 ⟨ρ2, F2, a1, a3, a4, a5⟩ => ⟨ds.length - (i + 1), by omega, ρ2, F2, rfl, a1, a3, a4, a5⟩, fun x H2 y => ?_⟩
    obtain ⟨F2, s2, R2, r2⟩ := yl x H2 y
    have hP : Post Γ.K G (σ ++ τ) F' (((lift (g ds[i] ρ') ρ').bind fun ρ1' _ => (ft ρ1').bind fun b ρ2 => if b = true then (fi1 ρ2).bind fun ds1 ρ3 => (compGo m vs1 g1 ft1 fe ds1 (wipeE ρ3 vs1)).bind fun _ ρ4 => compGo2 m vs vs1 g ft fi1 g1 ft1 fe (ds.drop (i + 1)) (wipeE ρ4 vs)
        else compGo2 m vs vs1 g ft fi1 g1 ft1 fe (ds.drop (i + 1)) (wipeE ρ2 vs)).bind fun _ ρ2 => compEnd m vs ρ1 ρ2) (okE Γ.K G (σ ++ τ)) Q := hP
    cases zg : g ds[i] ρ' with
    | none =>
      rw [zg] at hP
      exact hP.elim
    | some ρa =>
      rw [zg] at hP
      have hP : Post Γ.K G (σ ++ τ) F' (((ft ρa).bind fun b ρ2 => if b = true then (fi1 ρ2).bind fun ds1 ρ3 => (compGo m vs1 g1 ft1 fe ds1 (wipeE ρ3 vs1)).bind fun _ ρ4 => compGo2 m vs vs1 g ft fi1 g1 ft1 fe (ds.drop (i + 1)) (wipeE ρ4 vs)
        else compGo2 m vs vs1 g ft fi1 g1 ft1 fe (ds.drop (i + 1)) (wipeE ρ2 vs)).bind fun _ ρ2 => compEnd m vs ρ1 ρ2) (okE Γ.K G (σ ++ τ)) Q := hP
      refine q2 (wipe σ vs) (τ ++ [some (.ref D)]) (by rw [wipe_length]; exact hn) H2 ρ' F2 x ds[i] ρa _ R2 r2 zg fun σa la ka Ra => ?_
      have wa : wipe σa vs = wipe σ vs := (wipe_agree (la.trans (by rw [wipe_length, hn])) fun j hj => ka j fun z => hj (hts' j z)).trans wipe_wipe
      refine ⟨wa, ?_⟩
      refine q3 σa (τ ++ [some (.ref D)]) la H2 ρa F2 _ Ra ?_
      cases zt : ft ρa with
      | ok b ρb =>
        rw [zt] at hP
        intro b' H3 F3 s3 R3 o3
        subst o3
        cases b' with
        | false =>
          have back := rel_wipe hv' R3
          rw [wa] at back
          exact ⟨wipeE ρb vs, F3, hlt, (sF.trans s2).trans s3, back, Post.up hP (s2.trans s3)⟩
        | true =>
          have hP : Post Γ.K G (σ ++ τ) F' (((fi1 ρb).bind fun ds1 ρ3 => (compGo m vs1 g1 ft1 fe ds1 (wipeE ρ3 vs1)).bind fun _ ρ4 => compGo2 m vs vs1 g ft fi1 g1 ft1 fe (ds.drop (i + 1)) (wipeE ρ4 vs)).bind fun _ ρ2 => compEnd m vs ρ1 ρ2) (okE Γ.K G (σ ++ τ)) Q := hP
          show wi1 σa H3 _
          refine p1 σa (τ ++ [some (.ref D)]) la H3 ρb F3 _ R3 ?_
          cases ze : fi1 ρb with
          | ok ds1 ρc =>
            rw [ze] at hP
            intro J1 H4 F4 s4 R4 o4
            have hP : Post Γ.K G (σ ++ τ) F' (((compGo m vs1 g1 ft1 fe ds1 (wipeE ρc vs1)).bind fun _ ρ4 => compGo2 m vs vs1 g ft fi1 g1 ft1 fe (ds.drop (i + 1)) (wipeE ρ4 vs)).bind fun _ ρ2 => compEnd m vs ρ1 ρ2) (okE Γ.K G (σ ++ τ)) Q := hP
            rw [bind_assoc] at hP
            have hv1 : ∀ i ∈ vs1, i ∉ G.B ∧ i < Γ.n := fun i hi => hv' i (hvs i hi)
            refine go_loop p2 p3 q4 hts1 hv1 la (by rw [la]; exact hm) o4 (rel_wipe hv1 R4) (Post.up hP ((s2.trans s3).trans s4)) fun H5 ρ5 F5 s5 R5 h5 => ?_
            have back := rel_wipe hv' R5
            rw [wipe_sub hvs, wa] at back
            exact ⟨wipeE ρ5 vs, F5, hlt, (((sF.trans s2).trans s3).trans s4).trans s5, back, h5⟩
          | exc c ρc =>
            rw [ze] at hP
            exact fun σ4 H4 F4 s4 R4 => hP σ4 H4 F4 ((s2.trans s3).trans s4) R4
          | bad => rw [ze] at hP; exact hP
      | exc c ρb =>
        rw [zt] at hP
        exact fun σ4 H4 F4 s4 R4 => hP σ4 H4 F4 (s2.trans s4) R4
      | bad => rw [zt] at hP; exact hP
  · have e : i = ds.length := by omega
    subst e
    refine .inl ⟨k2 (Nat.le_refl _), ?_⟩
    rw [List.drop_length] at hP
    subst hmm
    exact comp_close hv' hBn hn len1 R1 sF R' hP
theorem de_lc2 {tg1 elt iter iter1 : Expr} {ifs ifs1 : List Expr} {scope : Scope} {own : List (Str × Nat)} {vs1 ts ts1 : List Nat} {fi fi1 : Ev → Out (List PyData)} {g g1 : PyData → Ev → Option Ev} {ft ft1 : Ev → Out Bool} {fe : Ev → Out PyData} (hN : ∀ i, (Γ.X i).N.Nodup) (hi : DI Γ G tg iter fi) (ok : ∀ i, BlkOk (Γ.X i).N (Γ.X i).env.scope scope own)
    (hg : DG (Γ.blk scope) G tg ts g) (ht : DTs (Γ.blk scope) G ifs ft) (hi1 : DI (Γ.blk scope) G tg1 iter1 fi1) (hg1 : DG (Γ.blk scope) G tg1 ts1 g1) (ht1 : DTs (Γ.blk scope) G ifs1 ft1) (he : DX (Γ.blk scope) G elt fe)
    (hts : ts.all (fun i => (own.map (·.2)).contains i) = true) (hts1 : ts1.all (fun i => vs1.contains i) = true) (hvs : vs1.all (fun i => (own.map (·.2)).contains i) = true) (hv : (own.map (·.2)).all (fun i => !G.B.contains i && Nat.blt i Γ.n) = true) (hBn : G.B.all (fun i => Nat.blt i Γ.n) = true)
    (hs : ∀ i, ∀ x, foldedSetIterable iter (Γ.X i).env x = pure x := by intro _ _; rfl) (hs1 : ∀ env x, foldedSetIterable iter1 env x = pure x := by intro _ _; rfl) : DE Γ G (.ListComp elt [⟨tg, iter, ifs, 0⟩, ⟨tg1, iter1, ifs1, 0⟩] scope pos) (rComp2 (own.map (·.2)) vs1 g ft fi1 g1 ft1 fe fi) := by
  obtain ⟨wi, p1, q1⟩ := hi.ex
  obtain ⟨tg', p2, q2⟩ := hg.ex
  obtain ⟨tt, p3, q3⟩ := ht.ex
  obtain ⟨wi1, r1, s1⟩ := hi1.ex
  obtain ⟨tg1', r2, s2⟩ := hg1.ex
  obtain ⟨tt1, r3, s3⟩ := ht1.ex
  obtain ⟨te, p4, q4⟩ := he.ex
  have mem : ∀ {a b : List Nat}, a.all (fun i => b.contains i) = true → ∀ i ∈ a, i ∈ b := fun h i hi => List.contains_iff_mem.mp (List.all_eq_true.mp h i hi)
  refine ⟨_, fun i => pe_lc2 (Γ.calm i) (hN i) (p1 i) (ok i) (mem hvs) (fun s H C cl fp => p2 (i, s, H, C, cl, fp)) (fun s H C cl fp => p3 (i, s, H, C, cl, fp)) (fun s H C cl fp => r1 (i, s, H, C, cl, fp)) (fun s H C cl fp => r2 (i, s, H, C, cl, fp)) (fun s H C cl fp => r3 (i, s, H, C, cl, fp)) (fun s H C cl fp => p4 (i, s, H, C, cl, fp)) (hs i) hs1, fun σ τ hn H ρ F Q R h => ?_⟩
  refine comp2_run q1 q2 q3 s1 s2 s3 q4 (mem hts) (mem hts1) (mem hvs) (fun i hi => ?_) hBn hn R h
  have := List.all_eq_true.mp hv i hi
  rw [Bool.and_eq_true] at this
  exact ⟨notin (by simpa using this.1), blt this.2⟩
theorem ds_setLc2 {tg1 elt iter iter1 : Expr} {ifs ifs1 : List Expr} {scope : Scope} {own : List (Str × Nat)} {vs1 ts ts1 : List Nat} {fi fi1 : Ev → Out (List PyData)} {g g1 : PyData → Ev → Option Ev} {ft ft1 : Ev → Out Bool} {fe : Ev → Out PyData} {y : Str} {k : Nat} {py spos : Pos} (hN : ∀ i, (Γ.X i).N.Nodup) (hi : DI Γ G tg iter fi) (ok : ∀ i, BlkOk (Γ.X i).N (Γ.X i).env.scope scope own)
    (hg : DG (Γ.blk scope) G tg ts g) (ht : DTs (Γ.blk scope) G ifs ft) (hi1 : DI (Γ.blk scope) G tg1 iter1 fi1) (hg1 : DG (Γ.blk scope) G tg1 ts1 g1) (ht1 : DTs (Γ.blk scope) G ifs1 ft1) (he : DX (Γ.blk scope) G elt fe)
    (hts : ts.all (fun i => (own.map (·.2)).contains i) = true) (hts1 : ts1.all (fun i => vs1.contains i) = true) (hvs : vs1.all (fun i => (own.map (·.2)).contains i) = true) (hv : (own.map (·.2)).all (fun i => !G.B.contains i && Nat.blt i Γ.n) = true) (hBn : G.B.all (fun i => Nat.blt i Γ.n) = true)
    (hy : ∀ i, (Γ.X i).N[k]? = some y) (hyl : ∀ i, (Γ.X i).env.scope.names.lookup y = some .local) (hsw : ∀ i, swapsWith (.ListComp elt [⟨tg, iter, ifs, 0⟩, ⟨tg1, iter1, ifs1, 0⟩] scope pos) (some (.Name y py)) spos.line (Γ.X i).env = pure true) (hB : G.B.contains k = false) (hk : Nat.blt k Γ.n = true)
    (hs : ∀ i, ∀ x, foldedSetIterable iter (Γ.X i).env x = pure x := by intro _ _; rfl) (hs1 : ∀ env x, foldedSetIterable iter1 env x = pure x := by intro _ _; rfl) : DS Γ G (.Assign [.Name y py] (.ListComp elt [⟨tg, iter, ifs, 0⟩, ⟨tg1, iter1, ifs1, 0⟩] scope pos) spos) (rSet k (rComp2 (own.map (·.2)) vs1 g ft fi1 g1 ft1 fe fi)) := by
  obtain ⟨wi, p1, q1⟩ := hi.ex
  obtain ⟨tg', p2, q2⟩ := hg.ex
  obtain ⟨tt, p3, q3⟩ := ht.ex
  obtain ⟨wi1, r1, s1⟩ := hi1.ex
  obtain ⟨tg1', r2, s2⟩ := hg1.ex
  obtain ⟨tt1, r3, s3⟩ := ht1.ex
  obtain ⟨te, p4, q4⟩ := he.ex
  have mem : ∀ {a b : List Nat}, a.all (fun i => b.contains i) = true → ∀ i ∈ a, i ∈ b := fun h i hi => List.contains_iff_mem.mp (List.all_eq_true.mp h i hi)
  refine ⟨_, fun i => ps_setLc2 (i := k) (Γ.calm i) (hN i) (hy i) (hyl i) (hsw i) (p1 i) (ok i) (mem hvs) (fun s H C cl fp => p2 (i, s, H, C, cl, fp)) (fun s H C cl fp => p3 (i, s, H, C, cl, fp)) (fun s H C cl fp => r1 (i, s, H, C, cl, fp)) (fun s H C cl fp => r2 (i, s, H, C, cl, fp)) (fun s H C cl fp => r3 (i, s, H, C, cl, fp)) (fun s H C cl fp => p4 (i, s, H, C, cl, fp)) (hs i) hs1, fun σ hn H ρ F D R h => ?_⟩
  show tLc2 wi tg' tt wi1 tg1' tt1 te (own.map (·.2)) vs1 σ H (fun x H1 => gName k x σ H1 D.nx)
  refine comp2_run (τ := []) q1 q2 q3 s1 s2 s3 q4 (mem hts) (mem hts1) (mem hvs) (fun i hi => ?_) hBn hn (by rw [List.append_nil]; exact R) ?_
  · have := List.all_eq_true.mp hv i hi
    rw [Bool.and_eq_true] at this
    exact ⟨notin (by simpa using this.1), blt this.2⟩
  rw [List.append_nil]
  refine PostS.bindE hn h fun s ρ1 v H1 F1 s1 R1 o1 h1 => ?_
  refine h1 (σ.set k (some v)) H1 F1 (by rw [List.length_set]; exact hn) (Same.refl _) ?_
  exact R1.store (notin hB) (by rw [hn]; exact blt hk) o1
end
end DL
/-! DL11: dicts of one's own: with plain keys, or with tuples as keys (these begin with a mark) -/
namespace DL
open PySem PySem.Spec PyProof.Rows L2
def keyK : PyData → Option Key
  | .int i => some (.inl i)
  | .str x => some (.inr x)
  | _ => none
def keysK : List PyData → Option (List Key)
  | [] => some []
  | d :: ds => (keyK d).bind fun k => (keysK ds).map (k :: ·)
def keyT : PyData → Option (List Key)
  | .tuple ds => keysK ds
  | _ => none
theorem keyK_D (k : Key) : keyK (keyD k) = some k := by cases k <;> rfl
theorem keysK_D : ∀ ks : List Key, keysK (ks.map keyD) = some ks
  | [] => rfl
  | k :: ks => by
    show (keyK (keyD k)).bind _ = _
    rw [keyK_D, keysK_D ks]
    rfl
theorem keyT_D (ks : List Key) : keyT (.tuple (ks.map keyD)) = some ks := keysK_D ks
theorem keyK_inv {d : PyData} {k : Key} (e : keyK d = some k) : d = keyD k := by
  cases d with
  | int i => cases e; rfl
  | str x => cases e; rfl
  | _ => cases e
theorem keysK_inv : ∀ {ds : List PyData} {ks : List Key}, keysK ds = some ks → ds = ks.map keyD
  | [], _, e => by cases e; rfl
  | d :: ds, _, e => by
    unfold keysK at e
    cases h : keyK d with
    | none => rw [h] at e; cases e
    | some k =>
      rw [h] at e
      cases h2 : keysK ds with
      | none => rw [h2] at e; cases e
      | some ks =>
        rw [h2] at e
        cases e
        rw [keyK_inv h, keysK_inv h2]
        rfl
theorem keyT_inv {d : PyData} {ks : List Key} (e : keyT d = some ks) : d = .tuple (ks.map keyD) := by
  cases d with
  | tuple ds => exact congrArg PyData.tuple (keysK_inv e)
  | _ => cases e
section
variable {K : PySem.W.Frag} {F H : Hp}
theorem Rp.keyD {v : V} {k : Key} (r : Rp K F v (keyD k)) : v = kV k := by
  cases k with
  | inl i => cases r; rfl
  | inr x => cases r; rfl
theorem RpA.keysD : ∀ {ks : List Key} {vs : List V}, RpA K F vs (ks.map DL.keyD) → vs = ks.map kV
  | [], _, r => by cases r; rfl
  | k :: ks, _, r => by
    cases r with
    | cons h1 h2 => rw [Rp.keyD h1, RpA.keysD h2]; rfl
theorem Rp.keysD {v : V} {ks : List Key} (r : Rp K F v (.tuple (ks.map DL.keyD))) : ∃ b, v = .ref b ∧ F b = some (.tup (ks.map kV)) := by
  cases r with
  | @tup a xs _ h1 h2 =>
    rw [RpA.keysD h2] at h1
    exact ⟨a, rfl, h1⟩
variable {κ : Type} [DecidableEq κ]
/-- what stands at a key -/
def lookD (key : PyData → Option κ) (kvs : List (PyData × PyData)) (k : κ) : Option PyData := (kvs.find? fun kv => decide (key kv.1 = some k)).map (·.2)
/-- in its place, or behind all -/
def putD (key : PyData → Option κ) (kvs : List (PyData × PyData)) (k : κ) (d v : PyData) : List (PyData × PyData) :=
  if (kvs.any fun kv => decide (key kv.1 = some k)) = true then kvs.map (fun kv => if key kv.1 = some k then (kv.1, v) else kv) else kvs ++ [(d, v)]
abbrev KvR (K : PySem.W.Frag) (F : Hp) (toD : κ → PyData) (a : κ × V) (b : PyData × PyData) : Prop := b.1 = toD a.1 ∧ Rp K F a.2 b.2
theorem key_iff {key : PyData → Option κ} {toD : κ → PyData} (hk : ∀ x, key (toD x) = some x) {a : κ} {b : PyData} (e : b = toD a) (k : κ) : (key b = some k) ↔ a = k := by
  rw [e, hk]
  exact ⟨fun h => Option.some.inj h, fun h => by rw [h]⟩
theorem look_rel {key : PyData → Option κ} {toD : κ → PyData} (hk : ∀ x, key (toD x) = some x) (k : κ) : ∀ {kv : List (κ × V)} {kvs : List (PyData × PyData)}, Paired (KvR K F toD) kv kvs →
    (valV kv k = none ∧ lookD key kvs k = none) ∨ ∃ v d, valV kv k = some v ∧ lookD key kvs k = some d ∧ Rp K F v d
  | [], _, r => by cases r; exact .inl ⟨rfl, rfl⟩
  | (a, v) :: kv, _, r => by
    cases r with
    | @cons _ b _ kvs h1 h2 =>
      have e := key_iff hk h1.1 k
      by_cases z : a = k
      · refine .inr ⟨v, b.2, valV_pos z, ?_, h1.2⟩
        unfold lookD
        rw [List.find?_cons_of_pos (by simpa using e.mpr z)]
        rfl
      · have z2 : ¬ key b.1 = some k := fun y => z (e.mp y)
        rw [valV_neg z]
        have l : lookD key (b :: kvs) k = lookD key kvs k := by
          unfold lookD
          rw [List.find?_cons_of_neg (by simpa using z2)]
        rw [l]
        exact look_rel hk k h2
theorem any_rel {key : PyData → Option κ} {toD : κ → PyData} (hk : ∀ x, key (toD x) = some x) (k : κ) : ∀ {kv : List (κ × V)} {kvs : List (PyData × PyData)}, Paired (KvR K F toD) kv kvs →
    (kv.any fun a => decide (a.1 = k)) = (kvs.any fun b => decide (key b.1 = some k))
  | [], _, r => by cases r; rfl
  | (a, v) :: kv, _, r => by
    cases r with
    | @cons _ b _ kvs h1 h2 =>
      rw [List.any_cons, List.any_cons, any_rel hk k h2]
      congr 1
      exact decide_eq_decide.mpr (key_iff hk h1.1 k).symm
theorem map_rel {key : PyData → Option κ} {toD : κ → PyData} (hk : ∀ x, key (toD x) = some x) (k : κ) {v : V} {d : PyData} (rv : Rp K F v d) : ∀ {kv : List (κ × V)} {kvs : List (PyData × PyData)}, Paired (KvR K F toD) kv kvs →
    Paired (KvR K F toD) (kv.map fun a => if a.1 = k then (a.1, v) else a) (kvs.map fun b => if key b.1 = some k then (b.1, d) else b)
  | [], _, r => by cases r; exact .nil
  | a :: kv, _, r => by
    cases r with
    | @cons _ b _ kvs h1 h2 =>
      rw [List.map_cons, List.map_cons]
      refine .cons ?_ (map_rel hk k rv h2)
      have e := key_iff hk h1.1 k
      by_cases z : a.1 = k
      · rw [if_pos z, if_pos (e.mpr z)]
        exact ⟨h1.1, rv⟩
      · rw [if_neg z, if_neg fun y => z (e.mp y)]
        exact h1
theorem put_rel {key : PyData → Option κ} {toD : κ → PyData} (hk : ∀ x, key (toD x) = some x) {k : κ} {v : V} {d : PyData} (rv : Rp K F v d) {kv : List (κ × V)} {kvs : List (PyData × PyData)} (r : Paired (KvR K F toD) kv kvs) :
    Paired (KvR K F toD) (putK kv k v) (putD key kvs k (toD k) d) := by
  unfold putK putD
  rw [any_rel hk k r]
  split
  · exact map_rel hk k rv r
  · exact Paired.snoc r ⟨rfl, rv⟩
theorem Paired.len {α β : Type} {R : α → β → Prop} {l : List α} {m : List β} (r : Paired R l m) : l.length = m.length := Paired.length r
/-- a dict with tuple keys begins with a mark -/
def isT : List (PyData × PyData) → Option (List (PyData × PyData))
  | (.none, .none) :: r => some r
  | _ => none
theorem isT_K {kv : List (Key × V)} {kvs : List (PyData × PyData)} (r : Paired (KvR K F DL.keyD) kv kvs) : isT kvs = none := by
  cases r with
  | nil => rfl
  | @cons a b _ _ h1 _ =>
    obtain ⟨x, y⟩ := b
    have e : x = DL.keyD a.1 := h1.1
    cases h : a.1 with
    | inl i => rw [h] at e; subst e; rfl
    | inr i => rw [h] at e; subst e; rfl
def dGetO (d key : PyData) : Option (Option PyData) := match d with
  | .dict kvs => (match isT kvs with
    | some r => (keyT key).map fun k => lookD keyT r k
    | none => (keyK key).map fun k => lookD keyK kvs k)
  | _ => none
def dPutO (d key v : PyData) : Option PyData := match d with
  | .dict kvs => (match isT kvs with
    | some r => if r.length < line then (keyT key).map fun k => .dict ((.none, .none) :: putD keyT r k key v) else none
    | none => if kvs.length < line then (keyK key).map fun k => .dict (putD keyK kvs k key v) else none)
  | _ => none
theorem own_get {p : Addr} {d key : PyData} {y : V} {r : Option PyData} (s : Same F H) (o : OwnOk K F H p d) (rk : Rp K F y key) (e : dGetO d key = some r) :
    IsD H p ∧ ∃ o', DGet H p y o' ∧ ((r = none ∧ o' = none) ∨ ∃ v x, r = some x ∧ o' = some v ∧ Rp K F v x) := by
  cases o with
  | lst h1 h2 => cases e
  | @dK kv kvs h1 h2 =>
    have t := isT_K h2
    unfold dGetO at e
    simp only [t] at e
    cases hk : keyK key with
    | none => rw [hk] at e; cases e
    | some k =>
      rw [hk] at e
      cases e
      rw [keyK_inv hk] at rk
      rw [Rp.keyD rk]
      refine ⟨.inl ⟨_, .inl h1⟩, _, DGet.k h1, ?_⟩
      rcases look_rel keyK_D k h2 with ⟨a, b⟩ | ⟨v, x, a, b, c⟩
      · exact .inl ⟨b, a⟩
      · exact .inr ⟨v, x, b, a, c⟩
  | @dT kv kvs h1 h2 =>
    have e : (keyT key).map (fun k => lookD keyT kvs k) = some r := e
    cases hk : keyT key with
    | none => rw [hk] at e; cases e
    | some k =>
      rw [hk] at e
      cases e
      rw [keyT_inv hk] at rk
      obtain ⟨b, rfl, hb⟩ := Rp.keysD rk
      refine ⟨.inr ⟨_, .inl h1⟩, _, DGet.t h1 (s _ _ hb), ?_⟩
      rcases look_rel (key := keyT) (toD := fun ks => .tuple (ks.map DL.keyD)) keyT_D k h2 with ⟨a, b⟩ | ⟨v, x, a, b, c⟩
      · exact .inl ⟨b, a⟩
      · exact .inr ⟨v, x, b, a, c⟩
theorem own_put {p : Addr} {d key x d' : PyData} {y v : V} (s : Same F H) (o : OwnOk K F H p d) (rk : Rp K F y key) (rv : Rp K F v x) (e : dPutO d key x = some d') :
    ∃ ob, DPut H p y v (upd H p ob) ∧ OwnOk K F (upd H p ob) p d' := by
  cases o with
  | lst h1 h2 => cases e
  | @dK kv kvs h1 h2 =>
    have t := isT_K h2
    unfold dPutO at e
    simp only [t] at e
    split at e
    · next hl =>
      cases hk : keyK key with
      | none => rw [hk] at e; cases e
      | some k =>
        rw [hk] at e
        cases e
        have ek := keyK_inv hk
        subst ek
        rw [Rp.keyD rk]
        exact ⟨_, DPut.k h1 (by rw [Paired.len h2, line_eq]; exact hl), .dK upd_same (put_rel keyK_D rv h2)⟩
    · cases e
  | @dT kv kvs h1 h2 =>
    have e : (if kvs.length < line then (keyT key).map fun k => PyData.dict ((.none, .none) :: putD keyT kvs k key x) else none) = some d' := e
    split at e
    · next hl =>
      cases hk : keyT key with
      | none => rw [hk] at e; cases e
      | some k =>
        rw [hk] at e
        cases e
        have ek := keyT_inv hk
        subst ek
        obtain ⟨b, rfl, hb⟩ := Rp.keysD rk
        exact ⟨_, DPut.t h1 (s _ _ hb) (by rw [Paired.len h2, line_eq]; exact hl), .dT upd_same (put_rel (key := keyT) (toD := fun ks => .tuple (ks.map DL.keyD)) keyT_D rv h2)⟩
    · cases e
end
/-- a slot's own thing -/
def ownS : Option Sl → Option PyData
  | some (.own d) => some d
  | _ => none
section
variable {Γ : Fam} {G : Cg} {e e1 e2 e3 : Expr} {pos : Pos}
theorem Rel.own {K : PySem.W.Frag} {σ : L2.St} {H : Hp} {ρ : Ev} {F : Hp} {k : Nat} {d : PyData} (R : Rel K G σ H ρ F) (z : ownS ρ[k]? = some d) : ∃ p, ρ[k]? = some (.own d) ∧ σ[k]? = some (some (.ref p)) ∧ F p = none ∧ OwnOk K F H p d ∧ Pl G k p := by
  cases h : ρ[k]? with
  | none => rw [h] at z; cases z
  | some s =>
    rw [h] at z
    cases s with
    | own d' =>
      cases z
      obtain ⟨p, a1, a2, a3, a4⟩ := R.sl k _ h
      exact ⟨p, rfl, a1, a2, a3, a4⟩
    | _ => cases z
def rDNewK : Ev → Out Sl := fun ρ => .ok (.own (.dict [])) ρ
def rDNewT : Ev → Out Sl := fun ρ => .ok (.own (.dict [(.none, .none)])) ρ
theorem de_dnewK : DE Γ G (.Dict [] [] pos) rDNewK :=
  ⟨_, fun _ => pe_dnewK, fun σ τ hn H ρ F Q R h p hp => h _ _ F (Same.refl F) (R.grown (same_upd0 hp)) ⟨p, rfl, R.freeF hp, .dK upd_same .nil, R.h0 hp, R.noSlot hp⟩⟩
theorem de_dnewT : DE Γ G (.Dict [] [] pos) rDNewT :=
  ⟨_, fun _ => pe_dnewT, fun σ τ hn H ρ F Q R h p hp => h _ _ F (Same.refl F) (R.grown (same_upd0 hp)) ⟨p, rfl, R.freeF hp, .dT upd_same .nil, R.h0 hp, R.noSlot hp⟩⟩
def getHere (d b : PyData) : Option PyData := match dGetO d b with
  | some (some x) => some x
  | _ => none
abbrev rDGet (k : Nat) (g : Ev → Out PyData) : Ev → Out PyData := fun ρ => (lift (ownS ρ[k]?) ρ).bind fun _ ρ1 => (g ρ1).bind fun b ρ2 => (lift (ownS ρ2[k]?) ρ2).bind fun d ρ3 => lift (getHere d b) ρ3
/-- name[key] -/
theorem dx_dget {k : Nat} {g : Ev → Out PyData} (h1 : ∀ i, PE (Γ.X i) e1 (tVar k)) (hi : Nat.blt k Γ.n = true) (h2 : DX Γ G e2 g) (hs : NoSl e2 := by intro _ _; rfl) : DX Γ G (.Subscript e1 e2 pos) (rDGet k g) := by
  obtain ⟨t2, p2, q2⟩ := h2.ex
  refine ⟨tDGet (tVar k) t2, fun i => pe_dget (by have := Γ.hu i; omega) (h1 i) (p2 i) hs, fun σ τ hn H ρ F Q R h => ?_⟩
  cases z : ownS ρ[k]? with
  | none => rw [rDGet, z] at h; exact h.elim
  | some d =>
    rw [rDGet, z] at h
    obtain ⟨p, _, a, _, _, _⟩ := R.own z
    refine ⟨.ref p, ghost hn hi a, q2 σ τ hn H ρ F _ R (Post.bind h fun b ρ2 y H2 F2 s2 R2 o2 h2 => ?_)⟩
    cases z2 : ownS ρ2[k]? with
    | none => rw [z2] at h2; exact h2.elim
    | some d2 =>
      rw [z2] at h2
      obtain ⟨p2, _, a2, f2, ok2, _⟩ := R2.own z2
      rw [a] at a2
      cases a2
      have h2 : Post Γ.K G (σ ++ τ) F2 (lift (getHere d2 b) ρ2) (okX Γ.K) Q := h2
      unfold getHere at h2
      split at h2
      · next x ex =>
        obtain ⟨_, o', g1, g2⟩ := own_get R2.sub ok2 o2 ex
        rcases g2 with ⟨w, _⟩ | ⟨v, x', w, rfl, rv⟩
        · cases w
        · cases w
          exact ⟨p, v, rfl, g1, h2 v H2 F2 (Same.refl _) R2 rv⟩
      · exact h2.elim
abbrev rDGetE (f : Ev → Out Sl) (g : Ev → Out PyData) : Ev → Out PyData := fun ρ => (f ρ).bind fun s ρ1 => (g (ρ1 ++ [s])).bind fun b ρ2 => (lift (ownS ρ2[ρ1.length]?) ρ2).bind fun d ρ3 => lift (getHere d b) (ρ3.take ρ1.length)
abbrev rDGet2 (k : Nat) (g x : Ev → Out PyData) : Ev → Out PyData := fun ρ => (lift (ownS ρ[k]?) ρ).bind fun d0 ρ1 => (match d0 with
  | .dict _ => (g ρ1).bind fun b ρ2 => (x ρ2).bind fun c ρ3 => (lift (ownS ρ3[k]?) ρ3).bind fun d ρ4 => lift ((dGetO d b).map fun o => o.getD c) ρ4
  | _ => .bad)
theorem own_isD {K : PySem.W.Frag} {F H : Hp} {p : Addr} {kvs : List (PyData × PyData)} (o : OwnOk K F H p (.dict kvs)) : IsD H p := by
  cases o with
  | dK h _ => exact .inl ⟨_, .inl h⟩
  | dT h _ => exact .inr ⟨_, .inl h⟩
/-- name.get(key, value) -/
theorem dx_dget2 {k : Nat} {apos : Pos} {g x : Ev → Out PyData} (h1 : ∀ i, PE (Γ.X i) e1 (tVar k)) (hi : Nat.blt k Γ.n = true) (h2 : DX Γ G e2 g) (h3 : DX Γ G e3 x)
    (hm : ∀ i, M2 (Γ.X i) e1 "get" apos e2 e3 pos) : DX Γ G (.Call (.Attribute e1 "get" apos) [e2, e3] [] pos) (rDGet2 k g x) := by
  obtain ⟨t2, p2, q2⟩ := h2.ex
  obtain ⟨t3, p3, q3⟩ := h3.ex
  refine ⟨tDGet2 (tVar k) t2 t3, fun i => pe_dget2 (by have := Γ.hu i; omega) (h1 i) (p2 i) (p3 i) (hm i), fun σ τ hn H ρ F Q R h => ?_⟩
  cases z : ownS ρ[k]? with
  | none => rw [rDGet2, z] at h; exact h.elim
  | some d =>
    rw [rDGet2, z] at h
    obtain ⟨p, _, a, _, ok, _⟩ := R.own z
    cases d with
    | dict kvs =>
      have h : Post Γ.K G (σ ++ τ) F ((g ρ).bind fun b ρ2 => (x ρ2).bind fun c ρ3 => (lift (ownS ρ3[k]?) ρ3).bind fun d ρ4 => lift ((dGetO d b).map fun o => o.getD c) ρ4) (okX Γ.K) Q := h
      refine ⟨.ref p, ghost hn hi a, p, rfl, own_isD ok, q2 σ τ hn H ρ F _ R (Post.bind h fun b ρ2 y H2 F2 s2 R2 o2 h2 => ?_)⟩
      refine q3 σ τ hn H2 ρ2 F2 _ R2 (Post.bind h2 fun c ρ3 w H3 F3 s3 R3 o3 h3 => ?_)
      cases z2 : ownS ρ3[k]? with
      | none => rw [z2] at h3; exact h3.elim
      | some d2 =>
        rw [z2] at h3
        obtain ⟨p2, _, a2, f2, ok2, _⟩ := R3.own z2
        rw [a] at a2
        cases a2
        have h3 : Post Γ.K G (σ ++ τ) F3 (lift ((dGetO d2 b).map fun o => o.getD c) ρ3) (okX Γ.K) Q := h3
        cases ex : dGetO d2 b with
        | none => rw [ex] at h3; exact h3.elim
        | some r =>
          rw [ex] at h3
          obtain ⟨_, o', g1, g2⟩ := own_get R3.sub ok2 (o2.mono s3) ex
          rcases g2 with ⟨rfl, rfl⟩ | ⟨v, x', rfl, rfl, rv⟩
          · exact ⟨none, g1, h3 w H3 F3 (Same.refl _) R3 o3⟩
          · exact ⟨some v, g1, h3 v H3 F3 (Same.refl _) R3 rv⟩
    | _ => exact h.elim
def putHere (k : Nat) (i d : PyData) (ρ : Ev) : Out Flw := match ownS ρ[k]? with
  | some dd => (match dPutO dd i d with
    | some d' => .ok .nx (ρ.set k (.own d'))
    | none => .bad)
  | none => .bad
abbrev rDPut (k : Nat) (f g : Ev → Out PyData) : Ev → Out Flw := fun ρ => (f ρ).bind fun d ρ1 => (lift (ownS ρ1[k]?) ρ1).bind fun _ ρ2 => (g ρ2).bind fun i ρ3 => putHere k i d ρ3
/-- name[key] = value -/
theorem ds_dput {k : Nat} {tpos : Pos} {f g : Ev → Out PyData} (hv : DX Γ G e f) (hk : ∀ i, PE (Γ.X i) e1 (tVar k)) (hi : DX Γ G e2 g) (hs : ∀ i, swapsWith e (some (.Subscript e1 e2 tpos)) pos.line (Γ.X i).env = pure false := by intro _; rfl) :
    DS Γ G (.Assign [.Subscript e1 e2 tpos] e pos) (rDPut k f g) := by
  obtain ⟨t, p, q⟩ := hv.ex
  obtain ⟨t2, p2, q2⟩ := hi.ex
  refine ⟨_, fun i => ps_dput (by have := Γ.hu i; omega) (hk i) (p2 i) (p i) (hs i), fun σ hn H ρ F D R h => ?_⟩
  refine q0 (ok := fun _ => okX Γ.K) q σ hn H ρ F _ R (PostS.bindE hn h fun d ρ1 v H1 F1 s1 R1 o1 h1 => ?_)
  cases z : ownS ρ1[k]? with
  | none => rw [z] at h1; exact h1.elim
  | some dk =>
    rw [z] at h1
    obtain ⟨p1, _, a1, _, _, _⟩ := R1.own z
    refine ⟨.ref p1, a1, ?_⟩
    have h1 : PostS Γ.K G Γ.n F1 ((g ρ1).bind fun i ρ3 => putHere k i d ρ3) D := h1
    refine q0 (ok := fun _ => okX Γ.K) q2 σ hn H1 ρ1 F1 _ R1 (PostS.bindE hn h1 fun i ρ2 vi H2 F2 s2 R2 o2 h2 => ?_)
    unfold putHere at h2
    split at h2
    · next dd e3 =>
      split at h2
      · next d' e4 =>
        obtain ⟨p3, x0, x1, x2, x3, x4⟩ := R2.own e3
        rw [a1] at x1
        cases x1
        obtain ⟨ob, y1, y2⟩ := own_put R2.sub x3 o2 (o1.mono s2) e4
        exact ⟨p1, _, rfl, y1, h2 σ _ F2 hn (Same.refl _) (R2.change x0 a1 y2)⟩
      · exact h2.elim
    · exact h2.elim
abbrev rDIn (neg : Bool) (k : Nat) (g : Ev → Out PyData) : Ev → Out Sl := fun ρ => (g ρ).bind fun b ρ1 => (lift (ownS ρ1[k]?) ρ1).bind fun d ρ2 => lift ((dGetO d b).map fun o => .dat (.bool (if neg then !o.isSome else o.isSome))) ρ2
/-- key in name -/
theorem de_din {k : Nat} {g : Ev → Out PyData} (h1 : ∀ i, PE (Γ.X i) e1 (tVar k)) (hi : Nat.blt k Γ.n = true) (h2 : DX Γ G e2 g) (hm : behindInMarks .In e1 = false := by rfl) : DE Γ G (.Compare e2 [.In] [e1] pos) (rDIn false k g) := by
  obtain ⟨t2, p2, q2⟩ := h2.ex
  refine ⟨tDIn t2 (tVar k), fun i => pe_cmp (pc_din (by have := Γ.hu i; omega) (p2 i) (h1 i)) hm, fun σ τ hn H ρ F Q R h => q2 σ τ hn H ρ F _ R (Post.bind h fun b ρ1 y H1 F1 s1 R1 o1 h1 => ?_)⟩
  cases z : ownS ρ1[k]? with
  | none => rw [z] at h1; exact h1.elim
  | some d =>
    rw [z] at h1
    obtain ⟨p, _, a, _, ok, _⟩ := R1.own z
    have h1 : Post Γ.K G (σ ++ τ) F1 (lift ((dGetO d b).map fun o => Sl.dat (.bool (if false then !o.isSome else o.isSome))) ρ1) (okE Γ.K G (σ ++ τ)) Q := h1
    refine ⟨.ref p, ghost hn hi a, ?_⟩
    cases ex : dGetO d b with
    | none => rw [ex] at h1; exact h1.elim
    | some r =>
      rw [ex] at h1
      obtain ⟨_, o', g1, g2⟩ := own_get R1.sub ok o1 ex
      rcases g2 with ⟨rfl, rfl⟩ | ⟨v, x', rfl, rfl, rv⟩
      · exact ⟨p, none, rfl, g1, h1 _ H1 F1 (Same.refl _) R1 (.bl _)⟩
      · exact ⟨p, some v, rfl, g1, h1 _ H1 F1 (Same.refl _) R1 (.bl _)⟩
theorem de_dnotin {k : Nat} {g : Ev → Out PyData} (h1 : ∀ i, PE (Γ.X i) e1 (tVar k)) (hi : Nat.blt k Γ.n = true) (h2 : DX Γ G e2 g) (hm : behindInMarks .NotIn e1 = false := by rfl) : DE Γ G (.Compare e2 [.NotIn] [e1] pos) (rDIn true k g) := by
  obtain ⟨t2, p2, q2⟩ := h2.ex
  refine ⟨tDNotIn t2 (tVar k), fun i => pe_cmp (pc_dnotin (by have := Γ.hu i; omega) (p2 i) (h1 i)) hm, fun σ τ hn H ρ F Q R h => q2 σ τ hn H ρ F _ R (Post.bind h fun b ρ1 y H1 F1 s1 R1 o1 h1 => ?_)⟩
  cases z : ownS ρ1[k]? with
  | none => rw [z] at h1; exact h1.elim
  | some d =>
    rw [z] at h1
    obtain ⟨p, _, a, _, ok, _⟩ := R1.own z
    have h1 : Post Γ.K G (σ ++ τ) F1 (lift ((dGetO d b).map fun o => Sl.dat (.bool (if true then !o.isSome else o.isSome))) ρ1) (okE Γ.K G (σ ++ τ)) Q := h1
    refine ⟨.ref p, ghost hn hi a, ?_⟩
    cases ex : dGetO d b with
    | none => rw [ex] at h1; exact h1.elim
    | some r =>
      rw [ex] at h1
      obtain ⟨_, o', g1, g2⟩ := own_get R1.sub ok o1 ex
      rcases g2 with ⟨rfl, rfl⟩ | ⟨v, x', rfl, rfl, rv⟩
      · exact ⟨p, none, rfl, g1, h1 _ H1 F1 (Same.refl _) R1 (.bl _)⟩
      · exact ⟨p, some v, rfl, g1, h1 _ H1 F1 (Same.refl _) R1 (.bl _)⟩
/-- a new dict, read at once -/
theorem dx_dgetE {f : Ev → Out Sl} {g : Ev → Out PyData} (h1 : DE Γ G e1 f) (h2 : DX Γ G e2 g) (hBn : G.B.all (fun i => Nat.blt i Γ.n) = true) (hs : NoSl e2 := by intro _ _; rfl) : DX Γ G (.Subscript e1 e2 pos) (rDGetE f g) := by
  obtain ⟨t1, p1, q1⟩ := h1.ex
  obtain ⟨t2, p2, q2⟩ := h2.ex
  refine ⟨tDGet t1 t2, fun i => pe_dget (by have := Γ.hu i; omega) (p1 i) (p2 i) hs, fun σ τ hn H ρ F Q R h => ?_⟩
  refine q1 σ τ hn H ρ F _ R (Post.bind h fun s ρ1 v H1 F1 s1 R1 o1 h1 => ?_)
  have len1 : ρ1.length = (σ ++ τ).length := R1.len
  have mB : (σ ++ τ).length ∉ G.B := fun z => by
    have := allLt hBn _ z
    rw [List.length_append] at this
    omega
  have R0 := R1.ghost mB o1
  rw [List.append_assoc] at R0
  have h1 : Post Γ.K G (σ ++ τ) F1 ((g (ρ1 ++ [s])).bind fun b ρ2 => (lift (ownS ρ2[ρ1.length]?) ρ2).bind fun d ρ3 => lift (getHere d b) (ρ3.take ρ1.length)) (okX Γ.K) Q := h1
  refine q2 σ (τ ++ [some v]) hn H1 _ F1 _ R0 ?_
  cases zg : g (ρ1 ++ [s]) with
  | bad => rw [zg] at h1; exact h1.elim
  | exc c ρ2 => rw [zg] at h1; exact h1
  | ok b ρ2 =>
    rw [zg] at h1
    intro y H2 F2 s2 R2 o2
    cases z : ownS ρ2[ρ1.length]? with
    | none =>
      have h1 : Post Γ.K G (σ ++ τ) F1 ((lift (ownS ρ2[ρ1.length]?) ρ2).bind fun d ρ3 => lift (getHere d b) (ρ3.take ρ1.length)) (okX Γ.K) Q := h1
      rw [z] at h1
      exact h1.elim
    | some d =>
      have h1 : Post Γ.K G (σ ++ τ) F1 ((lift (ownS ρ2[ρ1.length]?) ρ2).bind fun d ρ3 => lift (getHere d b) (ρ3.take ρ1.length)) (okX Γ.K) Q := h1
      rw [z] at h1
      have h1 : Post Γ.K G (σ ++ τ) F1 (lift (getHere d b) (ρ2.take ρ1.length)) (okX Γ.K) Q := h1
      obtain ⟨p, e0, a, f2, ok2, _⟩ := R2.own z
      have gh : (σ ++ (τ ++ [some v]))[ρ1.length]? = some (some v) := by
        rw [len1, ← List.append_assoc, List.getElem?_append_right (Nat.le_refl _)]
        simp
      rw [gh] at a
      cases a
      have Rn : Rel Γ.K G (σ ++ τ) H2 (ρ2.take ρ1.length) F2 := by
        have R'' := R2
        rw [← List.append_assoc] at R''
        have z := R''.noGhost fun i hi => Nat.lt_of_lt_of_le (allLt hBn i hi) (by rw [List.length_append, hn]; omega)
        rw [← len1] at z
        exact z
      unfold getHere at h1
      split at h1
      · next x ex =>
        obtain ⟨_, o', g1, g2⟩ := own_get R2.sub ok2 o2 ex
        rcases g2 with ⟨w, _⟩ | ⟨v', x', w, rfl, rv⟩
        · cases w
        · cases w
          exact ⟨p, v', rfl, g1, h1 v' H2 F2 s2 Rn rv⟩
      · exact h1.elim
theorem dt_of {op : CmpOp} {a b : Expr} {f : Ev → Out Sl} (h : ∃ t : TE, (∀ i, PC (Γ.X i) op a b t) ∧ ∀ (σ τ : L2.St) (hn : σ.length = Γ.n) (H : Hp) (ρ : Ev) (F : Hp) (Q : VK), Rel Γ.K G (σ ++ τ) H ρ F → Post Γ.K G (σ ++ τ) F (f ρ) (okE Γ.K G (σ ++ τ)) Q → t σ H Q) (hm : behindInMarks op b = false) : DT Γ G (.Compare a [op] [b] pos) (fun ρ => (f ρ).bind asB) := by
  obtain ⟨t, p, q⟩ := h
  refine ⟨tB t, fun i => pt_cmp (p i) hm, fun σ τ hn H ρ F Q R h => q σ τ hn H ρ F _ R (Post.bind h fun s ρ1 v H1 F1 s1 R1 o1 h1 => ?_)⟩
  cases s with
  | dat d =>
    cases d with
    | bool b =>
      cases o1
      exact ⟨b, rfl, h1 b H1 F1 (Same.refl _) R1 rfl⟩
    | _ => exact h1.elim
  | _ => exact h1.elim
theorem din_walk {neg : Bool} {op : CmpOp} {k : Nat} {g : Ev → Out PyData} {td : TE → TE → TE} (htd : td = if neg then tDNotIn else tDIn) (hpc : ∀ i t2, PE (Γ.X i) e2 t2 → PC (Γ.X i) op e2 e1 (td t2 (tVar k))) (hi : Nat.blt k Γ.n = true) (h2 : DX Γ G e2 g) :
    ∃ t : TE, (∀ i, PC (Γ.X i) op e2 e1 t) ∧ ∀ (σ τ : L2.St) (hn : σ.length = Γ.n) (H : Hp) (ρ : Ev) (F : Hp) (Q : VK), Rel Γ.K G (σ ++ τ) H ρ F → Post Γ.K G (σ ++ τ) F (rDIn neg k g ρ) (okE Γ.K G (σ ++ τ)) Q → t σ H Q := by
  obtain ⟨t2, p2, q2⟩ := h2.ex
  refine ⟨td t2 (tVar k), fun i => hpc i t2 (p2 i), fun σ τ hn H ρ F Q R h => ?_⟩
  have key : t2 σ H fun y H1 => tVar k σ H1 fun x H2 => ∃ a o, x = .ref a ∧ DGet H2 a y o ∧ Q (.bl (if neg then !o.isSome else o.isSome)) H2 := by
    refine q2 σ τ hn H ρ F _ R (Post.bind h fun b ρ1 y H1 F1 s1 R1 o1 h1 => ?_)
    cases z : ownS ρ1[k]? with
    | none => rw [z] at h1; exact h1.elim
    | some d =>
      rw [z] at h1
      obtain ⟨p, _, a, _, ok, _⟩ := R1.own z
      have h1 : Post Γ.K G (σ ++ τ) F1 (lift ((dGetO d b).map fun o => Sl.dat (.bool (if neg then !o.isSome else o.isSome))) ρ1) (okE Γ.K G (σ ++ τ)) Q := h1
      refine ⟨.ref p, ghost hn hi a, ?_⟩
      cases ex : dGetO d b with
      | none => rw [ex] at h1; exact h1.elim
      | some r =>
        rw [ex] at h1
        obtain ⟨_, o', g1, g2⟩ := own_get R1.sub ok o1 ex
        rcases g2 with ⟨rfl, rfl⟩ | ⟨v, x', rfl, rfl, rv⟩
        · exact ⟨p, none, rfl, g1, h1 _ H1 F1 (Same.refl _) R1 (.bl _)⟩
        · exact ⟨p, some v, rfl, g1, h1 _ H1 F1 (Same.refl _) R1 (.bl _)⟩
  subst htd
  cases neg with
  | false => exact key
  | true => exact key
theorem dt_din {k : Nat} {g : Ev → Out PyData} (h1 : ∀ i, PE (Γ.X i) e1 (tVar k)) (hi : Nat.blt k Γ.n = true) (h2 : DX Γ G e2 g) (hm : behindInMarks .In e1 = false := by rfl) : DT Γ G (.Compare e2 [.In] [e1] pos) (fun ρ => (rDIn false k g ρ).bind asB) :=
  dt_of (din_walk (neg := false) rfl (fun i t p => pc_din (by have := Γ.hu i; omega) p (h1 i)) hi h2) hm
theorem dt_dnotin {k : Nat} {g : Ev → Out PyData} (h1 : ∀ i, PE (Γ.X i) e1 (tVar k)) (hi : Nat.blt k Γ.n = true) (h2 : DX Γ G e2 g) (hm : behindInMarks .NotIn e1 = false := by rfl) : DT Γ G (.Compare e2 [.NotIn] [e1] pos) (fun ρ => (rDIn true k g ρ).bind asB) :=
  dt_of (din_walk (neg := true) rfl (fun i t p => pc_dnotin (by have := Γ.hu i; omega) p (h1 i)) hi h2) hm
end
end DL
/-! DL12: a name with += -/
namespace DL
open PySem PySem.Spec PyProof.Rows L2
def rIAdd : R2 := fun x y H Q => rI0 (fun i j => .int (i + j)) x y H Q ∨ rExt2 x y H Q
theorem iop_addA {X : Cx} : OpR X (inplaceOp .Add) rIAdd := iop_add.or iop_ext
def augAdd (i : Nat) (d : PyData) (ρ : Ev) : Out Flw := match ρ[i]?, d with
  | some (.dat (.int a)), .int b => .ok .nx (ρ.set i (.dat (.int (a + b))))
  | some (.own (.list xs)), .list ys => if xs.length + ys.length ≤ line then .ok .nx (ρ.set i (.own (.list (xs ++ ys)))) else .bad
  | _, _ => .bad
def isSome? : Option Sl → Bool
  | some (.dat _) => true
  | some (.own _) => true
  | _ => false
abbrev rAug (i : Nat) (f : Ev → Out PyData) : Ev → Out Flw := fun ρ => if isSome? ρ[i]? = true then (f ρ).bind fun d ρ1 => augAdd i d ρ1 else .bad
section
variable {Γ : Fam} {G : Cg} {e : Expr} {pos : Pos}
theorem set_same {σ : L2.St} {i : Nat} {x : Option V} (h : σ[i]? = some x) : σ.set i x = σ := by
  obtain ⟨h1, h2⟩ := List.getElem?_eq_some_iff.mp h
  rw [← h2, List.set_getElem_self]
theorem ds_aug {i : Nat} {x : Str} {pos' : Pos} {f : Ev → Out PyData} (he : DX Γ G e f) (hB : G.B.contains i = false) (hn' : Nat.blt i Γ.n = true) (hps : ∀ k t, PE (Γ.X k) e t → PS (Γ.X k) (.AugAssign (.Name x pos') .Add e pos) (tAug i t rIAdd)) : DS Γ G (.AugAssign (.Name x pos') .Add e pos) (rAug i f) := by
  obtain ⟨t, p, q⟩ := he.ex
  refine ⟨_, fun k => hps k t (p k), fun σ hn H ρ F D R h => ?_⟩
  have h : PostS Γ.K G Γ.n F (if isSome? ρ[i]? = true then (f ρ).bind fun d ρ1 => augAdd i d ρ1 else .bad) D := h
  split at h
  · next hs =>
    have hv : ∃ v, σ[i]? = some (some v) := by
      cases z : ρ[i]? with
      | none => rw [z] at hs; cases hs
      | some s =>
        have o := R.sl i s z
        cases s with
        | dat d => obtain ⟨v, a, _⟩ := o; exact ⟨v, a⟩
        | own d => obtain ⟨v, a, _⟩ := o; exact ⟨_, a⟩
        | emp => rw [z] at hs; cases hs
        | scr ns => rw [z] at hs; cases hs
    obtain ⟨v, hv⟩ := hv
    refine ⟨v, hv, ?_⟩
    refine q0 (ok := fun _ => okX Γ.K) q σ hn H ρ F _ R (PostS.bindE hn h fun d ρ1 w H1 F1 s1 R1 o1 h1 => ?_)
    unfold augAdd at h1
    split at h1
    · next a b e3 =>
      obtain ⟨v', x1, x2⟩ := R1.sl i _ e3
      rw [hv] at x1
      cases x1
      cases x2
      cases o1
      refine .inl ⟨a, b, rfl, rfl, ?_⟩
      exact h1 _ H1 F1 (by rw [List.length_set]; exact hn) (Same.refl _) (R1.store (s := .dat (.int (a + b))) (notin hB) (by rw [hn]; exact blt hn') (.int _))
    · next xs ys e3 =>
      split at h1
      · next hl =>
        obtain ⟨p, x1, x2, x3, x4⟩ := R1.sl i _ e3
        rw [hv] at x1
        cases x1
        cases x3 with
        | @lst ws _ w1 w2 =>
          cases o1 with
          | @lst b zs _ z1 z2 =>
            refine .inr ⟨p, b, ws, zs, rfl, rfl, w1, R1.sub _ _ z1, by rw [line_eq, w2.length, z2.length]; exact hl, ?_⟩
            have hset : σ.set i (some (.ref p)) = σ := set_same hv
            show D.nx (σ.set i (some (.ref p))) _
            rw [hset]
            exact h1 σ _ F1 hn (Same.refl _) (R1.change e3 hv (.lst upd_same (w2.append z2)))
      · exact h1.elim
    · exact h1.elim
  · exact h.elim
abbrev rCallN (g : List PyData → Option Sl) (f : Ev → Out (List PyData)) : Ev → Out Sl := fun ρ => (f ρ).bind fun ds ρ1 => lift (g ds) ρ1
def dMax2 : List PyData → Option Sl
  | [.int i, .int j] => some (.dat (.int (if j > i then j else i)))
  | _ => none
def dMin2 : List PyData → Option Sl
  | [.int i, .int j] => some (.dat (.int (if j < i then j else i)))
  | _ => none
theorem vw_int {K : PySem.W.Frag} {F H : Hp} {x : V} {i : Int} (h : Vw K F H x (.int i)) : x = .int i := by
  cases h with
  | val r => cases r; rfl
theorem cv_two {K : PySem.W.Frag} {p : Int → Int → Int} {g : List PyData → Option Sl} (hg : ∀ l s, g l = some s → ∃ i j, l = [.int i, .int j] ∧ s = .dat (.int (p i j))) : CallV K (fun xs H Q => ∃ i j, xs = [.int i, .int j] ∧ Q (.int (p i j)) H) g := by
  intro G σ H ρ F xs ds s Q R ra e q
  obtain ⟨i, j, rfl, rfl⟩ := hg _ _ e
  cases ra with
  | cons h1 h2 =>
    cases h2 with
    | cons h3 h4 =>
      cases h4
      rw [vw_int h1, vw_int h3]
      exact ⟨i, j, rfl, q _ H F (Same.refl _) R (.int _)⟩
theorem cv_max2 {K : PySem.W.Frag} : CallV K (fun xs H Q => ∃ i j, xs = [.int i, .int j] ∧ Q (.int (if j > i then j else i)) H) dMax2 := cv_two (p := fun i j => if j > i then j else i) fun l s e => by
  match l, e with
  | [.int i, .int j], e => cases e; exact ⟨i, j, rfl, rfl⟩
theorem cv_min2 {K : PySem.W.Frag} : CallV K (fun xs H Q => ∃ i j, xs = [.int i, .int j] ∧ Q (.int (if j < i then j else i)) H) dMin2 := cv_two (p := fun i j => if j < i then j else i) fun l s e => by
  match l, e with
  | [.int i, .int j], e => cases e; exact ⟨i, j, rfl, rfl⟩
theorem hc_max2 : ∀ i, CallR (Γ.X i) (.builtin "max") (fun xs H Q => ∃ i j, xs = [.int i, .int j] ∧ Q (.int (if j > i then j else i)) H) := fun i => call_max2 (Γ.calm i)
theorem hc_min2 : ∀ i, CallR (Γ.X i) (.builtin "min") (fun xs H Q => ∃ i j, xs = [.int i, .int j] ∧ Q (.int (if j < i then j else i)) H) := fun i => call_min2 (Γ.calm i)
def rgD (a b : Int) : List PyData := (List.range (b - a).toNat).map fun (k : Nat) => .int (a + k)
theorem rgD_rep {K : PySem.W.Frag} {F : Hp} {a b : Int} : RpA K F (rgV a b) (rgD a b) := by
  unfold rgV rgD
  have : ∀ l : List Nat, RpA K F (l.map fun (i : Nat) => V.int (a + i)) (l.map fun (k : Nat) => PyData.int (a + k)) := by
    intro l
    induction l with
    | nil => exact .nil
    | cons x l ih => exact .cons (.int _) ih
  exact this _
def rgOkB (a b : Int) : Bool := decide (-4611686018427387904 ≤ a) && (decide (a < 4611686018427387904) && (decide (-4611686018427387904 ≤ b) && (decide (b < 4611686018427387904) && Nat.ble (b - a).toNat 16777216)))
theorem rgOk_of {a b : Int} (h : rgOkB a b = true) : RgOk a b := by
  unfold rgOkB at h
  simp only [Bool.and_eq_true, decide_eq_true_eq] at h
  obtain ⟨h1, h2, h3, h4, h5⟩ := h
  exact ⟨by omega, by omega, by omega, by omega, by have := Nat.le_of_ble_eq_true h5; omega⟩
def mkRg (own : Bool) : PyData → PyData → Ev → Out Sl
  | .int a, .int b, ρ => if rgOkB a b = true then .ok (if own then .own (.list (rgD a b)) else .dat (.tuple (rgD a b))) ρ else .bad
  | _, _, _ => .bad
abbrev rRg2 (own : Bool) (f g : Ev → Out PyData) : Ev → Out Sl := fun ρ => (f ρ).bind fun a ρ1 => (g ρ1).bind fun b ρ2 => mkRg own a b ρ2
abbrev rRg1 (own : Bool) (g : Ev → Out PyData) : Ev → Out Sl := fun ρ => (g ρ).bind fun b ρ2 => mkRg own (.int 0) b ρ2
theorem mkRg_run {own : Bool} {te : TE} {t : L2.St → Hp → (Int → Int → Hp → Prop) → Prop} {σ : L2.St} {H : Hp} {ρ : Ev} {F : Hp} {Q : VK} {i j : Int} (R : Rel Γ.K G σ H ρ F) (h : Post Γ.K G σ F (mkRg own (.int i) (.int j) ρ) (okE Γ.K G σ) Q) :
    RgOk i j ∧ ∀ q, H q = none → Q (.ref q) (upd H q (if own then .lst (rgV i j) else .tup (rgV i j))) := by
  have h : Post Γ.K G σ F (if rgOkB i j = true then Out.ok (if own then Sl.own (.list (rgD i j)) else .dat (.tuple (rgD i j))) ρ else .bad) (okE Γ.K G σ) Q := h
  split at h
  · next ho =>
    refine ⟨rgOk_of ho, fun q hq => ?_⟩
    cases own with
    | true =>
      obtain ⟨R1, o1⟩ := R.newLst hq (rgD_rep (a := i) (b := j))
      exact h _ _ _ (Same.refl _) R1 o1
    | false =>
      obtain ⟨s1, R1, o1⟩ := R.newTup hq (rgD_rep (a := i) (b := j))
      exact h _ _ _ s1 R1 o1
  · exact h.elim
theorem de_listRg2 {e1 e2 : Expr} {p p2 pos2 : Pos} {f g : Ev → Out PyData} (hg : ∀ i, Gl (Γ.X i) "list") (hm : ∀ i, (Γ.X i).mg "list" = none) (hg2 : ∀ i, Gl (Γ.X i) "range") (hm2 : ∀ i, (Γ.X i).mg "range" = none) (h1 : DX Γ G e1 f) (h2 : DX Γ G e2 g)
    (na : ∀ i, starEach [e1, e2] (Γ.X i).env = (false, eval e1 (Γ.X i).env) :: starEach [e2] (Γ.X i).env := by intro _; rfl) (nb : ∀ i, starEach [e2] (Γ.X i).env = (false, eval e2 (Γ.X i).env) :: starEach [] (Γ.X i).env := by intro _; rfl) (hp : ∀ i, (backTo pos2 (starEach [e2] (Γ.X i).env)).any (·.1) = false := by intro _; rfl)
    (nc : ∀ i, starEach [.Call (.Name "range" p2) [e1, e2] [] pos2] (Γ.X i).env = (false, eval (.Call (.Name "range" p2) [e1, e2] [] pos2) (Γ.X i).env) :: starEach [] (Γ.X i).env := by intro _; rfl) : DE Γ G (.Call (.Name "list" p) [.Call (.Name "range" p2) [e1, e2] [] pos2] [] pos) (rRg2 true f g) := by
  obtain ⟨t1, p1, q1⟩ := h1.ex
  obtain ⟨t2, p2', q2⟩ := h2.ex
  refine ⟨tLstRg (tRg2 t1 t2), fun i => pe_listRg (Γ.calm i) (hg i) (hm i) (prg_2 (hg2 i) (hm2 i) (p1 i) (p2' i) (na i) (nb i) (hp i)) (nc i), fun σ τ hn H ρ F Q R h => ?_⟩
  refine q1 σ τ hn H ρ F _ R (Post.bind h fun a ρ1 x H1 F1 s1 R1 o1 h1 => ?_)
  refine q2 σ τ hn H1 ρ1 F1 _ R1 (Post.bind h1 fun b ρ2 y H2 F2 s2 R2 o2 h2 => ?_)
  cases a with
  | int i =>
    cases b with
    | int j =>
      cases o1
      cases o2
      exact ⟨i, j, rfl, rfl, mkRg_run (own := true) (te := t1) (t := tRg2 t1 t2) R2 h2⟩
    | _ => exact h2.elim
  | _ => cases b <;> exact h2.elim
theorem de_listRg1 {e2 : Expr} {p p2 pos2 : Pos} {g : Ev → Out PyData} (hg : ∀ i, Gl (Γ.X i) "list") (hm : ∀ i, (Γ.X i).mg "list" = none) (hg2 : ∀ i, Gl (Γ.X i) "range") (hm2 : ∀ i, (Γ.X i).mg "range" = none) (h2 : DX Γ G e2 g)
    (nb : ∀ i, starEach [e2] (Γ.X i).env = (false, eval e2 (Γ.X i).env) :: starEach [] (Γ.X i).env := by intro _; rfl)
    (nc : ∀ i, starEach [.Call (.Name "range" p2) [e2] [] pos2] (Γ.X i).env = (false, eval (.Call (.Name "range" p2) [e2] [] pos2) (Γ.X i).env) :: starEach [] (Γ.X i).env := by intro _; rfl) : DE Γ G (.Call (.Name "list" p) [.Call (.Name "range" p2) [e2] [] pos2] [] pos) (rRg1 true g) := by
  obtain ⟨t2, p2', q2⟩ := h2.ex
  refine ⟨tLstRg (tRg1 t2), fun i => pe_listRg (Γ.calm i) (hg i) (hm i) (prg_1 (hg2 i) (hm2 i) (p2' i) (nb i)) (nc i), fun σ τ hn H ρ F Q R h => ?_⟩
  refine q2 σ τ hn H ρ F _ R (Post.bind h fun b ρ2 y H2 F2 s2 R2 o2 h2 => ?_)
  cases b with
  | int j =>
    cases o2
    exact ⟨j, rfl, mkRg_run (own := true) (te := t2) (t := tRg1 t2) R2 h2⟩
  | _ => exact h2.elim
theorem de_tupRg1 {e2 : Expr} {p p2 pos2 : Pos} {g : Ev → Out PyData} (hg : ∀ i, Gl (Γ.X i) "tuple") (hm : ∀ i, (Γ.X i).mg "tuple" = none) (hg2 : ∀ i, Gl (Γ.X i) "range") (hm2 : ∀ i, (Γ.X i).mg "range" = none) (h2 : DX Γ G e2 g)
    (nb : ∀ i, starEach [e2] (Γ.X i).env = (false, eval e2 (Γ.X i).env) :: starEach [] (Γ.X i).env := by intro _; rfl)
    (nc : ∀ i, starEach [.Call (.Name "range" p2) [e2] [] pos2] (Γ.X i).env = (false, eval (.Call (.Name "range" p2) [e2] [] pos2) (Γ.X i).env) :: starEach [] (Γ.X i).env := by intro _; rfl) : DE Γ G (.Call (.Name "tuple" p) [.Call (.Name "range" p2) [e2] [] pos2] [] pos) (rRg1 false g) := by
  obtain ⟨t2, p2', q2⟩ := h2.ex
  refine ⟨tTupRg (tRg1 t2), fun i => pe_tupRg (Γ.calm i) (hg i) (hm i) (prg_1 (hg2 i) (hm2 i) (p2' i) (nb i)) (nc i), fun σ τ hn H ρ F Q R h => ?_⟩
  refine q2 σ τ hn H ρ F _ R (Post.bind h fun b ρ2 y H2 F2 s2 R2 o2 h2 => ?_)
  cases b with
  | int j =>
    cases o2
    exact ⟨j, rfl, mkRg_run (own := false) (te := t2) (t := tRg1 t2) R2 h2⟩
  | _ => exact h2.elim
def rLenD : List V → Hp → VK → Prop := fun xs H Q => (∃ a kvs, xs = [V.ref a] ∧ H a = some (.dK kvs) ∧ Q (.int kvs.length) H) ∨ rLenT xs H Q
theorem hc_lenD : ∀ i, CallR (Γ.X i) (.builtin "len") rLenD := fun _ => call_lenD.or call_len_dT
def dLenD : List PyData → Option Sl
  | [.dict kvs] => some (.dat (.int (match isT kvs with
    | some r => (r.length : Int)
    | none => (kvs.length : Int))))
  | _ => none
theorem cv_lenD {K : PySem.W.Frag} : CallV K rLenD dLenD := by
  intro G σ H ρ F xs ds s Q R ra e q
  match ds, e with
  | [.dict kvs], e =>
    cases e
    obtain ⟨x, rfl, h⟩ := ra.one
    cases h with
    | val r => cases r
    | dct o =>
      cases o with
      | @dK kv _ h1 h2 =>
        have t := isT_K h2
        refine .inl ⟨_, _, rfl, h1, ?_⟩
        have z := q (.int kv.length) H F (Same.refl _) R (by
          simp only [t]
          rw [Paired.len h2]
          exact .int _)
        exact z
      | @dT kv r h1 h2 =>
        refine .inr ⟨_, _, rfl, h1, ?_⟩
        exact q (.int kv.length) H F (Same.refl _) R (by
          show Rp K F (.int kv.length) (.int (r.length : Int))
          rw [Paired.len h2]
          exact .int _)
end
end DL
/-! DL13: enumerate of a list or of a tuple -/
namespace DL
open PySem PySem.Spec PyProof.Rows L2
open PySem (wpAny_bind wpAny_pure)
section
theorem meets_enum1 {v : Value} {o : Obj} {Z : Heap → Prop} (B : Begins v o Z) :
    Meets (Builtin.«enumerate.__new__» ⟨[.type "enumerate", v], []⟩) (fun _ R s => Z s.heap ∧
      R (.ok (.ret (.ref (s.heap.push o).objs.size))) { s with heap := (s.heap.push o).push { cls := .type "enumerate", data := .fields #[.none, .bool false, .ref s.heap.objs.size, rawInt 0, .none, .none] } }) :=
  .of_wp fun prog w A R s z => by
    obtain ⟨hp, gl, dd, tk, os⟩ := s
    obtain ⟨z1, z2⟩ := z
    have hsub := sub_enumerate
    have qi : ∀ {A' : Around} {E : Value → Shared → Prop} {Q : Value → Shared → Prop}, Q (.ref hp.objs.size) ⟨hp.push o, gl, dd, tk, os⟩ → wpAny (model prog w) A' (pyIter v) Q E ⟨hp, gl, dd, tk, os⟩ := fun q => B.iter prog w _ _ ⟨hp, gl, dd, tk, os⟩ _ z1 q
    wp_walk using qi
    refine wpAny_stack_any fun st => wpAny_pure ?_
    split
    · rename_i c _ _ _ _ _
      cases (c == Value.type "enumerate") <;> (wp_walk using qi; exact ⟨_, rfl, z2⟩)
    · wp_walk using qi
      exact ⟨_, rfl, z2⟩
variable {prog : Program} {w : World} {A : Around} {E : Value → Shared → Prop} {s : Shared}
theorem call_enum1 {v : Value} {o : Obj} {Z : Heap → Prop} {Q : Value → Shared → Prop} (B : Begins v o Z) (z : Z s.heap)
    (k : ∀ h', IsEnum h' (s.heap.objs.size + 1) s.heap.objs.size 0 .none → h'.get? s.heap.objs.size = some o → (∀ b ob, s.heap.get? b = some ob → h'.get? b = some ob) → Q (.ref (s.heap.objs.size + 1)) { s with heap := h' }) :
    wpAny (model prog w) A (call (.type "enumerate") [v]) Q E s := by
  refine callType_new F.called_enumerate (by decide) (F.typeCall_enumerate_1 _) (F.newCall_enumerate_1 _) (fun obj => F.args_object_init_2 obj _) F.entry_enumerate_new (meets_enum1 B) ⟨z, ?_⟩
  have hz : (s.heap.push o).objs.size = s.heap.objs.size + 1 := Heap.size_push ..
  show _ ∧ _
  rw [hz]
  have he : ((s.heap.push o).push { cls := .type "enumerate", data := .fields #[.none, .bool false, .ref s.heap.objs.size, rawInt 0, .none, .none] }).get? (s.heap.objs.size + 1) = some { cls := .type "enumerate", data := .fields #[.none, .bool false, .ref s.heap.objs.size, rawInt 0, .none, .none] } := by
    rw [← hz]
    exact Heap.get?_push_size _ rfl
  exact ⟨⟨_, he, rfl⟩, k _ he (Heap.get?_push_of_some _ (Heap.get?_push_size _ B.free)) fun b ob x => Heap.get?_push_of_some _ (Heap.get?_push_of_some _ x)⟩
end
/-- the tuple at a, each item in a new pair -/
def IteT (K : PySem.W.Frag) (a : Addr) : It :=
  ⟨fun i H => ∃ (xs : List V) (x : V), SqT K H a xs ∧ xs[i]? = some x, fun i H v H' => ∃ T x, v = .ref T ∧ H T = none ∧ H' = upd H T (.tup [.int (i : Nat), x]) ∧ ∀ xs, SqT K H a xs → xs[i]? = some x, fun i H => ∃ xs : List V, SqT K H a xs ∧ xs.length ≤ i⟩
theorem two_mem {b e it : Addr} (h : b ∈ [e, it]) : b = e ∨ b = it := by simpa using h
theorem turn_enumT {P : Program} {w : World} {K : PySem.W.Frag} {elts : List Expr} {kk : Nat} {tpos : Pos} (a e it : Addr) :
    Turn P w K (.Tuple elts kk tpos) (IteT K a) [e, it] e (fun i h => (∃ old, IsEnum h e it ((i : Nat) : Int) old) ∧ h.IsTupleIter it a i ∧ e ≠ it ∧ a ≠ it ∧ a ≠ e) where
  mem := by simp
  obj := fun i h st b hb => by
    obtain ⟨⟨old, q1⟩, ⟨o, q2, q3, q4⟩, _⟩ := st
    rcases two_mem hb with rfl | rfl
    · exact ⟨_, q1, fun v q => nomatch q⟩
    · exact ⟨o, q2, fun v q => by rw [q4] at q; cases q⟩
  keep := fun i h h' st k => by
    obtain ⟨⟨old, q1⟩, q2, q3⟩ := st
    exact ⟨⟨old, k e (by simp) _ q1⟩, q2.at fun o q => k it (by simp) o q, q3⟩
  item := by
    intro X hP hw hK hc i pins s σ H E I hf st hg
    subst hP hw hK
    obtain ⟨⟨old, q1⟩, q2, q3, q4, q5⟩ := st
    obtain ⟨xs, x, t1, t2⟩ := hg
    obtain ⟨its, rv, p, _⟩ := I.tuple t1
    obtain ⟨u, hu, ru⟩ := rv.get t2
    have ze : e < s.heap.objs.size := Heap.lt_size q1
    have zi : it < s.heap.objs.size := by obtain ⟨_, q, _⟩ := q2; exact Heap.lt_size q
    have li : i < its.toArray.size := by
      have := (List.getElem?_eq_some_iff.mp hu).1
      simpa using this
    have D := Draws.tuple (prog := X.prog) (w := X.w) (A := X.A.in1) (I.ok.hd hc) it a q4 its.toArray
    have nf : e ∉ [it, a] := fun z => by
      rcases two_mem z with z | z
      · exact q3 z
      · exact q5 z.symm
    refine wpAny_pyNext_enum_itemD D q1 (i := i) ⟨q2, p⟩ li q3 nf fun y h' tk e1 e2 e3 e4 e5 e6 => ?_
    have ey : y = u := by
      have e1 : its.toArray[i]? = some y := e1
      have e1 : its[i]? = some y := by simpa using e1
      rw [hu] at e1
      exact (Option.some.inj e1).symm
    subst ey
    refine ⟨_, rfl, wpAny_letOwnedTupleGo_enum (s := { s with heap := h', toks := tk + 1 }) e2 fun h'' e7 e8 => ?_⟩
    have nT : h''.get? s.heap.objs.size = some { cls := .type "tuple", data := .seq #[.int i tk, y] } := (e8.2 _ (Nat.ne_of_gt ze)).trans e4
    have new : ObjOk X.prog X.w (upd H s.heap.objs.size (.tup [.int (i : Nat), x])) h'' s.heap.objs.size (.tup [.int (i : Nat), x]) := ⟨by show 2 ≤ sizeLine; decide, [.int i tk, y], .cons ⟨_, rfl⟩ (.cons ru .nil), ⟨_, nT, rfl, _, rfl⟩⟩
    have I1 : Inv X pins σ (upd H s.heap.objs.size (.tup [.int (i : Nat), x])) { s with heap := h'', toks := tk + 1 } := I.turnedNew (t' := tk + 1) (ch := [e, it]) (fun b ob hb q => (e8.2 b (fun z => hb (by simp [z]))).trans (e6 b ob (fun z => hb (by simp [z])) (fun z => hb (by simp [z])) q)) hf (Nat.le_refl _) new
    refine ⟨.ref s.heap.objs.size, _, I1, rfl, ⟨_, x, rfl, I.hok.fresh (Nat.le_refl _), rfl, fun ys hy => by rw [I.tuple_inj hy t1]; exact t2⟩, ⟨⟨y, ?_⟩, e3.1.at fun o q => (e8.2 it (Ne.symm q3)).trans q, q3, q4, q5⟩, fun b hb => ?_⟩
    · have c1 : ((i + 1 : Nat) : Int) = (i : Int) + 1 := by omega
      rw [c1]
      exact e7
    · have hb' : b < s.heap.objs.size := by
        rcases two_mem hb with rfl | rfl
        · exact ze
        · exact zi
      rw [upd_ne (Nat.ne_of_lt hb')]
      exact (hf b hb).1
  done := by
    intro X hP hw hK hc i pins s σ H E I hf st hg
    subst hP hw hK
    obtain ⟨⟨old, q1⟩, q2, q3, q4, q5⟩ := st
    obtain ⟨xs, t1, t2⟩ := hg
    obtain ⟨its, rv, p, _⟩ := I.tuple t1
    have hl := rv.length
    have no : its.toArray[i]? = none := by
      simp
      omega
    have ty : s.TypeIs (.ref e) "enumerate" := ⟨_, q1, rfl⟩
    unfold pyNext
    refine wpAny_bind (wpAny_attempt (wpAny_callSpecial?_slot (name := Str.ofString "__next__") ty F.slot_enumerate_next (wpAny_call_entry F.slot_enumerate_next ty F.entry_enumerate_next ?_ (F.args_enumerate_next_1 _))))
    show wpAny _ _ (field (.ref e) 2 >>= _) _ _ s
    refine wpAny_bind (wpAny_field q1 rfl (x := .ref it) rfl (wpAny_bind (wpAny_nextOf_tuple_end (I.ok.hd hc) q2 p no fun h' x r1 r2 => ?_)))
    obtain ⟨o, r3, r4⟩ := r2
    refine wpAny_bind (wpAny_isInstance (T := "StopIteration") (b := true) ⟨o, r3, r4⟩ isSubtype_stop (wpAny_pure ?_))
    exact ⟨rfl, I.turnedL (t' := s.toks) (ch := [e, it]) (fun b ob hb q => r1 b ob (fun z => hb (by simp [z])) q) hf⟩
  self := fun A i s Q E st h => let ⟨⟨_, q1⟩, _⟩ := st; wpAny_pyIter_enum q1 h
def iEnumA (K : PySem.W.Frag) (ta : TA) : TI := fun σ H R => ta σ H fun vs H1 => ∃ a xs, vs = [.ref a] ∧ ((SqL K H1 a xs ∧ R (Ite K a) H1) ∨ (SqT K H1 a xs ∧ R (IteT K a) H1))
theorem pi_enumA {X : Cx} {e : Expr} {ta : TA} {p pos tpos : Pos} {elts : List Expr} {kk : Nat} (hg : Gl X "enumerate") (hm : X.mg "enumerate" = none) (ha : PA X [e] ta) (hs : starEach [e] X.env = [(false, eval e X.env)] := by rfl) :
    PI X (.Tuple elts kk tpos) (.Call (.Name "enumerate" p) [e] [] pos) (iEnumA X.K ta) := by
  refine ⟨fun pins s σ H R I h => Call_ (ld_blt I hg hm boot_enumerate (PyProof.Rows.callWith_type1 (thn (ha.run pos pins s σ H _ I h) fun us s1 ⟨vs, H1, I1, r1, q1⟩ => ?_) hs rfl))⟩
  obtain ⟨a, xs, ex, q⟩ := q1
  subst ex
  cases r1 with
  | cons r rr =>
    cases rr
    cases r
    rcases q with ⟨hq, q⟩ | ⟨hq, q⟩
    · obtain ⟨its, rv, pl, _⟩ := I1.list hq
      refine call_enum1 (begins_list a its.toArray) pl.isList fun h' he hit hk => wpAny_pyIter_enum he ⟨s1.heap.objs.size + 1, [s1.heap.objs.size + 1, s1.heap.objs.size], _, _, H1, rfl, I1.kept (t' := s1.toks) hk, turn_enum a (s1.heap.objs.size + 1) s1.heap.objs.size, ⟨⟨.none, he⟩, ⟨_, hit, rfl, rfl⟩, Nat.succ_ne_self _⟩, fun b hb => ?_, q⟩
      have hle : s1.heap.objs.size ≤ b := by
        rcases two_mem hb with z | z <;> rw [z]
        · exact Nat.le_succ _
        · exact Nat.le_refl _
      exact I1.fpOk hle (I1.hok.fresh hle)
    · obtain ⟨its, rv, pl, _⟩ := I1.tuple hq
      have al : a < s1.heap.objs.size := by
        obtain ⟨o, q0, _⟩ := pl
        exact Heap.lt_size q0
      refine call_enum1 (begins_tuple a its.toArray) pl fun h' he hit hk => wpAny_pyIter_enum he ⟨s1.heap.objs.size + 1, [s1.heap.objs.size + 1, s1.heap.objs.size], _, _, H1, rfl, I1.kept (t' := s1.toks) hk, turn_enumT a (s1.heap.objs.size + 1) s1.heap.objs.size, ⟨⟨.none, he⟩, ⟨_, hit, rfl, rfl⟩, Nat.succ_ne_self _, Nat.ne_of_lt al, Nat.ne_of_lt (Nat.lt_succ_of_lt al)⟩, fun b hb => ?_, q⟩
      have hle : s1.heap.objs.size ≤ b := by
        rcases two_mem hb with z | z <;> rw [z]
        · exact Nat.le_succ _
        · exact Nat.le_refl _
      exact I1.fpOk hle (I1.hok.fresh hle)
section
variable {K : PySem.W.Frag} {G : Cg}
theorem iteT_ok {F0 : Hp} {a : Addr} {vs : List V} {ds : List PyData} (h : F0 a = some (.tup vs)) (r : RpA K F0 vs ds) : ItOk K G F0 (IteT K a) (enumD ds) := by
  intro σ H ρ F R s i
  have hH : SqT K H a vs := Same.tupD R.sub (s _ _ h)
  have r' := r.mono s
  refine ⟨fun d e => ?_, fun hl => ⟨vs, hH, by rw [r.length]; simpa [enumD] using hl⟩⟩
  unfold enumD at e
  rw [List.getElem?_map] at e
  by_cases hi : i < ds.length
  · rw [List.getElem?_range hi] at e
    cases e
    obtain ⟨v, e1, e2⟩ := r'.get (List.getElem?_eq_getElem hi)
    refine ⟨⟨vs, v, hH, e1⟩, fun x H' y => ?_⟩
    obtain ⟨T, z, rfl, hT, rfl, y⟩ := y
    cases (y vs hH).symm.trans e1
    obtain ⟨s1, R1, o1⟩ := R.newTup hT (.cons (.int i) (.cons e2 .nil))
    refine ⟨_, s1, R1, ?_⟩
    show Rp K _ (V.ref T) (PyData.tuple [PyData.int (i : Nat), ds[i]?.getD PyData.none])
    rw [List.getElem?_eq_getElem hi]
    exact o1
  · rw [List.getElem?_eq_none (by simp; omega)] at e
    cases e
end
def enumOfA : PyData → Ev → Out (List PyData)
  | .list ds, ρ => .ok (enumD ds) ρ
  | .tuple ds, ρ => .ok (enumD ds) ρ
  | _, _ => .bad
theorem di_enumA {Γ : Fam} {G : Cg} {pos p tpos : Pos} {elts : List Expr} {kk : Nat} {e : Expr} {f : Ev → Out PyData} (hg : ∀ i, Gl (Γ.X i) "enumerate") (hm : ∀ i, (Γ.X i).mg "enumerate" = none) (h : DX Γ G e f) (hs : ∀ i, starEach [e] (Γ.X i).env = [(false, eval e (Γ.X i).env)] := by intro _; rfl) (hs' : ∀ i, starEach [e] (Γ.X i).env = (false, eval e (Γ.X i).env) :: starEach [] (Γ.X i).env := by intro _; rfl) :
    DI Γ G (.Tuple elts kk tpos) (.Call (.Name "enumerate" p) [e] [] pos) (fun ρ => (f ρ).bind enumOfA) := by
  obtain ⟨t, p1, q⟩ := h.ex
  refine ⟨iEnumA Γ.K (tCons t tNil), fun i => by have z := pi_enumA (elts := elts) (kk := kk) (tpos := tpos) (pos := pos) (p := p) (hg i) (hm i) (pa_cons (p1 i) pa_nil (hs' i)) (hs i); rw [Γ.hK i] at z; exact z, fun σ τ hn H ρ F R0 R h => q σ τ hn H ρ F _ R (Post.bind h fun d ρ1 v H1 F1 s1 R1 o1 h1 => ?_)⟩
  cases d with
  | list ds =>
    cases o1 with
    | @lst a vs _ e1 r1 => exact ⟨a, vs, rfl, .inl ⟨SqL.of (R1.sub _ _ e1), h1 _ H1 F1 (Same.refl _) R1 (ite_ok e1 r1)⟩⟩
  | tuple ds =>
    cases o1 with
    | @tup a vs _ e1 r1 => exact ⟨a, vs, rfl, .inr ⟨Same.tupD R1.sub e1, h1 _ H1 F1 (Same.refl _) R1 (iteT_ok e1 r1)⟩⟩
  | _ => exact h1.elim
end DL
/-! DL14: list.count of data; len(set(..)) of a list of ints; < of data -/
namespace DL
open PySem PySem.Spec PyProof.Rows L2
/-- l.count(x) -/
def rCntD (K : PySem.W.Frag) : V → List V → Hp → VK → Prop := fun x xs H Q => ∃ (p : Addr) (vs : List V) (y : V) (ds : List PyData) (d : PyData), x = .ref p ∧ xs = [y] ∧ SqL K H p vs ∧ Dp K H x (.list ds) ∧ Dp K H y d ∧ SeqAt.shaped (.list ds) = true ∧ SeqAt.shaped d = true ∧ Q (.int (ds.countP fun z => PyData.eqv z d : Nat)) H
theorem mt_lcountD {X : Cx} (hu : X.A.units + 80 < cLine) : MtR X "list.count" (rCntD X.K) := by
  intro pins s σ H x xs v us Q I rx rxs h
  obtain ⟨p, vs, y, ds, d, rfl, rfl, hs, h1, h2, h3, h4, q⟩ := h
  obtain ⟨u, rfl, ru⟩ := rxs.one
  obtain ⟨as, r1⟩ := Dp.reads I (.list ds) (.ref p) v h1 rx
  obtain ⟨bs, r2⟩ := Dp.reads I d y u h2 ru
  cases rx
  obtain ⟨its, rv, pl, hz⟩ := I.list hs
  cases r1 with
  | list e1 e2 e3 e4 =>
    refine PySem.SeqAt.count_list_data ⟨_, e1, e2, _, e3⟩ e4 r2 (PyData.plainAll_of_canLay0 ds (SeqAt.canLay_of_shaped h3)) (PyData.plain_of_canLay0 d (SeqAt.canLay_of_shaped h4)) (room_in_shaped h4 (by omega)) ⟨.int (ds.countP fun z => PyData.eqv z d : Nat), H, I.tok _, ⟨s.toks, rfl⟩, q⟩
def isL : PyData → Bool
  | .list _ => true
  | _ => false
def dCnt : PyData → PyData → Option PyData
  | .list ds, d => if (SeqAt.shaped (.list ds) && SeqAt.shaped d) = true then some (.int (ds.countP fun z => PyData.eqv z d : Nat)) else none
  | _, _ => none
abbrev rLCnt (g f : Ev → Out PyData) : Ev → Out PyData := fun ρ => (g ρ).bind fun a ρ1 => if isL a = true then (f ρ1).bind fun d ρ2 => lift (dCnt a d) ρ2 else .bad
section
variable {Γ : Fam} {G : Cg} {e e1 e2 : Expr} {pos : Pos}
theorem dx_lcount {apos : Pos} {g f : Ev → Out PyData} (h1 : DX Γ G e1 g) (h2 : DX Γ G e f) (hbase : ∀ i, attributeBase e1 "count" (Γ.X i).env (eval e1 (Γ.X i).env) = eval e1 (Γ.X i).env := by intro _; rfl)
    (hfew : ∀ i, ((backTo pos (starEach [e] (Γ.X i).env)).all (fun x => !x.1) && (backToKw pos (keywordEach [] (Γ.X i).env)).all (fun x => x.1.isSome) && decide ([e].length + ([] : List Keyword).length + (if ([] : List Keyword).isEmpty then 0 else 1) < 30)) = true := by intro _; rfl)
    (hline : (apos.endLine == pos.line) = true := by rfl) (hs : ∀ i, starEach [e] (Γ.X i).env = (false, eval e (Γ.X i).env) :: starEach [] (Γ.X i).env := by intro _; rfl) (hplain : ∀ i, (backTo pos (starEach [] (Γ.X i).env)).any (·.1) = false := by intro _; rfl) :
    DX Γ G (.Call (.Attribute e1 "count" apos) [e] [] pos) (rLCnt g f) := by
  obtain ⟨t1, p1, q1⟩ := h1.ex
  obtain ⟨t2, p2, q2⟩ := h2.ex
  refine ⟨tBM Γ.K "list" (rCntD Γ.K) t1 (tCons t2 tNil), fun i => ?_, fun σ τ hn H ρ F Q R h => q1 σ τ hn H ρ F _ R (Post.bind h fun a ρ1 v H1 F1 s1 R1 o1 h1 => ?_)⟩
  · have z := pe_bm (X := Γ.X i) (apos := apos) (cpos := pos) PySem.F.plainAttrs_list PySem.F.slot_list_count PySem.F.type_list_count (mt_lcountD (Γ.hu i)) (p1 i) (pa_cons (p2 i) pa_nil (hs i)) (hbase i) (hfew i) hline (hs i) (hplain i)
    rw [Γ.hK i] at z
    exact z
  · cases a with
    | list ds =>
      have h1 : Post Γ.K G (σ ++ τ) F1 ((f ρ1).bind fun d ρ2 => lift (dCnt (.list ds) d) ρ2) _ Q := h1
      have oc := o1
      cases o1 with
      | @lst p vs _ e3 e4 =>
      refine ⟨.inl ⟨rfl, vs, SqL.of (R1.sub _ _ e3)⟩, q2 σ τ hn H1 ρ1 F1 _ R1 (Post.bind h1 fun d ρ2 v2 H2 F2 s2 R2 o2 h2 => ?_)⟩
      have h2 : Post Γ.K G (σ ++ τ) F2 (lift (if (SeqAt.shaped (.list ds) && SeqAt.shaped d) = true then some (PyData.int (ds.countP fun z => PyData.eqv z d : Nat)) else none) ρ2) _ Q := h2
      by_cases hk : (SeqAt.shaped (.list ds) && SeqAt.shaped d) = true
      · rw [if_pos hk] at h2
        rw [Bool.and_eq_true] at hk
        exact ⟨p, vs, v2, ds, d, rfl, rfl, SqL.of (R2.sub _ _ (s2 _ _ e3)), ((oc.mono s2).mono R2.sub).dp, (o2.mono R2.sub).dp, hk.1, hk.2, h2 _ H2 F2 (Same.refl _) R2 (.int _)⟩
      · rw [if_neg hk] at h2
        exact h2.elim
    | _ => exact h1.elim
end
end DL
namespace DL
open PySem PySem.Spec PyProof.Rows L2
/-- the ints of a list, each once -/
def once (ns : List Int) : List Int := firstMet (fun i => ns.getD i 0) ns.length
def tLenSetA (K : PySem.W.Frag) (ta : TE) : TE := fun σ H Q => ta σ H fun x H1 => ∃ (l : Addr) (ns : List Int), x = V.ref l ∧ SqL K H1 l (ns.map V.int) ∧ ns.length < 64 ∧ Q (.int (once ns).length) H1
theorem pe_lenSetA {X : Cx} {a : Expr} {ta : TE} {p p2 q pos : Pos} (hc : X.calm = true) (hg : Gl X "len") (hm : X.mg "len" = none) (hg2 : Gl X "set") (hm2 : X.mg "set" = none) (ha : PE X a ta)
    (na : starEach [a] X.env = (false, eval a X.env) :: starEach [] X.env := by rfl) : PE X (.Call (.Name "len" p) [.Call (.Name "set" p2) [a] [] q] [] pos) (tLenSetA X.K ta) := by
  refine ⟨fun pins s σ H Q I h => Call_ (ld_blt I hg hm PySem.boot_len (PyProof.Rows.callWith_builtin1 (PyProof.Rows.args_cons (Call_ (ld_blt I hg2 hm2 PyProof.Rows.boot_set ?_)) rfl) rfl rfl))⟩
  refine PyProof.Rows.callWith_type1 (PyProof.Rows.args_cons (thn (ha.run pins s σ H _ I h) fun v s1 z => PyProof.Rows.args_nil ?_) na) na rfl
  obtain ⟨x, H1, I1, r1, l, ns, rfl, hq, hn, q1⟩ := z
  cases r1
  obtain ⟨its, r, pl, hz⟩ := I1.list hq
  have hl : its.toArray.size = ns.length := by rw [List.size_toArray, ← r.length, List.length_map]
  refine call_set_list (I1.ok.hd hc) pl.isList (ns := ns) (by simpa using r.ints) (by unfold scanBound; omega) fun h' tk hS hk => PyProof.Rows.args_nil ?_
  rw [hl] at hS
  obtain ⟨o, es, ep, t, ho, hex, hd, _, _, _, hf, he⟩ := hS
  have I2 : Inv X pins σ H1 { s1 with heap := h', toks := tk } := I1.kept fun b ob e => hk b ob (Heap.lt_size e) e
  refine call_len_set ho hex hd hf ?_ ⟨.int (once ns).length, H1, I2.tok _, ⟨_, by rw [he]; rfl⟩, q1⟩
  rw [he]
  have := PyProof.Rows.firstMet_length_le (fun i => ns.getD i 0) ns.length
  omega
def dOnce : PyData → Option PyData
  | .list ds => (intsOf ds).bind fun ns => if ns.length < 64 then some (.int (once ns).length) else none
  | _ => none
section
variable {Γ : Fam} {G : Cg} {a : Expr} {pos : Pos}
theorem dx_lenSet {p p2 q : Pos} {f : Ev → Out PyData} (hg : ∀ i, Gl (Γ.X i) "len") (hm : ∀ i, (Γ.X i).mg "len" = none) (hg2 : ∀ i, Gl (Γ.X i) "set") (hm2 : ∀ i, (Γ.X i).mg "set" = none) (h : DX Γ G a f) (na : ∀ i, starEach [a] (Γ.X i).env = (false, eval a (Γ.X i).env) :: starEach [] (Γ.X i).env := by intro _; rfl) :
    DX Γ G (.Call (.Name "len" p) [.Call (.Name "set" p2) [a] [] q] [] pos) (fun ρ => (f ρ).bind fun d ρ1 => lift (dOnce d) ρ1) := by
  obtain ⟨t, p1, q1⟩ := h.ex
  refine ⟨tLenSetA Γ.K t, fun i => by have z := pe_lenSetA (p := p) (p2 := p2) (q := q) (pos := pos) (Γ.calm i) (hg i) (hm i) (hg2 i) (hm2 i) (p1 i) (na i); rw [Γ.hK i] at z; exact z, fun σ τ hn H ρ F Q R h => q1 σ τ hn H ρ F _ R (Post.bind h fun d ρ1 v H1 F1 s1 R1 o1 h1 => ?_)⟩
  cases d with
  | list ds =>
    have hA : Post Γ.K G (σ ++ τ) F1 (lift ((intsOf ds).bind fun ns => if ns.length < 64 then some (PyData.int (once ns).length) else none) ρ1) _ Q := h1
    cases z : intsOf ds with
    | none =>
      rw [z] at hA
      exact hA.elim
    | some ns =>
      rw [z] at hA
      have hB : Post Γ.K G (σ ++ τ) F1 (lift (if ns.length < 64 then some (PyData.int (once ns).length) else none) ρ1) _ Q := hA
      have e := ints_eq z
      subst e
      by_cases hk : ns.length < 64
      · rw [if_pos hk] at hB
        cases o1 with
        | @lst p vs _ e3 e4 =>
        have e5 := RpA.of_ints e4
        subst e5
        exact ⟨p, ns, rfl, SqL.of (R1.sub _ _ e3), hk, hB _ H1 F1 (Same.refl _) R1 (.int _)⟩
      · rw [if_neg hk] at hB
        exact hB.elim
  | _ => exact h1.elim
end
end DL
namespace DL
open PySem
def onceOf (d : PyData) (ρ : Ev) : Out PyData := lift (dOnce d) ρ
theorem dCnt_s {ds : List PyData} {d : PyData} (h : SeqAt.shaped (.list ds) = true) (h2 : SeqAt.shaped d = true) : dCnt (.list ds) d = some (.int (ds.countP fun z => PyData.eqv z d : Nat)) := by
  show (if (SeqAt.shaped (.list ds) && SeqAt.shaped d) = true then _ else none) = _
  rw [h, h2]
  rfl
theorem dOnce_i {ns : List Int} (h : ns.length < 64) : dOnce (.list (ns.map .int)) = some (.int (once ns).length) := by
  show (intsOf (ns.map .int)).bind _ = _
  rw [intsOf_map, Option.bind_some, if_pos h]
end DL
/-! DL15: range with a step -/
namespace DL
open PySem PySem.Spec PyProof.Rows L2
def rgOkC (lo hi c : Int) : Bool := !decide (c = 0) && (decide (c.natAbs < 1073741824) && (Builtin.Range.small lo hi c && decide (0 ≤ Builtin.Range.rangeSize lo hi c)))
def range3 : PyData → PyData → PyData → Ev → Out (List PyData)
  | .int lo, .int hi, .int c, ρ => if rgOkC lo hi c = true then .ok ((List.range (Builtin.Range.rangeSize lo hi c).toNat).map fun (k : Nat) => .int (lo + (k : Nat) * c)) ρ else .bad
  | _, _, _, _ => .bad
abbrev rRange3 (f g h : Ev → Out PyData) : Ev → Out (List PyData) := fun ρ => (f ρ).bind fun a ρ1 => (g ρ1).bind fun b ρ2 => (h ρ2).bind (range3 a b)
section
variable {K : PySem.W.Frag} {G : Cg}
theorem itc_ok {F0 : Hp} {lo c : Int} {n : Nat} : ItOk K G F0 (Itc lo c n) ((List.range n).map fun (k : Nat) => PyData.int (lo + (k : Nat) * c)) := by
  intro σ H ρ F R s i
  refine ⟨fun d e => ?_, fun hl => ?_⟩
  · rw [List.getElem?_map] at e
    by_cases hi : i < n
    · rw [List.getElem?_range hi] at e
      cases e
      refine ⟨hi, fun x H' y => ?_⟩
      obtain ⟨rfl, rfl⟩ := y
      exact ⟨F, Same.refl F, R, .int _⟩
    · rw [List.getElem?_eq_none (by simp; omega)] at e
      cases e
  · rw [List.length_map, List.length_range] at hl
    exact hl
end
section
variable {Γ : Fam} {G : Cg} {tg e1 e2 e3 : Expr} {pos : Pos}
theorem di_range3 {p : Pos} {f g h : Ev → Out PyData} (hg : ∀ i, Gl (Γ.X i) "range") (hm : ∀ i, (Γ.X i).mg "range" = none) (h1 : DX Γ G e1 f) (h2 : DX Γ G e2 g) (h3 : DX Γ G e3 h)
    (s1 : ∀ i, starEach [e1, e2, e3] (Γ.X i).env = (false, eval e1 (Γ.X i).env) :: starEach [e2, e3] (Γ.X i).env := by intro _; rfl) (s2 : ∀ i, starEach [e2, e3] (Γ.X i).env = (false, eval e2 (Γ.X i).env) :: starEach [e3] (Γ.X i).env := by intro _; rfl) (s3 : ∀ i, starEach [e3] (Γ.X i).env = (false, eval e3 (Γ.X i).env) :: starEach [] (Γ.X i).env := by intro _; rfl) (hpl : ∀ i, (backTo pos (starEach [e2, e3] (Γ.X i).env)).any (·.1) = false := by intro _; rfl) :
    DI Γ G tg (.Call (.Name "range" p) [e1, e2, e3] [] pos) (fun ρ => (f ρ).bind fun a ρ1 => (g ρ1).bind fun b ρ2 => (h ρ2).bind (range3 a b)) := by
  obtain ⟨t1, p1, q1⟩ := h1.ex
  obtain ⟨t2, p2, q2⟩ := h2.ex
  obtain ⟨t3, p3, q3⟩ := h3.ex
  refine ⟨_, fun i => pi_range3 (hg i) (hm i) (pa_cons (p1 i) (pa_cons (p2 i) (pa_cons (p3 i) pa_nil (s3 i)) (s2 i)) (s1 i)) (s1 i) (hpl i), fun σ τ hn H ρ F R0 R z => q1 σ τ hn H ρ F _ R (Post.bind z fun d ρ1 v H1 F1 y1 R1 o1 z1 => ?_)⟩
  refine q2 σ τ hn H1 ρ1 F1 _ R1 (Post.bind z1 fun d2 ρ2 v2 H2 F2 y2 R2 o2 z2 => ?_)
  refine q3 σ τ hn H2 ρ2 F2 _ R2 (Post.bind z2 fun d3 ρ3 v3 H3 F3 y3 R3 o3 z3 => ?_)
  cases d with
  | int lo =>
    cases d2 with
    | int hi =>
      cases d3 with
      | int c =>
        cases o1
        cases o2
        cases o3
        have z3 : Post Γ.K G (σ ++ τ) F3 (if rgOkC lo hi c = true then Out.ok ((List.range (Builtin.Range.rangeSize lo hi c).toNat).map fun (k : Nat) => PyData.int (lo + (k : Nat) * c)) ρ3 else .bad) (fun F' _ _ J ds => ItOk Γ.K G F' J ds) R0 := z3
        by_cases hk : rgOkC lo hi c = true
        · rw [if_pos hk] at z3
          unfold rgOkC at hk
          simp only [Bool.and_eq_true, Bool.not_eq_true', decide_eq_false_iff_not, decide_eq_true_eq] at hk
          exact ⟨lo, hi, c, (Builtin.Range.rangeSize lo hi c).toNat, rfl, ⟨hk.1, hk.2.1, hk.2.2.1, by omega⟩, z3 _ H3 F3 (Same.refl _) R3 itc_ok⟩
        · rw [if_neg hk] at z3
          exact z3.elim
      | _ => exact z3.elim
    | _ => exact z3.elim
  | _ => exact z3.elim
end
end DL
/-! DL16: < and > of two ints, or of two tuples that can be compared -/
namespace DL
open PySem PySem.Spec PyProof.Rows L2 PySem.W
def ltOk (a b : PyData) : Bool := alike a b && (!isN a && Nat.ble a.depth 60)
def rLtT (K : PySem.W.Frag) (f : PyData → PyData → Bool) : R2 := fun x y H Q => ∃ d e, Dp K H x d ∧ Dp K H y e ∧ ltOk d e = true ∧ Q (.bl (f d e)) H
theorem ltOk_of {a b : PyData} (h : ltOk a b = true) : alike a b = true ∧ a ≠ .none ∧ a.depth ≤ 60 := by
  unfold ltOk at h
  rw [Bool.and_eq_true, Bool.and_eq_true] at h
  refine ⟨h.1, fun e => ?_, Nat.le_of_ble_eq_true h.2.2⟩
  rw [e] at h
  cases h.2.1
theorem op_ltT {X : Cx} (hu : X.A.units + 80 < cLine) : OpR X (compareOp .Lt) (rLtT X.K dataLt) := by
  intro pins s σ H x y v u Q I rx ry h
  obtain ⟨d, e, hd, he, ho, q⟩ := h
  obtain ⟨as, r1⟩ := Dp.reads I d x v hd rx
  obtain ⟨bs, r2⟩ := Dp.reads I e y u he ry
  obtain ⟨k1, k2, k3⟩ := ltOk_of ho
  exact lt_data r1 r2 k1 k2 (by have : min d.depth e.depth ≤ d.depth := Nat.min_le_left _ _; omega) ⟨.bl _, H, I, rfl, q⟩
theorem op_gtT {X : Cx} (hu : X.A.units + 80 < cLine) : OpR X (compareOp .Gt) (rLtT X.K fun a b => dataLt b a) := by
  intro pins s σ H x y v u Q I rx ry h
  obtain ⟨d, e, hd, he, ho, q⟩ := h
  obtain ⟨as, r1⟩ := Dp.reads I d x v hd rx
  obtain ⟨bs, r2⟩ := Dp.reads I e y u he ry
  obtain ⟨k1, k2, k3⟩ := ltOk_of ho
  exact gt_data r1 r2 k1 k2 (by have : min d.depth e.depth ≤ d.depth := Nat.min_le_left _ _; omega) ⟨.bl _, H, I, rfl, q⟩
def rLtA (K : PySem.W.Frag) : R2 := fun x y H Q => rI0 (fun i j => .bl (decide (i < j))) x y H Q ∨ rLtT K dataLt x y H Q
def rGtA (K : PySem.W.Frag) : R2 := fun x y H Q => rI0 (fun i j => .bl (decide (j < i))) x y H Q ∨ rLtT K (fun a b => dataLt b a) x y H Q
def dLtA : PyData → PyData → Option Sl
  | .int i, .int j => some (.dat (.bool (decide (i < j))))
  | .tuple xs, .tuple ys => if ltOk (.tuple xs) (.tuple ys) = true then some (.dat (.bool (dataLt (.tuple xs) (.tuple ys)))) else none
  | _, _ => none
def dGtA : PyData → PyData → Option Sl
  | .int i, .int j => some (.dat (.bool (decide (j < i))))
  | .tuple xs, .tuple ys => if ltOk (.tuple xs) (.tuple ys) = true then some (.dat (.bool (dataLt (.tuple ys) (.tuple xs)))) else none
  | _, _ => none
theorem opd_ltA {K : PySem.W.Frag} : OpD K (rLtA K) dLtA := by
  intro G σ H ρ F x y a b s Q R ra rb e q
  unfold dLtA at e
  split at e
  · next i j => exact .inl (opd_ltI _ _ _ _ _ _ _ _ _ _ _ R ra rb e q)
  · next xs ys =>
    split at e
    · next h =>
      cases e
      exact .inr ⟨_, _, (ra.mono R.sub).dp, (rb.mono R.sub).dp, h, q _ H F (Same.refl F) R (.bl _)⟩
    · cases e
  · cases e
theorem opd_gtA {K : PySem.W.Frag} : OpD K (rGtA K) dGtA := by
  intro G σ H ρ F x y a b s Q R ra rb e q
  unfold dGtA at e
  split at e
  · next i j => exact .inl (opd_gtI _ _ _ _ _ _ _ _ _ _ _ R ra rb e q)
  · next xs ys =>
    split at e
    · next h =>
      cases e
      exact .inr ⟨_, _, (ra.mono R.sub).dp, (rb.mono R.sub).dp, h, q _ H F (Same.refl F) R (.bl _)⟩
    · cases e
  · cases e
section
variable {Γ : Fam}
theorem ho_ltA : ∀ i, OpR (Γ.X i) (compareOp .Lt) (rLtA Γ.K) := fun i => by have z := (op_lt (X := Γ.X i)).or (op_ltT (X := Γ.X i) (Γ.hu i)); rw [Γ.hK i] at z; exact z
theorem ho_gtA : ∀ i, OpR (Γ.X i) (compareOp .Gt) (rGtA Γ.K) := fun i => by have z := (op_gt (X := Γ.X i)).or (op_gtT (X := Γ.X i) (Γ.hu i)); rw [Γ.hK i] at z; exact z
end
theorem dLtA_i {i j : Int} : dLtA (.int i) (.int j) = some (.dat (.bool (decide (i < j)))) := rfl
theorem dGtA_i {i j : Int} : dGtA (.int i) (.int j) = some (.dat (.bool (decide (j < i)))) := rfl
end DL
/-! DL17: walks over a module's constant tuple of ints and texts -/
namespace DL
open PySem PySem.Spec PyProof.Rows L2
/-- at a stands a tuple that never changes -/
def GTup (K : PySem.W.Frag) (a : Addr) (xs : List V) : Prop := ∃ (o : Obj) (its : Array Value) (n : Nat), K.lookup a = some o ∧ o.cls = .type "tuple" ∧ o.data = .seq its n ∧ its.size ≤ sizeLine ∧ Vals xs its.toList
def rConst (ds : List PyData) : Ev → Out (List PyData) := fun ρ => .ok ds ρ
/-- ints and texts as values -/
def cV : PyData → V
  | .int i => .int i
  | .str s => .str s
  | _ => .non
def cOk : PyData → Bool
  | .int _ => true
  | .str _ => true
  | _ => false
section
variable {K : PySem.W.Frag} {G : Cg}
theorem cV_ok {F : Hp} : ∀ {ds : List PyData}, ds.all cOk = true → RpA K F (ds.map cV) ds
  | [], _ => .nil
  | d :: ds, h => by
    rw [List.all_cons, Bool.and_eq_true] at h
    cases d with
    | int i => exact .cons (.int i) (cV_ok h.2)
    | str s => exact .cons (.str s) (cV_ok h.2)
    | _ => cases h.1
theorem ittK_ok {F0 : Hp} {a : Addr} {vs : List V} {ds : List PyData} (hs : GTup K a vs) (r : ∀ F, RpA K F vs ds) : ItOk K G F0 (Itt K a) ds := by
  intro σ H ρ F R s i
  have hH : SqT K H a vs := .inr hs
  refine ⟨fun d e => ?_, fun hl => ⟨vs, hH, by rw [(r F).length]; exact hl⟩⟩
  obtain ⟨v, e1, e2⟩ := (r F).get e
  refine ⟨⟨vs, v, hH, e1⟩, fun x H' y => ?_⟩
  obtain ⟨rfl, y⟩ := y
  cases (y vs hH).symm.trans e1
  exact ⟨F, Same.refl F, R, e2⟩
end
section
variable {Γ : Fam} {G : Cg} {tg : Expr} {pos : Pos}
theorem di_gtup {x : Str} {a : Addr} {ds : List PyData} (hg : ∀ i, Gl (Γ.X i) x) (hm : ∀ i, (Γ.X i).mg x = some (.ref a)) (hk : GTup Γ.K a (ds.map cV)) (hc : ds.all cOk = true) (hd : (x == ("__debug__" : Str)) = false := by decide) : DI Γ G tg (.Name x pos) (rConst ds) := by
  refine ⟨iTup Γ.K (tC (.ref a)), fun i => by have z := pi_tup (tg := tg) (pe_glob (v := .ref a) (pos := pos) (hg i) (hm i) (show RelV (.ref a) (.ref a) from rfl) hd); rw [Γ.hK i] at z; exact z, fun σ τ hn H ρ F R0 R h => ?_⟩
  exact ⟨a, rfl, ⟨_, .inr hk⟩, h _ H F (Same.refl _) R (ittK_ok hk fun F => cV_ok hc)⟩
end
end DL
namespace DL
open PySem PySem.Spec PyProof.Rows L2
/-! dict displays whose keys and values are constants -/
theorem pairs_const : ∀ {l : List (V × V)} {σ : L2.St} {H : Hp} {Q : List (V × V) → Hp → Prop}, Q l H → tPairs (l.map fun p => (tC p.1, tC p.2)) σ H Q
  | [], _, _, _, q => q
  | (a, b) :: l, σ, H, Q, q => by
    show tPairs (l.map fun p => (tC p.1, tC p.2)) σ H fun ps H3 => Q ((a, b) :: ps) H3
    exact pairs_const (Q := fun ps H3 => Q ((a, b) :: ps) H3) q
theorem upd_upd {H : Hp} {p : Addr} {a b : HO} : upd (upd H p a) p b = upd H p b := by
  funext x
  by_cases h : x = p
  · rw [h, upd_same, upd_same]
  · rw [upd_ne h, upd_ne h, upd_ne h]
def dispD (l : List (Key × PyData)) : PyData := .dict (l.map fun kv => (keyD kv.1, kv.2))
def rDisp (l : List (Key × PyData)) : Ev → Out Sl := fun ρ => .ok (.own (dispD l)) ρ
theorem disp_paired {K : PySem.W.Frag} {F : Hp} : ∀ {l : List (Key × PyData)}, l.all (fun kv => cOk kv.2) = true → Paired (KvR K F keyD) (l.map fun kv => (kv.1, cV kv.2)) (l.map fun kv => (keyD kv.1, kv.2))
  | [], _ => .nil
  | (k, d) :: l, h => by
    rw [List.all_cons, Bool.and_eq_true] at h
    have r : Rp K F (cV d) d := by
      cases d with
      | int i => exact .int i
      | str s => exact .str s
      | _ => cases h.1
    exact .cons ⟨rfl, r⟩ (disp_paired h.2)
section
variable {Γ : Fam} {G : Cg} {pos : Pos}
theorem de_disp {keys : List (Option Expr)} {values : List Expr} (l : List (Key × PyData)) (hpp : ∀ i, PPs (Γ.X i) pos keys values ((l.map fun kv => (kV kv.1, cV kv.2)).map fun p => (tC p.1, tC p.2))) (hall : keys.all (·.isSome) = true) (hl : keys.length = values.length) (h0 : keys ≠ []) (h15 : keys.length ≤ 15) (hl2 : l.length ≤ 15)
    (hc : l.all (fun kv => cOk kv.2) = true) (hm : mergeK [] (l.map fun kv => (kv.1, cV kv.2)) = l.map fun kv => (kv.1, cV kv.2)) : DE Γ G (.Dict keys values pos) (rDisp l) := by
  refine ⟨_, fun i => pe_disp (hpp i) hall hl h0 h15, fun σ τ hn H ρ F Q R h p hp => pairs_const ⟨upd_same, l.map fun kv => (kv.1, cV kv.2), by rw [List.map_map]; rfl, by rw [List.length_map]; exact hl2, ?_⟩⟩
  rw [hm, upd_upd]
  exact h _ _ F (Same.refl F) (R.grown (same_upd0 hp)) ⟨p, rfl, R.freeF hp, .dK upd_same (disp_paired hc), R.h0 hp, R.noSlot hp⟩
end
end DL
/-! DL18: sum of a list or of a tuple of ints -/
namespace DL
open PySem PySem.Spec PyProof.Rows L2
section
variable {prog : Program} {w : World} {A : Around} {E : Value → Shared → Prop} {s : Shared} {l : Addr} {its : List Value} {ns : List Int} {Q : Value → Shared → Prop}
theorem sum_tup_raw (hh : A.handled = none) (hl : s.heap.IsTuple l its.toArray) (hi : IntsAre its ns)
    (h : ∀ h' tk t', (∀ b o, s.heap.get? b = some o → h'.get? b = some o) → Q (.int ns.sum t') { s with heap := h', toks := tk }) : wpAny (model prog w) A (call (.builtin "sum") [.ref l]) Q E s := by
  obtain ⟨xs, e⟩ := hi.allInts.items
  have hn : numsOf (intItems xs).toList = ns := by rw [← e]; exact hi.numsOf
  rw [nums_intItems] at hn
  rw [e] at hl
  have al : l < s.heap.objs.size := by
    obtain ⟨o, q0, _⟩ := hl
    exact Heap.lt_size q0
  refine call_sum_walkG (wpAny_pyIter_tuple hl ?_)
  refine ⟨_, _, _, _, _, _, numAt xs, rfl, Walks.tuple (A := A.in1) hh _ l (Nat.ne_of_lt al) (intItems xs), ⟨⟨_, Heap.get?_push_size _ rfl, rfl, rfl⟩, hl.push _⟩, fun b hb => ?_, (fun _ _ => intItems_at), fun h' tk t' hk => ?_⟩
  · show b < (s.heap.push _).objs.size
    rw [Heap.size_push]
    rcases two_mem hb with rfl | rfl
    · exact Nat.lt_succ_self _
    · exact Nat.lt_succ_of_lt al
  · have := h h' tk t' fun b o e => hk b o (fun hm => by
      have e1 : b = s.heap.objs.size := by simpa using hm
      rw [e1] at e
      exact absurd (Heap.lt_size e) (Nat.lt_irrefl _)) (Heap.get?_push_of_some _ e)
    rw [show preSum (numAt xs) (intItems xs).size = ns.sum from ?_]
    · exact this
    · rw [show (intItems xs).size = xs.size by simp [intItems], preSum_eq, List.take_of_length_le (by simp), hn]
end
def rSumA (K : PySem.W.Frag) : List V → Hp → VK → Prop := fun vs H Q => ∃ (a : Addr) (ns : List Int), vs = [V.ref a] ∧ (SqL K H a (ns.map V.int) ∨ SqT K H a (ns.map V.int)) ∧ Q (.int ns.sum) H
theorem cr_sumA {X : Cx} (hc : X.calm = true) : CallR X (.builtin "sum") (rSumA X.K) := by
  intro pins s σ H vs us Q I r h
  obtain ⟨a, ns, rfl, hs, q⟩ := h
  rw [Vals.ref1 r]
  rcases hs with hs | hs
  · obtain ⟨its, rv, hl, _⟩ := I.list hs
    exact sum_raw (I.ok.hd hc) hl.isList rv.ints fun h' tk t' hk => ⟨.int _, H, I.kept hk, ⟨_, rfl⟩, q⟩
  · obtain ⟨its, rv, hl, _⟩ := I.tuple hs
    exact sum_tup_raw (I.ok.hd hc) hl rv.ints fun h' tk t' hk => ⟨.int _, H, I.kept hk, ⟨_, rfl⟩, q⟩
def dSumA : List PyData → Option Sl
  | [.list ds] => (intsOf ds).map fun bs => .dat (.int bs.sum)
  | [.tuple ds] => (intsOf ds).map fun bs => .dat (.int bs.sum)
  | _ => none
theorem cv_sumA {K : PySem.W.Frag} : CallV K (rSumA K) dSumA := by
  intro G σ H ρ F xs ds s Q R ra e q
  match ds, e with
  | [.list ds], e =>
    have e : (intsOf ds).map (fun bs => Sl.dat (.int bs.sum)) = some s := e
    cases z : intsOf ds with
    | none => rw [z] at e; cases e
    | some bs =>
      rw [z] at e
      cases e
      obtain ⟨x, rfl, h⟩ := ra.one
      obtain ⟨p, vs, rfl, h1, h2⟩ := h.list R.sub
      rw [ints_eq z] at h2
      rw [h2.of_ints] at h1
      exact ⟨p, bs, rfl, .inl h1, q _ H F (Same.refl _) R (.int _)⟩
  | [.tuple ds], e =>
    have e : (intsOf ds).map (fun bs => Sl.dat (.int bs.sum)) = some s := e
    cases z : intsOf ds with
    | none => rw [z] at e; cases e
    | some bs =>
      rw [z] at e
      cases e
      obtain ⟨x, rfl, h⟩ := ra.one
      obtain ⟨p, vs, rfl, h1, h2, _⟩ := h.tuple R.sub
      rw [ints_eq z] at h2
      rw [h2.of_ints] at h1
      exact ⟨p, bs, rfl, .inr h1, q _ H F (Same.refl _) R (.int _)⟩
section
variable {Γ : Fam}
theorem hc_sumA : ∀ i, CallR (Γ.X i) (.builtin "sum") (rSumA Γ.K) := fun i => by have z := cr_sumA (X := Γ.X i) (Γ.calm i); rw [Γ.hK i] at z; exact z
end
theorem dSumA_l {bs : List Int} : dSumA [.list (bs.map .int)] = some (.dat (.int bs.sum)) := by
  show Option.map _ (intsOf _) = _
  rw [intsOf_map]
  rfl
theorem dSumA_t {bs : List Int} : dSumA [.tuple (bs.map .int)] = some (.dat (.int bs.sum)) := by
  show Option.map _ (intsOf _) = _
  rw [intsOf_map]
  rfl
end DL
/-! DE: what a reading does, told backwards from a wish; for the plain part of a proof -/
namespace DL
open PySem
section
variable {α β : Type} {Q : α → Ev → Prop}
abbrev Tg {α : Type} (Q : α → Ev → Prop) : Type := Out α
abbrev TgE (K : Ev → Prop) : Type := Ev
abbrev TgP (P R : Prop) : Type := Prop
@[irreducible] def Wp (Q : α → Ev → Prop) (o : Tg Q) : Prop := match (o : Out α) with
  | .ok a ρ => Q a ρ
  | _ => False
/-- the slots first, then what follows -/
def Wq (K : Ev → Prop) (ρ : TgE K) : Prop := K ρ
/-- two ways -/
def Wi (P R : Prop) (c : TgP P R) : Prop := (c → P) ∧ ((c → False) → R)
theorem Wq_run {ρ : Ev} {K : Ev → Prop} : Wq K ρ = K ρ := rfl
theorem Wi_intro {c : Prop} {P R : Prop} (h : c → P) (h' : ¬c → R) : Wi P R c := ⟨h, h'⟩
theorem Wi_pos {c : Prop} {P R : Prop} (h : c) (p : P) : Wi P R c := Wi_intro (fun _ => p) fun z => absurd h z
theorem Wi_neg {c : Prop} {P R : Prop} (h : ¬c) (p : R) : Wi P R c := Wi_intro (fun z => absurd z h) fun _ => p
theorem Wi_true {P R : Prop} : Wi P R True = P := propext ⟨fun h => h.1 trivial, fun h => Wi_pos trivial h⟩
theorem Wi_false {P R : Prop} : Wi P R False = R := propext ⟨fun h => h.2 id, fun h => Wi_neg id h⟩
theorem Wi_both {c : Prop} {P : Prop} (h : P) : Wi P P c := Wi_intro (fun _ => h) fun _ => h
theorem Wp_ok {a : α} {ρ : Ev} : Wp Q (.ok a ρ) = Q a ρ := by with_unfolding_all rfl
theorem Wp_bind {Q : β → Ev → Prop} {o : Out α} {k : α → Ev → Out β} : Wp Q (o.bind k) = Wp (fun a ρ => Wp Q (k a ρ)) o := by cases o <;> with_unfolding_all rfl
theorem Wp_mono {P : α → Ev → Prop} {o : Out α} (h : Wp P o) (k : ∀ a ρ, P a ρ → Q a ρ) : Wp Q o := by
  unfold Wp at h ⊢
  cases o with
  | ok a ρ => exact k a ρ h
  | exc c ρ => exact h
  | bad => exact h
theorem Wp_out {o : Out α} (h : Wp Q o) : ∃ a ρ, o = .ok a ρ ∧ Q a ρ := by
  unfold Wp at h
  cases o with
  | ok a ρ => exact ⟨a, ρ, rfl, h⟩
  | exc c ρ => exact h.elim
  | bad => exact h.elim
theorem Wp_lift {a : α} {ρ : Ev} : Wp Q ((lift (some a) ρ)) = Q a ρ := by with_unfolding_all rfl
theorem Wp_ite {c : Prop} [Decidable c] {o o' : Out α} : Wp Q (if c then o else o') = Wi (Wp Q o) (Wp Q o') c := by
  split
  · next z => rw [eq_true z, Wi_true]; try with_unfolding_all rfl
  · next z => rw [eq_false z, Wi_false]; try with_unfolding_all rfl
theorem Wp_lite {c : Prop} [Decidable c] {a : α} {ρ : Ev} : Wp Q ((lift (if c then some a else none) ρ)) = Wi (Q a ρ) False c := by
  split
  · next z => rw [eq_true z, Wi_true]; try with_unfolding_all rfl
  · next z => rw [eq_false z, Wi_false]; try with_unfolding_all rfl
variable {ρ : Ev}
theorem Wp_rIf {c : Ev → Out Bool} {f g : Ev → Out α} : Wp Q (rIf c f g ρ) = Wp (fun b ρ1 => Wi ((Wp Q (f ρ1))) ((Wp Q (g ρ1))) (b = true)) (c ρ) := by
  unfold rIf
  rw [Wp_bind]
  congr
  funext b ρ1
  rw [Wp_ite]
end
section
variable {ρ : Ev} {Q : Flw → Ev → Prop} {f g : Ev → Out Flw}
theorem Wp_seq : Wp Q (rSeq f g ρ) = Wp (fun fl ρ1 => Wp Q (seqK g fl ρ1)) (f ρ) := by with_unfolding_all exact Wp_bind
theorem Wp_seqN : Wp Q (seqK g .nx ρ) = Wp Q (g ρ) := by with_unfolding_all rfl
theorem Wp_seqR {s : Sl} : Wp Q ((seqK g (.ret s) ρ)) = Q (.ret s) ρ := by with_unfolding_all rfl
theorem Wp_seqB : Wp Q (seqK g .brk ρ) = Q .brk ρ := by with_unfolding_all rfl
theorem Wp_seqC : Wp Q (seqK g .cnt ρ) = Q .cnt ρ := by with_unfolding_all rfl
theorem Wp_next : Wp Q (rNext ρ) = Q .nx ρ := by with_unfolding_all rfl
theorem Wp_brk : Wp Q (rBrk ρ) = Q .brk ρ := by with_unfolding_all rfl
theorem Wp_cnt : Wp Q (rCnt ρ) = Q .cnt ρ := by with_unfolding_all rfl
theorem Wp_set {i : Nat} {e : Ev → Out Sl} : Wp Q (rSet i e ρ) = Wp (fun s ρ1 => Wq (fun ρ2 => Q .nx ρ2) (ρ1.set i s)) (e ρ) := by with_unfolding_all exact Wp_bind
theorem Wp_asg {g : PyData → Ev → Option Ev} {e : Ev → Out PyData} : Wp Q (rAsg g e ρ) = Wp (fun d ρ1 => Wp (fun ρ2 _ => Q .nx ρ2) ((lift (g d ρ1) ρ1))) (e ρ) := by
  unfold rAsg
  rw [Wp_bind]
  congr
  funext d ρ1
  rw [Wp_bind]
  with_unfolding_all rfl
theorem Wp_ret {e : Ev → Out Sl} : Wp Q (rRet e ρ) = Wp (fun s ρ1 => Q (.ret s) ρ1) (e ρ) := by with_unfolding_all exact Wp_bind
theorem Wp_drop {e : Ev → Out Sl} : Wp Q (rDrop e ρ) = Wp (fun _ ρ1 => Q .nx ρ1) (e ρ) := by with_unfolding_all exact Wp_bind
theorem Wp_kill {is : List Nat} : Wp Q (rKill is f ρ) = Wp (fun fl ρ1 => Wq (fun ρ2 => Q fl ρ2) (wipeE ρ1 is)) (f ρ) := by with_unfolding_all exact Wp_bind
theorem Wp_par {n : Nat} {is : List Nat} {e : Ev → Out Unit} : Wp Q (rPar n is e ρ) = Wp (fun _ ρ1 => Wq (fun ρ2 => Q .nx ρ2) (unpack n is 0 ρ1)) (e ρ) := by with_unfolding_all exact Wp_bind
theorem Wp_ifs {c : Ev → Out Bool} : Wp Q (rIfS c f g ρ) = Wp (fun b ρ1 => Wi ((Wp Q (f ρ1))) ((Wp Q (g ρ1))) (b = true)) (c ρ) := by
  show Wp Q (((c ρ).bind _)) = _
  rw [Wp_bind]
  congr
  funext b ρ1
  rw [Wp_ite]
theorem Wp_for {ks : List Nat} {g : PyData → Ev → Option Ev} {fi : Ev → Out (List PyData)} : Wp Q (rFor ks g f fi ρ) = Wp (fun ds ρ1 => Wq (fun ρ2 => Wp Q (forD ks g f ds ρ2)) (wipeE ρ1 ks)) (fi ρ) := by with_unfolding_all exact Wp_bind
/-- what a loop's body hands on -/
def forK (ks : List Nat) (g : PyData → Ev → Option Ev) (b : Ev → Out Flw) (ds : List PyData) (Q : Flw → Ev → Prop) (fl : Flw) (ρ : Ev) : Prop := match fl with
  | .nx => Wq (fun ρ => Wp Q (forD ks g b ds ρ)) (wipeE ρ ks)
  | .cnt => Wq (fun ρ => Wp Q (forD ks g b ds ρ)) (wipeE ρ ks)
  | .brk => Wq (fun ρ => Q .nx ρ) (wipeE ρ ks)
  | .ret s => Q (.ret s) ρ
section
variable {ks : List Nat} {g : PyData → Ev → Option Ev} {ds : List PyData}
theorem forK_nx : forK ks g f ds Q .nx ρ = Wq (fun ρ => Wp Q (forD ks g f ds ρ)) (wipeE ρ ks) := by with_unfolding_all rfl
theorem forK_cnt : forK ks g f ds Q .cnt ρ = Wq (fun ρ => Wp Q (forD ks g f ds ρ)) (wipeE ρ ks) := by with_unfolding_all rfl
theorem forK_brk : forK ks g f ds Q .brk ρ = Wq (fun ρ => Q .nx ρ) (wipeE ρ ks) := rfl
theorem forK_ret {s : Sl} : forK ks g f ds Q (.ret s) ρ = Q (.ret s) ρ := rfl
theorem Wp_forN : Wp Q (forD ks g f [] ρ) = Q .nx ρ := by with_unfolding_all rfl
theorem Wp_forC {d : PyData} : Wp Q ((forD ks g f (d :: ds) ρ)) = Wp (fun ρ1 _ => Wp (forK ks g f ds Q) (f ρ1)) ((lift (g d ρ) ρ)) := by
  unfold forD
  rw [Wp_bind]
  congr
  funext ρ1 ρ'
  rw [Wp_bind]
  congr
  funext fl ρ2
  cases fl <;> with_unfolding_all rfl
/-- a loop by its invariant -/
theorem Wp_forI (I : Nat → Ev → Prop) (h0 : I 0 ρ) (hs : ∀ i d ρ, ds[i]? = some d → I i ρ → Wp (fun ρ1 _ => Wp (fun fl ρ2 => match fl with
    | .nx => I (i + 1) (wipeE ρ2 ks)
    | .cnt => I (i + 1) (wipeE ρ2 ks)
    | .brk => Q .nx (wipeE ρ2 ks)
    | .ret s => Q (.ret s) ρ2) (f ρ1)) ((lift (g d ρ) ρ))) (h1 : ∀ ρ, I ds.length ρ → Q .nx ρ) : Wp Q (forD ks g f ds ρ) := by
  suffices z : ∀ (n i : Nat) (ρ : Ev), ds.length - i = n → I i ρ → i ≤ ds.length → Wp Q ((forD ks g f (ds.drop i) ρ)) by
    have := z ds.length 0 ρ rfl h0 (Nat.zero_le _)
    rwa [List.drop_zero] at this
  intro n
  induction n with
  | zero =>
    intro i ρ e hI hle
    have : i = ds.length := by omega
    subst this
    rw [List.drop_length, Wp_forN]
    exact h1 _ hI
  | succ n ih =>
    intro i ρ e hI hle
    have hi : i < ds.length := by omega
    rw [List.drop_eq_getElem_cons hi, Wp_forC]
    refine Wp_mono (hs i ds[i] ρ (List.getElem?_eq_getElem hi) hI) fun ρ1 _ h => Wp_mono h fun fl ρ2 h => ?_
    cases fl with
    | nx => exact ih (i + 1) _ (by omega) h (by omega)
    | cnt => exact ih (i + 1) _ (by omega) h (by omega)
    | brk => exact h
    | ret s => exact h
end
end
section
variable {ρ : Ev} {Q : PyData → Ev → Prop} {f g : Ev → Out PyData}
theorem Wp_c {d : PyData} : Wp Q (rC d ρ) = Q d ρ := by with_unfolding_all rfl
abbrev TgS (i : Nat) (ρ : Ev) (Q : PyData → Ev → Prop) : Type := Option Sl
def WpVar (i : Nat) (ρ : Ev) (Q : PyData → Ev → Prop) : TgS i ρ Q → Prop
  | some (.dat d) => Q d ρ
  | some (.own (.list ds)) => Wq (fun ρ => Q (.list ds) ρ) (ρ.set i (.dat (.list ds)))
  | _ => False
theorem Wp_var {i : Nat} : Wp Q (rVar i ρ) = WpVar i ρ Q ρ[i]? := by
  unfold rVar
  cases ρ[i]? with
  | none => with_unfolding_all rfl
  | some s =>
    cases s with
    | own d => cases d <;> with_unfolding_all rfl
    | _ => with_unfolding_all rfl
theorem WpVar_d {i : Nat} {d : PyData} : WpVar i ρ Q (some (.dat d)) = Q d ρ := by with_unfolding_all rfl
theorem WpVar_o {i : Nat} {ds : List PyData} : WpVar i ρ Q (some (.own (.list ds))) = Wq (fun ρ => Q (.list ds) ρ) ((ρ.set i (.dat (.list ds)))) := by with_unfolding_all rfl
theorem Wp_varB {i : Nat} {d : PyData} (h : ρ[i]? = some (.dat d)) : Wp Q (rVarB i ρ) = Q d ρ := by
  unfold rVarB
  rw [h]
  with_unfolding_all rfl
theorem Wp_view {i : Nat} : Wp Q (rView i ρ) = Wp Q ((lift (see ρ[i]?) ρ)) := by with_unfolding_all rfl
/-- a truth value's two ways -/
abbrev TgD (P R : Prop) : Type := PyData
def WB (P R : Prop) (d : TgD P R) : Prop := match d with
  | .bool true => P
  | .bool false => R
  | _ => False
theorem WB_b {b : Bool} {P R : Prop} : WB P R (.bool b) = Wi P R (b = true) := by cases b with
  | true => rw [eq_true rfl, Wi_true]; rfl
  | false => rw [eq_false Bool.false_ne_true, Wi_false]; rfl
theorem Wp_andV : Wp Q (rAndV f g ρ) = Wp (fun d ρ1 => WB ((Wp Q (g ρ1))) ((Q (.bool false) ρ1)) d) (f ρ) := by
  unfold rAndV
  rw [Wp_bind]
  congr
  funext d ρ1
  cases d with
  | bool b => cases b <;> with_unfolding_all rfl
  | _ => with_unfolding_all rfl
theorem Wp_orV : Wp Q (rOrV f g ρ) = Wp (fun d ρ1 => WB ((Q (.bool true) ρ1)) ((Wp Q (g ρ1))) d) (f ρ) := by
  unfold rOrV
  rw [Wp_bind]
  congr
  funext d ρ1
  cases d with
  | bool b => cases b <;> with_unfolding_all rfl
  | _ => with_unfolding_all rfl
theorem Wp_chain {g g' : PyData → PyData → Option Sl} {f1 f2 f3 : Ev → Out PyData} : Wp Q (rChain g g' f1 f2 f3 ρ) = Wp (fun a ρ1 => Wp (fun b ρ2 => Wp (fun s ρ3 => Wp (fun k ρ4 =>
    Wi ((Wp (fun c ρ5 => Wp (fun s ρ6 => Wp Q (asDat s ρ6)) ((lift (g' b c) ρ5))) (f3 ρ4))) ((Q (.bool false) ρ4)) (k = true)) (asB s ρ3)) ((lift (g a b) ρ2))) (f2 ρ1)) (f1 ρ) := by
  unfold rChain
  rw [Wp_bind]
  congr
  funext a ρ1
  rw [Wp_bind]
  congr
  funext b ρ2
  rw [Wp_bind]
  congr
  funext s ρ3
  rw [Wp_bind]
  congr
  funext k ρ4
  rw [Wp_ite, Wp_bind, Wp_ok]
  congr
  funext c ρ5
  rw [Wp_bind]
theorem Wp_asDat {d : PyData} : Wp Q ((asDat (.dat d) ρ)) = Q d ρ := by with_unfolding_all rfl
theorem Wp_asDatO {ds : List PyData} : Wp Q ((asDat (.own (.list ds)) ρ)) = Q (.list ds) ρ := by with_unfolding_all rfl
end
section
variable {ρ : Ev} {f1 f2 : Ev → Out PyData}
theorem Wp_asB {b : Bool} {Q : Bool → Ev → Prop} : Wp Q ((asB (.dat (.bool b)) ρ)) = Q b ρ := by with_unfolding_all rfl
theorem Wp_tru {b : Bool} {Q : Bool → Ev → Prop} : Wp Q ((dTru (.bool b) ρ)) = Q b ρ := by with_unfolding_all rfl
theorem Wp_bin {g : PyData → PyData → Option Sl} {Q : Sl → Ev → Prop} : Wp Q (rBin g f1 f2 ρ) = Wp (fun a ρ1 => Wp (fun b ρ2 => Wp Q ((lift (g a b) ρ2))) (f2 ρ1)) (f1 ρ) := by
  unfold rBin
  rw [Wp_bind]
  congr
  funext a ρ1
  rw [Wp_bind]
theorem Wp_andB {f g : Ev → Out Bool} {Q : Bool → Ev → Prop} : Wp Q (rAndB f g ρ) = Wp (fun b ρ1 => Wi ((Wp Q (g ρ1))) (Q false ρ1) (b = true)) (f ρ) := by
  unfold rAndB
  rw [Wp_bind]
  congr
  funext b ρ1
  rw [Wp_ite]
  with_unfolding_all rfl
theorem Wp_orB {f g : Ev → Out Bool} {Q : Bool → Ev → Prop} : Wp Q (rOrB f g ρ) = Wp (fun b ρ1 => Wi (Q true ρ1) ((Wp Q (g ρ1))) (b = true)) (f ρ) := by
  unfold rOrB
  rw [Wp_bind]
  congr
  funext b ρ1
  rw [Wp_ite]
  with_unfolding_all rfl
theorem Wp_yes {Q : Bool → Ev → Prop} : Wp Q (rYes ρ) = Q true ρ := by with_unfolding_all rfl
theorem Wp_push0 {Q : Unit → Ev → Prop} : Wp Q (gNil' ρ) = Q () ρ := by with_unfolding_all rfl
theorem Wp_pushN {f : Ev → Out Sl} {g : Ev → Out Unit} {Q : Unit → Ev → Prop} : Wp Q (gPush f g ρ) = Wp (fun s ρ1 => Wq (fun ρ2 => Wp Q (g ρ2)) (ρ1 ++ [s])) (f ρ) := by
  unfold gPush
  rw [Wp_bind]
  with_unfolding_all rfl
theorem Wp_nil {Q : List PyData → Ev → Prop} : Wp Q (rNil ρ) = Q [] ρ := by with_unfolding_all rfl
theorem Wp_cons {f : Ev → Out PyData} {g : Ev → Out (List PyData)} {Q : List PyData → Ev → Prop} : Wp Q (rCons f g ρ) = Wp (fun d ρ1 => Wp (fun ds ρ2 => Q (d :: ds) ρ2) (g ρ1)) (f ρ) := by
  unfold rCons
  rw [Wp_bind]
  congr
  funext a ρ1
  rw [Wp_bind]
  with_unfolding_all rfl
abbrev TgM (i : Nat) (ρ : Ev) (Q : Sl → Ev → Prop) : Type := Option Sl
def WpMv (i : Nat) (ρ : Ev) (Q : Sl → Ev → Prop) : TgM i ρ Q → Prop
  | some (.dat d) => Q (.dat d) ρ
  | some (.own d) => Wq (fun ρ => Q (.own d) ρ) (ρ.set i .emp)
  | some (.scr ns) => Q (.scr ns) ρ
  | _ => False
theorem WpMv_d {i : Nat} {d : PyData} {Q : Sl → Ev → Prop} : WpMv i ρ Q (some (.dat d)) = Q (.dat d) ρ := by with_unfolding_all rfl
theorem WpMv_o {i : Nat} {d : PyData} {Q : Sl → Ev → Prop} : WpMv i ρ Q (some (.own d)) = Wq (fun ρ => Q (.own d) ρ) (ρ.set i .emp) := by with_unfolding_all rfl
theorem WpMv_s {i : Nat} {d : List Int} {Q : Sl → Ev → Prop} : WpMv i ρ Q (some (.scr d)) = Q (.scr d) ρ := by with_unfolding_all rfl
theorem Wp_move {i : Nat} {Q : Sl → Ev → Prop} : Wp Q (rMove i ρ) = WpMv i ρ Q ρ[i]? := by
  unfold rMove
  cases ρ[i]? with
  | none => with_unfolding_all rfl
  | some s => cases s <;> with_unfolding_all rfl
theorem Wp_cnil {Q : List (Option PyData) → Ev → Prop} : Wp Q (cNil ρ) = Q [] ρ := by with_unfolding_all rfl
theorem Wp_cval {f : Ev → Out PyData} {g : Ev → Out (List (Option PyData))} {Q : List (Option PyData) → Ev → Prop} : Wp Q (cVal f g ρ) = Wp (fun d ρ1 => Wp (fun ds ρ2 => Q (some d :: ds) ρ2) (g ρ1)) (f ρ) := by
  unfold cVal
  rw [Wp_bind]
  congr
  funext a ρ1
  rw [Wp_bind]
  with_unfolding_all rfl
theorem Wp_cbor {j : Nat} {g : Ev → Out (List (Option PyData))} {Q : List (Option PyData) → Ev → Prop} : Wp Q (cBor j g ρ) = Wp (fun _ ρ1 => Wp (fun ds ρ2 => Q (none :: ds) ρ2) (g ρ1)) ((lift (see ρ[j]?) ρ)) := by
  unfold cBor
  rw [Wp_bind]
  congr
  funext a ρ1
  rw [Wp_bind]
  with_unfolding_all rfl
/-- the arguments first -/
abbrev TgL (m : List Sl → Out Sl) (Q : Sl → Ev → Prop) : Type := List Sl
def Wm (m : List Sl → Out Sl) (Q : Sl → Ev → Prop) (as : TgL m Q) : Prop := Wp Q (m as)
theorem Wp_call {m : List Sl → Out Sl} {bs : List (Option Nat)} {f : Ev → Out (List (Option PyData))} {Q : Sl → Ev → Prop} : Wp Q (rCall m bs f ρ) = Wp (fun ds ρ1 => Wm m (fun r as' => Wq (fun ρ2 => Q r ρ2) (putBack bs as' ρ1)) (argsOf bs ds ρ1)) (f ρ) := by
  unfold rCall
  rw [Wp_bind]
  congr
  funext ds ρ1
  unfold callR Wm
  cases m (argsOf bs ds ρ1) <;> with_unfolding_all rfl
theorem Wm_eq {m : List Sl → Out Sl} {as as' : List Sl} {r : Sl} {Q : Sl → Ev → Prop} (h : m as = .ok r as') : Wm m Q as = Q r as' := by
  unfold Wm
  rw [h]
  with_unfolding_all rfl
theorem argsOf_v {bs : List (Option Nat)} {ds : List (Option PyData)} {d : PyData} : argsOf (none :: bs) (some d :: ds) ρ = .dat d :: argsOf bs ds ρ := rfl
theorem argsOf_b {bs : List (Option Nat)} {ds : List (Option PyData)} {j : Nat} {d : Option PyData} : argsOf (some j :: bs) (d :: ds) ρ = ρ[j]?.getD .emp :: argsOf bs ds ρ := by cases d <;> rfl
theorem argsOf_n {bs : List (Option Nat)} : argsOf bs [] ρ = [] := by
  cases bs with
  | nil => rfl
  | cons b bs => cases b <;> rfl
def back (j : Nat) (s : Sl) (ρ : Ev) : Option Sl → Ev
  | some (.own _) => ρ.set j s
  | _ => ρ
theorem back_o {j : Nat} {s : Sl} {d : PyData} : back j s ρ (some (.own d)) = ρ.set j s := rfl
theorem back_s {j : Nat} {s : Sl} {d : List Int} : back j s ρ (some (.scr d)) = ρ := rfl
theorem back_d {j : Nat} {s : Sl} {d : PyData} : back j s ρ (some (.dat d)) = ρ := rfl
theorem putBack_v {bs : List (Option Nat)} {s : Sl} {as : List Sl} : putBack (none :: bs) (s :: as) ρ = putBack bs as ρ := rfl
theorem putBack_b {bs : List (Option Nat)} {s : Sl} {as : List Sl} {j : Nat} : putBack (some j :: bs) (s :: as) ρ = putBack bs as (back j s ρ ρ[j]?) := by
  unfold back
  rfl
theorem putBack_n {as : List Sl} : putBack [] as ρ = ρ := by
  cases as <;> rfl
/-- what a def's body hands on -/
def retK (n : Nat) (Q : Sl → Ev → Prop) (fl : Flw) (ρ : Ev) : Prop := match fl with
  | .ret s => Wq (fun ρ => Q s ρ) (ρ.take n)
  | .nx => Wq (fun ρ => Q (.dat .none) ρ) (ρ.take n)
  | _ => False
theorem retK_r {n : Nat} {Q : Sl → Ev → Prop} {s : Sl} : retK n Q (.ret s) ρ = Wq (fun ρ => Q s ρ) (ρ.take n) := rfl
theorem retK_n {n : Nat} {Q : Sl → Ev → Prop} : retK n Q .nx ρ = Wq (fun ρ => Q (.dat .none) ρ) (ρ.take n) := rfl
theorem Wm_of {n m : Nat} {f : Ev → Out Flw} {as : List Sl} {Q : Sl → Ev → Prop} (h : as.length = n) (w : Wp (retK as.length Q) (f (as ++ List.replicate (m - as.length) .emp))) : Wm (rLen n (mOf m f)) Q as := by
  show Wp Q (if as.length = n then mOf m f as else .bad)
  rw [if_pos h]
  unfold mOf
  rw [Wp_bind]
  refine Wp_mono w fun fl ρ z => ?_
  cases fl with
  | ret s => with_unfolding_all exact z
  | nx => with_unfolding_all exact z
  | brk => exact z.elim
  | cnt => exact z.elim
end
section
variable {ρ : Ev} {ks : List Nat} {g : PyData → Ev → Option Ev} {ft : Ev → Out Bool} {fe : Ev → Out PyData} {fi : Ev → Out (List PyData)} {m : Nat}
theorem Wp_comp {Q : Sl → Ev → Prop} : Wp Q (rComp ks g ft fe fi ρ) = Wp (fun ds ρ1 => Wq (fun ρ2 => Wp (fun _ ρ3 => Wp Q (compEnd ρ1.length ks ρ1 ρ3)) (compGo ρ1.length ks g ft fe ds ρ2)) ((wipeE ρ1 ks ++ [.own (.list [])]))) (fi ρ) := by
  unfold rComp
  rw [Wp_bind]
  congr
  funext a ρ1
  rw [Wp_bind]
  with_unfolding_all rfl
theorem Wp_goN {Q : Unit → Ev → Prop} : Wp Q (compGo m ks g ft fe [] ρ) = Q () ρ := by with_unfolding_all rfl
theorem Wp_goC {Q : Unit → Ev → Prop} {d : PyData} {ds : List PyData} : Wp Q ((compGo m ks g ft fe (d :: ds) ρ)) = Wp (fun ρ1 _ => Wp (fun b ρ2 =>
    Wi ((Wp (fun y ρ3 => Wp (fun ρ4 _ => Wq (fun ρ5 => Wp Q (compGo m ks g ft fe ds ρ5)) (wipeE ρ4 ks)) ((lift (pushAt m y ρ3) ρ3))) (fe ρ2))) ((Wq (fun ρ5 => Wp Q (compGo m ks g ft fe ds ρ5)) (wipeE ρ2 ks))) (b = true)) (ft ρ1)) ((lift (g d ρ) ρ)) := by
  unfold compGo
  rw [Wp_bind]
  congr
  funext ρ1 ρ'
  rw [Wp_bind]
  congr
  funext b ρ2
  rw [Wp_ite, Wp_bind]
  congr
  funext y ρ3
  rw [Wp_bind]
  with_unfolding_all rfl
theorem Wp_comp2 {ks1 : List Nat} {fi1 : Ev → Out (List PyData)} {g1 : PyData → Ev → Option Ev} {ft1 : Ev → Out Bool} {Q : Sl → Ev → Prop} : Wp Q (rComp2 ks ks1 g ft fi1 g1 ft1 fe fi ρ) = Wp (fun ds ρ1 => Wq (fun ρ2 => Wp (fun _ ρ3 => Wp Q (compEnd ρ1.length ks ρ1 ρ3)) (compGo2 ρ1.length ks ks1 g ft fi1 g1 ft1 fe ds ρ2)) (wipeE ρ1 ks ++ [.own (.list [])])) (fi ρ) := by
  unfold rComp2
  rw [Wp_bind]
  congr
  funext a ρ1
  rw [Wp_bind]
  with_unfolding_all rfl
theorem Wp_go2N {ks1 : List Nat} {fi1 : Ev → Out (List PyData)} {g1 : PyData → Ev → Option Ev} {ft1 : Ev → Out Bool} {Q : Unit → Ev → Prop} : Wp Q (compGo2 m ks ks1 g ft fi1 g1 ft1 fe [] ρ) = Q () ρ := by with_unfolding_all rfl
theorem Wp_go2C {ks1 : List Nat} {fi1 : Ev → Out (List PyData)} {g1 : PyData → Ev → Option Ev} {ft1 : Ev → Out Bool} {Q : Unit → Ev → Prop} {d : PyData} {ds : List PyData} : Wp Q (compGo2 m ks ks1 g ft fi1 g1 ft1 fe (d :: ds) ρ) = Wp (fun ρ1 _ => Wp (fun b ρ2 =>
    Wi (Wp (fun ds1 ρ3 => Wq (fun ρ3 => Wp (fun _ ρ4 => Wq (fun ρ5 => Wp Q (compGo2 m ks ks1 g ft fi1 g1 ft1 fe ds ρ5)) (wipeE ρ4 ks)) (compGo m ks1 g1 ft1 fe ds1 ρ3)) (wipeE ρ3 ks1)) (fi1 ρ2)) (Wq (fun ρ5 => Wp Q (compGo2 m ks ks1 g ft fi1 g1 ft1 fe ds ρ5)) (wipeE ρ2 ks)) (b = true)) (ft ρ1)) (lift (g d ρ) ρ) := by
  unfold compGo2
  rw [Wp_bind]
  congr
  funext ρ1 ρ'
  rw [Wp_bind]
  congr
  funext b ρ2
  rw [Wp_ite, Wp_bind]
  congr
  funext y ρ3
  rw [Wp_bind]
  with_unfolding_all rfl
theorem Wp_dnewK {Q : Sl → Ev → Prop} : Wp Q (rDNewK ρ) = Q (.own (.dict [])) ρ := by with_unfolding_all rfl
/-- a dict whose keys are tuples -/
def dT (kvs : List (PyData × PyData)) : PyData := .dict ((.none, .none) :: kvs)
theorem Wp_dnewT {Q : Sl → Ev → Prop} : Wp Q (rDNewT ρ) = Q (.own (dT [])) ρ := by with_unfolding_all rfl
abbrev TgU {α : Type} (Q : α → Ev → Prop) (ρ : Ev) : Type := Option Sl
def WpPutH (k : Nat) (i d : PyData) (ρ : Ev) (Q : Flw → Ev → Prop) (o : TgU Q ρ) : Prop := match ownS (o : Option Sl) with
  | some dd => (match dPutO dd i d with
    | some d' => Wq (fun ρ => Q .nx ρ) (ρ.set k (.own d'))
    | none => False)
  | none => False
theorem Wp_putH {k : Nat} {i d : PyData} {Q : Flw → Ev → Prop} : Wp Q (putHere k i d ρ) = WpPutH k i d ρ Q ρ[k]? := by
  unfold putHere WpPutH
  cases ownS ρ[k]? with
  | none => with_unfolding_all rfl
  | some dd =>
    show Wp Q (match dPutO dd i d with | some d' => Out.ok Flw.nx (ρ.set k (.own d')) | none => .bad) = (match dPutO dd i d with | some d' => Wq (fun ρ => Q .nx ρ) (ρ.set k (.own d')) | none => False)
    cases dPutO dd i d <;> with_unfolding_all rfl
theorem WpPutH_d {k : Nat} {i d : PyData} {Q : Flw → Ev → Prop} {kvs : List (PyData × PyData)} : WpPutH k i d ρ Q (some (.own (.dict kvs))) = Wp (fun d' ρ1 => Wq (fun ρ2 => Q .nx ρ2) (ρ1.set k (.own d'))) (lift (dPutO (.dict kvs) i d) ρ) := by
  unfold WpPutH
  show (match dPutO (.dict kvs) i d with | some d' => Wq (fun ρ => Q .nx ρ) (ρ.set k (.own d')) | none => False) = _
  cases dPutO (.dict kvs) i d <;> with_unfolding_all rfl
theorem WpPutH_T {k : Nat} {i d : PyData} {Q : Flw → Ev → Prop} {kvs : List (PyData × PyData)} : WpPutH k i d ρ Q (some (.own (dT kvs))) = Wp (fun d' ρ1 => Wq (fun ρ2 => Q .nx ρ2) (ρ1.set k (.own d'))) (lift (dPutO (dT kvs) i d) ρ) := WpPutH_d
def WpAug (i : Nat) (d : PyData) (ρ : Ev) (Q : Flw → Ev → Prop) (o : TgU Q ρ) : Prop := match (o : Option Sl), d with
  | some (.dat (.int a)), .int b => Wq (fun ρ => Q .nx ρ) (ρ.set i (.dat (.int (a + b))))
  | some (.own (.list xs)), .list ys => if xs.length + ys.length ≤ line then Wq (fun ρ => Q .nx ρ) (ρ.set i (.own (.list (xs ++ ys)))) else False
  | _, _ => False
theorem Wp_aug {i : Nat} {d : PyData} {Q : Flw → Ev → Prop} : Wp Q (augAdd i d ρ) = WpAug i d ρ Q ρ[i]? := by
  unfold augAdd
  cases ρ[i]? with
  | none => with_unfolding_all rfl
  | some s =>
    cases s with
    | dat x =>
      cases x with
      | int a => cases d <;> with_unfolding_all rfl
      | _ => with_unfolding_all rfl
    | own x =>
      cases x with
      | list xs =>
        cases d with
        | list ys =>
          show Wp Q (if xs.length + ys.length ≤ line then _ else _) = if xs.length + ys.length ≤ line then _ else _
          split <;> with_unfolding_all rfl
        | _ => with_unfolding_all rfl
      | _ => with_unfolding_all rfl
    | _ => with_unfolding_all rfl
theorem WpAug_i {i : Nat} {a b : Int} {Q : Flw → Ev → Prop} : WpAug i (.int b) ρ Q (some (.dat (.int a))) = Wq (fun ρ => Q .nx ρ) (ρ.set i (.dat (.int (a + b)))) := rfl
theorem WpAug_l {i : Nat} {xs ys : List PyData} {Q : Flw → Ev → Prop} (h : xs.length + ys.length ≤ 16777216) : WpAug i (.list ys) ρ Q (some (.own (.list xs))) = Wq (fun ρ => Q .nx ρ) (ρ.set i (.own (.list (xs ++ ys)))) := if_pos h
theorem isS_d {d : PyData} : isSome? (some (.dat d)) = true := rfl
theorem isS_o {d : PyData} : isSome? (some (.own d)) = true := rfl
theorem mkRg_l {i j : Int} {Q : Sl → Ev → Prop} (h : rgOkB i j = true) : Wp Q (mkRg true (.int i) (.int j) ρ) = Q (.own (.list (rgD i j))) ρ := by
  have e : mkRg true (.int i) (.int j) ρ = if rgOkB i j = true then .ok (.own (.list (rgD i j))) ρ else .bad := rfl
  rw [e, if_pos h, Wp_ok]
theorem mkRg_t {i j : Int} {Q : Sl → Ev → Prop} (h : rgOkB i j = true) : Wp Q (mkRg false (.int i) (.int j) ρ) = Q (.dat (.tuple (rgD i j))) ρ := by
  have e : mkRg false (.int i) (.int j) ρ = if rgOkB i j = true then .ok (.dat (.tuple (rgD i j))) ρ else .bad := rfl
  rw [e, if_pos h, Wp_ok]
theorem dMax2_i {i j : Int} : dMax2 [.int i, .int j] = some (.dat (.int (if j > i then j else i))) := rfl
theorem dMin2_i {i j : Int} : dMin2 [.int i, .int j] = some (.dat (.int (if j < i then j else i))) := rfl
theorem pushAt_at {m : Nat} {y : PyData} {acc : List PyData} (h : ρ[m]? = some (.own (.list acc))) (hl : acc.length < line) : pushAt m y ρ = some (ρ.set m (.own (.list (acc ++ [y])))) := by
  unfold pushAt
  rw [h]
  exact if_pos hl
theorem compEnd_at {Q : Sl → Ev → Prop} {ρ1 : Ev} {acc : List PyData} (h : ρ[m]? = some (.own (.list acc))) : Wp Q (compEnd m ks ρ1 ρ) = Wq (fun ρ => Q (.own (.list acc)) ρ) ((restoreE ρ1 ks (ρ.take m))) := by
  unfold compEnd
  rw [h]
  with_unfolding_all rfl
end
end DL
/-! DF: data rules for DE -/
namespace DL
open PySem PySem.W L2
theorem see_d {d : PyData} : see (some (.dat d)) = some d := rfl
theorem see_o {d : PyData} : see (some (.own d)) = some d := rfl
theorem see_s {ns : List Int} : see (some (.scr ns)) = some (.list (ns.map .int)) := rfl
section
variable {i j : Int} {xs ys ds : List PyData}
theorem atI_pos {α : Type} {xs : List α} (h : 0 ≤ i) : L2.atI xs i = xs[i.toNat]? := by
  unfold L2.atI L2.ixN
  rw [if_pos h]
  by_cases z : i < xs.length
  · rw [if_pos z]; rfl
  · rw [if_neg z, List.getElem?_eq_none (by omega)]; rfl
theorem dIx_l (h : 0 ≤ i) : dIx (.list xs) (.int i) = xs[i.toNat]? := atI_pos h
theorem dIx_t (h : 0 ≤ i) : dIx (.tuple xs) (.int i) = xs[i.toNat]? := atI_pos h
theorem dAdd_i : dAdd (.int i) (.int j) = some (.dat (.int (i + j))) := rfl
theorem dSub_i : dSub (.int i) (.int j) = some (.dat (.int (i - j))) := rfl
theorem dNeg_i {ρ : Ev} {Q : PyData → Ev → Prop} : Wp Q (dNeg (.int i) ρ) = Q (.int (-i)) ρ := by with_unfolding_all rfl
theorem dMod_i (h : 0 < j) : dMod (.int i) (.int j) = some (.dat (.int (i % j))) := by
  show (if (decide (0 < j)) = true then _ else _) = _
  rw [if_pos (by simpa using h)]
theorem dDiv_i (h : 0 < j) (h2 : j < 1073741824) : dDiv (.int i) (.int j) = some (.dat (.int (i / j))) := by
  show (if (decide (0 < j) && decide (j < 1073741824)) = true then _ else _) = _
  rw [if_pos (by simp [h, h2])]
theorem dMul_r (h : -18446744073709551616 < j) (h2 : j < 18446744073709551616) : dMul (.int i) (.int j) = some (.dat (.int (i * j))) := by
  show (if cMul i j = true then _ else _) = _
  rw [if_pos]
  unfold cMul
  rw [Bool.or_eq_true]
  right
  simp [h, h2]
theorem dMul_l (h : -18446744073709551616 < i) (h2 : i < 18446744073709551616) : dMul (.int i) (.int j) = some (.dat (.int (i * j))) := by
  show (if cMul i j = true then _ else _) = _
  rw [if_pos]
  unfold cMul
  rw [Bool.or_eq_true]
  left
  simp [h, h2]
theorem dPow_i (h : 0 ≤ j) (h1 : j ≤ 1000000) (h2 : i.natAbs < 2 ^ 64) : dPow (.int i) (.int j) = some (.dat (.int (i ^ j.toNat))) := by
  show (if (decide (0 ≤ j) && (decide (j ≤ 1000000) && decide (i.natAbs < 2 ^ 64))) = true then _ else _) = _
  rw [if_pos (by simp [h, h1]; exact h2)]
theorem dPow_18 : dPow (.int 10) (.int 18) = some (.dat (.int 1000000000000000000)) := by
  rw [dPow_i (by decide) (by decide) (by decide)]
  rfl
theorem dGtI_i : dGtI (.int i) (.int j) = some (.dat (.bool (decide (j < i)))) := rfl
theorem dLtI_i : dLtI (.int i) (.int j) = some (.dat (.bool (decide (i < j)))) := rfl
theorem dGeI_i : dGeI (.int i) (.int j) = some (.dat (.bool (decide (j ≤ i)))) := rfl
theorem dLeI_i : dLeI (.int i) (.int j) = some (.dat (.bool (decide (i ≤ j)))) := rfl
theorem dInt_i : dInt [.int i] = some (.dat (.int i)) := rfl
theorem dAbs_i : dAbs [.int i] = some (.dat (.int (if i < 0 then -i else i))) := rfl
theorem dLen_l : dLen [.list xs] = some (.dat (.int xs.length)) := rfl
theorem dLen_t : dLen [.tuple xs] = some (.dat (.int xs.length)) := rfl
theorem dTuple_l : dTuple [.list xs] = some (.dat (.tuple xs)) := rfl
theorem dList_l : dList [.list xs] = some (.own (.list xs)) := rfl
theorem dList_t : dList [.tuple xs] = some (.own (.list xs)) := rfl
theorem dAdd_l (h : xs.length + ys.length ≤ 16777216) : dAdd (.list xs) (.list ys) = some (.own (.list (xs ++ ys))) := if_pos h
theorem dAdd_t (h : xs.length + ys.length ≤ 16777216) : dAdd (.tuple xs) (.tuple ys) = some (.dat (.tuple (xs ++ ys))) := if_pos h
theorem tupOf_i {ρ : Ev} {Q : PyData → Ev → Prop} (h : xs.length ≤ 16777216) : Wp Q (tupOf xs ρ) = Q (.tuple xs) ρ := by
  unfold tupOf
  rw [if_pos (by exact h)]
  with_unfolding_all rfl
theorem lstOf_i {ρ : Ev} {Q : Sl → Ev → Prop} (h : xs.length ≤ 16777216) : Wp Q (lstOf xs ρ) = Q (.own (.list xs)) ρ := by
  unfold lstOf
  rw [if_pos (by exact h)]
  with_unfolding_all rfl
theorem seqOf_l {ρ : Ev} {Q : List PyData → Ev → Prop} : Wp Q (seqOf (.list xs) ρ) = Q xs ρ := by with_unfolding_all rfl
theorem seqOf_t {ρ : Ev} {Q : List PyData → Ev → Prop} : Wp Q (seqOf (.tuple xs) ρ) = Q xs ρ := by with_unfolding_all rfl
def upto (i : Int) : List PyData := (List.range i.toNat).map fun (k : Nat) => .int k
theorem range1_i {ρ : Ev} {Q : List PyData → Ev → Prop} (h : -4611686018427387904 ≤ i) (h2 : i < 4611686018427387904) : Wp Q (range1 (.int i) ρ) = Q (upto i) ρ := by
  show Wp Q (if _ then _ else _) = _
  rw [if_pos ⟨by decide, by decide, by simpa using h, by simpa using h2⟩]
  rw [Wp_ok]
  congr 1
  unfold upto
  rw [Int.sub_zero]
  congr
  funext k
  rw [Int.zero_add]
abbrev TgK {α : Type} (Q : α → Ev → Prop) (ρ : Ev) : Type := Option Sl
def WpPut (k : Nat) (i d : PyData) (ρ : Ev) (Q : Flw → Ev → Prop) (o : TgK Q ρ) : Prop := match (o : Option Sl), i with
  | some (.own (.list ds)), .int j => (match L2.ixN ds.length j with
    | some n => Wq (fun ρ => Q .nx ρ) (ρ.set k (.own (.list (ds.set n d))))
    | none => False)
  | _, _ => False
theorem Wp_put {k : Nat} {i d : PyData} {ρ : Ev} {Q : Flw → Ev → Prop} : Wp Q (putIx k i d ρ) = WpPut k i d ρ Q ρ[k]? := by
  unfold putIx WpPut
  cases ρ[k]? with
  | none => with_unfolding_all rfl
  | some s =>
    cases s with
    | own ds =>
      cases ds with
      | list ds =>
        cases i with
        | int j =>
          show Wp Q (match L2.ixN ds.length j with | some n => _ | none => _) = (match L2.ixN ds.length j with | some n => _ | none => _)
          cases L2.ixN ds.length j <;> with_unfolding_all rfl
        | _ => with_unfolding_all rfl
      | _ => with_unfolding_all rfl
    | _ => with_unfolding_all rfl
theorem WpPut_i {k : Nat} {d : PyData} {ρ : Ev} {Q : Flw → Ev → Prop} (h : 0 ≤ j) (h2 : j.toNat < xs.length) : WpPut k (.int j) d ρ Q (some (.own (.list xs))) = Wq (fun ρ => Q .nx ρ) (ρ.set k (.own (.list (xs.set j.toNat d)))) := by
  show (match L2.ixN xs.length j with | some n => _ | none => _) = _
  unfold L2.ixN
  rw [if_pos h, if_pos (by omega)]
def WpPush (m : Nat) (y : PyData) (ρ : Ev) (Q : Ev → Ev → Prop) (o : TgK Q ρ) : Prop := match (o : Option Sl) with
  | some (.own (.list acc)) => if acc.length < line then Wq (fun ρ2 => Q ρ2 ρ) (ρ.set m (.own (.list (acc ++ [y])))) else False
  | _ => False
theorem Wp_push {m : Nat} {y : PyData} {ρ : Ev} {Q : Ev → Ev → Prop} : Wp Q (lift (pushAt m y ρ) ρ) = WpPush m y ρ Q ρ[m]? := by
  unfold pushAt WpPush
  cases ρ[m]? with
  | none => with_unfolding_all rfl
  | some s =>
    cases s with
    | own ds =>
      cases ds with
      | list ds =>
        show Wp Q (lift (if _ then _ else _) ρ) = if _ then _ else _
        split <;> with_unfolding_all rfl
      | _ => with_unfolding_all rfl
    | _ => with_unfolding_all rfl
theorem WpPush_i {m : Nat} {y : PyData} {ρ : Ev} {Q : Ev → Ev → Prop} (h : xs.length < 16777216) : WpPush m y ρ Q (some (.own (.list xs))) = Wq (fun ρ2 => Q ρ2 ρ) (ρ.set m (.own (.list (xs ++ [y])))) := if_pos h
def WpEnd (m : Nat) (vs : List Nat) (ρ1 ρ2 : Ev) (Q : Sl → Ev → Prop) (o : TgK Q ρ2) : Prop := match (o : Option Sl) with
  | some (.own (.list acc)) => Wq (fun ρ => Q (.own (.list acc)) ρ) (restoreE ρ1 vs (ρ2.take m))
  | _ => False
theorem Wp_end {m : Nat} {vs : List Nat} {ρ1 ρ2 : Ev} {Q : Sl → Ev → Prop} : Wp Q (compEnd m vs ρ1 ρ2) = WpEnd m vs ρ1 ρ2 Q ρ2[m]? := by
  unfold compEnd WpEnd
  cases ρ2[m]? with
  | none => with_unfolding_all rfl
  | some s =>
    cases s with
    | own ds => cases ds <;> with_unfolding_all rfl
    | _ => with_unfolding_all rfl
theorem WpEnd_i {m : Nat} {vs : List Nat} {ρ1 ρ2 : Ev} {Q : Sl → Ev → Prop} : WpEnd m vs ρ1 ρ2 Q (some (.own (.list xs))) = Wq (fun ρ => Q (.own (.list xs)) ρ) (restoreE ρ1 vs (ρ2.take m)) := by with_unfolding_all rfl
def WpApp (k : Nat) (d : PyData) (ρ : Ev) (Q : PyData → Ev → Prop) (o : TgK Q ρ) : Prop := match (o : Option Sl) with
  | some (.own (.list ds)) => if ds.length < line then Wq (fun ρ => Q .none ρ) (ρ.set k (.own (.list (ds ++ [d])))) else False
  | _ => False
theorem Wp_app {k : Nat} {d : PyData} {ρ : Ev} {Q : PyData → Ev → Prop} : Wp Q (app k d ρ) = WpApp k d ρ Q ρ[k]? := by
  unfold app WpApp
  cases ρ[k]? with
  | none => with_unfolding_all rfl
  | some s =>
    cases s with
    | own ds =>
      cases ds with
      | list ds =>
        show Wp Q (if _ then _ else _) = if _ then _ else _
        split <;> with_unfolding_all rfl
      | _ => with_unfolding_all rfl
    | _ => with_unfolding_all rfl
theorem WpApp_i {k : Nat} {d : PyData} {ρ : Ev} {Q : PyData → Ev → Prop} (h : xs.length < 16777216) : WpApp k d ρ Q (some (.own (.list xs))) = Wq (fun ρ => Q .none ρ) (ρ.set k (.own (.list (xs ++ [d])))) := if_pos h
theorem dEq_i : dEq (.int i) (.int j) = some (.dat (.bool (decide (i = j)))) := by
  show (if (SeqAt.shaped (.int i) && SeqAt.shaped (.int j)) = true then some (Sl.dat (.bool (PyData.eqv (.int i) (.int j)))) else none) = _
  rw [if_pos (by rfl)]
  rfl
theorem dNe_i : dNe (.int i) (.int j) = some (.dat (.bool (!decide (i = j)))) := by
  show (if (SeqAt.shaped (.int i) && SeqAt.shaped (.int j)) = true then some (Sl.dat (.bool (!PyData.eqv (.int i) (.int j)))) else none) = _
  rw [if_pos (by rfl)]
  rfl
theorem dEq_s {a b : PyData} (h : SeqAt.shaped a = true) (h2 : SeqAt.shaped b = true) : dEq a b = some (.dat (.bool (PyData.eqv a b))) := by
  unfold dEq
  rw [h, h2]
  rfl
theorem dNe_s {a b : PyData} (h : SeqAt.shaped a = true) (h2 : SeqAt.shaped b = true) : dNe a b = some (.dat (.bool (!PyData.eqv a b))) := by
  unfold dNe
  rw [h, h2]
  rfl
theorem dIs_n {a : PyData} : dIs a .none = some (.dat (.bool (isN a))) := by cases a <;> rfl
theorem dIs_b {a b : Bool} : dIs (.bool a) (.bool b) = some (.dat (.bool (decide (a = b)))) := rfl
theorem dSlice_l {lo hi : Option Int} : dSlice (.list xs) lo hi = some (.own (.list (cut xs lo hi))) := rfl
theorem dSlice_t {lo hi : Option Int} : dSlice (.tuple xs) lo hi = some (.dat (.tuple (cut xs lo hi))) := rfl
theorem asI_i {ρ : Ev} {Q : Option Int → Ev → Prop} : Wp Q (asI (.int i) ρ) = Q (some i) ρ := by with_unfolding_all rfl
theorem zipOf_t {ρ : Ev} {Q : List PyData → Ev → Prop} : Wp Q (zipOf (.tuple xs) (.tuple ys) ρ) = Q (zipD xs ys) ρ := by with_unfolding_all rfl
theorem enumOf_l {ρ : Ev} {Q : List PyData → Ev → Prop} : Wp Q (enumOfA (.list xs) ρ) = Q (enumD xs) ρ := by with_unfolding_all rfl
theorem enumOf_t {ρ : Ev} {Q : List PyData → Ev → Prop} : Wp Q (enumOfA (.tuple xs) ρ) = Q (enumD xs) ρ := by with_unfolding_all rfl
theorem zipOf_l {ρ : Ev} {Q : List PyData → Ev → Prop} : Wp Q (zipOf (.list xs) (.list ys) ρ) = Q (zipD xs ys) ρ := by with_unfolding_all rfl
theorem zipD_c {x y : PyData} : zipD (x :: xs) (y :: ys) = .tuple [x, y] :: zipD xs ys := rfl
theorem zipD_n : zipD [] ys = [] := rfl
theorem dIsNot_n {a : PyData} : dIsNot a .none = some (.dat (.bool (!isN a))) := by cases a <;> rfl
theorem gTup_t {n : Nat} {gs : List PyData → Ev → Option Ev} {ρ : Ev} (h : xs.length = n) : gTupD n gs (.tuple xs) ρ = gs xs ρ := if_pos h
theorem gs_c {g : PyData → Ev → Option Ev} {gs : List PyData → Ev → Option Ev} {d : PyData} {ρ : Ev} : gsCons g gs (d :: xs) ρ = (g d ρ).bind (gs xs) := rfl
theorem gs_n {ρ : Ev} : gsNil [] ρ = some ρ := rfl
theorem range2_i {ρ : Ev} {Q : List PyData → Ev → Prop} (h : -4611686018427387904 ≤ i) (h2 : i < 4611686018427387904) (h3 : -4611686018427387904 ≤ j) (h4 : j < 4611686018427387904) : Wp Q (range2 (.int i) (.int j) ρ) = Q ((List.range (j - i).toNat).map fun (k : Nat) => .int (i + k)) ρ := by
  show Wp Q (if _ then _ else _) = _
  rw [if_pos ⟨by simpa using h, by simpa using h2, by simpa using h3, by simpa using h4⟩, Wp_ok]
theorem dRev_l : dRev (.list xs) = some (.own (.list xs.reverse)) := rfl
theorem dRev_t : dRev (.tuple xs) = some (.dat (.tuple xs.reverse)) := rfl
theorem bools_mapB : ∀ {bs : List Bool}, bools (bs.map .bool) = some bs
  | [] => rfl
  | b :: bs => by
    rw [List.map_cons]
    unfold bools
    rw [bools_mapB]
    rfl
theorem dAll_b {bs : List Bool} : dAll [.list (bs.map .bool)] = some (.dat (.bool (bs.all id))) := by
  show Option.map _ (bools _) = _
  rw [bools_mapB]
  rfl
theorem dAny_b {bs : List Bool} : dAny [.list (bs.map .bool)] = some (.dat (.bool (bs.any id))) := by
  show Option.map _ (bools _) = _
  rw [bools_mapB]
  rfl
theorem intsOf_mapI : ∀ {bs : List Int}, intsOf (bs.map .int) = some bs
  | [] => rfl
  | b :: bs => by
    rw [List.map_cons]
    unfold intsOf
    rw [intsOf_mapI]
    rfl
theorem dSum_i {bs : List Int} : dSum [.list (bs.map .int)] = some (.dat (.int bs.sum)) := by
  show Option.map _ (intsOf _) = _
  rw [intsOf_mapI]
  rfl
end
theorem Wm_exact {m : List Sl → Out Sl} {as as' : List Sl} {r : Sl} {Q : Sl → Ev → Prop} (h : Wm m (fun r1 a1 => r1 = r ∧ a1 = as') as) : Wm m Q as = Q r as' := by
  obtain ⟨r1, a1, e, q1, q2⟩ := Wp_out h
  refine Wm_eq ?_
  rw [e, q1, q2]
theorem bools_true {α : Type} : ∀ (l : List α), bools (l.map fun _ => PyData.bool true) = some (l.map fun _ => true)
  | [] => rfl
  | x :: l => by
    show (bools (l.map fun _ => PyData.bool true)).map (true :: ·) = _
    rw [bools_true]
    rfl
theorem allT {α : Type} : ∀ (l : List α), (l.map fun _ => true).all id = true
  | [] => rfl
  | _ :: l => by
    show (true && _) = _
    rw [allT l]
    rfl
theorem upto_len {n : Nat} : (upto n).length = n := by
  unfold upto
  rw [List.length_map, List.length_range, Int.toNat_natCast]
theorem upto_at {n i k : Nat} (h : (upto n)[i]? = some (.int (k : Nat))) : k = i := by
  unfold upto at h
  rw [Int.toNat_natCast, List.getElem?_map] at h
  obtain ⟨x, hx, e⟩ := Option.map_eq_some_iff.mp h
  obtain ⟨h1, h2⟩ := List.getElem?_eq_some_iff.mp hx
  rw [List.getElem_range] at h2
  subst h2
  cases e
  rfl
theorem upto_mem {n : Nat} {d : PyData} (h : d ∈ upto n) : ∃ k : Nat, k < n ∧ d = .int k := by
  unfold upto at h
  obtain ⟨k, h1, rfl⟩ := List.mem_map.mp h
  rw [List.mem_range, Int.toNat_natCast] at h1
  exact ⟨k, h1, rfl⟩
/-- a loop's body that goes on -/
def forJ (ks : List Nat) (I : Ev → Prop) (fl : Flw) (ρ : Ev) : Prop := match fl with
  | .nx => Wq I (wipeE ρ ks)
  | .cnt => Wq I (wipeE ρ ks)
  | _ => False
theorem forJ_nx {ks : List Nat} {I : Ev → Prop} {ρ : Ev} : forJ ks I .nx ρ = Wq I (wipeE ρ ks) := rfl
theorem forJ_cnt {ks : List Nat} {I : Ev → Prop} {ρ : Ev} : forJ ks I .cnt ρ = Wq I (wipeE ρ ks) := rfl
theorem Wp_forU {ρ : Ev} {Q : Flw → Ev → Prop} {f : Ev → Out Flw} {ks : List Nat} {g : PyData → Ev → Option Ev} {ds : List PyData} (I : Nat → Ev → Prop) (h0 : I 0 ρ) (hs : ∀ i d ρ, ds[i]? = some d → I i ρ → Wp (fun ρ1 _ => Wp (forJ ks (I (i + 1))) (f ρ1)) (lift (g d ρ) ρ)) (h1 : ∀ ρ, I ds.length ρ → Q .nx ρ) : Wp Q (forD ks g f ds ρ) :=
  Wp_forI I h0 (fun i d ρ hd hI => Wp_mono (hs i d ρ hd hI) fun ρ1 _ h => Wp_mono h fun fl ρ2 h => by
    cases fl with
    | nx => exact h
    | cnt => exact h
    | brk => exact h.elim
    | ret s => exact h.elim) h1
/-- a loop that leaves the slots as they were -/
theorem Wp_forS {L : Ev} {Q : Flw → Ev → Prop} {f : Ev → Out Flw} {ks : List Nat} {g : PyData → Ev → Option Ev} {ds : List PyData} (hs : ∀ d ∈ ds, Wp (fun ρ1 _ => Wp (forJ ks (fun ρ => ρ = L)) (f ρ1)) (lift (g d L) L)) (h1 : Q .nx L) : Wp Q (forD ks g f ds L) :=
  Wp_forU (fun _ ρ => ρ = L) rfl (fun i d ρ hd hI => by subst hI; exact hs d (List.mem_of_getElem? hd)) (fun ρ hI => by rw [hI]; exact h1)
theorem dNe_bb {x y : Bool} : dNe (.bool x) (.bool y) = some (.dat (.bool (!(x == y)))) := by
  rw [dNe_s rfl rfl, PyData.eqv]
theorem dEq_bb {x y : Bool} : dEq (.bool x) (.bool y) = some (.dat (.bool (x == y))) := by
  rw [dEq_s rfl rfl, PyData.eqv]
/-- a comprehension whose test and item are plain: those that pass, each turned -/
theorem go_map {ks : List Nat} {g : PyData → Ev → Option Ev} {ft : Ev → Out Bool} {fe : Ev → Out PyData} {Q : Unit → Ev → Prop} (ρ0 : Ev) (p : PyData → Bool) (f : PyData → PyData) : ∀ {ds acc : List PyData}, acc.length + ds.length ≤ 16777216 →
    (∀ d ∈ ds, ∀ acc, Wp (fun ρ1 _ => Wp (fun b ρ2 => b = p d ∧ (b = false → wipeE ρ2 ks = ρ0 ++ [.own (.list acc)]) ∧ (b = true → Wp (fun y ρ3 => y = f d ∧ ∃ ρ', ρ3 = ρ' ++ [.own (.list acc)] ∧ ρ'.length = ρ0.length ∧ ∀ x, wipeE (ρ' ++ [x]) ks = ρ0 ++ [x]) (fe ρ2))) (ft ρ1)) (lift (g d (ρ0 ++ [.own (.list acc)])) (ρ0 ++ [.own (.list acc)]))) →
    Q () (ρ0 ++ [.own (.list (acc ++ (ds.filter p).map f))]) → Wp Q (compGo ρ0.length ks g ft fe ds (ρ0 ++ [.own (.list acc)]))
  | [], acc, hl, hs, q => by
    rw [Wp_goN]
    simpa using q
  | d :: ds, acc, hl, hs, q => by
    rw [Wp_goC]
    rw [List.length_cons] at hl
    refine Wp_mono (hs d List.mem_cons_self acc) fun ρ1 ρ1' h => Wp_mono h fun b ρ2 h => ?_
    obtain ⟨rfl, h1, h2⟩ := h
    refine Wi_intro (fun z => ?_) fun z => ?_
    · refine Wp_mono (h2 z) fun y ρ3 h => ?_
      obtain ⟨rfl, ρ', rfl, e, hw⟩ := h
      rw [pushAt_at (acc := acc) (by rw [← e]; simp) (by show acc.length < 16777216; omega)]
      rw [Wp_lift]
      have : (ρ' ++ [Sl.own (.list acc)]).set ρ0.length (.own (.list (acc ++ [f d]))) = ρ' ++ [.own (.list (acc ++ [f d]))] := by
        rw [← e, List.set_append_right _ _ (Nat.le_refl _)]
        simp
      rw [this, hw, Wq_run]
      refine go_map ρ0 p f (by rw [List.length_append, List.length_singleton]; omega) (fun d' hd' => hs d' (List.mem_cons_of_mem _ hd')) ?_
      rw [List.filter_cons_of_pos z] at q
      simpa using q
    · have z' : p d = false := by simpa using z
      rw [h1 z', Wq_run]
      refine go_map ρ0 p f (by omega) (fun d' hd' => hs d' (List.mem_cons_of_mem _ hd')) ?_
      rw [List.filter_cons_of_neg (by simp [z'])] at q
      exact q
theorem compEnd_of {ks : List Nat} {ρ0 ρ1 : Ev} {acc : List PyData} {Q : Sl → Ev → Prop} (h : Wq (fun ρ => Q (.own (.list acc)) ρ) (restoreE ρ1 ks ρ0)) : Wp Q (compEnd ρ0.length ks ρ1 (ρ0 ++ [.own (.list acc)])) := by
  rw [compEnd_at (acc := acc) (by simp)]
  rw [List.take_append_of_le_length (Nat.le_refl _), List.take_length]
  exact h
theorem wipe_app {x : Sl} : ∀ {ks : List Nat} {ρ : Ev}, ks.all (fun i => Nat.blt i ρ.length) = true → wipeE (ρ ++ [x]) ks = wipeE ρ ks ++ [x] ∧ (wipeE ρ ks).length = ρ.length
  | [], ρ, _ => ⟨rfl, rfl⟩
  | k :: ks, ρ, h => by
    rw [List.all_cons, Bool.and_eq_true] at h
    have hk : k < ρ.length := Nat.le_of_ble_eq_true h.1
    have e : (ρ ++ [x]).set k .emp = ρ.set k .emp ++ [x] := List.set_append_left _ _ hk
    unfold wipeE
    rw [e]
    obtain ⟨h1, h2⟩ := wipe_app (x := x) (ks := ks) (ρ := ρ.set k .emp) (by rw [List.length_set]; exact h.2)
    exact ⟨h1, by rw [h2, List.length_set]⟩
/-- the same, the slots read off the goal -/
theorem go_auto {ks : List Nat} {g : PyData → Ev → Option Ev} {ft : Ev → Out Bool} {fe : Ev → Out PyData} {Q : Unit → Ev → Prop} {L : Ev} {m : Nat} {ds : List PyData} (p : PyData → Bool) (f : PyData → PyData) (hm : m = L.dropLast.length) (hL : L = L.dropLast ++ [.own (.list [])]) (hk : ks.all (fun i => Nat.blt i L.dropLast.length) = true) (hl : ds.length ≤ 16777216)
    (hs : ∀ d ∈ ds, ∀ acc, Wp (fun ρ1 _ => Wp (fun b ρ2 => b = p d ∧ (b = false → wipeE ρ2 ks = L.dropLast ++ [.own (.list acc)]) ∧ (b = true → Wp (fun y ρ3 => y = f d ∧ wipeE ρ3.dropLast ks = L.dropLast ∧ ρ3 = ρ3.dropLast ++ [.own (.list acc)]) (fe ρ2))) (ft ρ1)) (lift (g d (L.dropLast ++ [.own (.list acc)])) (L.dropLast ++ [.own (.list acc)])))
    (q : Q () (L.dropLast ++ [.own (.list ((ds.filter p).map f))])) : Wp Q (compGo m ks g ft fe ds L) := by
  rw [hm, hL]
  have e : (L.dropLast ++ [Sl.own (.list [])]).dropLast = L.dropLast := List.dropLast_concat
  rw [e]
  refine go_map L.dropLast p f (by simpa using hl) (fun d hd acc => ?_) (by simpa using q)
  refine Wp_mono (hs d hd acc) fun ρ1 ρ1' h => Wp_mono h fun b ρ2 h => ⟨h.1, h.2.1, fun hb => Wp_mono (h.2.2 hb) fun y ρ3 h => ?_⟩
  obtain ⟨h1, h2, h3⟩ := h
  have hlen : ρ3.dropLast.length = L.dropLast.length := by
    rw [← h2]
    have : ∀ (ks : List Nat) (ρ : Ev), (wipeE ρ ks).length = ρ.length := by
      intro ks
      induction ks with
      | nil => intro ρ; rfl
      | cons k ks ih =>
        intro ρ
        unfold wipeE
        rw [ih, List.length_set]
    rw [this]
  refine ⟨h1, ρ3.dropLast, h3, hlen, fun x => ?_⟩
  rw [(wipe_app (x := x) (by rw [hlen]; exact hk)).1, h2]
/-- the same behind items that stand already -/
theorem go_more {ks : List Nat} {g : PyData → Ev → Option Ev} {ft : Ev → Out Bool} {fe : Ev → Out PyData} {Q : Unit → Ev → Prop} {L : Ev} {m : Nat} {ds acc0 : List PyData} (p : PyData → Bool) (f : PyData → PyData) (hm : m = L.dropLast.length) (hL : L = L.dropLast ++ [.own (.list acc0)]) (hk : ks.all (fun i => Nat.blt i L.dropLast.length) = true) (hl : acc0.length + ds.length ≤ 16777216)
    (hs : ∀ d ∈ ds, ∀ acc, Wp (fun ρ1 _ => Wp (fun b ρ2 => b = p d ∧ (b = false → wipeE ρ2 ks = L.dropLast ++ [.own (.list acc)]) ∧ (b = true → Wp (fun y ρ3 => y = f d ∧ wipeE ρ3.dropLast ks = L.dropLast ∧ ρ3 = ρ3.dropLast ++ [.own (.list acc)]) (fe ρ2))) (ft ρ1)) (lift (g d (L.dropLast ++ [.own (.list acc)])) (L.dropLast ++ [.own (.list acc)])))
    (q : Q () (L.dropLast ++ [.own (.list (acc0 ++ (ds.filter p).map f))])) : Wp Q (compGo m ks g ft fe ds L) := by
  rw [hm, hL]
  have e : (L.dropLast ++ [Sl.own (.list acc0)]).dropLast = L.dropLast := List.dropLast_concat
  rw [e]
  refine go_map L.dropLast p f hl (fun d hd acc => ?_) q
  refine Wp_mono (hs d hd acc) fun ρ1 ρ1' h => Wp_mono h fun b ρ2 h => ⟨h.1, h.2.1, fun hb => Wp_mono (h.2.2 hb) fun y ρ3 h => ?_⟩
  obtain ⟨h1, h2, h3⟩ := h
  have hlen : ρ3.dropLast.length = L.dropLast.length := by
    rw [← h2]
    have : ∀ (ks : List Nat) (ρ : Ev), (wipeE ρ ks).length = ρ.length := by
      intro ks
      induction ks with
      | nil => intro ρ; rfl
      | cons k ks ih =>
        intro ρ
        unfold wipeE
        rw [ih, List.length_set]
    rw [this]
  refine ⟨h1, ρ3.dropLast, h3, hlen, fun x => ?_⟩
  rw [(wipe_app (x := x) (by rw [hlen]; exact hk)).1, h2]
/-- a comprehension by an invariant -/
theorem go_inv {ks : List Nat} {g : PyData → Ev → Option Ev} {ft : Ev → Out Bool} {fe : Ev → Out PyData} {Q : Unit → Ev → Prop} {m : Nat} {ds : List PyData} {L : Ev} (I : Nat → Ev → Prop) (h0 : I 0 L)
    (hs : ∀ i d ρ, ds[i]? = some d → I i ρ → Wp (fun ρ1 _ => Wp (fun b ρ2 => Wi (Wp (fun y ρ3 => Wp (fun ρ4 _ => Wq (I (i + 1)) (wipeE ρ4 ks)) (lift (pushAt m y ρ3) ρ3)) (fe ρ2)) (Wq (I (i + 1)) (wipeE ρ2 ks)) (b = true)) (ft ρ1)) (lift (g d ρ) ρ))
    (h1 : ∀ ρ, I ds.length ρ → Q () ρ) : Wp Q (compGo m ks g ft fe ds L) := by
  suffices z : ∀ (n i : Nat) (ρ : Ev), ds.length - i = n → I i ρ → i ≤ ds.length → Wp Q (compGo m ks g ft fe (ds.drop i) ρ) by
    have := z ds.length 0 L rfl h0 (Nat.zero_le _)
    rwa [List.drop_zero] at this
  intro n
  induction n with
  | zero =>
    intro i ρ e hI hle
    have : i = ds.length := by omega
    subst this
    rw [List.drop_length, Wp_goN]
    exact h1 _ hI
  | succ n ih =>
    intro i ρ e hI hle
    have hi : i < ds.length := by omega
    rw [List.drop_eq_getElem_cons hi, Wp_goC]
    refine Wp_mono (hs i ds[i] ρ (List.getElem?_eq_getElem hi) hI) fun ρ1 ρ1' h => Wp_mono h fun b ρ2 h => ?_
    refine Wi_intro (fun z => ?_) fun z => ?_
    · refine Wp_mono (h.1 z) fun y ρ3 h => Wp_mono h fun ρ4 ρ4' h => ?_
      exact ih (i + 1) _ (by omega) h (by omega)
    · exact ih (i + 1) _ (by omega) (h.2 z) (by omega)
/-- two clauses, the first by an invariant -/
theorem go2_inv {ks ks1 : List Nat} {g g1 : PyData → Ev → Option Ev} {ft ft1 : Ev → Out Bool} {fi1 : Ev → Out (List PyData)} {fe : Ev → Out PyData} {Q : Unit → Ev → Prop} {m : Nat} {ds : List PyData} {L : Ev} (I : Nat → Ev → Prop) (h0 : I 0 L)
    (hs : ∀ i d ρ, ds[i]? = some d → I i ρ → Wp (fun ρ1 _ => Wp (fun b ρ2 => Wi (Wp (fun ds1 ρ3 => Wq (fun ρ3 => Wp (fun _ ρ4 => Wq (I (i + 1)) (wipeE ρ4 ks)) (compGo m ks1 g1 ft1 fe ds1 ρ3)) (wipeE ρ3 ks1)) (fi1 ρ2)) (Wq (I (i + 1)) (wipeE ρ2 ks)) (b = true)) (ft ρ1)) (lift (g d ρ) ρ))
    (h1 : ∀ ρ, I ds.length ρ → Q () ρ) : Wp Q (compGo2 m ks ks1 g ft fi1 g1 ft1 fe ds L) := by
  suffices z : ∀ (n i : Nat) (ρ : Ev), ds.length - i = n → I i ρ → i ≤ ds.length → Wp Q (compGo2 m ks ks1 g ft fi1 g1 ft1 fe (ds.drop i) ρ) by
    have := z ds.length 0 L rfl h0 (Nat.zero_le _)
    rwa [List.drop_zero] at this
  intro n
  induction n with
  | zero =>
    intro i ρ e hI hle
    have : i = ds.length := by omega
    subst this
    rw [List.drop_length, Wp_go2N]
    exact h1 _ hI
  | succ n ih =>
    intro i ρ e hI hle
    have hi : i < ds.length := by omega
    rw [List.drop_eq_getElem_cons hi, Wp_go2C]
    refine Wp_mono (hs i ds[i] ρ (List.getElem?_eq_getElem hi) hI) fun ρ1 ρ1' h => Wp_mono h fun b ρ2 h => ?_
    refine Wi_intro (fun z => ?_) fun z => ?_
    · refine Wp_mono (h.1 z) fun ds1 ρ3 h => ?_
      refine Wp_mono (o := compGo m ks1 g1 ft1 fe ds1 (wipeE ρ3 ks1)) h fun _ ρ4 h => ?_
      exact ih (i + 1) _ (by omega) h (by omega)
    · exact ih (i + 1) _ (by omega) (h.2 z) (by omega)
/-! ### dicts -/
theorem lookD_cons {κ : Type} [DecidableEq κ] {key : PyData → Option κ} {a : PyData × PyData} {l : List (PyData × PyData)} {k : κ} : lookD key (a :: l) k = if key a.1 = some k then some a.2 else lookD key l k := by
  unfold lookD
  by_cases h : key a.1 = some k
  · rw [List.find?_cons_of_pos (by simpa using h), if_pos h]; rfl
  · rw [List.find?_cons_of_neg (by simpa using h), if_neg h]
theorem lookD_nil {κ : Type} [DecidableEq κ] {key : PyData → Option κ} {k : κ} : lookD key [] k = none := rfl
theorem look_put {κ : Type} [DecidableEq κ] {key : PyData → Option κ} {k k' : κ} {d v : PyData} (hd : key d = some k) (kvs : List (PyData × PyData)) : lookD key (putD key kvs k d v) k' = if k' = k then some v else lookD key kvs k' := by
  have hmap : ∀ l : List (PyData × PyData), lookD key (l.map fun kv => if key kv.1 = some k then (kv.1, v) else kv) k' = (lookD key l k').map fun x => if k' = k then v else x := by
    intro l
    induction l with
    | nil => rfl
    | cons a l ih =>
      rw [List.map_cons, lookD_cons, lookD_cons, ih]
      by_cases h1 : key a.1 = some k
      · rw [if_pos h1]
        by_cases hk : k' = k
        · subst hk
          simp [h1]
        · have : ¬ key a.1 = some k' := by rw [h1]; exact fun z => hk (Option.some.inj z).symm
          simp [this]
      · rw [if_neg h1]
        by_cases h2 : key a.1 = some k'
        · have hk : ¬ k' = k := fun z => h1 (by rw [h2, z])
          simp [h2, hk]
        · simp [h2]
  have hany : ∀ l : List (PyData × PyData), (l.any fun kv => decide (key kv.1 = some k)) = (lookD key l k).isSome := by
    intro l
    induction l with
    | nil => rfl
    | cons a l ih =>
      rw [List.any_cons, lookD_cons, ih]
      by_cases h : key a.1 = some k <;> simp [h]
  have hsn : ∀ l : List (PyData × PyData), lookD key (l ++ [(d, v)]) k' = (lookD key l k').or (if k' = k then some v else none) := by
    intro l
    induction l with
    | nil =>
      rw [List.nil_append, lookD_cons, lookD_nil, hd]
      by_cases hk : k' = k
      · subst hk; simp
      · have : ¬ some k = some k' := fun z => hk (Option.some.inj z).symm
        simp [this, hk]
    | cons a l ih =>
      rw [List.cons_append, lookD_cons, lookD_cons, ih]
      by_cases h : key a.1 = some k' <;> simp [h]
  unfold putD
  split
  · next h =>
    rw [hmap]
    by_cases hk : k' = k
    · subst hk
      rw [hany] at h
      rw [if_pos rfl]
      obtain ⟨x, hx⟩ := Option.isSome_iff_exists.mp h
      rw [hx]
      simp
    · rw [if_neg hk]
      simp [hk]
  · next h =>
    have hn : lookD key kvs k = none := by
      rw [hany] at h
      simpa using h
    rw [hsn]
    by_cases hk : k' = k
    · subst hk
      rw [hn, if_pos rfl]
      rfl
    · rw [if_neg hk, if_neg hk]
      cases lookD key kvs k' <;> rfl
theorem len_put {κ : Type} [DecidableEq κ] {key : PyData → Option κ} {kvs : List (PyData × PyData)} {k : κ} {d v : PyData} : (putD key kvs k d v).length ≤ kvs.length + 1 := by
  unfold putD
  split
  · rw [List.length_map]; omega
  · rw [List.length_append]; exact Nat.le_refl _
theorem ownS_o {d : PyData} : ownS (some (.own d)) = some d := rfl
theorem putT {kvs : List (PyData × PyData)} {k : List Key} {d v : PyData} (h : keyT d = some k) (hl : kvs.length < 16777216) : dPutO (dT kvs) d v = some (dT (putD keyT kvs k d v)) := by
  show (if kvs.length < line then (keyT d).map fun k => PyData.dict ((.none, .none) :: putD keyT kvs k d v) else none) = _
  rw [if_pos (by exact hl), h]
  rfl
theorem getHereT {kvs : List (PyData × PyData)} {k : List Key} {d x : PyData} (h : keyT d = some k) (h2 : lookD keyT kvs k = some x) : getHere (dT kvs) d = some x := by
  unfold getHere
  rw [show dGetO (dT kvs) d = some (lookD keyT kvs k) from by show (keyT d).map (fun k => lookD keyT kvs k) = _; rw [h]; rfl, h2]
theorem getT {kvs : List (PyData × PyData)} {k : List Key} {d : PyData} (h : keyT d = some k) : dGetO (dT kvs) d = some (lookD keyT kvs k) := by
  show (keyT d).map (fun k => lookD keyT kvs k) = _
  rw [h]
  rfl
/-- a dict whose keys are plain -/
def plainD (kvs : List (PyData × PyData)) : Prop := isT kvs = none
theorem putK' {kvs : List (PyData × PyData)} {k : Key} {d v : PyData} (t : isT kvs = none) (h : keyK d = some k) (hl : kvs.length < 16777216) : dPutO (.dict kvs) d v = some (.dict (putD keyK kvs k d v)) := by
  unfold dPutO
  simp only [t]
  rw [if_pos (by exact hl), h]
  rfl
theorem getK' {kvs : List (PyData × PyData)} {k : Key} {d : PyData} (t : isT kvs = none) (h : keyK d = some k) : dGetO (.dict kvs) d = some (lookD keyK kvs k) := by
  unfold dGetO
  simp only [t]
  rw [h]
  rfl
/-! ### rows of ints -/
def tI (ns : List Int) : PyData := .tuple (ns.map .int)
theorem canAll_ints : ∀ {ns : List Int}, PyData.canLayAll0 (ns.map .int) = true
  | [] => rfl
  | n :: ns => by
    rw [List.map_cons, PyData.canLayAll0, canAll_ints]
    rfl
theorem depthAll_ints : ∀ {ns : List Int}, PyData.depthAll (ns.map .int) = 0
  | [] => rfl
  | n :: ns => by
    rw [List.map_cons, PyData.depthAll, depthAll_ints]
    rfl
theorem shaped_tI {ns : List Int} : SeqAt.shaped (tI ns) = true := by
  unfold SeqAt.shaped tI
  rw [PyData.canLay0, canAll_ints, PyData.depth, depthAll_ints]
  rfl
theorem eqvAll_ints : ∀ {ns ms : List Int}, PyData.eqvAll (ns.map .int) (ms.map .int) = decide (ns = ms)
  | [], [] => by simp [PyData.eqvAll]
  | [], _ :: _ => by simp [PyData.eqvAll]
  | _ :: _, [] => by simp [PyData.eqvAll]
  | n :: ns, m :: ms => by
    rw [List.map_cons, List.map_cons, PyData.eqvAll, eqvAll_ints, PyData.eqv]
    by_cases h : n = m <;> simp [h]
theorem eqv_tI {ns ms : List Int} : PyData.eqv (tI ns) (tI ms) = decide (ns = ms) := by
  unfold tI
  rw [PyData.eqv, eqvAll_ints]
theorem dEq_tI {ns ms : List Int} : dEq (tI ns) (tI ms) = some (.dat (.bool (decide (ns = ms)))) := by rw [dEq_s shaped_tI shaped_tI, eqv_tI]
theorem dNe_tI {ns ms : List Int} : dNe (tI ns) (tI ms) = some (.dat (.bool (!decide (ns = ms)))) := by rw [dNe_s shaped_tI shaped_tI, eqv_tI]
/-- a list of ints -/
def lI (ns : List Int) : PyData := .list (ns.map .int)
theorem shaped_lI {ns : List Int} : SeqAt.shaped (lI ns) = true := by
  unfold SeqAt.shaped lI
  rw [PyData.canLay0, canAll_ints, PyData.depth, depthAll_ints]
  rfl
theorem dEq_lI {ns ms : List Int} : dEq (lI ns) (lI ms) = some (.dat (.bool (decide (ns = ms)))) := by
  rw [dEq_s shaped_lI shaped_lI]
  unfold lI
  rw [PyData.eqv, eqvAll_ints]
theorem filt_upto {n : Nat} {p : PyData → Bool} : ((upto n).filter p).map id = (((List.range n).filter fun t => p (.int (t : Nat))).map fun t => ((t : Nat) : Int)).map .int := by
  unfold upto
  rw [List.map_id, Int.toNat_natCast, List.filter_map, List.map_map]
  rfl
theorem dIn_ints {neg : Bool} {i : Int} {ns : List Int} : dIn neg (.int i) (tI ns) = some (.dat (.bool (if neg then !ns.contains i else ns.contains i))) := by
  have e : ((ns.map PyData.int).any fun z => PyData.eqv z (.int i)) = ns.contains i := by
    rw [List.any_map, List.contains_eq_any_beq]
    congr 1
    funext x
    show PyData.eqv (.int x) (.int i) = _
    rw [PyData.eqv, Bool.eq_iff_iff, beq_iff_eq, beq_iff_eq, eq_comm]
  unfold dIn
  show (if (SeqAt.shaped (.int i) && SeqAt.shaped (tI ns)) = true then some (Sl.dat (.bool (if neg then !(ns.map PyData.int).any fun z => PyData.eqv z (.int i) else (ns.map PyData.int).any fun z => PyData.eqv z (.int i)))) else none) = _
  rw [shaped_tI, e]
  rfl
theorem dIn_lints {neg : Bool} {i : Int} {ns : List Int} : dIn neg (.int i) (lI ns) = some (.dat (.bool (if neg then !ns.contains i else ns.contains i))) := by
  have e : ((ns.map PyData.int).any fun z => PyData.eqv z (.int i)) = ns.contains i := by
    rw [List.any_map, List.contains_eq_any_beq]
    congr 1
    funext x
    show PyData.eqv (.int x) (.int i) = _
    rw [PyData.eqv, Bool.eq_iff_iff, beq_iff_eq, beq_iff_eq, eq_comm]
  unfold dIn
  show (if (SeqAt.shaped (.int i) && SeqAt.shaped (lI ns)) = true then some (Sl.dat (.bool (if neg then !(ns.map PyData.int).any fun z => PyData.eqv z (.int i) else (ns.map PyData.int).any fun z => PyData.eqv z (.int i)))) else none) = _
  rw [shaped_lI, e]
  rfl
theorem lt_tI {ns ms : List Int} : dataLt (tI ns) (tI ms) = decide (ns < ms) := by
  unfold tI
  rw [dataLt_tuple]
  exact dataLt_ints ns ms
theorem le_tI {ns ms : List Int} : dLe (tI ns) (tI ms) = decide (ns ≤ ms) := by
  unfold dLe
  rw [lt_tI]
  by_cases h : ms < ns
  · rw [decide_eq_true h, decide_eq_false (List.not_le.mpr h)]; rfl
  · rw [decide_eq_false h, decide_eq_true (List.not_lt.mp h)]; rfl
/-- the least of some rows -/
def leastI (a : List Int) (as : List (List Int)) : List Int := as.foldl (fun a y => if y < a then y else a) a
theorem minD_tI : ∀ {as : List (List Int)} {a : List Int}, minD (tI a) (as.map tI) = tI (leastI a as)
  | [], a => rfl
  | b :: as, a => by
    have z : minD (tI a) ((b :: as).map tI) = minD (if b < a then tI b else tI a) (as.map tI) := by
      show minD (if dataLt (tI b) (tI a) = true then tI b else tI a) (as.map tI) = _
      rw [lt_tI]
      by_cases h : b < a <;> simp [h]
    rw [z]
    have y : (if b < a then tI b else tI a) = tI (if b < a then b else a) := by split <;> rfl
    rw [y, minD_tI]
    rfl
theorem least_mem : ∀ {as : List (List Int)} {a : List Int}, leastI a as ∈ a :: as ∧ ∀ x ∈ a :: as, leastI a as ≤ x
  | [], a => ⟨List.mem_cons_self, fun x hx => by
    cases List.mem_singleton.mp hx
    exact List.le_refl _⟩
  | b :: as, a => by
    obtain ⟨h1, h2⟩ := @least_mem as (if b < a then b else a)
    refine ⟨?_, fun x hx => ?_⟩
    · show leastI (if b < a then b else a) as ∈ _
      rcases List.mem_cons.mp h1 with h | h
      · rw [h]
        split
        · exact List.mem_cons_of_mem _ List.mem_cons_self
        · exact List.mem_cons_self
      · exact List.mem_cons_of_mem _ (List.mem_cons_of_mem _ h)
    · show leastI (if b < a then b else a) as ≤ x
      have h0 := h2 _ List.mem_cons_self
      rcases List.mem_cons.mp hx with rfl | hx
      · refine List.le_trans h0 ?_
        split
        · next h => exact List.le_of_lt h
        · exact List.le_refl _
      · rcases List.mem_cons.mp hx with rfl | hx
        · refine List.le_trans h0 ?_
          split
          · exact List.le_refl _
          · next h => exact List.not_lt.mp h
        · exact h2 x (List.mem_cons_of_mem _ hx)
theorem sort_tI {a : List Int} {as : List (List Int)} : ∃ r, (tI a :: as.map tI).mergeSort dLe = tI (leastI a as) :: r := by
  have e : (tI a :: as.map tI).mergeSort dLe = ((a :: as).mergeSort (fun x y => decide (x ≤ y))).map tI := by
    rw [← List.map_cons]
    symm
    exact List.map_mergeSort fun x _ y _ => by rw [le_tI]
  rw [e]
  have hp := List.mergeSort_perm (a :: as) (fun x y => decide (x ≤ y))
  have hs := List.pairwise_mergeSort (le := fun (x y : List Int) => decide (x ≤ y)) (fun a b c h1 h2 => by simp only [decide_eq_true_eq] at *; exact List.le_trans h1 h2) (fun a b => by simp only [Bool.or_eq_true, decide_eq_true_eq]; exact List.le_total a b) (a :: as)
  cases z : (a :: as).mergeSort (fun x y => decide (x ≤ y)) with
  | nil =>
    rw [z] at hp
    have := hp.length_eq
    simp at this
  | cons m r =>
    rw [z] at hp hs
    refine ⟨r.map tI, ?_⟩
    rw [List.map_cons]
    congr
    obtain ⟨h1, h2⟩ := @least_mem as a
    refine List.le_antisymm ?_ (h2 m (hp.subset List.mem_cons_self))
    rcases List.mem_cons.mp (hp.symm.subset h1) with h | h
    · rw [← h]; exact List.le_refl _
    · have := (List.pairwise_cons.mp hs).1 _ h
      simpa using this
end DL
namespace M
open PySem DL
def fb_is_whole : Ev → Out Flw :=
  (rRet (rE (rAndV (rIsi isInt (rVar 0)) (rNotV (rIsi isBool (rVar 0))))))
def m_is_whole : List Sl → Out Sl := rLen 1 (mOf 1 fb_is_whole)
def fb_fits_whole : Ev → Out Flw :=
  (rRet (rE (rAndV (rX (rCall M.m_is_whole [none] (cVal (rVar 0) cNil))) (rChain dLeI dLeI (rVar 1) (rVar 0) (rVar 2)))))
def m_fits_whole : List Sl → Out Sl := rLen 3 (mOf 3 fb_fits_whole)
def fb_is_tuple_of : Ev → Out Flw :=
  (rRet (rE (rAndV (rIsi isTuple (rVar 0)) (rChain dLeI dLeI (rVar 1) (rX (rCall1 dLen (rView 0))) (rVar 2)))))
def m_is_tuple_of : List Sl → Out Sl := rLen 3 (mOf 3 fb_is_tuple_of)
def fb_fits_edge : Ev → Out Flw :=
  (rRet (rCall M.m_fits_whole [none, none, none] (cVal (rVar 0) (cVal (rThen (rC (.int 9)) dNeg) (cVal (rC (.int 9)) cNil)))))
def m_fits_edge : List Sl → Out Sl := rLen 1 (mOf 1 fb_fits_edge)
def fb_fits_piece : Ev → Out Flw :=
  (rRet (rE (rAndV (rX (rCall M.m_is_tuple_of [none, none, none] (cVal (rVar 0) (cVal (rC (.int 4)) (cVal (rC (.int 4)) cNil))))) (rX (rCall1 dAll (rX (rComp [1] (gN 1) rYes (rX (rCall M.m_fits_edge [none] (cVal (rVar 1) cNil))) (rThen (rVar 0) seqOf))))))))
def m_fits_piece : List Sl → Out Sl := rLen 1 (mOf 2 fb_fits_piece)
def fb_fits_set : Ev → Out Flw :=
  (rRet (rE (rAndV (rX (rCall M.m_is_tuple_of [none, none, none] (cVal (rVar 0) (cVal (rC (.int 1)) (cVal (rC (.int 36)) cNil))))) (rX (rCall1 dAll (rX (rComp [1] (gN 1) rYes (rX (rCall M.m_fits_piece [none] (cVal (rVar 1) cNil))) (rThen (rVar 0) seqOf))))))))
def m_fits_set : List Sl → Out Sl := rLen 1 (mOf 2 fb_fits_set)
def fb_need_piece : Ev → Out Flw :=
  (rIfS (rNotB (rThen (rX (rCall M.m_fits_piece [none] (cVal (rVar 0) cNil))) dTru))
    rNever
    rNext)
def m_need_piece : List Sl → Out Sl := rLen 1 (mOf 1 fb_need_piece)
def fb_need_side : Ev → Out Flw :=
  (rIfS (rNotB (rThen (rX (rCall M.m_fits_whole [none, none, none] (cVal (rVar 0) (cVal (rC (.int 0)) (cVal (rX (rBin dSub (rC (.int 4)) (rC (.int 1)))) cNil))))) dTru))
    rNever
    rNext)
def m_need_side : List Sl → Out Sl := rLen 1 (mOf 1 fb_need_side)
def fb_need_set : Ev → Out Flw :=
  (rIfS (rNotB (rThen (rX (rCall M.m_fits_set [none] (cVal (rVar 0) cNil))) dTru))
    rNever
    rNext)
def m_need_set : List Sl → Out Sl := rLen 1 (mOf 1 fb_need_set)
def fb_turned_in : Ev → Out Flw :=
  (rRet (rBin dAdd (rX (rSlice (rVar 0) (rThen (rX (rBin dSub (rC (.int 4)) (rVar 1))) asI) rNo)) (rX (rSlice (rVar 0) rNo (rThen (rX (rBin dSub (rC (.int 4)) (rVar 1))) asI)))))
def m_turned_in : List Sl → Out Sl := rLen 2 (mOf 2 fb_turned_in)
def fb_kind_in : Ev → Out Flw :=
  (rSeq (rSet 1 (rComp [2] (gN 2) (rThen (rBin dEq (rIxN 0 (rVar 2)) (rC (.int 0))) asB) (rVar 2) (rThen (rC (.int 4)) range1)))
    (rSeq (rIfS (rThen (rBin dEq (rX (rCall1 dLen (rView 1))) (rC (.int 2))) asB)
    (rRet (rIf (rThen (rBin dEq (rX (rBin dSub (rIxN 1 (rC (.int 1))) (rIxN 1 (rC (.int 0))))) (rC (.int 2))) asB) (rE (rC (.str (Str.ofString "strip")))) (rE (rC (.str (Str.ofString "corner"))))))
    rNext)
    (rRet (rE (rIx2 (rThen (rCons (rC (.str (Str.ofString "inner"))) (rCons (rC (.str (Str.ofString "side"))) (rCons (rC (.str (Str.ofString ""))) (rCons (rC (.str (Str.ofString "end"))) (rCons (rC (.str (Str.ofString "whole"))) rNil))))) tupOf) (rX (rCall1 dLen (rView 1))))))))
def m_kind_in : List Sl → Out Sl := rLen 1 (mOf 3 fb_kind_in)
def fb_turned : Ev → Out Flw :=
  (rSeq (rDrop (rCall M.m_need_piece [none] (cVal (rVar 0) cNil)))
    (rSeq (rDrop (rCall M.m_need_side [none] (cVal (rVar 1) cNil)))
    (rRet (rCall M.m_turned_in [none, none] (cVal (rVar 0) (cVal (rVar 1) cNil))))))
def m_turned : List Sl → Out Sl := rLen 2 (mOf 2 fb_turned)
def fb_kind_of : Ev → Out Flw :=
  (rSeq (rDrop (rCall M.m_need_piece [none] (cVal (rVar 0) cNil)))
    (rRet (rCall M.m_kind_in [none] (cVal (rVar 0) cNil))))
def m_kind_of : List Sl → Out Sl := rLen 1 (mOf 1 fb_kind_of)
def fb_flat_sides : Ev → Out Flw :=
  (rSeq (rDrop (rCall M.m_need_piece [none] (cVal (rVar 0) cNil)))
    (rRet (rCall1 dTuple (rX (rComp [1] (gN 1) (rThen (rBin dEq (rIxN 0 (rVar 1)) (rC (.int 0))) asB) (rVar 1) (rThen (rC (.int 4)) range1))))))
def m_flat_sides : List Sl → Out Sl := rLen 1 (mOf 2 fb_flat_sides)
def fb_kind_counts : Ev → Out Flw :=
  (rSeq (rDrop (rCall M.m_need_set [none] (cVal (rVar 0) cNil)))
    (rSeq (rSet 1 (rComp [2] (gN 2) rYes (rX (rCall M.m_kind_in [none] (cVal (rVar 2) cNil))) (rThen (rVar 0) seqOf)))
    (rRet (rCall1 dTuple (rX (rComp [3] (gN 3) rYes (rLCnt (rVar 1) (rVar 3)) (rConst [.str (Str.ofString "inner"), .str (Str.ofString "side"), .str (Str.ofString "strip"), .str (Str.ofString "corner"), .str (Str.ofString "end"), .str (Str.ofString "whole")])))))))
def m_kind_counts : List Sl → Out Sl := rLen 1 (mOf 4 fb_kind_counts)
def fb_law_cup : Ev → Out Flw :=
  (rSeq (rSet 1 (rCall1 dAbs (rIx2 (rX (rBin dAdd (rX (rCall1 dList (rView 0))) (rX (rThen (rCons (rC (.int 0)) rNil) lstOf)))) (rC (.int 0)))))
    (rRet (rThen (rCons (rX (rIf (rThen (rBin dGeI (rVar 1) (rX (rBin dPow (rC (.int 10)) (rC (.int 18))))) asB) (rBin dDiv (rVar 1) (rC (.int 107))) (rE (rC (.int 0))))) (rCons (rX (rBin dAdd (rX (rBin dMod (rX (rCall1 dInt (rX (rBin dAdd (rX (rBin dMul (rVar 1) (rC (.int 317)))) (rC (.int 4007)))))) (rC (.int 2077502471)))) (rC (.int 227)))) rNil)) lstOf)))
def m_law_cup : List Sl → Out Sl := rLen 1 (mOf 2 fb_law_cup)
def fb_law_roll : Ev → Out Flw :=
  (rSeq (rIfS (rThen (rBin dGtA (rIxN 0 (rC (.int 0))) (rC (.int 0))) asB)
    (rSeq (rSet 2 (rBin dMod (rX (rCall1 dInt (rIxN 0 (rC (.int 0))))) (rVar 1)))
    (rSeq (rSetIx 0 (rX (rBin dDiv (rIxN 0 (rC (.int 0))) (rVar 1))) (rC (.int 0)))
    (rRet (rMove 2))))
    rNext)
    (rSeq (rSetIx 0 (rX (rBin dMod (rX (rCall1 dInt (rX (rBin dAdd (rX (rBin dMul (rIxN 0 (rC (.int 1))) (rC (.int 31033)))) (rC (.int 8017)))))) (rC (.int 2147483579)))) (rC (.int 1)))
    (rSeq (rSet 3 (rBin dMod (rX (rCall1 dInt (rX (rBin dMul (rIxN 0 (rC (.int 1))) (rX (rBin dAdd (rIxN 0 (rC (.int 1))) (rC (.int 307)))))))) (rC (.int 2147483059))))
    (rRet (rBin dMod (rX (rCall1 dInt (rX (rBin dDiv (rVar 3) (rC (.int 823)))))) (rVar 1))))))
def m_law_roll : List Sl → Out Sl := rLen 2 (mOf 4 fb_law_roll)
def fb_law_some : Ev → Out Flw :=
  (rRet (rE (rIxN 1 (rX (rCall M.m_law_roll [some 0, none] (cBor 0 (cVal (rX (rCall1 dLen (rView 1))) cNil)))))))
def m_law_some : List Sl → Out Sl := rLen 2 (mOf 2 fb_law_some)
def fb_law_same (self : List Sl → Out Sl) : Ev → Out Flw :=
  (rSeq (rIfS (rThen (rIsi isTuple (rVar 1)) dTru)
    (rSeq (rIfS (rOrB (rNotB (rThen (rIsi isTuple (rVar 0)) dTru)) (rThen (rBin dNe (rX (rCall1 dLen (rView 0))) (rX (rCall1 dLen (rView 1)))) asB))
    (rRet (rE (rC (.bool false))))
    rNext)
    (rRet (rCall1 dAll (rX (rComp [2] (gN 2) rYes (rX (rCall self [none, none] (cVal (rIxN 0 (rVar 2)) (cVal (rIxN 1 (rVar 2)) cNil)))) (rThen (rX (rCall1 dLen (rView 1))) range1))))))
    rNext)
    (rSeq (rIfS (rThen (rBin dIs (rVar 1) (rC .none)) asB)
    (rRet (rBin dIs (rVar 0) (rC .none)))
    rNext)
    (rSeq (rIfS (rThen (rIsi isBool (rVar 1)) dTru)
    (rRet (rIf (rThen (rVar 1) dTru) (rBin dIs (rVar 0) (rC (.bool true))) (rBin dIs (rVar 0) (rC (.bool false)))))
    rNext)
    (rSeq (rIfS (rThen (rIsi isInt (rVar 1)) dTru)
    (rRet (rE (rAndV (rIsi isInt (rVar 0)) (rAndV (rNotV (rIsi isBool (rVar 0))) (rX (rBin dEq (rX (rCall1 dInt (rView 0))) (rVar 1)))))))
    rNext)
    (rRet (rE (rAndV (rIsi isStr (rVar 0)) (rX (rBin dEq (rX (rCall1 dStr (rView 0))) (rVar 1))))))))))
def m_law_same : Nat → List Sl → Out Sl
  | 0 => fun _ => .bad
  | n + 1 => rLen 2 (mOf 3 (fb_law_same (m_law_same n)))
def fb_law_piece : Ev → Out Flw :=
  (rRet (rCall1 dTuple (rX (rComp [2] (gN 2) rYes (rX (rBin dSub (rX (rCall M.m_law_roll [some 0, none] (cBor 0 (cVal (rX (rBin dAdd (rX (rBin dMul (rC (.int 2)) (rVar 1))) (rC (.int 1)))) cNil)))) (rVar 1))) (rThen (rC (.int 4)) range1)))))
def m_law_piece : List Sl → Out Sl := rLen 2 (mOf 3 fb_law_piece)
def fb_law_set : Ev → Out Flw :=
  (rRet (rCall1 dTuple (rX (rComp [3] (gN 3) rYes (rX (rCall M.m_law_piece [some 0, none] (cBor 0 (cVal (rVar 2) cNil)))) (rThen (rX (rBin dAdd (rC (.int 1)) (rX (rCall M.m_law_roll [some 0, none] (cBor 0 (cVal (rVar 1) cNil)))))) range1)))))
def m_law_set : List Sl → Out Sl := rLen 3 (mOf 4 fb_law_set)
def fb_law_kind : Ev → Out Flw :=
  (rSeq (rSet 1 (rComp [2] (gN 2) rYes (rX (rBin dEq (rVar 2) (rC (.int 0)))) (rThen (rVar 0) seqOf)))
    (rSeq (rSet 3 (rComp [4] (gN 4) rYes (rAndV (rIxN 1 (rVar 4)) (rIxN 1 (rX (rBin dMod (rX (rBin dAdd (rVar 4) (rC (.int 1)))) (rC (.int 4)))))) (rThen (rC (.int 4)) range1)))
    (rSeq (rIfS (rThen (rBin dEq (rLCnt (rVar 1) (rC (.bool true))) (rC (.int 2))) asB)
    (rRet (rIf (rThen (rBin (dIn false) (rC (.bool true)) (rVar 3)) asB) (rE (rC (.str (Str.ofString "corner")))) (rE (rC (.str (Str.ofString "strip"))))))
    rNext)
    (rRet (rE (rDGetE (rDisp [(.inl (0), .str (Str.ofString "inner")), (.inl (1), .str (Str.ofString "side")), (.inl (3), .str (Str.ofString "end")), (.inl (4), .str (Str.ofString "whole"))]) (rLCnt (rVar 1) (rC (.bool true)))))))))
def m_law_kind : List Sl → Out Sl := rLen 1 (mOf 5 fb_law_kind)
def fb_law : Ev → Out Flw :=
  (rSeq (rSet 1 (rCall M.m_law_cup [some 0] (cBor 0 cNil)))
    (rSeq (rFor [2, 3, 4, 5, 6, 7, 9] (gN 2)
    (rSeq (rSet 3 (rCall M.m_law_set [some 1, none, none] (cBor 1 (cVal (rC (.int 12)) (cVal (rX (rCall M.m_law_some [some 1, none] (cBor 1 (cVal (rX (rThen (rCons (rC (.int 1)) (rCons (rC (.int 1)) (rCons (rC (.int 2)) (rCons (rC (.int 9)) rNil)))) lstOf)) cNil)))) cNil)))))
    (rSeq (rSet 4 rDNewK)
    (rSeq (rFor [5, 6, 7] (gN 5)
    (rSeq (rSet 6 (rCall M.m_law_kind [none] (cVal (rVar 5) cNil)))
    (rSeq (rDPut 4 (rX (rBin dAdd (rDGet2 4 (rVar 6) (rC (.int 0))) (rC (.int 1)))) (rVar 6))
    (rSeq (rSet 7 (rCall1 dTuple (rX (rComp [8] (gN 8) (rThen (rBin dEq (rIxN 5 (rVar 8)) (rC (.int 0))) asB) (rVar 8) (rThen (rC (.int 4)) range1)))))
    (rSeq (rIfS (rNotB (rThen (rX (rCall (M.m_law_same 12) [none, none] (cVal (rThen (rCons (rX (rCall M.m_kind_of [none] (cVal (rVar 5) cNil))) (rCons (rX (rCall M.m_flat_sides [none] (cVal (rVar 5) cNil))) (rCons (rX (rCall M.m_kind_of [none] (cVal (rX (rCall M.m_turned [none, none] (cVal (rVar 5) (cVal (rC (.int 1)) cNil)))) cNil))) rNil))) tupOf) (cVal (rThen (rCons (rVar 6) (rCons (rVar 7) (rCons (rVar 6) rNil))) tupOf) cNil)))) dTru))
    (rRet (rE (rC (.bool false))))
    rNext)
    (rIfS (rNotB (rThen (rX (rCall (M.m_law_same 12) [none, none] (cVal (rX (rCall M.m_flat_sides [none] (cVal (rX (rCall M.m_turned [none, none] (cVal (rVar 5) (cVal (rC (.int 1)) cNil)))) cNil))) (cVal (rX (rCall1 dTuple (rX (rCall1 dSorted (rX (rComp [8] (gN 8) rYes (rX (rBin dMod (rX (rBin dAdd (rVar 8) (rC (.int 1)))) (rC (.int 4)))) (rThen (rVar 7) seqOf))))))) cNil)))) dTru))
    (rRet (rE (rC (.bool false))))
    rNext)))))
    (rThen (rVar 3) seqOf))
    (rSeq (rSet 9 (rCall1 dTuple (rX (rComp [6] (gN 6) rYes (rDGet2 4 (rVar 6) (rC (.int 0))) (rThen (rThen (rCons (rC (.str (Str.ofString "inner"))) (rCons (rC (.str (Str.ofString "side"))) (rCons (rC (.str (Str.ofString "strip"))) (rCons (rC (.str (Str.ofString "corner"))) (rCons (rC (.str (Str.ofString "end"))) (rCons (rC (.str (Str.ofString "whole"))) rNil)))))) tupOf) seqOf)))))
    (rIfS (rOrB (rNotB (rThen (rX (rCall (M.m_law_same 12) [none, none] (cVal (rX (rCall M.m_kind_counts [none] (cVal (rVar 3) cNil))) (cVal (rVar 9) cNil)))) dTru)) (rThen (rBin dNe (rX (rCall1 dSumA (rX (rCall M.m_kind_counts [none] (cVal (rVar 3) cNil))))) (rX (rCall1 dLen (rView 3)))) asB))
    (rRet (rE (rC (.bool false))))
    rNext)))))
    (rThen (rC (.int 8)) range1))
    (rSeq (rSet 10 (rE (rThen (rCons (rX (rCall M.m_kind_of [none] (cVal (rThen (rCons (rC (.int 1)) (rCons (rC (.int 2)) (rCons (rC (.int 3)) (rCons (rC (.int 4)) rNil)))) tupOf) cNil))) (rCons (rX (rCall M.m_kind_of [none] (cVal (rThen (rCons (rC (.int 0)) (rCons (rC (.int 2)) (rCons (rC (.int 3)) (rCons (rC (.int 4)) rNil)))) tupOf) cNil))) (rCons (rX (rCall M.m_kind_of [none] (cVal (rThen (rCons (rC (.int 0)) (rCons (rC (.int 2)) (rCons (rC (.int 0)) (rCons (rC (.int 4)) rNil)))) tupOf) cNil))) (rCons (rX (rCall M.m_kind_of [none] (cVal (rThen (rCons (rC (.int 0)) (rCons (rC (.int 2)) (rCons (rC (.int 3)) (rCons (rC (.int 0)) rNil)))) tupOf) cNil))) (rCons (rX (rCall M.m_kind_of [none] (cVal (rThen (rCons (rC (.int 0)) (rCons (rC (.int 0)) (rCons (rC (.int 0)) (rCons (rC (.int 4)) rNil)))) tupOf) cNil))) (rCons (rX (rCall M.m_kind_of [none] (cVal (rX (rBin dMul (rThen (rCons (rC (.int 0)) rNil) tupOf) (rC (.int 4)))) cNil))) rNil)))))) tupOf)))
    (rRet (rCall (M.m_law_same 12) [none, none] (cVal (rVar 10) (cVal (rThen (rCons (rC (.str (Str.ofString "inner"))) (rCons (rC (.str (Str.ofString "side"))) (rCons (rC (.str (Str.ofString "strip"))) (rCons (rC (.str (Str.ofString "corner"))) (rCons (rC (.str (Str.ofString "end"))) (rCons (rC (.str (Str.ofString "whole"))) rNil)))))) tupOf) cNil)))))))
def m_law : List Sl → Out Sl := rLen 1 (mOf 11 fb_law)
end M
/-! what the helpers of a law tell -/
namespace DL
open PySem PySem.W L2
theorem mod_lo (x b : Int) (h : 0 < b) : -18446744073709551616 < x % b := by have := Int.emod_nonneg x (b := b) (by omega); omega
theorem mod_hi (x b : Int) (h : 0 < b) (h2 : b < 18446744073709551616) : x % b < 18446744073709551616 := by have := Int.emod_lt_of_pos x (b := b) h; omega
abbrev cup (a b : Int) : Sl := .own (.list [.int a, .int b])
theorem cup_spec {ns : List Int} {Q : Sl → Ev → Prop} (hl : ns.length ≤ 63) (k : ∀ a b : Int, Q (cup a b) [.scr ns]) : Wm M.m_law_cup Q [.scr ns] := by
  refine Wm_of rfl ?_
  unfold M.fb_law_cup
  have h : (ns.map PyData.int).length + 1 ≤ 16777216 := by rw [List.length_map]; omega
  have e : ∃ x, (ns.map PyData.int ++ [PyData.int 0])[0]? = some (.int x) := by
    cases ns with
    | nil => exact ⟨0, rfl⟩
    | cons n t => exact ⟨n, rfl⟩
  obtain ⟨x, e⟩ := e
  simp only [↓Wp_rIf, ↓Wp_seq, ↓Wp_seqN, ↓Wp_seqR, ↓Wp_seqB, ↓Wp_seqC, ↓Wp_next, ↓Wp_brk, ↓Wp_cnt, ↓Wp_set, ↓Wp_asg, ↓Wp_ret, ↓Wp_drop, ↓Wp_kill, ↓Wp_par, ↓Wp_ifs, ↓Wp_for, ↓forK_nx, ↓forK_cnt, ↓forK_brk, ↓forK_ret, ↓Wp_c, ↓Wp_var, ↓WpVar_d, ↓WpVar_o, ↓Wp_view, ↓Wp_andV, ↓Wp_orV, ↓Wp_chain, ↓Wp_bin, ↓Wp_andB, ↓Wp_orB, ↓Wp_yes, ↓Wp_push0, ↓Wp_pushN, ↓Wp_nil, ↓Wp_cons, ↓Wp_move, ↓WpMv_d, ↓WpMv_o, ↓WpMv_s, ↓Wp_cnil, ↓Wp_cval, ↓Wp_cbor, ↓Wp_call, ↓Wp_comp, ↓Wp_comp2, ↓retK_r, ↓retK_n, ↓forJ_nx, ↓forJ_cnt, ↓Wp_asDat, ↓Wp_asDatO, ↓Wp_asB, ↓Wp_tru, ↓Wp_bind, ↓Wp_ok, ↓Wp_lift, ↓Wp_ite, ↓Wp_lite, ↓Wp_aug, ↓WpAug_i, ↓Wp_dnewK, ↓Wp_dnewT, ↓Wp_putH, ↓WpPutH_d, ↓WpPutH_T, ↓Wp_put, ↓Wp_push, ↓Wp_end, ↓Wp_app, ↓WB_b, ↓Wi_true, ↓Wi_false, Wp_rIf, Wp_seq, Wp_seqN, Wp_seqR, Wp_seqB, Wp_seqC, Wp_next, Wp_brk, Wp_cnt, Wp_set, Wp_asg, Wp_ret, Wp_drop, Wp_kill, Wp_par, Wp_ifs, Wp_for, forK_nx, forK_cnt, forK_brk, forK_ret, Wp_c, Wp_var, WpVar_d, WpVar_o, Wp_view, Wp_andV, Wp_orV, Wp_chain, Wp_bin, Wp_andB, Wp_orB, Wp_yes, Wp_push0, Wp_pushN, Wp_nil, Wp_cons, Wp_move, WpMv_d, WpMv_o, WpMv_s, Wp_cnil, Wp_cval, Wp_cbor, Wp_call, Wp_comp, Wp_comp2, retK_r, retK_n, forJ_nx, forJ_cnt, Wp_asDat, Wp_asDatO, Wp_asB, Wp_tru, Wp_bind, Wp_ok, Wp_lift, Wp_ite, Wp_lite, Wp_aug, WpAug_i, Wp_dnewK, Wp_dnewT, Wp_putH, WpPutH_d, WpPutH_T, Wp_put, Wp_push, Wp_end, Wp_app, WB_b, Wi_true, Wi_false, Wq_run, argsOf_v, argsOf_b, argsOf_n, putBack_v, putBack_b, putBack_n, back_o, back_s, back_d, see_d, see_o, see_s, List.getElem?_cons_zero, List.getElem?_cons_succ, List.set_cons_zero, List.set_cons_succ, List.cons_append, List.nil_append, List.take_succ_cons, List.take_zero, List.length_cons, List.length_nil, List.dropLast_cons₂, List.dropLast_singleton, Option.getD_some, wipeE, restoreE, gN, List.replicate_zero, List.replicate_succ, Nat.reduceAdd, Nat.reduceSub, decide_eq_true_eq, Bool.true_eq_false, Bool.false_eq_true, reduceCtorEq, not_false_eq_true, see_d, see_o, see_s, ownS_o, WpAug_l, isS_d, isS_o, mkRg_l, mkRg_t, dMax2_i, dMin2_i, dIx_l, dIx_t, dAdd_i, dSub_i, dNeg_i, dMod_i, dDiv_i, dMul_r, dMul_l, dPow_18, dGtA_i, dLtA_i, dGtI_i, dLtI_i, dGeI_i, dLeI_i, dInt_i, dAbs_i, dLen_l, dLen_t, dTuple_l, dList_l, dList_t, dAdd_l, dAdd_t, tupOf_i, lstOf_i, seqOf_l, seqOf_t, range1_i, WpPut_i, WpPush_i, WpEnd_i, WpApp_i, dEq_i, dNe_i, dNe_bb, dEq_bb, bools_true, allT, isL, dCnt_s, dOnce_i, onceOf, dIs_n, dIs_b, enumOf_l, enumOf_t, zipOf_t, zipOf_l, zipD_c, zipD_n, dIsNot_n, gTup_t, gs_c, gs_n, range2_i, Option.bind_some, unpack, dRev_l, dRev_t, isInt, isBool, isTuple, isList, isStr, isN, isOwnL, dSumA_l, dSumA_t, dAll, dAny, bools, Option.map_some, List.all_cons, List.all_nil, List.any_cons, List.any_nil, id_eq, Bool.and_true, Bool.true_and, Bool.and_self, Bool.not_true, Bool.not_false, dSlice_l, dSlice_t, asI_i, decide_true, decide_false, Int.reduceLE, Int.reduceLT, Int.reduceToNat, Int.reduceNeg, Int.reduceAdd, Int.reduceSub, Int.reduceMul, Nat.reduceLeDiff, Nat.reduceLT, reduceIte, Int.reducePow, Int.cast_ofNat_Int, Int.toNat_one, Int.toNat_zero, Nat.zero_add, Nat.lt_add_one, Nat.zero_lt_succ, Int.reduceEq, Nat.reduceEqDiff, Int.toNat_natCast, h, e]
  refine Wi_intro (fun z => ?_) (fun z => ?_)
  · simp only [↓Wp_rIf, ↓Wp_seq, ↓Wp_seqN, ↓Wp_seqR, ↓Wp_seqB, ↓Wp_seqC, ↓Wp_next, ↓Wp_brk, ↓Wp_cnt, ↓Wp_set, ↓Wp_asg, ↓Wp_ret, ↓Wp_drop, ↓Wp_kill, ↓Wp_par, ↓Wp_ifs, ↓Wp_for, ↓forK_nx, ↓forK_cnt, ↓forK_brk, ↓forK_ret, ↓Wp_c, ↓Wp_var, ↓WpVar_d, ↓WpVar_o, ↓Wp_view, ↓Wp_andV, ↓Wp_orV, ↓Wp_chain, ↓Wp_bin, ↓Wp_andB, ↓Wp_orB, ↓Wp_yes, ↓Wp_push0, ↓Wp_pushN, ↓Wp_nil, ↓Wp_cons, ↓Wp_move, ↓WpMv_d, ↓WpMv_o, ↓WpMv_s, ↓Wp_cnil, ↓Wp_cval, ↓Wp_cbor, ↓Wp_call, ↓Wp_comp, ↓Wp_comp2, ↓retK_r, ↓retK_n, ↓forJ_nx, ↓forJ_cnt, ↓Wp_asDat, ↓Wp_asDatO, ↓Wp_asB, ↓Wp_tru, ↓Wp_bind, ↓Wp_ok, ↓Wp_lift, ↓Wp_ite, ↓Wp_lite, ↓Wp_aug, ↓WpAug_i, ↓Wp_dnewK, ↓Wp_dnewT, ↓Wp_putH, ↓WpPutH_d, ↓WpPutH_T, ↓Wp_put, ↓Wp_push, ↓Wp_end, ↓Wp_app, ↓WB_b, ↓Wi_true, ↓Wi_false, Wp_rIf, Wp_seq, Wp_seqN, Wp_seqR, Wp_seqB, Wp_seqC, Wp_next, Wp_brk, Wp_cnt, Wp_set, Wp_asg, Wp_ret, Wp_drop, Wp_kill, Wp_par, Wp_ifs, Wp_for, forK_nx, forK_cnt, forK_brk, forK_ret, Wp_c, Wp_var, WpVar_d, WpVar_o, Wp_view, Wp_andV, Wp_orV, Wp_chain, Wp_bin, Wp_andB, Wp_orB, Wp_yes, Wp_push0, Wp_pushN, Wp_nil, Wp_cons, Wp_move, WpMv_d, WpMv_o, WpMv_s, Wp_cnil, Wp_cval, Wp_cbor, Wp_call, Wp_comp, Wp_comp2, retK_r, retK_n, forJ_nx, forJ_cnt, Wp_asDat, Wp_asDatO, Wp_asB, Wp_tru, Wp_bind, Wp_ok, Wp_lift, Wp_ite, Wp_lite, Wp_aug, WpAug_i, Wp_dnewK, Wp_dnewT, Wp_putH, WpPutH_d, WpPutH_T, Wp_put, Wp_push, Wp_end, Wp_app, WB_b, Wi_true, Wi_false, Wq_run, argsOf_v, argsOf_b, argsOf_n, putBack_v, putBack_b, putBack_n, back_o, back_s, back_d, see_d, see_o, see_s, List.getElem?_cons_zero, List.getElem?_cons_succ, List.set_cons_zero, List.set_cons_succ, List.cons_append, List.nil_append, List.take_succ_cons, List.take_zero, List.length_cons, List.length_nil, List.dropLast_cons₂, List.dropLast_singleton, Option.getD_some, wipeE, restoreE, gN, List.replicate_zero, List.replicate_succ, Nat.reduceAdd, Nat.reduceSub, decide_eq_true_eq, Bool.true_eq_false, Bool.false_eq_true, reduceCtorEq, not_false_eq_true, see_d, see_o, see_s, ownS_o, WpAug_l, isS_d, isS_o, mkRg_l, mkRg_t, dMax2_i, dMin2_i, dIx_l, dIx_t, dAdd_i, dSub_i, dNeg_i, dMod_i, dDiv_i, dMul_r, dMul_l, dPow_18, dGtA_i, dLtA_i, dGtI_i, dLtI_i, dGeI_i, dLeI_i, dInt_i, dAbs_i, dLen_l, dLen_t, dTuple_l, dList_l, dList_t, dAdd_l, dAdd_t, tupOf_i, lstOf_i, seqOf_l, seqOf_t, range1_i, WpPut_i, WpPush_i, WpEnd_i, WpApp_i, dEq_i, dNe_i, dNe_bb, dEq_bb, bools_true, allT, isL, dCnt_s, dOnce_i, onceOf, dIs_n, dIs_b, enumOf_l, enumOf_t, zipOf_t, zipOf_l, zipD_c, zipD_n, dIsNot_n, gTup_t, gs_c, gs_n, range2_i, Option.bind_some, unpack, dRev_l, dRev_t, isInt, isBool, isTuple, isList, isStr, isN, isOwnL, dSumA_l, dSumA_t, dAll, dAny, bools, Option.map_some, List.all_cons, List.all_nil, List.any_cons, List.any_nil, id_eq, Bool.and_true, Bool.true_and, Bool.and_self, Bool.not_true, Bool.not_false, dSlice_l, dSlice_t, asI_i, decide_true, decide_false, Int.reduceLE, Int.reduceLT, Int.reduceToNat, Int.reduceNeg, Int.reduceAdd, Int.reduceSub, Int.reduceMul, Nat.reduceLeDiff, Nat.reduceLT, reduceIte, Int.reducePow, Int.cast_ofNat_Int, Int.toNat_one, Int.toNat_zero, Nat.zero_add, Nat.lt_add_one, Nat.zero_lt_succ, Int.reduceEq, Nat.reduceEqDiff, Int.toNat_natCast]
    exact k _ _
  · simp only [↓Wp_rIf, ↓Wp_seq, ↓Wp_seqN, ↓Wp_seqR, ↓Wp_seqB, ↓Wp_seqC, ↓Wp_next, ↓Wp_brk, ↓Wp_cnt, ↓Wp_set, ↓Wp_asg, ↓Wp_ret, ↓Wp_drop, ↓Wp_kill, ↓Wp_par, ↓Wp_ifs, ↓Wp_for, ↓forK_nx, ↓forK_cnt, ↓forK_brk, ↓forK_ret, ↓Wp_c, ↓Wp_var, ↓WpVar_d, ↓WpVar_o, ↓Wp_view, ↓Wp_andV, ↓Wp_orV, ↓Wp_chain, ↓Wp_bin, ↓Wp_andB, ↓Wp_orB, ↓Wp_yes, ↓Wp_push0, ↓Wp_pushN, ↓Wp_nil, ↓Wp_cons, ↓Wp_move, ↓WpMv_d, ↓WpMv_o, ↓WpMv_s, ↓Wp_cnil, ↓Wp_cval, ↓Wp_cbor, ↓Wp_call, ↓Wp_comp, ↓Wp_comp2, ↓retK_r, ↓retK_n, ↓forJ_nx, ↓forJ_cnt, ↓Wp_asDat, ↓Wp_asDatO, ↓Wp_asB, ↓Wp_tru, ↓Wp_bind, ↓Wp_ok, ↓Wp_lift, ↓Wp_ite, ↓Wp_lite, ↓Wp_aug, ↓WpAug_i, ↓Wp_dnewK, ↓Wp_dnewT, ↓Wp_putH, ↓WpPutH_d, ↓WpPutH_T, ↓Wp_put, ↓Wp_push, ↓Wp_end, ↓Wp_app, ↓WB_b, ↓Wi_true, ↓Wi_false, Wp_rIf, Wp_seq, Wp_seqN, Wp_seqR, Wp_seqB, Wp_seqC, Wp_next, Wp_brk, Wp_cnt, Wp_set, Wp_asg, Wp_ret, Wp_drop, Wp_kill, Wp_par, Wp_ifs, Wp_for, forK_nx, forK_cnt, forK_brk, forK_ret, Wp_c, Wp_var, WpVar_d, WpVar_o, Wp_view, Wp_andV, Wp_orV, Wp_chain, Wp_bin, Wp_andB, Wp_orB, Wp_yes, Wp_push0, Wp_pushN, Wp_nil, Wp_cons, Wp_move, WpMv_d, WpMv_o, WpMv_s, Wp_cnil, Wp_cval, Wp_cbor, Wp_call, Wp_comp, Wp_comp2, retK_r, retK_n, forJ_nx, forJ_cnt, Wp_asDat, Wp_asDatO, Wp_asB, Wp_tru, Wp_bind, Wp_ok, Wp_lift, Wp_ite, Wp_lite, Wp_aug, WpAug_i, Wp_dnewK, Wp_dnewT, Wp_putH, WpPutH_d, WpPutH_T, Wp_put, Wp_push, Wp_end, Wp_app, WB_b, Wi_true, Wi_false, Wq_run, argsOf_v, argsOf_b, argsOf_n, putBack_v, putBack_b, putBack_n, back_o, back_s, back_d, see_d, see_o, see_s, List.getElem?_cons_zero, List.getElem?_cons_succ, List.set_cons_zero, List.set_cons_succ, List.cons_append, List.nil_append, List.take_succ_cons, List.take_zero, List.length_cons, List.length_nil, List.dropLast_cons₂, List.dropLast_singleton, Option.getD_some, wipeE, restoreE, gN, List.replicate_zero, List.replicate_succ, Nat.reduceAdd, Nat.reduceSub, decide_eq_true_eq, Bool.true_eq_false, Bool.false_eq_true, reduceCtorEq, not_false_eq_true, see_d, see_o, see_s, ownS_o, WpAug_l, isS_d, isS_o, mkRg_l, mkRg_t, dMax2_i, dMin2_i, dIx_l, dIx_t, dAdd_i, dSub_i, dNeg_i, dMod_i, dDiv_i, dMul_r, dMul_l, dPow_18, dGtA_i, dLtA_i, dGtI_i, dLtI_i, dGeI_i, dLeI_i, dInt_i, dAbs_i, dLen_l, dLen_t, dTuple_l, dList_l, dList_t, dAdd_l, dAdd_t, tupOf_i, lstOf_i, seqOf_l, seqOf_t, range1_i, WpPut_i, WpPush_i, WpEnd_i, WpApp_i, dEq_i, dNe_i, dNe_bb, dEq_bb, bools_true, allT, isL, dCnt_s, dOnce_i, onceOf, dIs_n, dIs_b, enumOf_l, enumOf_t, zipOf_t, zipOf_l, zipD_c, zipD_n, dIsNot_n, gTup_t, gs_c, gs_n, range2_i, Option.bind_some, unpack, dRev_l, dRev_t, isInt, isBool, isTuple, isList, isStr, isN, isOwnL, dSumA_l, dSumA_t, dAll, dAny, bools, Option.map_some, List.all_cons, List.all_nil, List.any_cons, List.any_nil, id_eq, Bool.and_true, Bool.true_and, Bool.and_self, Bool.not_true, Bool.not_false, dSlice_l, dSlice_t, asI_i, decide_true, decide_false, Int.reduceLE, Int.reduceLT, Int.reduceToNat, Int.reduceNeg, Int.reduceAdd, Int.reduceSub, Int.reduceMul, Nat.reduceLeDiff, Nat.reduceLT, reduceIte, Int.reducePow, Int.cast_ofNat_Int, Int.toNat_one, Int.toNat_zero, Nat.zero_add, Nat.lt_add_one, Nat.zero_lt_succ, Int.reduceEq, Nat.reduceEqDiff, Int.toNat_natCast]
    exact k _ _
theorem roll_spec {c0 c1 many : Int} {Q : Sl → Ev → Prop} (h : 0 < many) (h2 : many < 1073741824) (k : ∀ r a b : Int, 0 ≤ r → r < many → Q (.dat (.int r)) [cup a b, .dat (.int many)]) :
    Wm M.m_law_roll Q [cup c0 c1, .dat (.int many)] := by
  refine Wm_of rfl ?_
  unfold M.fb_law_roll cup
  simp only [↓Wp_rIf, ↓Wp_seq, ↓Wp_seqN, ↓Wp_seqR, ↓Wp_seqB, ↓Wp_seqC, ↓Wp_next, ↓Wp_brk, ↓Wp_cnt, ↓Wp_set, ↓Wp_asg, ↓Wp_ret, ↓Wp_drop, ↓Wp_kill, ↓Wp_par, ↓Wp_ifs, ↓Wp_for, ↓forK_nx, ↓forK_cnt, ↓forK_brk, ↓forK_ret, ↓Wp_c, ↓Wp_var, ↓WpVar_d, ↓WpVar_o, ↓Wp_view, ↓Wp_andV, ↓Wp_orV, ↓Wp_chain, ↓Wp_bin, ↓Wp_andB, ↓Wp_orB, ↓Wp_yes, ↓Wp_push0, ↓Wp_pushN, ↓Wp_nil, ↓Wp_cons, ↓Wp_move, ↓WpMv_d, ↓WpMv_o, ↓WpMv_s, ↓Wp_cnil, ↓Wp_cval, ↓Wp_cbor, ↓Wp_call, ↓Wp_comp, ↓Wp_comp2, ↓retK_r, ↓retK_n, ↓forJ_nx, ↓forJ_cnt, ↓Wp_asDat, ↓Wp_asDatO, ↓Wp_asB, ↓Wp_tru, ↓Wp_bind, ↓Wp_ok, ↓Wp_lift, ↓Wp_ite, ↓Wp_lite, ↓Wp_aug, ↓WpAug_i, ↓Wp_dnewK, ↓Wp_dnewT, ↓Wp_putH, ↓WpPutH_d, ↓WpPutH_T, ↓Wp_put, ↓Wp_push, ↓Wp_end, ↓Wp_app, ↓WB_b, ↓Wi_true, ↓Wi_false, Wp_rIf, Wp_seq, Wp_seqN, Wp_seqR, Wp_seqB, Wp_seqC, Wp_next, Wp_brk, Wp_cnt, Wp_set, Wp_asg, Wp_ret, Wp_drop, Wp_kill, Wp_par, Wp_ifs, Wp_for, forK_nx, forK_cnt, forK_brk, forK_ret, Wp_c, Wp_var, WpVar_d, WpVar_o, Wp_view, Wp_andV, Wp_orV, Wp_chain, Wp_bin, Wp_andB, Wp_orB, Wp_yes, Wp_push0, Wp_pushN, Wp_nil, Wp_cons, Wp_move, WpMv_d, WpMv_o, WpMv_s, Wp_cnil, Wp_cval, Wp_cbor, Wp_call, Wp_comp, Wp_comp2, retK_r, retK_n, forJ_nx, forJ_cnt, Wp_asDat, Wp_asDatO, Wp_asB, Wp_tru, Wp_bind, Wp_ok, Wp_lift, Wp_ite, Wp_lite, Wp_aug, WpAug_i, Wp_dnewK, Wp_dnewT, Wp_putH, WpPutH_d, WpPutH_T, Wp_put, Wp_push, Wp_end, Wp_app, WB_b, Wi_true, Wi_false, Wq_run, argsOf_v, argsOf_b, argsOf_n, putBack_v, putBack_b, putBack_n, back_o, back_s, back_d, see_d, see_o, see_s, List.getElem?_cons_zero, List.getElem?_cons_succ, List.set_cons_zero, List.set_cons_succ, List.cons_append, List.nil_append, List.take_succ_cons, List.take_zero, List.length_cons, List.length_nil, List.dropLast_cons₂, List.dropLast_singleton, Option.getD_some, wipeE, restoreE, gN, List.replicate_zero, List.replicate_succ, Nat.reduceAdd, Nat.reduceSub, decide_eq_true_eq, Bool.true_eq_false, Bool.false_eq_true, reduceCtorEq, not_false_eq_true, see_d, see_o, see_s, ownS_o, WpAug_l, isS_d, isS_o, mkRg_l, mkRg_t, dMax2_i, dMin2_i, dIx_l, dIx_t, dAdd_i, dSub_i, dNeg_i, dMod_i, dDiv_i, dMul_r, dMul_l, dPow_18, dGtA_i, dLtA_i, dGtI_i, dLtI_i, dGeI_i, dLeI_i, dInt_i, dAbs_i, dLen_l, dLen_t, dTuple_l, dList_l, dList_t, dAdd_l, dAdd_t, tupOf_i, lstOf_i, seqOf_l, seqOf_t, range1_i, WpPut_i, WpPush_i, WpEnd_i, WpApp_i, dEq_i, dNe_i, dNe_bb, dEq_bb, bools_true, allT, isL, dCnt_s, dOnce_i, onceOf, dIs_n, dIs_b, enumOf_l, enumOf_t, zipOf_t, zipOf_l, zipD_c, zipD_n, dIsNot_n, gTup_t, gs_c, gs_n, range2_i, Option.bind_some, unpack, dRev_l, dRev_t, isInt, isBool, isTuple, isList, isStr, isN, isOwnL, dSumA_l, dSumA_t, dAll, dAny, bools, Option.map_some, List.all_cons, List.all_nil, List.any_cons, List.any_nil, id_eq, Bool.and_true, Bool.true_and, Bool.and_self, Bool.not_true, Bool.not_false, dSlice_l, dSlice_t, asI_i, decide_true, decide_false, Int.reduceLE, Int.reduceLT, Int.reduceToNat, Int.reduceNeg, Int.reduceAdd, Int.reduceSub, Int.reduceMul, Nat.reduceLeDiff, Nat.reduceLT, reduceIte, Int.reducePow, Int.cast_ofNat_Int, Int.toNat_one, Int.toNat_zero, Nat.zero_add, Nat.lt_add_one, Nat.zero_lt_succ, Int.reduceEq, Nat.reduceEqDiff, Int.toNat_natCast, h, h2, mod_lo, mod_hi]
  refine Wi_intro (fun z => ?_) (fun z => ?_)
  · simp only [↓Wp_rIf, ↓Wp_seq, ↓Wp_seqN, ↓Wp_seqR, ↓Wp_seqB, ↓Wp_seqC, ↓Wp_next, ↓Wp_brk, ↓Wp_cnt, ↓Wp_set, ↓Wp_asg, ↓Wp_ret, ↓Wp_drop, ↓Wp_kill, ↓Wp_par, ↓Wp_ifs, ↓Wp_for, ↓forK_nx, ↓forK_cnt, ↓forK_brk, ↓forK_ret, ↓Wp_c, ↓Wp_var, ↓WpVar_d, ↓WpVar_o, ↓Wp_view, ↓Wp_andV, ↓Wp_orV, ↓Wp_chain, ↓Wp_bin, ↓Wp_andB, ↓Wp_orB, ↓Wp_yes, ↓Wp_push0, ↓Wp_pushN, ↓Wp_nil, ↓Wp_cons, ↓Wp_move, ↓WpMv_d, ↓WpMv_o, ↓WpMv_s, ↓Wp_cnil, ↓Wp_cval, ↓Wp_cbor, ↓Wp_call, ↓Wp_comp, ↓Wp_comp2, ↓retK_r, ↓retK_n, ↓forJ_nx, ↓forJ_cnt, ↓Wp_asDat, ↓Wp_asDatO, ↓Wp_asB, ↓Wp_tru, ↓Wp_bind, ↓Wp_ok, ↓Wp_lift, ↓Wp_ite, ↓Wp_lite, ↓Wp_aug, ↓WpAug_i, ↓Wp_dnewK, ↓Wp_dnewT, ↓Wp_putH, ↓WpPutH_d, ↓WpPutH_T, ↓Wp_put, ↓Wp_push, ↓Wp_end, ↓Wp_app, ↓WB_b, ↓Wi_true, ↓Wi_false, Wp_rIf, Wp_seq, Wp_seqN, Wp_seqR, Wp_seqB, Wp_seqC, Wp_next, Wp_brk, Wp_cnt, Wp_set, Wp_asg, Wp_ret, Wp_drop, Wp_kill, Wp_par, Wp_ifs, Wp_for, forK_nx, forK_cnt, forK_brk, forK_ret, Wp_c, Wp_var, WpVar_d, WpVar_o, Wp_view, Wp_andV, Wp_orV, Wp_chain, Wp_bin, Wp_andB, Wp_orB, Wp_yes, Wp_push0, Wp_pushN, Wp_nil, Wp_cons, Wp_move, WpMv_d, WpMv_o, WpMv_s, Wp_cnil, Wp_cval, Wp_cbor, Wp_call, Wp_comp, Wp_comp2, retK_r, retK_n, forJ_nx, forJ_cnt, Wp_asDat, Wp_asDatO, Wp_asB, Wp_tru, Wp_bind, Wp_ok, Wp_lift, Wp_ite, Wp_lite, Wp_aug, WpAug_i, Wp_dnewK, Wp_dnewT, Wp_putH, WpPutH_d, WpPutH_T, Wp_put, Wp_push, Wp_end, Wp_app, WB_b, Wi_true, Wi_false, Wq_run, argsOf_v, argsOf_b, argsOf_n, putBack_v, putBack_b, putBack_n, back_o, back_s, back_d, see_d, see_o, see_s, List.getElem?_cons_zero, List.getElem?_cons_succ, List.set_cons_zero, List.set_cons_succ, List.cons_append, List.nil_append, List.take_succ_cons, List.take_zero, List.length_cons, List.length_nil, List.dropLast_cons₂, List.dropLast_singleton, Option.getD_some, wipeE, restoreE, gN, List.replicate_zero, List.replicate_succ, Nat.reduceAdd, Nat.reduceSub, decide_eq_true_eq, Bool.true_eq_false, Bool.false_eq_true, reduceCtorEq, not_false_eq_true, see_d, see_o, see_s, ownS_o, WpAug_l, isS_d, isS_o, mkRg_l, mkRg_t, dMax2_i, dMin2_i, dIx_l, dIx_t, dAdd_i, dSub_i, dNeg_i, dMod_i, dDiv_i, dMul_r, dMul_l, dPow_18, dGtA_i, dLtA_i, dGtI_i, dLtI_i, dGeI_i, dLeI_i, dInt_i, dAbs_i, dLen_l, dLen_t, dTuple_l, dList_l, dList_t, dAdd_l, dAdd_t, tupOf_i, lstOf_i, seqOf_l, seqOf_t, range1_i, WpPut_i, WpPush_i, WpEnd_i, WpApp_i, dEq_i, dNe_i, dNe_bb, dEq_bb, bools_true, allT, isL, dCnt_s, dOnce_i, onceOf, dIs_n, dIs_b, enumOf_l, enumOf_t, zipOf_t, zipOf_l, zipD_c, zipD_n, dIsNot_n, gTup_t, gs_c, gs_n, range2_i, Option.bind_some, unpack, dRev_l, dRev_t, isInt, isBool, isTuple, isList, isStr, isN, isOwnL, dSumA_l, dSumA_t, dAll, dAny, bools, Option.map_some, List.all_cons, List.all_nil, List.any_cons, List.any_nil, id_eq, Bool.and_true, Bool.true_and, Bool.and_self, Bool.not_true, Bool.not_false, dSlice_l, dSlice_t, asI_i, decide_true, decide_false, Int.reduceLE, Int.reduceLT, Int.reduceToNat, Int.reduceNeg, Int.reduceAdd, Int.reduceSub, Int.reduceMul, Nat.reduceLeDiff, Nat.reduceLT, reduceIte, Int.reducePow, Int.cast_ofNat_Int, Int.toNat_one, Int.toNat_zero, Nat.zero_add, Nat.lt_add_one, Nat.zero_lt_succ, Int.reduceEq, Nat.reduceEqDiff, Int.toNat_natCast, h, h2, mod_lo, mod_hi]
    exact k _ _ _ (Int.emod_nonneg _ (by omega)) (Int.emod_lt_of_pos _ h)
  · simp only [↓Wp_rIf, ↓Wp_seq, ↓Wp_seqN, ↓Wp_seqR, ↓Wp_seqB, ↓Wp_seqC, ↓Wp_next, ↓Wp_brk, ↓Wp_cnt, ↓Wp_set, ↓Wp_asg, ↓Wp_ret, ↓Wp_drop, ↓Wp_kill, ↓Wp_par, ↓Wp_ifs, ↓Wp_for, ↓forK_nx, ↓forK_cnt, ↓forK_brk, ↓forK_ret, ↓Wp_c, ↓Wp_var, ↓WpVar_d, ↓WpVar_o, ↓Wp_view, ↓Wp_andV, ↓Wp_orV, ↓Wp_chain, ↓Wp_bin, ↓Wp_andB, ↓Wp_orB, ↓Wp_yes, ↓Wp_push0, ↓Wp_pushN, ↓Wp_nil, ↓Wp_cons, ↓Wp_move, ↓WpMv_d, ↓WpMv_o, ↓WpMv_s, ↓Wp_cnil, ↓Wp_cval, ↓Wp_cbor, ↓Wp_call, ↓Wp_comp, ↓Wp_comp2, ↓retK_r, ↓retK_n, ↓forJ_nx, ↓forJ_cnt, ↓Wp_asDat, ↓Wp_asDatO, ↓Wp_asB, ↓Wp_tru, ↓Wp_bind, ↓Wp_ok, ↓Wp_lift, ↓Wp_ite, ↓Wp_lite, ↓Wp_aug, ↓WpAug_i, ↓Wp_dnewK, ↓Wp_dnewT, ↓Wp_putH, ↓WpPutH_d, ↓WpPutH_T, ↓Wp_put, ↓Wp_push, ↓Wp_end, ↓Wp_app, ↓WB_b, ↓Wi_true, ↓Wi_false, Wp_rIf, Wp_seq, Wp_seqN, Wp_seqR, Wp_seqB, Wp_seqC, Wp_next, Wp_brk, Wp_cnt, Wp_set, Wp_asg, Wp_ret, Wp_drop, Wp_kill, Wp_par, Wp_ifs, Wp_for, forK_nx, forK_cnt, forK_brk, forK_ret, Wp_c, Wp_var, WpVar_d, WpVar_o, Wp_view, Wp_andV, Wp_orV, Wp_chain, Wp_bin, Wp_andB, Wp_orB, Wp_yes, Wp_push0, Wp_pushN, Wp_nil, Wp_cons, Wp_move, WpMv_d, WpMv_o, WpMv_s, Wp_cnil, Wp_cval, Wp_cbor, Wp_call, Wp_comp, Wp_comp2, retK_r, retK_n, forJ_nx, forJ_cnt, Wp_asDat, Wp_asDatO, Wp_asB, Wp_tru, Wp_bind, Wp_ok, Wp_lift, Wp_ite, Wp_lite, Wp_aug, WpAug_i, Wp_dnewK, Wp_dnewT, Wp_putH, WpPutH_d, WpPutH_T, Wp_put, Wp_push, Wp_end, Wp_app, WB_b, Wi_true, Wi_false, Wq_run, argsOf_v, argsOf_b, argsOf_n, putBack_v, putBack_b, putBack_n, back_o, back_s, back_d, see_d, see_o, see_s, List.getElem?_cons_zero, List.getElem?_cons_succ, List.set_cons_zero, List.set_cons_succ, List.cons_append, List.nil_append, List.take_succ_cons, List.take_zero, List.length_cons, List.length_nil, List.dropLast_cons₂, List.dropLast_singleton, Option.getD_some, wipeE, restoreE, gN, List.replicate_zero, List.replicate_succ, Nat.reduceAdd, Nat.reduceSub, decide_eq_true_eq, Bool.true_eq_false, Bool.false_eq_true, reduceCtorEq, not_false_eq_true, see_d, see_o, see_s, ownS_o, WpAug_l, isS_d, isS_o, mkRg_l, mkRg_t, dMax2_i, dMin2_i, dIx_l, dIx_t, dAdd_i, dSub_i, dNeg_i, dMod_i, dDiv_i, dMul_r, dMul_l, dPow_18, dGtA_i, dLtA_i, dGtI_i, dLtI_i, dGeI_i, dLeI_i, dInt_i, dAbs_i, dLen_l, dLen_t, dTuple_l, dList_l, dList_t, dAdd_l, dAdd_t, tupOf_i, lstOf_i, seqOf_l, seqOf_t, range1_i, WpPut_i, WpPush_i, WpEnd_i, WpApp_i, dEq_i, dNe_i, dNe_bb, dEq_bb, bools_true, allT, isL, dCnt_s, dOnce_i, onceOf, dIs_n, dIs_b, enumOf_l, enumOf_t, zipOf_t, zipOf_l, zipD_c, zipD_n, dIsNot_n, gTup_t, gs_c, gs_n, range2_i, Option.bind_some, unpack, dRev_l, dRev_t, isInt, isBool, isTuple, isList, isStr, isN, isOwnL, dSumA_l, dSumA_t, dAll, dAny, bools, Option.map_some, List.all_cons, List.all_nil, List.any_cons, List.any_nil, id_eq, Bool.and_true, Bool.true_and, Bool.and_self, Bool.not_true, Bool.not_false, dSlice_l, dSlice_t, asI_i, decide_true, decide_false, Int.reduceLE, Int.reduceLT, Int.reduceToNat, Int.reduceNeg, Int.reduceAdd, Int.reduceSub, Int.reduceMul, Nat.reduceLeDiff, Nat.reduceLT, reduceIte, Int.reducePow, Int.cast_ofNat_Int, Int.toNat_one, Int.toNat_zero, Nat.zero_add, Nat.lt_add_one, Nat.zero_lt_succ, Int.reduceEq, Nat.reduceEqDiff, Int.toNat_natCast, h, h2, mod_lo, mod_hi]
    exact k _ _ _ (Int.emod_nonneg _ (by omega)) (Int.emod_lt_of_pos _ h)
theorem some_spec {c0 c1 : Int} {ds : List PyData} {Q : Sl → Ev → Prop} (h : 0 < ds.length) (h2 : ds.length < 1073741824) (k : ∀ d ∈ ds, ∀ a b : Int, Q (.dat d) [cup a b, .dat (.list ds)]) :
    Wm M.m_law_some Q [cup c0 c1, .dat (.list ds)] := by
  refine Wm_of rfl ?_
  unfold M.fb_law_some cup
  simp only [↓Wp_rIf, ↓Wp_seq, ↓Wp_seqN, ↓Wp_seqR, ↓Wp_seqB, ↓Wp_seqC, ↓Wp_next, ↓Wp_brk, ↓Wp_cnt, ↓Wp_set, ↓Wp_asg, ↓Wp_ret, ↓Wp_drop, ↓Wp_kill, ↓Wp_par, ↓Wp_ifs, ↓Wp_for, ↓forK_nx, ↓forK_cnt, ↓forK_brk, ↓forK_ret, ↓Wp_c, ↓Wp_var, ↓WpVar_d, ↓WpVar_o, ↓Wp_view, ↓Wp_andV, ↓Wp_orV, ↓Wp_chain, ↓Wp_bin, ↓Wp_andB, ↓Wp_orB, ↓Wp_yes, ↓Wp_push0, ↓Wp_pushN, ↓Wp_nil, ↓Wp_cons, ↓Wp_move, ↓WpMv_d, ↓WpMv_o, ↓WpMv_s, ↓Wp_cnil, ↓Wp_cval, ↓Wp_cbor, ↓Wp_call, ↓Wp_comp, ↓Wp_comp2, ↓retK_r, ↓retK_n, ↓forJ_nx, ↓forJ_cnt, ↓Wp_asDat, ↓Wp_asDatO, ↓Wp_asB, ↓Wp_tru, ↓Wp_bind, ↓Wp_ok, ↓Wp_lift, ↓Wp_ite, ↓Wp_lite, ↓Wp_aug, ↓WpAug_i, ↓Wp_dnewK, ↓Wp_dnewT, ↓Wp_putH, ↓WpPutH_d, ↓WpPutH_T, ↓Wp_put, ↓Wp_push, ↓Wp_end, ↓Wp_app, ↓WB_b, ↓Wi_true, ↓Wi_false, Wp_rIf, Wp_seq, Wp_seqN, Wp_seqR, Wp_seqB, Wp_seqC, Wp_next, Wp_brk, Wp_cnt, Wp_set, Wp_asg, Wp_ret, Wp_drop, Wp_kill, Wp_par, Wp_ifs, Wp_for, forK_nx, forK_cnt, forK_brk, forK_ret, Wp_c, Wp_var, WpVar_d, WpVar_o, Wp_view, Wp_andV, Wp_orV, Wp_chain, Wp_bin, Wp_andB, Wp_orB, Wp_yes, Wp_push0, Wp_pushN, Wp_nil, Wp_cons, Wp_move, WpMv_d, WpMv_o, WpMv_s, Wp_cnil, Wp_cval, Wp_cbor, Wp_call, Wp_comp, Wp_comp2, retK_r, retK_n, forJ_nx, forJ_cnt, Wp_asDat, Wp_asDatO, Wp_asB, Wp_tru, Wp_bind, Wp_ok, Wp_lift, Wp_ite, Wp_lite, Wp_aug, WpAug_i, Wp_dnewK, Wp_dnewT, Wp_putH, WpPutH_d, WpPutH_T, Wp_put, Wp_push, Wp_end, Wp_app, WB_b, Wi_true, Wi_false, Wq_run, argsOf_v, argsOf_b, argsOf_n, putBack_v, putBack_b, putBack_n, back_o, back_s, back_d, see_d, see_o, see_s, List.getElem?_cons_zero, List.getElem?_cons_succ, List.set_cons_zero, List.set_cons_succ, List.cons_append, List.nil_append, List.take_succ_cons, List.take_zero, List.length_cons, List.length_nil, List.dropLast_cons₂, List.dropLast_singleton, Option.getD_some, wipeE, restoreE, gN, List.replicate_zero, List.replicate_succ, Nat.reduceAdd, Nat.reduceSub, decide_eq_true_eq, Bool.true_eq_false, Bool.false_eq_true, reduceCtorEq, not_false_eq_true, see_d, see_o, see_s, ownS_o, WpAug_l, isS_d, isS_o, mkRg_l, mkRg_t, dMax2_i, dMin2_i, dIx_l, dIx_t, dAdd_i, dSub_i, dNeg_i, dMod_i, dDiv_i, dMul_r, dMul_l, dPow_18, dGtA_i, dLtA_i, dGtI_i, dLtI_i, dGeI_i, dLeI_i, dInt_i, dAbs_i, dLen_l, dLen_t, dTuple_l, dList_l, dList_t, dAdd_l, dAdd_t, tupOf_i, lstOf_i, seqOf_l, seqOf_t, range1_i, WpPut_i, WpPush_i, WpEnd_i, WpApp_i, dEq_i, dNe_i, dNe_bb, dEq_bb, bools_true, allT, isL, dCnt_s, dOnce_i, onceOf, dIs_n, dIs_b, enumOf_l, enumOf_t, zipOf_t, zipOf_l, zipD_c, zipD_n, dIsNot_n, gTup_t, gs_c, gs_n, range2_i, Option.bind_some, unpack, dRev_l, dRev_t, isInt, isBool, isTuple, isList, isStr, isN, isOwnL, dSumA_l, dSumA_t, dAll, dAny, bools, Option.map_some, List.all_cons, List.all_nil, List.any_cons, List.any_nil, id_eq, Bool.and_true, Bool.true_and, Bool.and_self, Bool.not_true, Bool.not_false, dSlice_l, dSlice_t, asI_i, decide_true, decide_false, Int.reduceLE, Int.reduceLT, Int.reduceToNat, Int.reduceNeg, Int.reduceAdd, Int.reduceSub, Int.reduceMul, Nat.reduceLeDiff, Nat.reduceLT, reduceIte, Int.reducePow, Int.cast_ofNat_Int, Int.toNat_one, Int.toNat_zero, Nat.zero_add, Nat.lt_add_one, Nat.zero_lt_succ, Int.reduceEq, Nat.reduceEqDiff, Int.toNat_natCast]
  refine roll_spec (by omega) (by omega) fun r a b h3 h4 => ?_
  have e : ds[r.toNat]? = some ds[r.toNat] := List.getElem?_eq_getElem (by omega)
  simp only [↓Wp_rIf, ↓Wp_seq, ↓Wp_seqN, ↓Wp_seqR, ↓Wp_seqB, ↓Wp_seqC, ↓Wp_next, ↓Wp_brk, ↓Wp_cnt, ↓Wp_set, ↓Wp_asg, ↓Wp_ret, ↓Wp_drop, ↓Wp_kill, ↓Wp_par, ↓Wp_ifs, ↓Wp_for, ↓forK_nx, ↓forK_cnt, ↓forK_brk, ↓forK_ret, ↓Wp_c, ↓Wp_var, ↓WpVar_d, ↓WpVar_o, ↓Wp_view, ↓Wp_andV, ↓Wp_orV, ↓Wp_chain, ↓Wp_bin, ↓Wp_andB, ↓Wp_orB, ↓Wp_yes, ↓Wp_push0, ↓Wp_pushN, ↓Wp_nil, ↓Wp_cons, ↓Wp_move, ↓WpMv_d, ↓WpMv_o, ↓WpMv_s, ↓Wp_cnil, ↓Wp_cval, ↓Wp_cbor, ↓Wp_call, ↓Wp_comp, ↓Wp_comp2, ↓retK_r, ↓retK_n, ↓forJ_nx, ↓forJ_cnt, ↓Wp_asDat, ↓Wp_asDatO, ↓Wp_asB, ↓Wp_tru, ↓Wp_bind, ↓Wp_ok, ↓Wp_lift, ↓Wp_ite, ↓Wp_lite, ↓Wp_aug, ↓WpAug_i, ↓Wp_dnewK, ↓Wp_dnewT, ↓Wp_putH, ↓WpPutH_d, ↓WpPutH_T, ↓Wp_put, ↓Wp_push, ↓Wp_end, ↓Wp_app, ↓WB_b, ↓Wi_true, ↓Wi_false, Wp_rIf, Wp_seq, Wp_seqN, Wp_seqR, Wp_seqB, Wp_seqC, Wp_next, Wp_brk, Wp_cnt, Wp_set, Wp_asg, Wp_ret, Wp_drop, Wp_kill, Wp_par, Wp_ifs, Wp_for, forK_nx, forK_cnt, forK_brk, forK_ret, Wp_c, Wp_var, WpVar_d, WpVar_o, Wp_view, Wp_andV, Wp_orV, Wp_chain, Wp_bin, Wp_andB, Wp_orB, Wp_yes, Wp_push0, Wp_pushN, Wp_nil, Wp_cons, Wp_move, WpMv_d, WpMv_o, WpMv_s, Wp_cnil, Wp_cval, Wp_cbor, Wp_call, Wp_comp, Wp_comp2, retK_r, retK_n, forJ_nx, forJ_cnt, Wp_asDat, Wp_asDatO, Wp_asB, Wp_tru, Wp_bind, Wp_ok, Wp_lift, Wp_ite, Wp_lite, Wp_aug, WpAug_i, Wp_dnewK, Wp_dnewT, Wp_putH, WpPutH_d, WpPutH_T, Wp_put, Wp_push, Wp_end, Wp_app, WB_b, Wi_true, Wi_false, Wq_run, argsOf_v, argsOf_b, argsOf_n, putBack_v, putBack_b, putBack_n, back_o, back_s, back_d, see_d, see_o, see_s, List.getElem?_cons_zero, List.getElem?_cons_succ, List.set_cons_zero, List.set_cons_succ, List.cons_append, List.nil_append, List.take_succ_cons, List.take_zero, List.length_cons, List.length_nil, List.dropLast_cons₂, List.dropLast_singleton, Option.getD_some, wipeE, restoreE, gN, List.replicate_zero, List.replicate_succ, Nat.reduceAdd, Nat.reduceSub, decide_eq_true_eq, Bool.true_eq_false, Bool.false_eq_true, reduceCtorEq, not_false_eq_true, see_d, see_o, see_s, ownS_o, WpAug_l, isS_d, isS_o, mkRg_l, mkRg_t, dMax2_i, dMin2_i, dIx_l, dIx_t, dAdd_i, dSub_i, dNeg_i, dMod_i, dDiv_i, dMul_r, dMul_l, dPow_18, dGtA_i, dLtA_i, dGtI_i, dLtI_i, dGeI_i, dLeI_i, dInt_i, dAbs_i, dLen_l, dLen_t, dTuple_l, dList_l, dList_t, dAdd_l, dAdd_t, tupOf_i, lstOf_i, seqOf_l, seqOf_t, range1_i, WpPut_i, WpPush_i, WpEnd_i, WpApp_i, dEq_i, dNe_i, dNe_bb, dEq_bb, bools_true, allT, isL, dCnt_s, dOnce_i, onceOf, dIs_n, dIs_b, enumOf_l, enumOf_t, zipOf_t, zipOf_l, zipD_c, zipD_n, dIsNot_n, gTup_t, gs_c, gs_n, range2_i, Option.bind_some, unpack, dRev_l, dRev_t, isInt, isBool, isTuple, isList, isStr, isN, isOwnL, dSumA_l, dSumA_t, dAll, dAny, bools, Option.map_some, List.all_cons, List.all_nil, List.any_cons, List.any_nil, id_eq, Bool.and_true, Bool.true_and, Bool.and_self, Bool.not_true, Bool.not_false, dSlice_l, dSlice_t, asI_i, decide_true, decide_false, Int.reduceLE, Int.reduceLT, Int.reduceToNat, Int.reduceNeg, Int.reduceAdd, Int.reduceSub, Int.reduceMul, Nat.reduceLeDiff, Nat.reduceLT, reduceIte, Int.reducePow, Int.cast_ofNat_Int, Int.toNat_one, Int.toNat_zero, Nat.zero_add, Nat.lt_add_one, Nat.zero_lt_succ, Int.reduceEq, Nat.reduceEqDiff, Int.toNat_natCast, h3, e]
  exact k _ (List.getElem_mem _) _ _
abbrev P4 (a b c d : Int) : PyData := .tuple [.int a, .int b, .int c, .int d]
def inP (h a b c d : Int) : Prop := (-h ≤ a ∧ a ≤ h) ∧ (-h ≤ b ∧ b ≤ h) ∧ (-h ≤ c ∧ c ≤ h) ∧ (-h ≤ d ∧ d ≤ h)
theorem upto4 : upto 4 = [.int 0, .int 1, .int 2, .int 3] := rfl
theorem piece_spec {c0 c1 h : Int} {Q : Sl → Ev → Prop} (h0 : 0 ≤ h) (h1 : h < 1000) (k : ∀ w x y z a b : Int, inP h w x y z → Q (.dat (P4 w x y z)) [cup a b, .dat (.int h)]) :
    Wm M.m_law_piece Q [cup c0 c1, .dat (.int h)] := by
  refine Wm_of rfl ?_
  unfold M.fb_law_piece cup
  simp only [↓Wp_rIf, ↓Wp_seq, ↓Wp_seqN, ↓Wp_seqR, ↓Wp_seqB, ↓Wp_seqC, ↓Wp_next, ↓Wp_brk, ↓Wp_cnt, ↓Wp_set, ↓Wp_asg, ↓Wp_ret, ↓Wp_drop, ↓Wp_kill, ↓Wp_par, ↓Wp_ifs, ↓Wp_for, ↓forK_nx, ↓forK_cnt, ↓forK_brk, ↓forK_ret, ↓Wp_c, ↓Wp_var, ↓WpVar_d, ↓WpVar_o, ↓Wp_view, ↓Wp_andV, ↓Wp_orV, ↓Wp_chain, ↓Wp_bin, ↓Wp_andB, ↓Wp_orB, ↓Wp_yes, ↓Wp_push0, ↓Wp_pushN, ↓Wp_nil, ↓Wp_cons, ↓Wp_move, ↓WpMv_d, ↓WpMv_o, ↓WpMv_s, ↓Wp_cnil, ↓Wp_cval, ↓Wp_cbor, ↓Wp_call, ↓Wp_comp, ↓Wp_comp2, ↓retK_r, ↓retK_n, ↓forJ_nx, ↓forJ_cnt, ↓Wp_asDat, ↓Wp_asDatO, ↓Wp_asB, ↓Wp_tru, ↓Wp_bind, ↓Wp_ok, ↓Wp_lift, ↓Wp_ite, ↓Wp_lite, ↓Wp_aug, ↓WpAug_i, ↓Wp_dnewK, ↓Wp_dnewT, ↓Wp_putH, ↓WpPutH_d, ↓WpPutH_T, ↓Wp_put, ↓Wp_push, ↓Wp_end, ↓Wp_app, ↓WB_b, ↓Wi_true, ↓Wi_false, Wp_rIf, Wp_seq, Wp_seqN, Wp_seqR, Wp_seqB, Wp_seqC, Wp_next, Wp_brk, Wp_cnt, Wp_set, Wp_asg, Wp_ret, Wp_drop, Wp_kill, Wp_par, Wp_ifs, Wp_for, forK_nx, forK_cnt, forK_brk, forK_ret, Wp_c, Wp_var, WpVar_d, WpVar_o, Wp_view, Wp_andV, Wp_orV, Wp_chain, Wp_bin, Wp_andB, Wp_orB, Wp_yes, Wp_push0, Wp_pushN, Wp_nil, Wp_cons, Wp_move, WpMv_d, WpMv_o, WpMv_s, Wp_cnil, Wp_cval, Wp_cbor, Wp_call, Wp_comp, Wp_comp2, retK_r, retK_n, forJ_nx, forJ_cnt, Wp_asDat, Wp_asDatO, Wp_asB, Wp_tru, Wp_bind, Wp_ok, Wp_lift, Wp_ite, Wp_lite, Wp_aug, WpAug_i, Wp_dnewK, Wp_dnewT, Wp_putH, WpPutH_d, WpPutH_T, Wp_put, Wp_push, Wp_end, Wp_app, WB_b, Wi_true, Wi_false, Wq_run, argsOf_v, argsOf_b, argsOf_n, putBack_v, putBack_b, putBack_n, back_o, back_s, back_d, see_d, see_o, see_s, List.getElem?_cons_zero, List.getElem?_cons_succ, List.set_cons_zero, List.set_cons_succ, List.cons_append, List.nil_append, List.take_succ_cons, List.take_zero, List.length_cons, List.length_nil, List.dropLast_cons₂, List.dropLast_singleton, Option.getD_some, wipeE, restoreE, gN, List.replicate_zero, List.replicate_succ, Nat.reduceAdd, Nat.reduceSub, decide_eq_true_eq, Bool.true_eq_false, Bool.false_eq_true, reduceCtorEq, not_false_eq_true, see_d, see_o, see_s, ownS_o, WpAug_l, isS_d, isS_o, mkRg_l, mkRg_t, dMax2_i, dMin2_i, dIx_l, dIx_t, dAdd_i, dSub_i, dNeg_i, dMod_i, dDiv_i, dMul_r, dMul_l, dPow_18, dGtA_i, dLtA_i, dGtI_i, dLtI_i, dGeI_i, dLeI_i, dInt_i, dAbs_i, dLen_l, dLen_t, dTuple_l, dList_l, dList_t, dAdd_l, dAdd_t, tupOf_i, lstOf_i, seqOf_l, seqOf_t, range1_i, WpPut_i, WpPush_i, WpEnd_i, WpApp_i, dEq_i, dNe_i, dNe_bb, dEq_bb, bools_true, allT, isL, dCnt_s, dOnce_i, onceOf, dIs_n, dIs_b, enumOf_l, enumOf_t, zipOf_t, zipOf_l, zipD_c, zipD_n, dIsNot_n, gTup_t, gs_c, gs_n, range2_i, Option.bind_some, unpack, dRev_l, dRev_t, isInt, isBool, isTuple, isList, isStr, isN, isOwnL, dSumA_l, dSumA_t, dAll, dAny, bools, Option.map_some, List.all_cons, List.all_nil, List.any_cons, List.any_nil, id_eq, Bool.and_true, Bool.true_and, Bool.and_self, Bool.not_true, Bool.not_false, dSlice_l, dSlice_t, asI_i, decide_true, decide_false, Int.reduceLE, Int.reduceLT, Int.reduceToNat, Int.reduceNeg, Int.reduceAdd, Int.reduceSub, Int.reduceMul, Nat.reduceLeDiff, Nat.reduceLT, reduceIte, Int.reducePow, Int.cast_ofNat_Int, Int.toNat_one, Int.toNat_zero, Nat.zero_add, Nat.lt_add_one, Nat.zero_lt_succ, Int.reduceEq, Nat.reduceEqDiff, Int.toNat_natCast, ↓Wp_forN, ↓Wp_forC, ↓Wp_goN, ↓Wp_goC, ↓Wp_go2N, ↓Wp_go2C, upto4]
  refine roll_spec (by omega) (by omega) fun r1 a b h3 h4 => ?_
  simp only [↓Wp_rIf, ↓Wp_seq, ↓Wp_seqN, ↓Wp_seqR, ↓Wp_seqB, ↓Wp_seqC, ↓Wp_next, ↓Wp_brk, ↓Wp_cnt, ↓Wp_set, ↓Wp_asg, ↓Wp_ret, ↓Wp_drop, ↓Wp_kill, ↓Wp_par, ↓Wp_ifs, ↓Wp_for, ↓forK_nx, ↓forK_cnt, ↓forK_brk, ↓forK_ret, ↓Wp_c, ↓Wp_var, ↓WpVar_d, ↓WpVar_o, ↓Wp_view, ↓Wp_andV, ↓Wp_orV, ↓Wp_chain, ↓Wp_bin, ↓Wp_andB, ↓Wp_orB, ↓Wp_yes, ↓Wp_push0, ↓Wp_pushN, ↓Wp_nil, ↓Wp_cons, ↓Wp_move, ↓WpMv_d, ↓WpMv_o, ↓WpMv_s, ↓Wp_cnil, ↓Wp_cval, ↓Wp_cbor, ↓Wp_call, ↓Wp_comp, ↓Wp_comp2, ↓retK_r, ↓retK_n, ↓forJ_nx, ↓forJ_cnt, ↓Wp_asDat, ↓Wp_asDatO, ↓Wp_asB, ↓Wp_tru, ↓Wp_bind, ↓Wp_ok, ↓Wp_lift, ↓Wp_ite, ↓Wp_lite, ↓Wp_aug, ↓WpAug_i, ↓Wp_dnewK, ↓Wp_dnewT, ↓Wp_putH, ↓WpPutH_d, ↓WpPutH_T, ↓Wp_put, ↓Wp_push, ↓Wp_end, ↓Wp_app, ↓WB_b, ↓Wi_true, ↓Wi_false, Wp_rIf, Wp_seq, Wp_seqN, Wp_seqR, Wp_seqB, Wp_seqC, Wp_next, Wp_brk, Wp_cnt, Wp_set, Wp_asg, Wp_ret, Wp_drop, Wp_kill, Wp_par, Wp_ifs, Wp_for, forK_nx, forK_cnt, forK_brk, forK_ret, Wp_c, Wp_var, WpVar_d, WpVar_o, Wp_view, Wp_andV, Wp_orV, Wp_chain, Wp_bin, Wp_andB, Wp_orB, Wp_yes, Wp_push0, Wp_pushN, Wp_nil, Wp_cons, Wp_move, WpMv_d, WpMv_o, WpMv_s, Wp_cnil, Wp_cval, Wp_cbor, Wp_call, Wp_comp, Wp_comp2, retK_r, retK_n, forJ_nx, forJ_cnt, Wp_asDat, Wp_asDatO, Wp_asB, Wp_tru, Wp_bind, Wp_ok, Wp_lift, Wp_ite, Wp_lite, Wp_aug, WpAug_i, Wp_dnewK, Wp_dnewT, Wp_putH, WpPutH_d, WpPutH_T, Wp_put, Wp_push, Wp_end, Wp_app, WB_b, Wi_true, Wi_false, Wq_run, argsOf_v, argsOf_b, argsOf_n, putBack_v, putBack_b, putBack_n, back_o, back_s, back_d, see_d, see_o, see_s, List.getElem?_cons_zero, List.getElem?_cons_succ, List.set_cons_zero, List.set_cons_succ, List.cons_append, List.nil_append, List.take_succ_cons, List.take_zero, List.length_cons, List.length_nil, List.dropLast_cons₂, List.dropLast_singleton, Option.getD_some, wipeE, restoreE, gN, List.replicate_zero, List.replicate_succ, Nat.reduceAdd, Nat.reduceSub, decide_eq_true_eq, Bool.true_eq_false, Bool.false_eq_true, reduceCtorEq, not_false_eq_true, see_d, see_o, see_s, ownS_o, WpAug_l, isS_d, isS_o, mkRg_l, mkRg_t, dMax2_i, dMin2_i, dIx_l, dIx_t, dAdd_i, dSub_i, dNeg_i, dMod_i, dDiv_i, dMul_r, dMul_l, dPow_18, dGtA_i, dLtA_i, dGtI_i, dLtI_i, dGeI_i, dLeI_i, dInt_i, dAbs_i, dLen_l, dLen_t, dTuple_l, dList_l, dList_t, dAdd_l, dAdd_t, tupOf_i, lstOf_i, seqOf_l, seqOf_t, range1_i, WpPut_i, WpPush_i, WpEnd_i, WpApp_i, dEq_i, dNe_i, dNe_bb, dEq_bb, bools_true, allT, isL, dCnt_s, dOnce_i, onceOf, dIs_n, dIs_b, enumOf_l, enumOf_t, zipOf_t, zipOf_l, zipD_c, zipD_n, dIsNot_n, gTup_t, gs_c, gs_n, range2_i, Option.bind_some, unpack, dRev_l, dRev_t, isInt, isBool, isTuple, isList, isStr, isN, isOwnL, dSumA_l, dSumA_t, dAll, dAny, bools, Option.map_some, List.all_cons, List.all_nil, List.any_cons, List.any_nil, id_eq, Bool.and_true, Bool.true_and, Bool.and_self, Bool.not_true, Bool.not_false, dSlice_l, dSlice_t, asI_i, decide_true, decide_false, Int.reduceLE, Int.reduceLT, Int.reduceToNat, Int.reduceNeg, Int.reduceAdd, Int.reduceSub, Int.reduceMul, Nat.reduceLeDiff, Nat.reduceLT, reduceIte, Int.reducePow, Int.cast_ofNat_Int, Int.toNat_one, Int.toNat_zero, Nat.zero_add, Nat.lt_add_one, Nat.zero_lt_succ, Int.reduceEq, Nat.reduceEqDiff, Int.toNat_natCast, ↓Wp_forN, ↓Wp_forC, ↓Wp_goN, ↓Wp_goC, ↓Wp_go2N, ↓Wp_go2C, upto4]
  refine roll_spec (by omega) (by omega) fun r2 a b h5 h6 => ?_
  simp only [↓Wp_rIf, ↓Wp_seq, ↓Wp_seqN, ↓Wp_seqR, ↓Wp_seqB, ↓Wp_seqC, ↓Wp_next, ↓Wp_brk, ↓Wp_cnt, ↓Wp_set, ↓Wp_asg, ↓Wp_ret, ↓Wp_drop, ↓Wp_kill, ↓Wp_par, ↓Wp_ifs, ↓Wp_for, ↓forK_nx, ↓forK_cnt, ↓forK_brk, ↓forK_ret, ↓Wp_c, ↓Wp_var, ↓WpVar_d, ↓WpVar_o, ↓Wp_view, ↓Wp_andV, ↓Wp_orV, ↓Wp_chain, ↓Wp_bin, ↓Wp_andB, ↓Wp_orB, ↓Wp_yes, ↓Wp_push0, ↓Wp_pushN, ↓Wp_nil, ↓Wp_cons, ↓Wp_move, ↓WpMv_d, ↓WpMv_o, ↓WpMv_s, ↓Wp_cnil, ↓Wp_cval, ↓Wp_cbor, ↓Wp_call, ↓Wp_comp, ↓Wp_comp2, ↓retK_r, ↓retK_n, ↓forJ_nx, ↓forJ_cnt, ↓Wp_asDat, ↓Wp_asDatO, ↓Wp_asB, ↓Wp_tru, ↓Wp_bind, ↓Wp_ok, ↓Wp_lift, ↓Wp_ite, ↓Wp_lite, ↓Wp_aug, ↓WpAug_i, ↓Wp_dnewK, ↓Wp_dnewT, ↓Wp_putH, ↓WpPutH_d, ↓WpPutH_T, ↓Wp_put, ↓Wp_push, ↓Wp_end, ↓Wp_app, ↓WB_b, ↓Wi_true, ↓Wi_false, Wp_rIf, Wp_seq, Wp_seqN, Wp_seqR, Wp_seqB, Wp_seqC, Wp_next, Wp_brk, Wp_cnt, Wp_set, Wp_asg, Wp_ret, Wp_drop, Wp_kill, Wp_par, Wp_ifs, Wp_for, forK_nx, forK_cnt, forK_brk, forK_ret, Wp_c, Wp_var, WpVar_d, WpVar_o, Wp_view, Wp_andV, Wp_orV, Wp_chain, Wp_bin, Wp_andB, Wp_orB, Wp_yes, Wp_push0, Wp_pushN, Wp_nil, Wp_cons, Wp_move, WpMv_d, WpMv_o, WpMv_s, Wp_cnil, Wp_cval, Wp_cbor, Wp_call, Wp_comp, Wp_comp2, retK_r, retK_n, forJ_nx, forJ_cnt, Wp_asDat, Wp_asDatO, Wp_asB, Wp_tru, Wp_bind, Wp_ok, Wp_lift, Wp_ite, Wp_lite, Wp_aug, WpAug_i, Wp_dnewK, Wp_dnewT, Wp_putH, WpPutH_d, WpPutH_T, Wp_put, Wp_push, Wp_end, Wp_app, WB_b, Wi_true, Wi_false, Wq_run, argsOf_v, argsOf_b, argsOf_n, putBack_v, putBack_b, putBack_n, back_o, back_s, back_d, see_d, see_o, see_s, List.getElem?_cons_zero, List.getElem?_cons_succ, List.set_cons_zero, List.set_cons_succ, List.cons_append, List.nil_append, List.take_succ_cons, List.take_zero, List.length_cons, List.length_nil, List.dropLast_cons₂, List.dropLast_singleton, Option.getD_some, wipeE, restoreE, gN, List.replicate_zero, List.replicate_succ, Nat.reduceAdd, Nat.reduceSub, decide_eq_true_eq, Bool.true_eq_false, Bool.false_eq_true, reduceCtorEq, not_false_eq_true, see_d, see_o, see_s, ownS_o, WpAug_l, isS_d, isS_o, mkRg_l, mkRg_t, dMax2_i, dMin2_i, dIx_l, dIx_t, dAdd_i, dSub_i, dNeg_i, dMod_i, dDiv_i, dMul_r, dMul_l, dPow_18, dGtA_i, dLtA_i, dGtI_i, dLtI_i, dGeI_i, dLeI_i, dInt_i, dAbs_i, dLen_l, dLen_t, dTuple_l, dList_l, dList_t, dAdd_l, dAdd_t, tupOf_i, lstOf_i, seqOf_l, seqOf_t, range1_i, WpPut_i, WpPush_i, WpEnd_i, WpApp_i, dEq_i, dNe_i, dNe_bb, dEq_bb, bools_true, allT, isL, dCnt_s, dOnce_i, onceOf, dIs_n, dIs_b, enumOf_l, enumOf_t, zipOf_t, zipOf_l, zipD_c, zipD_n, dIsNot_n, gTup_t, gs_c, gs_n, range2_i, Option.bind_some, unpack, dRev_l, dRev_t, isInt, isBool, isTuple, isList, isStr, isN, isOwnL, dSumA_l, dSumA_t, dAll, dAny, bools, Option.map_some, List.all_cons, List.all_nil, List.any_cons, List.any_nil, id_eq, Bool.and_true, Bool.true_and, Bool.and_self, Bool.not_true, Bool.not_false, dSlice_l, dSlice_t, asI_i, decide_true, decide_false, Int.reduceLE, Int.reduceLT, Int.reduceToNat, Int.reduceNeg, Int.reduceAdd, Int.reduceSub, Int.reduceMul, Nat.reduceLeDiff, Nat.reduceLT, reduceIte, Int.reducePow, Int.cast_ofNat_Int, Int.toNat_one, Int.toNat_zero, Nat.zero_add, Nat.lt_add_one, Nat.zero_lt_succ, Int.reduceEq, Nat.reduceEqDiff, Int.toNat_natCast, ↓Wp_forN, ↓Wp_forC, ↓Wp_goN, ↓Wp_goC, ↓Wp_go2N, ↓Wp_go2C, upto4]
  refine roll_spec (by omega) (by omega) fun r3 a b h7 h8 => ?_
  simp only [↓Wp_rIf, ↓Wp_seq, ↓Wp_seqN, ↓Wp_seqR, ↓Wp_seqB, ↓Wp_seqC, ↓Wp_next, ↓Wp_brk, ↓Wp_cnt, ↓Wp_set, ↓Wp_asg, ↓Wp_ret, ↓Wp_drop, ↓Wp_kill, ↓Wp_par, ↓Wp_ifs, ↓Wp_for, ↓forK_nx, ↓forK_cnt, ↓forK_brk, ↓forK_ret, ↓Wp_c, ↓Wp_var, ↓WpVar_d, ↓WpVar_o, ↓Wp_view, ↓Wp_andV, ↓Wp_orV, ↓Wp_chain, ↓Wp_bin, ↓Wp_andB, ↓Wp_orB, ↓Wp_yes, ↓Wp_push0, ↓Wp_pushN, ↓Wp_nil, ↓Wp_cons, ↓Wp_move, ↓WpMv_d, ↓WpMv_o, ↓WpMv_s, ↓Wp_cnil, ↓Wp_cval, ↓Wp_cbor, ↓Wp_call, ↓Wp_comp, ↓Wp_comp2, ↓retK_r, ↓retK_n, ↓forJ_nx, ↓forJ_cnt, ↓Wp_asDat, ↓Wp_asDatO, ↓Wp_asB, ↓Wp_tru, ↓Wp_bind, ↓Wp_ok, ↓Wp_lift, ↓Wp_ite, ↓Wp_lite, ↓Wp_aug, ↓WpAug_i, ↓Wp_dnewK, ↓Wp_dnewT, ↓Wp_putH, ↓WpPutH_d, ↓WpPutH_T, ↓Wp_put, ↓Wp_push, ↓Wp_end, ↓Wp_app, ↓WB_b, ↓Wi_true, ↓Wi_false, Wp_rIf, Wp_seq, Wp_seqN, Wp_seqR, Wp_seqB, Wp_seqC, Wp_next, Wp_brk, Wp_cnt, Wp_set, Wp_asg, Wp_ret, Wp_drop, Wp_kill, Wp_par, Wp_ifs, Wp_for, forK_nx, forK_cnt, forK_brk, forK_ret, Wp_c, Wp_var, WpVar_d, WpVar_o, Wp_view, Wp_andV, Wp_orV, Wp_chain, Wp_bin, Wp_andB, Wp_orB, Wp_yes, Wp_push0, Wp_pushN, Wp_nil, Wp_cons, Wp_move, WpMv_d, WpMv_o, WpMv_s, Wp_cnil, Wp_cval, Wp_cbor, Wp_call, Wp_comp, Wp_comp2, retK_r, retK_n, forJ_nx, forJ_cnt, Wp_asDat, Wp_asDatO, Wp_asB, Wp_tru, Wp_bind, Wp_ok, Wp_lift, Wp_ite, Wp_lite, Wp_aug, WpAug_i, Wp_dnewK, Wp_dnewT, Wp_putH, WpPutH_d, WpPutH_T, Wp_put, Wp_push, Wp_end, Wp_app, WB_b, Wi_true, Wi_false, Wq_run, argsOf_v, argsOf_b, argsOf_n, putBack_v, putBack_b, putBack_n, back_o, back_s, back_d, see_d, see_o, see_s, List.getElem?_cons_zero, List.getElem?_cons_succ, List.set_cons_zero, List.set_cons_succ, List.cons_append, List.nil_append, List.take_succ_cons, List.take_zero, List.length_cons, List.length_nil, List.dropLast_cons₂, List.dropLast_singleton, Option.getD_some, wipeE, restoreE, gN, List.replicate_zero, List.replicate_succ, Nat.reduceAdd, Nat.reduceSub, decide_eq_true_eq, Bool.true_eq_false, Bool.false_eq_true, reduceCtorEq, not_false_eq_true, see_d, see_o, see_s, ownS_o, WpAug_l, isS_d, isS_o, mkRg_l, mkRg_t, dMax2_i, dMin2_i, dIx_l, dIx_t, dAdd_i, dSub_i, dNeg_i, dMod_i, dDiv_i, dMul_r, dMul_l, dPow_18, dGtA_i, dLtA_i, dGtI_i, dLtI_i, dGeI_i, dLeI_i, dInt_i, dAbs_i, dLen_l, dLen_t, dTuple_l, dList_l, dList_t, dAdd_l, dAdd_t, tupOf_i, lstOf_i, seqOf_l, seqOf_t, range1_i, WpPut_i, WpPush_i, WpEnd_i, WpApp_i, dEq_i, dNe_i, dNe_bb, dEq_bb, bools_true, allT, isL, dCnt_s, dOnce_i, onceOf, dIs_n, dIs_b, enumOf_l, enumOf_t, zipOf_t, zipOf_l, zipD_c, zipD_n, dIsNot_n, gTup_t, gs_c, gs_n, range2_i, Option.bind_some, unpack, dRev_l, dRev_t, isInt, isBool, isTuple, isList, isStr, isN, isOwnL, dSumA_l, dSumA_t, dAll, dAny, bools, Option.map_some, List.all_cons, List.all_nil, List.any_cons, List.any_nil, id_eq, Bool.and_true, Bool.true_and, Bool.and_self, Bool.not_true, Bool.not_false, dSlice_l, dSlice_t, asI_i, decide_true, decide_false, Int.reduceLE, Int.reduceLT, Int.reduceToNat, Int.reduceNeg, Int.reduceAdd, Int.reduceSub, Int.reduceMul, Nat.reduceLeDiff, Nat.reduceLT, reduceIte, Int.reducePow, Int.cast_ofNat_Int, Int.toNat_one, Int.toNat_zero, Nat.zero_add, Nat.lt_add_one, Nat.zero_lt_succ, Int.reduceEq, Nat.reduceEqDiff, Int.toNat_natCast, ↓Wp_forN, ↓Wp_forC, ↓Wp_goN, ↓Wp_goC, ↓Wp_go2N, ↓Wp_go2C, upto4]
  refine roll_spec (by omega) (by omega) fun r4 a b h9 h10 => ?_
  simp only [↓Wp_rIf, ↓Wp_seq, ↓Wp_seqN, ↓Wp_seqR, ↓Wp_seqB, ↓Wp_seqC, ↓Wp_next, ↓Wp_brk, ↓Wp_cnt, ↓Wp_set, ↓Wp_asg, ↓Wp_ret, ↓Wp_drop, ↓Wp_kill, ↓Wp_par, ↓Wp_ifs, ↓Wp_for, ↓forK_nx, ↓forK_cnt, ↓forK_brk, ↓forK_ret, ↓Wp_c, ↓Wp_var, ↓WpVar_d, ↓WpVar_o, ↓Wp_view, ↓Wp_andV, ↓Wp_orV, ↓Wp_chain, ↓Wp_bin, ↓Wp_andB, ↓Wp_orB, ↓Wp_yes, ↓Wp_push0, ↓Wp_pushN, ↓Wp_nil, ↓Wp_cons, ↓Wp_move, ↓WpMv_d, ↓WpMv_o, ↓WpMv_s, ↓Wp_cnil, ↓Wp_cval, ↓Wp_cbor, ↓Wp_call, ↓Wp_comp, ↓Wp_comp2, ↓retK_r, ↓retK_n, ↓forJ_nx, ↓forJ_cnt, ↓Wp_asDat, ↓Wp_asDatO, ↓Wp_asB, ↓Wp_tru, ↓Wp_bind, ↓Wp_ok, ↓Wp_lift, ↓Wp_ite, ↓Wp_lite, ↓Wp_aug, ↓WpAug_i, ↓Wp_dnewK, ↓Wp_dnewT, ↓Wp_putH, ↓WpPutH_d, ↓WpPutH_T, ↓Wp_put, ↓Wp_push, ↓Wp_end, ↓Wp_app, ↓WB_b, ↓Wi_true, ↓Wi_false, Wp_rIf, Wp_seq, Wp_seqN, Wp_seqR, Wp_seqB, Wp_seqC, Wp_next, Wp_brk, Wp_cnt, Wp_set, Wp_asg, Wp_ret, Wp_drop, Wp_kill, Wp_par, Wp_ifs, Wp_for, forK_nx, forK_cnt, forK_brk, forK_ret, Wp_c, Wp_var, WpVar_d, WpVar_o, Wp_view, Wp_andV, Wp_orV, Wp_chain, Wp_bin, Wp_andB, Wp_orB, Wp_yes, Wp_push0, Wp_pushN, Wp_nil, Wp_cons, Wp_move, WpMv_d, WpMv_o, WpMv_s, Wp_cnil, Wp_cval, Wp_cbor, Wp_call, Wp_comp, Wp_comp2, retK_r, retK_n, forJ_nx, forJ_cnt, Wp_asDat, Wp_asDatO, Wp_asB, Wp_tru, Wp_bind, Wp_ok, Wp_lift, Wp_ite, Wp_lite, Wp_aug, WpAug_i, Wp_dnewK, Wp_dnewT, Wp_putH, WpPutH_d, WpPutH_T, Wp_put, Wp_push, Wp_end, Wp_app, WB_b, Wi_true, Wi_false, Wq_run, argsOf_v, argsOf_b, argsOf_n, putBack_v, putBack_b, putBack_n, back_o, back_s, back_d, see_d, see_o, see_s, List.getElem?_cons_zero, List.getElem?_cons_succ, List.set_cons_zero, List.set_cons_succ, List.cons_append, List.nil_append, List.take_succ_cons, List.take_zero, List.length_cons, List.length_nil, List.dropLast_cons₂, List.dropLast_singleton, Option.getD_some, wipeE, restoreE, gN, List.replicate_zero, List.replicate_succ, Nat.reduceAdd, Nat.reduceSub, decide_eq_true_eq, Bool.true_eq_false, Bool.false_eq_true, reduceCtorEq, not_false_eq_true, see_d, see_o, see_s, ownS_o, WpAug_l, isS_d, isS_o, mkRg_l, mkRg_t, dMax2_i, dMin2_i, dIx_l, dIx_t, dAdd_i, dSub_i, dNeg_i, dMod_i, dDiv_i, dMul_r, dMul_l, dPow_18, dGtA_i, dLtA_i, dGtI_i, dLtI_i, dGeI_i, dLeI_i, dInt_i, dAbs_i, dLen_l, dLen_t, dTuple_l, dList_l, dList_t, dAdd_l, dAdd_t, tupOf_i, lstOf_i, seqOf_l, seqOf_t, range1_i, WpPut_i, WpPush_i, WpEnd_i, WpApp_i, dEq_i, dNe_i, dNe_bb, dEq_bb, bools_true, allT, isL, dCnt_s, dOnce_i, onceOf, dIs_n, dIs_b, enumOf_l, enumOf_t, zipOf_t, zipOf_l, zipD_c, zipD_n, dIsNot_n, gTup_t, gs_c, gs_n, range2_i, Option.bind_some, unpack, dRev_l, dRev_t, isInt, isBool, isTuple, isList, isStr, isN, isOwnL, dSumA_l, dSumA_t, dAll, dAny, bools, Option.map_some, List.all_cons, List.all_nil, List.any_cons, List.any_nil, id_eq, Bool.and_true, Bool.true_and, Bool.and_self, Bool.not_true, Bool.not_false, dSlice_l, dSlice_t, asI_i, decide_true, decide_false, Int.reduceLE, Int.reduceLT, Int.reduceToNat, Int.reduceNeg, Int.reduceAdd, Int.reduceSub, Int.reduceMul, Nat.reduceLeDiff, Nat.reduceLT, reduceIte, Int.reducePow, Int.cast_ofNat_Int, Int.toNat_one, Int.toNat_zero, Nat.zero_add, Nat.lt_add_one, Nat.zero_lt_succ, Int.reduceEq, Nat.reduceEqDiff, Int.toNat_natCast, ↓Wp_forN, ↓Wp_forC, ↓Wp_goN, ↓Wp_goC, ↓Wp_go2N, ↓Wp_go2C, upto4]
  exact k _ _ _ _ _ _ ⟨by omega, by omega, by omega, by omega⟩
section
variable {a b c d h t w x y v : Int} {Q : Sl → Ev → Prop}
theorem fits_whole_eq {x lo hi : Int} (h1 : lo ≤ x) (h2 : x ≤ hi) : Wm M.m_fits_whole Q [.dat (.int x), .dat (.int lo), .dat (.int hi)] = Q (.dat (.bool true)) [.dat (.int x), .dat (.int lo), .dat (.int hi)] := by
  refine Wm_exact (Wm_of rfl ?_)
  unfold M.fb_fits_whole
  simp only [↓Wp_rIf, ↓Wp_seq, ↓Wp_seqN, ↓Wp_seqR, ↓Wp_seqB, ↓Wp_seqC, ↓Wp_next, ↓Wp_brk, ↓Wp_cnt, ↓Wp_set, ↓Wp_asg, ↓Wp_ret, ↓Wp_drop, ↓Wp_kill, ↓Wp_par, ↓Wp_ifs, ↓Wp_for, ↓forK_nx, ↓forK_cnt, ↓forK_brk, ↓forK_ret, ↓Wp_c, ↓Wp_var, ↓WpVar_d, ↓WpVar_o, ↓Wp_view, ↓Wp_andV, ↓Wp_orV, ↓Wp_chain, ↓Wp_bin, ↓Wp_andB, ↓Wp_orB, ↓Wp_yes, ↓Wp_push0, ↓Wp_pushN, ↓Wp_nil, ↓Wp_cons, ↓Wp_move, ↓WpMv_d, ↓WpMv_o, ↓WpMv_s, ↓Wp_cnil, ↓Wp_cval, ↓Wp_cbor, ↓Wp_call, ↓Wp_comp, ↓Wp_comp2, ↓retK_r, ↓retK_n, ↓forJ_nx, ↓forJ_cnt, ↓Wp_asDat, ↓Wp_asDatO, ↓Wp_asB, ↓Wp_tru, ↓Wp_bind, ↓Wp_ok, ↓Wp_lift, ↓Wp_ite, ↓Wp_lite, ↓Wp_aug, ↓WpAug_i, ↓Wp_dnewK, ↓Wp_dnewT, ↓Wp_putH, ↓WpPutH_d, ↓WpPutH_T, ↓Wp_put, ↓Wp_push, ↓Wp_end, ↓Wp_app, ↓WB_b, ↓Wi_true, ↓Wi_false, Wp_rIf, Wp_seq, Wp_seqN, Wp_seqR, Wp_seqB, Wp_seqC, Wp_next, Wp_brk, Wp_cnt, Wp_set, Wp_asg, Wp_ret, Wp_drop, Wp_kill, Wp_par, Wp_ifs, Wp_for, forK_nx, forK_cnt, forK_brk, forK_ret, Wp_c, Wp_var, WpVar_d, WpVar_o, Wp_view, Wp_andV, Wp_orV, Wp_chain, Wp_bin, Wp_andB, Wp_orB, Wp_yes, Wp_push0, Wp_pushN, Wp_nil, Wp_cons, Wp_move, WpMv_d, WpMv_o, WpMv_s, Wp_cnil, Wp_cval, Wp_cbor, Wp_call, Wp_comp, Wp_comp2, retK_r, retK_n, forJ_nx, forJ_cnt, Wp_asDat, Wp_asDatO, Wp_asB, Wp_tru, Wp_bind, Wp_ok, Wp_lift, Wp_ite, Wp_lite, Wp_aug, WpAug_i, Wp_dnewK, Wp_dnewT, Wp_putH, WpPutH_d, WpPutH_T, Wp_put, Wp_push, Wp_end, Wp_app, WB_b, Wi_true, Wi_false, Wq_run, argsOf_v, argsOf_b, argsOf_n, putBack_v, putBack_b, putBack_n, back_o, back_s, back_d, see_d, see_o, see_s, List.getElem?_cons_zero, List.getElem?_cons_succ, List.set_cons_zero, List.set_cons_succ, List.cons_append, List.nil_append, List.take_succ_cons, List.take_zero, List.length_cons, List.length_nil, List.dropLast_cons₂, List.dropLast_singleton, Option.getD_some, wipeE, restoreE, gN, List.replicate_zero, List.replicate_succ, Nat.reduceAdd, Nat.reduceSub, decide_eq_true_eq, Bool.true_eq_false, Bool.false_eq_true, reduceCtorEq, not_false_eq_true, see_d, see_o, see_s, ownS_o, WpAug_l, isS_d, isS_o, mkRg_l, mkRg_t, dMax2_i, dMin2_i, dIx_l, dIx_t, dAdd_i, dSub_i, dNeg_i, dMod_i, dDiv_i, dMul_r, dMul_l, dPow_18, dGtA_i, dLtA_i, dGtI_i, dLtI_i, dGeI_i, dLeI_i, dInt_i, dAbs_i, dLen_l, dLen_t, dTuple_l, dList_l, dList_t, dAdd_l, dAdd_t, tupOf_i, lstOf_i, seqOf_l, seqOf_t, range1_i, WpPut_i, WpPush_i, WpEnd_i, WpApp_i, dEq_i, dNe_i, dNe_bb, dEq_bb, bools_true, allT, isL, dCnt_s, dOnce_i, onceOf, dIs_n, dIs_b, enumOf_l, enumOf_t, zipOf_t, zipOf_l, zipD_c, zipD_n, dIsNot_n, gTup_t, gs_c, gs_n, range2_i, Option.bind_some, unpack, dRev_l, dRev_t, isInt, isBool, isTuple, isList, isStr, isN, isOwnL, dSumA_l, dSumA_t, dAll, dAny, bools, Option.map_some, List.all_cons, List.all_nil, List.any_cons, List.any_nil, id_eq, Bool.and_true, Bool.true_and, Bool.and_self, Bool.not_true, Bool.not_false, dSlice_l, dSlice_t, asI_i, decide_true, decide_false, Int.reduceLE, Int.reduceLT, Int.reduceToNat, Int.reduceNeg, Int.reduceAdd, Int.reduceSub, Int.reduceMul, Nat.reduceLeDiff, Nat.reduceLT, reduceIte, Int.reducePow, Int.cast_ofNat_Int, Int.toNat_one, Int.toNat_zero, Nat.zero_add, Nat.lt_add_one, Nat.zero_lt_succ, Int.reduceEq, Nat.reduceEqDiff, Int.toNat_natCast]
  refine Wm_of rfl ?_
  unfold M.fb_is_whole
  simp only [↓Wp_rIf, ↓Wp_seq, ↓Wp_seqN, ↓Wp_seqR, ↓Wp_seqB, ↓Wp_seqC, ↓Wp_next, ↓Wp_brk, ↓Wp_cnt, ↓Wp_set, ↓Wp_asg, ↓Wp_ret, ↓Wp_drop, ↓Wp_kill, ↓Wp_par, ↓Wp_ifs, ↓Wp_for, ↓forK_nx, ↓forK_cnt, ↓forK_brk, ↓forK_ret, ↓Wp_c, ↓Wp_var, ↓WpVar_d, ↓WpVar_o, ↓Wp_view, ↓Wp_andV, ↓Wp_orV, ↓Wp_chain, ↓Wp_bin, ↓Wp_andB, ↓Wp_orB, ↓Wp_yes, ↓Wp_push0, ↓Wp_pushN, ↓Wp_nil, ↓Wp_cons, ↓Wp_move, ↓WpMv_d, ↓WpMv_o, ↓WpMv_s, ↓Wp_cnil, ↓Wp_cval, ↓Wp_cbor, ↓Wp_call, ↓Wp_comp, ↓Wp_comp2, ↓retK_r, ↓retK_n, ↓forJ_nx, ↓forJ_cnt, ↓Wp_asDat, ↓Wp_asDatO, ↓Wp_asB, ↓Wp_tru, ↓Wp_bind, ↓Wp_ok, ↓Wp_lift, ↓Wp_ite, ↓Wp_lite, ↓Wp_aug, ↓WpAug_i, ↓Wp_dnewK, ↓Wp_dnewT, ↓Wp_putH, ↓WpPutH_d, ↓WpPutH_T, ↓Wp_put, ↓Wp_push, ↓Wp_end, ↓Wp_app, ↓WB_b, ↓Wi_true, ↓Wi_false, Wp_rIf, Wp_seq, Wp_seqN, Wp_seqR, Wp_seqB, Wp_seqC, Wp_next, Wp_brk, Wp_cnt, Wp_set, Wp_asg, Wp_ret, Wp_drop, Wp_kill, Wp_par, Wp_ifs, Wp_for, forK_nx, forK_cnt, forK_brk, forK_ret, Wp_c, Wp_var, WpVar_d, WpVar_o, Wp_view, Wp_andV, Wp_orV, Wp_chain, Wp_bin, Wp_andB, Wp_orB, Wp_yes, Wp_push0, Wp_pushN, Wp_nil, Wp_cons, Wp_move, WpMv_d, WpMv_o, WpMv_s, Wp_cnil, Wp_cval, Wp_cbor, Wp_call, Wp_comp, Wp_comp2, retK_r, retK_n, forJ_nx, forJ_cnt, Wp_asDat, Wp_asDatO, Wp_asB, Wp_tru, Wp_bind, Wp_ok, Wp_lift, Wp_ite, Wp_lite, Wp_aug, WpAug_i, Wp_dnewK, Wp_dnewT, Wp_putH, WpPutH_d, WpPutH_T, Wp_put, Wp_push, Wp_end, Wp_app, WB_b, Wi_true, Wi_false, Wq_run, argsOf_v, argsOf_b, argsOf_n, putBack_v, putBack_b, putBack_n, back_o, back_s, back_d, see_d, see_o, see_s, List.getElem?_cons_zero, List.getElem?_cons_succ, List.set_cons_zero, List.set_cons_succ, List.cons_append, List.nil_append, List.take_succ_cons, List.take_zero, List.length_cons, List.length_nil, List.dropLast_cons₂, List.dropLast_singleton, Option.getD_some, wipeE, restoreE, gN, List.replicate_zero, List.replicate_succ, Nat.reduceAdd, Nat.reduceSub, decide_eq_true_eq, Bool.true_eq_false, Bool.false_eq_true, reduceCtorEq, not_false_eq_true, see_d, see_o, see_s, ownS_o, WpAug_l, isS_d, isS_o, mkRg_l, mkRg_t, dMax2_i, dMin2_i, dIx_l, dIx_t, dAdd_i, dSub_i, dNeg_i, dMod_i, dDiv_i, dMul_r, dMul_l, dPow_18, dGtA_i, dLtA_i, dGtI_i, dLtI_i, dGeI_i, dLeI_i, dInt_i, dAbs_i, dLen_l, dLen_t, dTuple_l, dList_l, dList_t, dAdd_l, dAdd_t, tupOf_i, lstOf_i, seqOf_l, seqOf_t, range1_i, WpPut_i, WpPush_i, WpEnd_i, WpApp_i, dEq_i, dNe_i, dNe_bb, dEq_bb, bools_true, allT, isL, dCnt_s, dOnce_i, onceOf, dIs_n, dIs_b, enumOf_l, enumOf_t, zipOf_t, zipOf_l, zipD_c, zipD_n, dIsNot_n, gTup_t, gs_c, gs_n, range2_i, Option.bind_some, unpack, dRev_l, dRev_t, isInt, isBool, isTuple, isList, isStr, isN, isOwnL, dSumA_l, dSumA_t, dAll, dAny, bools, Option.map_some, List.all_cons, List.all_nil, List.any_cons, List.any_nil, id_eq, Bool.and_true, Bool.true_and, Bool.and_self, Bool.not_true, Bool.not_false, dSlice_l, dSlice_t, asI_i, decide_true, decide_false, Int.reduceLE, Int.reduceLT, Int.reduceToNat, Int.reduceNeg, Int.reduceAdd, Int.reduceSub, Int.reduceMul, Nat.reduceLeDiff, Nat.reduceLT, reduceIte, Int.reducePow, Int.cast_ofNat_Int, Int.toNat_one, Int.toNat_zero, Nat.zero_add, Nat.lt_add_one, Nat.zero_lt_succ, Int.reduceEq, Nat.reduceEqDiff, Int.toNat_natCast, h1, h2]
  exact ⟨trivial, trivial⟩
theorem fits_edge_eq {x : Int} (h1 : -9 ≤ x) (h2 : x ≤ 9) : Wm M.m_fits_edge Q [.dat (.int x)] = Q (.dat (.bool true)) [.dat (.int x)] := by
  refine Wm_exact (Wm_of rfl ?_)
  unfold M.fb_fits_edge
  simp only [↓Wp_rIf, ↓Wp_seq, ↓Wp_seqN, ↓Wp_seqR, ↓Wp_seqB, ↓Wp_seqC, ↓Wp_next, ↓Wp_brk, ↓Wp_cnt, ↓Wp_set, ↓Wp_asg, ↓Wp_ret, ↓Wp_drop, ↓Wp_kill, ↓Wp_par, ↓Wp_ifs, ↓Wp_for, ↓forK_nx, ↓forK_cnt, ↓forK_brk, ↓forK_ret, ↓Wp_c, ↓Wp_var, ↓WpVar_d, ↓WpVar_o, ↓Wp_view, ↓Wp_andV, ↓Wp_orV, ↓Wp_chain, ↓Wp_bin, ↓Wp_andB, ↓Wp_orB, ↓Wp_yes, ↓Wp_push0, ↓Wp_pushN, ↓Wp_nil, ↓Wp_cons, ↓Wp_move, ↓WpMv_d, ↓WpMv_o, ↓WpMv_s, ↓Wp_cnil, ↓Wp_cval, ↓Wp_cbor, ↓Wp_call, ↓Wp_comp, ↓Wp_comp2, ↓retK_r, ↓retK_n, ↓forJ_nx, ↓forJ_cnt, ↓Wp_asDat, ↓Wp_asDatO, ↓Wp_asB, ↓Wp_tru, ↓Wp_bind, ↓Wp_ok, ↓Wp_lift, ↓Wp_ite, ↓Wp_lite, ↓Wp_aug, ↓WpAug_i, ↓Wp_dnewK, ↓Wp_dnewT, ↓Wp_putH, ↓WpPutH_d, ↓WpPutH_T, ↓Wp_put, ↓Wp_push, ↓Wp_end, ↓Wp_app, ↓WB_b, ↓Wi_true, ↓Wi_false, Wp_rIf, Wp_seq, Wp_seqN, Wp_seqR, Wp_seqB, Wp_seqC, Wp_next, Wp_brk, Wp_cnt, Wp_set, Wp_asg, Wp_ret, Wp_drop, Wp_kill, Wp_par, Wp_ifs, Wp_for, forK_nx, forK_cnt, forK_brk, forK_ret, Wp_c, Wp_var, WpVar_d, WpVar_o, Wp_view, Wp_andV, Wp_orV, Wp_chain, Wp_bin, Wp_andB, Wp_orB, Wp_yes, Wp_push0, Wp_pushN, Wp_nil, Wp_cons, Wp_move, WpMv_d, WpMv_o, WpMv_s, Wp_cnil, Wp_cval, Wp_cbor, Wp_call, Wp_comp, Wp_comp2, retK_r, retK_n, forJ_nx, forJ_cnt, Wp_asDat, Wp_asDatO, Wp_asB, Wp_tru, Wp_bind, Wp_ok, Wp_lift, Wp_ite, Wp_lite, Wp_aug, WpAug_i, Wp_dnewK, Wp_dnewT, Wp_putH, WpPutH_d, WpPutH_T, Wp_put, Wp_push, Wp_end, Wp_app, WB_b, Wi_true, Wi_false, Wq_run, argsOf_v, argsOf_b, argsOf_n, putBack_v, putBack_b, putBack_n, back_o, back_s, back_d, see_d, see_o, see_s, List.getElem?_cons_zero, List.getElem?_cons_succ, List.set_cons_zero, List.set_cons_succ, List.cons_append, List.nil_append, List.take_succ_cons, List.take_zero, List.length_cons, List.length_nil, List.dropLast_cons₂, List.dropLast_singleton, Option.getD_some, wipeE, restoreE, gN, List.replicate_zero, List.replicate_succ, Nat.reduceAdd, Nat.reduceSub, decide_eq_true_eq, Bool.true_eq_false, Bool.false_eq_true, reduceCtorEq, not_false_eq_true, see_d, see_o, see_s, ownS_o, WpAug_l, isS_d, isS_o, mkRg_l, mkRg_t, dMax2_i, dMin2_i, dIx_l, dIx_t, dAdd_i, dSub_i, dNeg_i, dMod_i, dDiv_i, dMul_r, dMul_l, dPow_18, dGtA_i, dLtA_i, dGtI_i, dLtI_i, dGeI_i, dLeI_i, dInt_i, dAbs_i, dLen_l, dLen_t, dTuple_l, dList_l, dList_t, dAdd_l, dAdd_t, tupOf_i, lstOf_i, seqOf_l, seqOf_t, range1_i, WpPut_i, WpPush_i, WpEnd_i, WpApp_i, dEq_i, dNe_i, dNe_bb, dEq_bb, bools_true, allT, isL, dCnt_s, dOnce_i, onceOf, dIs_n, dIs_b, enumOf_l, enumOf_t, zipOf_t, zipOf_l, zipD_c, zipD_n, dIsNot_n, gTup_t, gs_c, gs_n, range2_i, Option.bind_some, unpack, dRev_l, dRev_t, isInt, isBool, isTuple, isList, isStr, isN, isOwnL, dSumA_l, dSumA_t, dAll, dAny, bools, Option.map_some, List.all_cons, List.all_nil, List.any_cons, List.any_nil, id_eq, Bool.and_true, Bool.true_and, Bool.and_self, Bool.not_true, Bool.not_false, dSlice_l, dSlice_t, asI_i, decide_true, decide_false, Int.reduceLE, Int.reduceLT, Int.reduceToNat, Int.reduceNeg, Int.reduceAdd, Int.reduceSub, Int.reduceMul, Nat.reduceLeDiff, Nat.reduceLT, reduceIte, Int.reducePow, Int.cast_ofNat_Int, Int.toNat_one, Int.toNat_zero, Nat.zero_add, Nat.lt_add_one, Nat.zero_lt_succ, Int.reduceEq, Nat.reduceEqDiff, Int.toNat_natCast]
  refine Wm_of rfl ?_
  unfold M.fb_fits_whole
  simp only [↓Wp_rIf, ↓Wp_seq, ↓Wp_seqN, ↓Wp_seqR, ↓Wp_seqB, ↓Wp_seqC, ↓Wp_next, ↓Wp_brk, ↓Wp_cnt, ↓Wp_set, ↓Wp_asg, ↓Wp_ret, ↓Wp_drop, ↓Wp_kill, ↓Wp_par, ↓Wp_ifs, ↓Wp_for, ↓forK_nx, ↓forK_cnt, ↓forK_brk, ↓forK_ret, ↓Wp_c, ↓Wp_var, ↓WpVar_d, ↓WpVar_o, ↓Wp_view, ↓Wp_andV, ↓Wp_orV, ↓Wp_chain, ↓Wp_bin, ↓Wp_andB, ↓Wp_orB, ↓Wp_yes, ↓Wp_push0, ↓Wp_pushN, ↓Wp_nil, ↓Wp_cons, ↓Wp_move, ↓WpMv_d, ↓WpMv_o, ↓WpMv_s, ↓Wp_cnil, ↓Wp_cval, ↓Wp_cbor, ↓Wp_call, ↓Wp_comp, ↓Wp_comp2, ↓retK_r, ↓retK_n, ↓forJ_nx, ↓forJ_cnt, ↓Wp_asDat, ↓Wp_asDatO, ↓Wp_asB, ↓Wp_tru, ↓Wp_bind, ↓Wp_ok, ↓Wp_lift, ↓Wp_ite, ↓Wp_lite, ↓Wp_aug, ↓WpAug_i, ↓Wp_dnewK, ↓Wp_dnewT, ↓Wp_putH, ↓WpPutH_d, ↓WpPutH_T, ↓Wp_put, ↓Wp_push, ↓Wp_end, ↓Wp_app, ↓WB_b, ↓Wi_true, ↓Wi_false, Wp_rIf, Wp_seq, Wp_seqN, Wp_seqR, Wp_seqB, Wp_seqC, Wp_next, Wp_brk, Wp_cnt, Wp_set, Wp_asg, Wp_ret, Wp_drop, Wp_kill, Wp_par, Wp_ifs, Wp_for, forK_nx, forK_cnt, forK_brk, forK_ret, Wp_c, Wp_var, WpVar_d, WpVar_o, Wp_view, Wp_andV, Wp_orV, Wp_chain, Wp_bin, Wp_andB, Wp_orB, Wp_yes, Wp_push0, Wp_pushN, Wp_nil, Wp_cons, Wp_move, WpMv_d, WpMv_o, WpMv_s, Wp_cnil, Wp_cval, Wp_cbor, Wp_call, Wp_comp, Wp_comp2, retK_r, retK_n, forJ_nx, forJ_cnt, Wp_asDat, Wp_asDatO, Wp_asB, Wp_tru, Wp_bind, Wp_ok, Wp_lift, Wp_ite, Wp_lite, Wp_aug, WpAug_i, Wp_dnewK, Wp_dnewT, Wp_putH, WpPutH_d, WpPutH_T, Wp_put, Wp_push, Wp_end, Wp_app, WB_b, Wi_true, Wi_false, Wq_run, argsOf_v, argsOf_b, argsOf_n, putBack_v, putBack_b, putBack_n, back_o, back_s, back_d, see_d, see_o, see_s, List.getElem?_cons_zero, List.getElem?_cons_succ, List.set_cons_zero, List.set_cons_succ, List.cons_append, List.nil_append, List.take_succ_cons, List.take_zero, List.length_cons, List.length_nil, List.dropLast_cons₂, List.dropLast_singleton, Option.getD_some, wipeE, restoreE, gN, List.replicate_zero, List.replicate_succ, Nat.reduceAdd, Nat.reduceSub, decide_eq_true_eq, Bool.true_eq_false, Bool.false_eq_true, reduceCtorEq, not_false_eq_true, see_d, see_o, see_s, ownS_o, WpAug_l, isS_d, isS_o, mkRg_l, mkRg_t, dMax2_i, dMin2_i, dIx_l, dIx_t, dAdd_i, dSub_i, dNeg_i, dMod_i, dDiv_i, dMul_r, dMul_l, dPow_18, dGtA_i, dLtA_i, dGtI_i, dLtI_i, dGeI_i, dLeI_i, dInt_i, dAbs_i, dLen_l, dLen_t, dTuple_l, dList_l, dList_t, dAdd_l, dAdd_t, tupOf_i, lstOf_i, seqOf_l, seqOf_t, range1_i, WpPut_i, WpPush_i, WpEnd_i, WpApp_i, dEq_i, dNe_i, dNe_bb, dEq_bb, bools_true, allT, isL, dCnt_s, dOnce_i, onceOf, dIs_n, dIs_b, enumOf_l, enumOf_t, zipOf_t, zipOf_l, zipD_c, zipD_n, dIsNot_n, gTup_t, gs_c, gs_n, range2_i, Option.bind_some, unpack, dRev_l, dRev_t, isInt, isBool, isTuple, isList, isStr, isN, isOwnL, dSumA_l, dSumA_t, dAll, dAny, bools, Option.map_some, List.all_cons, List.all_nil, List.any_cons, List.any_nil, id_eq, Bool.and_true, Bool.true_and, Bool.and_self, Bool.not_true, Bool.not_false, dSlice_l, dSlice_t, asI_i, decide_true, decide_false, Int.reduceLE, Int.reduceLT, Int.reduceToNat, Int.reduceNeg, Int.reduceAdd, Int.reduceSub, Int.reduceMul, Nat.reduceLeDiff, Nat.reduceLT, reduceIte, Int.reducePow, Int.cast_ofNat_Int, Int.toNat_one, Int.toNat_zero, Nat.zero_add, Nat.lt_add_one, Nat.zero_lt_succ, Int.reduceEq, Nat.reduceEqDiff, Int.toNat_natCast]
  refine Wm_of rfl ?_
  unfold M.fb_is_whole
  simp only [↓Wp_rIf, ↓Wp_seq, ↓Wp_seqN, ↓Wp_seqR, ↓Wp_seqB, ↓Wp_seqC, ↓Wp_next, ↓Wp_brk, ↓Wp_cnt, ↓Wp_set, ↓Wp_asg, ↓Wp_ret, ↓Wp_drop, ↓Wp_kill, ↓Wp_par, ↓Wp_ifs, ↓Wp_for, ↓forK_nx, ↓forK_cnt, ↓forK_brk, ↓forK_ret, ↓Wp_c, ↓Wp_var, ↓WpVar_d, ↓WpVar_o, ↓Wp_view, ↓Wp_andV, ↓Wp_orV, ↓Wp_chain, ↓Wp_bin, ↓Wp_andB, ↓Wp_orB, ↓Wp_yes, ↓Wp_push0, ↓Wp_pushN, ↓Wp_nil, ↓Wp_cons, ↓Wp_move, ↓WpMv_d, ↓WpMv_o, ↓WpMv_s, ↓Wp_cnil, ↓Wp_cval, ↓Wp_cbor, ↓Wp_call, ↓Wp_comp, ↓Wp_comp2, ↓retK_r, ↓retK_n, ↓forJ_nx, ↓forJ_cnt, ↓Wp_asDat, ↓Wp_asDatO, ↓Wp_asB, ↓Wp_tru, ↓Wp_bind, ↓Wp_ok, ↓Wp_lift, ↓Wp_ite, ↓Wp_lite, ↓Wp_aug, ↓WpAug_i, ↓Wp_dnewK, ↓Wp_dnewT, ↓Wp_putH, ↓WpPutH_d, ↓WpPutH_T, ↓Wp_put, ↓Wp_push, ↓Wp_end, ↓Wp_app, ↓WB_b, ↓Wi_true, ↓Wi_false, Wp_rIf, Wp_seq, Wp_seqN, Wp_seqR, Wp_seqB, Wp_seqC, Wp_next, Wp_brk, Wp_cnt, Wp_set, Wp_asg, Wp_ret, Wp_drop, Wp_kill, Wp_par, Wp_ifs, Wp_for, forK_nx, forK_cnt, forK_brk, forK_ret, Wp_c, Wp_var, WpVar_d, WpVar_o, Wp_view, Wp_andV, Wp_orV, Wp_chain, Wp_bin, Wp_andB, Wp_orB, Wp_yes, Wp_push0, Wp_pushN, Wp_nil, Wp_cons, Wp_move, WpMv_d, WpMv_o, WpMv_s, Wp_cnil, Wp_cval, Wp_cbor, Wp_call, Wp_comp, Wp_comp2, retK_r, retK_n, forJ_nx, forJ_cnt, Wp_asDat, Wp_asDatO, Wp_asB, Wp_tru, Wp_bind, Wp_ok, Wp_lift, Wp_ite, Wp_lite, Wp_aug, WpAug_i, Wp_dnewK, Wp_dnewT, Wp_putH, WpPutH_d, WpPutH_T, Wp_put, Wp_push, Wp_end, Wp_app, WB_b, Wi_true, Wi_false, Wq_run, argsOf_v, argsOf_b, argsOf_n, putBack_v, putBack_b, putBack_n, back_o, back_s, back_d, see_d, see_o, see_s, List.getElem?_cons_zero, List.getElem?_cons_succ, List.set_cons_zero, List.set_cons_succ, List.cons_append, List.nil_append, List.take_succ_cons, List.take_zero, List.length_cons, List.length_nil, List.dropLast_cons₂, List.dropLast_singleton, Option.getD_some, wipeE, restoreE, gN, List.replicate_zero, List.replicate_succ, Nat.reduceAdd, Nat.reduceSub, decide_eq_true_eq, Bool.true_eq_false, Bool.false_eq_true, reduceCtorEq, not_false_eq_true, see_d, see_o, see_s, ownS_o, WpAug_l, isS_d, isS_o, mkRg_l, mkRg_t, dMax2_i, dMin2_i, dIx_l, dIx_t, dAdd_i, dSub_i, dNeg_i, dMod_i, dDiv_i, dMul_r, dMul_l, dPow_18, dGtA_i, dLtA_i, dGtI_i, dLtI_i, dGeI_i, dLeI_i, dInt_i, dAbs_i, dLen_l, dLen_t, dTuple_l, dList_l, dList_t, dAdd_l, dAdd_t, tupOf_i, lstOf_i, seqOf_l, seqOf_t, range1_i, WpPut_i, WpPush_i, WpEnd_i, WpApp_i, dEq_i, dNe_i, dNe_bb, dEq_bb, bools_true, allT, isL, dCnt_s, dOnce_i, onceOf, dIs_n, dIs_b, enumOf_l, enumOf_t, zipOf_t, zipOf_l, zipD_c, zipD_n, dIsNot_n, gTup_t, gs_c, gs_n, range2_i, Option.bind_some, unpack, dRev_l, dRev_t, isInt, isBool, isTuple, isList, isStr, isN, isOwnL, dSumA_l, dSumA_t, dAll, dAny, bools, Option.map_some, List.all_cons, List.all_nil, List.any_cons, List.any_nil, id_eq, Bool.and_true, Bool.true_and, Bool.and_self, Bool.not_true, Bool.not_false, dSlice_l, dSlice_t, asI_i, decide_true, decide_false, Int.reduceLE, Int.reduceLT, Int.reduceToNat, Int.reduceNeg, Int.reduceAdd, Int.reduceSub, Int.reduceMul, Nat.reduceLeDiff, Nat.reduceLT, reduceIte, Int.reducePow, Int.cast_ofNat_Int, Int.toNat_one, Int.toNat_zero, Nat.zero_add, Nat.lt_add_one, Nat.zero_lt_succ, Int.reduceEq, Nat.reduceEqDiff, Int.toNat_natCast, h1, h2]
  exact ⟨trivial, trivial⟩
theorem fits_piece_eq (z : inP 9 a b c d) : Wm M.m_fits_piece Q [.dat (P4 a b c d)] = Q (.dat (.bool true)) [.dat (P4 a b c d)] := by
  obtain ⟨⟨a1, a2⟩, ⟨b1, b2⟩, ⟨c1, c2⟩, ⟨d1, d2⟩⟩ := z
  refine Wm_exact (Wm_of rfl ?_)
  unfold M.fb_fits_piece
  simp only [↓Wp_rIf, ↓Wp_seq, ↓Wp_seqN, ↓Wp_seqR, ↓Wp_seqB, ↓Wp_seqC, ↓Wp_next, ↓Wp_brk, ↓Wp_cnt, ↓Wp_set, ↓Wp_asg, ↓Wp_ret, ↓Wp_drop, ↓Wp_kill, ↓Wp_par, ↓Wp_ifs, ↓Wp_for, ↓forK_nx, ↓forK_cnt, ↓forK_brk, ↓forK_ret, ↓Wp_c, ↓Wp_var, ↓WpVar_d, ↓WpVar_o, ↓Wp_view, ↓Wp_andV, ↓Wp_orV, ↓Wp_chain, ↓Wp_bin, ↓Wp_andB, ↓Wp_orB, ↓Wp_yes, ↓Wp_push0, ↓Wp_pushN, ↓Wp_nil, ↓Wp_cons, ↓Wp_move, ↓WpMv_d, ↓WpMv_o, ↓WpMv_s, ↓Wp_cnil, ↓Wp_cval, ↓Wp_cbor, ↓Wp_call, ↓Wp_comp, ↓Wp_comp2, ↓retK_r, ↓retK_n, ↓forJ_nx, ↓forJ_cnt, ↓Wp_asDat, ↓Wp_asDatO, ↓Wp_asB, ↓Wp_tru, ↓Wp_bind, ↓Wp_ok, ↓Wp_lift, ↓Wp_ite, ↓Wp_lite, ↓Wp_aug, ↓WpAug_i, ↓Wp_dnewK, ↓Wp_dnewT, ↓Wp_putH, ↓WpPutH_d, ↓WpPutH_T, ↓Wp_put, ↓Wp_push, ↓Wp_end, ↓Wp_app, ↓WB_b, ↓Wi_true, ↓Wi_false, Wp_rIf, Wp_seq, Wp_seqN, Wp_seqR, Wp_seqB, Wp_seqC, Wp_next, Wp_brk, Wp_cnt, Wp_set, Wp_asg, Wp_ret, Wp_drop, Wp_kill, Wp_par, Wp_ifs, Wp_for, forK_nx, forK_cnt, forK_brk, forK_ret, Wp_c, Wp_var, WpVar_d, WpVar_o, Wp_view, Wp_andV, Wp_orV, Wp_chain, Wp_bin, Wp_andB, Wp_orB, Wp_yes, Wp_push0, Wp_pushN, Wp_nil, Wp_cons, Wp_move, WpMv_d, WpMv_o, WpMv_s, Wp_cnil, Wp_cval, Wp_cbor, Wp_call, Wp_comp, Wp_comp2, retK_r, retK_n, forJ_nx, forJ_cnt, Wp_asDat, Wp_asDatO, Wp_asB, Wp_tru, Wp_bind, Wp_ok, Wp_lift, Wp_ite, Wp_lite, Wp_aug, WpAug_i, Wp_dnewK, Wp_dnewT, Wp_putH, WpPutH_d, WpPutH_T, Wp_put, Wp_push, Wp_end, Wp_app, WB_b, Wi_true, Wi_false, Wq_run, argsOf_v, argsOf_b, argsOf_n, putBack_v, putBack_b, putBack_n, back_o, back_s, back_d, see_d, see_o, see_s, List.getElem?_cons_zero, List.getElem?_cons_succ, List.set_cons_zero, List.set_cons_succ, List.cons_append, List.nil_append, List.take_succ_cons, List.take_zero, List.length_cons, List.length_nil, List.dropLast_cons₂, List.dropLast_singleton, Option.getD_some, wipeE, restoreE, gN, List.replicate_zero, List.replicate_succ, Nat.reduceAdd, Nat.reduceSub, decide_eq_true_eq, Bool.true_eq_false, Bool.false_eq_true, reduceCtorEq, not_false_eq_true, see_d, see_o, see_s, ownS_o, WpAug_l, isS_d, isS_o, mkRg_l, mkRg_t, dMax2_i, dMin2_i, dIx_l, dIx_t, dAdd_i, dSub_i, dNeg_i, dMod_i, dDiv_i, dMul_r, dMul_l, dPow_18, dGtA_i, dLtA_i, dGtI_i, dLtI_i, dGeI_i, dLeI_i, dInt_i, dAbs_i, dLen_l, dLen_t, dTuple_l, dList_l, dList_t, dAdd_l, dAdd_t, tupOf_i, lstOf_i, seqOf_l, seqOf_t, range1_i, WpPut_i, WpPush_i, WpEnd_i, WpApp_i, dEq_i, dNe_i, dNe_bb, dEq_bb, bools_true, allT, isL, dCnt_s, dOnce_i, onceOf, dIs_n, dIs_b, enumOf_l, enumOf_t, zipOf_t, zipOf_l, zipD_c, zipD_n, dIsNot_n, gTup_t, gs_c, gs_n, range2_i, Option.bind_some, unpack, dRev_l, dRev_t, isInt, isBool, isTuple, isList, isStr, isN, isOwnL, dSumA_l, dSumA_t, dAll, dAny, bools, Option.map_some, List.all_cons, List.all_nil, List.any_cons, List.any_nil, id_eq, Bool.and_true, Bool.true_and, Bool.and_self, Bool.not_true, Bool.not_false, dSlice_l, dSlice_t, asI_i, decide_true, decide_false, Int.reduceLE, Int.reduceLT, Int.reduceToNat, Int.reduceNeg, Int.reduceAdd, Int.reduceSub, Int.reduceMul, Nat.reduceLeDiff, Nat.reduceLT, reduceIte, Int.reducePow, Int.cast_ofNat_Int, Int.toNat_one, Int.toNat_zero, Nat.zero_add, Nat.lt_add_one, Nat.zero_lt_succ, Int.reduceEq, Nat.reduceEqDiff, Int.toNat_natCast]
  refine Wm_of rfl ?_
  unfold M.fb_is_tuple_of
  simp only [↓Wp_rIf, ↓Wp_seq, ↓Wp_seqN, ↓Wp_seqR, ↓Wp_seqB, ↓Wp_seqC, ↓Wp_next, ↓Wp_brk, ↓Wp_cnt, ↓Wp_set, ↓Wp_asg, ↓Wp_ret, ↓Wp_drop, ↓Wp_kill, ↓Wp_par, ↓Wp_ifs, ↓Wp_for, ↓forK_nx, ↓forK_cnt, ↓forK_brk, ↓forK_ret, ↓Wp_c, ↓Wp_var, ↓WpVar_d, ↓WpVar_o, ↓Wp_view, ↓Wp_andV, ↓Wp_orV, ↓Wp_chain, ↓Wp_bin, ↓Wp_andB, ↓Wp_orB, ↓Wp_yes, ↓Wp_push0, ↓Wp_pushN, ↓Wp_nil, ↓Wp_cons, ↓Wp_move, ↓WpMv_d, ↓WpMv_o, ↓WpMv_s, ↓Wp_cnil, ↓Wp_cval, ↓Wp_cbor, ↓Wp_call, ↓Wp_comp, ↓Wp_comp2, ↓retK_r, ↓retK_n, ↓forJ_nx, ↓forJ_cnt, ↓Wp_asDat, ↓Wp_asDatO, ↓Wp_asB, ↓Wp_tru, ↓Wp_bind, ↓Wp_ok, ↓Wp_lift, ↓Wp_ite, ↓Wp_lite, ↓Wp_aug, ↓WpAug_i, ↓Wp_dnewK, ↓Wp_dnewT, ↓Wp_putH, ↓WpPutH_d, ↓WpPutH_T, ↓Wp_put, ↓Wp_push, ↓Wp_end, ↓Wp_app, ↓WB_b, ↓Wi_true, ↓Wi_false, Wp_rIf, Wp_seq, Wp_seqN, Wp_seqR, Wp_seqB, Wp_seqC, Wp_next, Wp_brk, Wp_cnt, Wp_set, Wp_asg, Wp_ret, Wp_drop, Wp_kill, Wp_par, Wp_ifs, Wp_for, forK_nx, forK_cnt, forK_brk, forK_ret, Wp_c, Wp_var, WpVar_d, WpVar_o, Wp_view, Wp_andV, Wp_orV, Wp_chain, Wp_bin, Wp_andB, Wp_orB, Wp_yes, Wp_push0, Wp_pushN, Wp_nil, Wp_cons, Wp_move, WpMv_d, WpMv_o, WpMv_s, Wp_cnil, Wp_cval, Wp_cbor, Wp_call, Wp_comp, Wp_comp2, retK_r, retK_n, forJ_nx, forJ_cnt, Wp_asDat, Wp_asDatO, Wp_asB, Wp_tru, Wp_bind, Wp_ok, Wp_lift, Wp_ite, Wp_lite, Wp_aug, WpAug_i, Wp_dnewK, Wp_dnewT, Wp_putH, WpPutH_d, WpPutH_T, Wp_put, Wp_push, Wp_end, Wp_app, WB_b, Wi_true, Wi_false, Wq_run, argsOf_v, argsOf_b, argsOf_n, putBack_v, putBack_b, putBack_n, back_o, back_s, back_d, see_d, see_o, see_s, List.getElem?_cons_zero, List.getElem?_cons_succ, List.set_cons_zero, List.set_cons_succ, List.cons_append, List.nil_append, List.take_succ_cons, List.take_zero, List.length_cons, List.length_nil, List.dropLast_cons₂, List.dropLast_singleton, Option.getD_some, wipeE, restoreE, gN, List.replicate_zero, List.replicate_succ, Nat.reduceAdd, Nat.reduceSub, decide_eq_true_eq, Bool.true_eq_false, Bool.false_eq_true, reduceCtorEq, not_false_eq_true, see_d, see_o, see_s, ownS_o, WpAug_l, isS_d, isS_o, mkRg_l, mkRg_t, dMax2_i, dMin2_i, dIx_l, dIx_t, dAdd_i, dSub_i, dNeg_i, dMod_i, dDiv_i, dMul_r, dMul_l, dPow_18, dGtA_i, dLtA_i, dGtI_i, dLtI_i, dGeI_i, dLeI_i, dInt_i, dAbs_i, dLen_l, dLen_t, dTuple_l, dList_l, dList_t, dAdd_l, dAdd_t, tupOf_i, lstOf_i, seqOf_l, seqOf_t, range1_i, WpPut_i, WpPush_i, WpEnd_i, WpApp_i, dEq_i, dNe_i, dNe_bb, dEq_bb, bools_true, allT, isL, dCnt_s, dOnce_i, onceOf, dIs_n, dIs_b, enumOf_l, enumOf_t, zipOf_t, zipOf_l, zipD_c, zipD_n, dIsNot_n, gTup_t, gs_c, gs_n, range2_i, Option.bind_some, unpack, dRev_l, dRev_t, isInt, isBool, isTuple, isList, isStr, isN, isOwnL, dSumA_l, dSumA_t, dAll, dAny, bools, Option.map_some, List.all_cons, List.all_nil, List.any_cons, List.any_nil, id_eq, Bool.and_true, Bool.true_and, Bool.and_self, Bool.not_true, Bool.not_false, dSlice_l, dSlice_t, asI_i, decide_true, decide_false, Int.reduceLE, Int.reduceLT, Int.reduceToNat, Int.reduceNeg, Int.reduceAdd, Int.reduceSub, Int.reduceMul, Nat.reduceLeDiff, Nat.reduceLT, reduceIte, Int.reducePow, Int.cast_ofNat_Int, Int.toNat_one, Int.toNat_zero, Nat.zero_add, Nat.lt_add_one, Nat.zero_lt_succ, Int.reduceEq, Nat.reduceEqDiff, Int.toNat_natCast, ↓Wp_forN, ↓Wp_forC, ↓Wp_goN, ↓Wp_goC, ↓Wp_go2N, ↓Wp_go2C, fits_edge_eq, a1, a2, b1, b2, c1, c2, d1, d2]
  exact ⟨trivial, trivial⟩
theorem need_piece_eq (z : inP 9 a b c d) : Wm M.m_need_piece Q [.dat (P4 a b c d)] = Q (.dat .none) [.dat (P4 a b c d)] := by
  refine Wm_exact (Wm_of rfl ?_)
  unfold M.fb_need_piece
  simp only [↓Wp_rIf, ↓Wp_seq, ↓Wp_seqN, ↓Wp_seqR, ↓Wp_seqB, ↓Wp_seqC, ↓Wp_next, ↓Wp_brk, ↓Wp_cnt, ↓Wp_set, ↓Wp_asg, ↓Wp_ret, ↓Wp_drop, ↓Wp_kill, ↓Wp_par, ↓Wp_ifs, ↓Wp_for, ↓forK_nx, ↓forK_cnt, ↓forK_brk, ↓forK_ret, ↓Wp_c, ↓Wp_var, ↓WpVar_d, ↓WpVar_o, ↓Wp_view, ↓Wp_andV, ↓Wp_orV, ↓Wp_chain, ↓Wp_bin, ↓Wp_andB, ↓Wp_orB, ↓Wp_yes, ↓Wp_push0, ↓Wp_pushN, ↓Wp_nil, ↓Wp_cons, ↓Wp_move, ↓WpMv_d, ↓WpMv_o, ↓WpMv_s, ↓Wp_cnil, ↓Wp_cval, ↓Wp_cbor, ↓Wp_call, ↓Wp_comp, ↓Wp_comp2, ↓retK_r, ↓retK_n, ↓forJ_nx, ↓forJ_cnt, ↓Wp_asDat, ↓Wp_asDatO, ↓Wp_asB, ↓Wp_tru, ↓Wp_bind, ↓Wp_ok, ↓Wp_lift, ↓Wp_ite, ↓Wp_lite, ↓Wp_aug, ↓WpAug_i, ↓Wp_dnewK, ↓Wp_dnewT, ↓Wp_putH, ↓WpPutH_d, ↓WpPutH_T, ↓Wp_put, ↓Wp_push, ↓Wp_end, ↓Wp_app, ↓WB_b, ↓Wi_true, ↓Wi_false, Wp_rIf, Wp_seq, Wp_seqN, Wp_seqR, Wp_seqB, Wp_seqC, Wp_next, Wp_brk, Wp_cnt, Wp_set, Wp_asg, Wp_ret, Wp_drop, Wp_kill, Wp_par, Wp_ifs, Wp_for, forK_nx, forK_cnt, forK_brk, forK_ret, Wp_c, Wp_var, WpVar_d, WpVar_o, Wp_view, Wp_andV, Wp_orV, Wp_chain, Wp_bin, Wp_andB, Wp_orB, Wp_yes, Wp_push0, Wp_pushN, Wp_nil, Wp_cons, Wp_move, WpMv_d, WpMv_o, WpMv_s, Wp_cnil, Wp_cval, Wp_cbor, Wp_call, Wp_comp, Wp_comp2, retK_r, retK_n, forJ_nx, forJ_cnt, Wp_asDat, Wp_asDatO, Wp_asB, Wp_tru, Wp_bind, Wp_ok, Wp_lift, Wp_ite, Wp_lite, Wp_aug, WpAug_i, Wp_dnewK, Wp_dnewT, Wp_putH, WpPutH_d, WpPutH_T, Wp_put, Wp_push, Wp_end, Wp_app, WB_b, Wi_true, Wi_false, Wq_run, argsOf_v, argsOf_b, argsOf_n, putBack_v, putBack_b, putBack_n, back_o, back_s, back_d, see_d, see_o, see_s, List.getElem?_cons_zero, List.getElem?_cons_succ, List.set_cons_zero, List.set_cons_succ, List.cons_append, List.nil_append, List.take_succ_cons, List.take_zero, List.length_cons, List.length_nil, List.dropLast_cons₂, List.dropLast_singleton, Option.getD_some, wipeE, restoreE, gN, List.replicate_zero, List.replicate_succ, Nat.reduceAdd, Nat.reduceSub, decide_eq_true_eq, Bool.true_eq_false, Bool.false_eq_true, reduceCtorEq, not_false_eq_true, see_d, see_o, see_s, ownS_o, WpAug_l, isS_d, isS_o, mkRg_l, mkRg_t, dMax2_i, dMin2_i, dIx_l, dIx_t, dAdd_i, dSub_i, dNeg_i, dMod_i, dDiv_i, dMul_r, dMul_l, dPow_18, dGtA_i, dLtA_i, dGtI_i, dLtI_i, dGeI_i, dLeI_i, dInt_i, dAbs_i, dLen_l, dLen_t, dTuple_l, dList_l, dList_t, dAdd_l, dAdd_t, tupOf_i, lstOf_i, seqOf_l, seqOf_t, range1_i, WpPut_i, WpPush_i, WpEnd_i, WpApp_i, dEq_i, dNe_i, dNe_bb, dEq_bb, bools_true, allT, isL, dCnt_s, dOnce_i, onceOf, dIs_n, dIs_b, enumOf_l, enumOf_t, zipOf_t, zipOf_l, zipD_c, zipD_n, dIsNot_n, gTup_t, gs_c, gs_n, range2_i, Option.bind_some, unpack, dRev_l, dRev_t, isInt, isBool, isTuple, isList, isStr, isN, isOwnL, dSumA_l, dSumA_t, dAll, dAny, bools, Option.map_some, List.all_cons, List.all_nil, List.any_cons, List.any_nil, id_eq, Bool.and_true, Bool.true_and, Bool.and_self, Bool.not_true, Bool.not_false, dSlice_l, dSlice_t, asI_i, decide_true, decide_false, Int.reduceLE, Int.reduceLT, Int.reduceToNat, Int.reduceNeg, Int.reduceAdd, Int.reduceSub, Int.reduceMul, Nat.reduceLeDiff, Nat.reduceLT, reduceIte, Int.reducePow, Int.cast_ofNat_Int, Int.toNat_one, Int.toNat_zero, Nat.zero_add, Nat.lt_add_one, Nat.zero_lt_succ, Int.reduceEq, Nat.reduceEqDiff, Int.toNat_natCast, fits_piece_eq z]
  exact ⟨trivial, trivial⟩
theorem need_side_eq (h1 : 0 ≤ t) (h2 : t ≤ 3) : Wm M.m_need_side Q [.dat (.int t)] = Q (.dat .none) [.dat (.int t)] := by
  refine Wm_exact (Wm_of rfl ?_)
  unfold M.fb_need_side
  simp only [↓Wp_rIf, ↓Wp_seq, ↓Wp_seqN, ↓Wp_seqR, ↓Wp_seqB, ↓Wp_seqC, ↓Wp_next, ↓Wp_brk, ↓Wp_cnt, ↓Wp_set, ↓Wp_asg, ↓Wp_ret, ↓Wp_drop, ↓Wp_kill, ↓Wp_par, ↓Wp_ifs, ↓Wp_for, ↓forK_nx, ↓forK_cnt, ↓forK_brk, ↓forK_ret, ↓Wp_c, ↓Wp_var, ↓WpVar_d, ↓WpVar_o, ↓Wp_view, ↓Wp_andV, ↓Wp_orV, ↓Wp_chain, ↓Wp_bin, ↓Wp_andB, ↓Wp_orB, ↓Wp_yes, ↓Wp_push0, ↓Wp_pushN, ↓Wp_nil, ↓Wp_cons, ↓Wp_move, ↓WpMv_d, ↓WpMv_o, ↓WpMv_s, ↓Wp_cnil, ↓Wp_cval, ↓Wp_cbor, ↓Wp_call, ↓Wp_comp, ↓Wp_comp2, ↓retK_r, ↓retK_n, ↓forJ_nx, ↓forJ_cnt, ↓Wp_asDat, ↓Wp_asDatO, ↓Wp_asB, ↓Wp_tru, ↓Wp_bind, ↓Wp_ok, ↓Wp_lift, ↓Wp_ite, ↓Wp_lite, ↓Wp_aug, ↓WpAug_i, ↓Wp_dnewK, ↓Wp_dnewT, ↓Wp_putH, ↓WpPutH_d, ↓WpPutH_T, ↓Wp_put, ↓Wp_push, ↓Wp_end, ↓Wp_app, ↓WB_b, ↓Wi_true, ↓Wi_false, Wp_rIf, Wp_seq, Wp_seqN, Wp_seqR, Wp_seqB, Wp_seqC, Wp_next, Wp_brk, Wp_cnt, Wp_set, Wp_asg, Wp_ret, Wp_drop, Wp_kill, Wp_par, Wp_ifs, Wp_for, forK_nx, forK_cnt, forK_brk, forK_ret, Wp_c, Wp_var, WpVar_d, WpVar_o, Wp_view, Wp_andV, Wp_orV, Wp_chain, Wp_bin, Wp_andB, Wp_orB, Wp_yes, Wp_push0, Wp_pushN, Wp_nil, Wp_cons, Wp_move, WpMv_d, WpMv_o, WpMv_s, Wp_cnil, Wp_cval, Wp_cbor, Wp_call, Wp_comp, Wp_comp2, retK_r, retK_n, forJ_nx, forJ_cnt, Wp_asDat, Wp_asDatO, Wp_asB, Wp_tru, Wp_bind, Wp_ok, Wp_lift, Wp_ite, Wp_lite, Wp_aug, WpAug_i, Wp_dnewK, Wp_dnewT, Wp_putH, WpPutH_d, WpPutH_T, Wp_put, Wp_push, Wp_end, Wp_app, WB_b, Wi_true, Wi_false, Wq_run, argsOf_v, argsOf_b, argsOf_n, putBack_v, putBack_b, putBack_n, back_o, back_s, back_d, see_d, see_o, see_s, List.getElem?_cons_zero, List.getElem?_cons_succ, List.set_cons_zero, List.set_cons_succ, List.cons_append, List.nil_append, List.take_succ_cons, List.take_zero, List.length_cons, List.length_nil, List.dropLast_cons₂, List.dropLast_singleton, Option.getD_some, wipeE, restoreE, gN, List.replicate_zero, List.replicate_succ, Nat.reduceAdd, Nat.reduceSub, decide_eq_true_eq, Bool.true_eq_false, Bool.false_eq_true, reduceCtorEq, not_false_eq_true, see_d, see_o, see_s, ownS_o, WpAug_l, isS_d, isS_o, mkRg_l, mkRg_t, dMax2_i, dMin2_i, dIx_l, dIx_t, dAdd_i, dSub_i, dNeg_i, dMod_i, dDiv_i, dMul_r, dMul_l, dPow_18, dGtA_i, dLtA_i, dGtI_i, dLtI_i, dGeI_i, dLeI_i, dInt_i, dAbs_i, dLen_l, dLen_t, dTuple_l, dList_l, dList_t, dAdd_l, dAdd_t, tupOf_i, lstOf_i, seqOf_l, seqOf_t, range1_i, WpPut_i, WpPush_i, WpEnd_i, WpApp_i, dEq_i, dNe_i, dNe_bb, dEq_bb, bools_true, allT, isL, dCnt_s, dOnce_i, onceOf, dIs_n, dIs_b, enumOf_l, enumOf_t, zipOf_t, zipOf_l, zipD_c, zipD_n, dIsNot_n, gTup_t, gs_c, gs_n, range2_i, Option.bind_some, unpack, dRev_l, dRev_t, isInt, isBool, isTuple, isList, isStr, isN, isOwnL, dSumA_l, dSumA_t, dAll, dAny, bools, Option.map_some, List.all_cons, List.all_nil, List.any_cons, List.any_nil, id_eq, Bool.and_true, Bool.true_and, Bool.and_self, Bool.not_true, Bool.not_false, dSlice_l, dSlice_t, asI_i, decide_true, decide_false, Int.reduceLE, Int.reduceLT, Int.reduceToNat, Int.reduceNeg, Int.reduceAdd, Int.reduceSub, Int.reduceMul, Nat.reduceLeDiff, Nat.reduceLT, reduceIte, Int.reducePow, Int.cast_ofNat_Int, Int.toNat_one, Int.toNat_zero, Nat.zero_add, Nat.lt_add_one, Nat.zero_lt_succ, Int.reduceEq, Nat.reduceEqDiff, Int.toNat_natCast]
  refine Wm_of rfl ?_
  unfold M.fb_fits_whole
  simp only [↓Wp_rIf, ↓Wp_seq, ↓Wp_seqN, ↓Wp_seqR, ↓Wp_seqB, ↓Wp_seqC, ↓Wp_next, ↓Wp_brk, ↓Wp_cnt, ↓Wp_set, ↓Wp_asg, ↓Wp_ret, ↓Wp_drop, ↓Wp_kill, ↓Wp_par, ↓Wp_ifs, ↓Wp_for, ↓forK_nx, ↓forK_cnt, ↓forK_brk, ↓forK_ret, ↓Wp_c, ↓Wp_var, ↓WpVar_d, ↓WpVar_o, ↓Wp_view, ↓Wp_andV, ↓Wp_orV, ↓Wp_chain, ↓Wp_bin, ↓Wp_andB, ↓Wp_orB, ↓Wp_yes, ↓Wp_push0, ↓Wp_pushN, ↓Wp_nil, ↓Wp_cons, ↓Wp_move, ↓WpMv_d, ↓WpMv_o, ↓WpMv_s, ↓Wp_cnil, ↓Wp_cval, ↓Wp_cbor, ↓Wp_call, ↓Wp_comp, ↓Wp_comp2, ↓retK_r, ↓retK_n, ↓forJ_nx, ↓forJ_cnt, ↓Wp_asDat, ↓Wp_asDatO, ↓Wp_asB, ↓Wp_tru, ↓Wp_bind, ↓Wp_ok, ↓Wp_lift, ↓Wp_ite, ↓Wp_lite, ↓Wp_aug, ↓WpAug_i, ↓Wp_dnewK, ↓Wp_dnewT, ↓Wp_putH, ↓WpPutH_d, ↓WpPutH_T, ↓Wp_put, ↓Wp_push, ↓Wp_end, ↓Wp_app, ↓WB_b, ↓Wi_true, ↓Wi_false, Wp_rIf, Wp_seq, Wp_seqN, Wp_seqR, Wp_seqB, Wp_seqC, Wp_next, Wp_brk, Wp_cnt, Wp_set, Wp_asg, Wp_ret, Wp_drop, Wp_kill, Wp_par, Wp_ifs, Wp_for, forK_nx, forK_cnt, forK_brk, forK_ret, Wp_c, Wp_var, WpVar_d, WpVar_o, Wp_view, Wp_andV, Wp_orV, Wp_chain, Wp_bin, Wp_andB, Wp_orB, Wp_yes, Wp_push0, Wp_pushN, Wp_nil, Wp_cons, Wp_move, WpMv_d, WpMv_o, WpMv_s, Wp_cnil, Wp_cval, Wp_cbor, Wp_call, Wp_comp, Wp_comp2, retK_r, retK_n, forJ_nx, forJ_cnt, Wp_asDat, Wp_asDatO, Wp_asB, Wp_tru, Wp_bind, Wp_ok, Wp_lift, Wp_ite, Wp_lite, Wp_aug, WpAug_i, Wp_dnewK, Wp_dnewT, Wp_putH, WpPutH_d, WpPutH_T, Wp_put, Wp_push, Wp_end, Wp_app, WB_b, Wi_true, Wi_false, Wq_run, argsOf_v, argsOf_b, argsOf_n, putBack_v, putBack_b, putBack_n, back_o, back_s, back_d, see_d, see_o, see_s, List.getElem?_cons_zero, List.getElem?_cons_succ, List.set_cons_zero, List.set_cons_succ, List.cons_append, List.nil_append, List.take_succ_cons, List.take_zero, List.length_cons, List.length_nil, List.dropLast_cons₂, List.dropLast_singleton, Option.getD_some, wipeE, restoreE, gN, List.replicate_zero, List.replicate_succ, Nat.reduceAdd, Nat.reduceSub, decide_eq_true_eq, Bool.true_eq_false, Bool.false_eq_true, reduceCtorEq, not_false_eq_true, see_d, see_o, see_s, ownS_o, WpAug_l, isS_d, isS_o, mkRg_l, mkRg_t, dMax2_i, dMin2_i, dIx_l, dIx_t, dAdd_i, dSub_i, dNeg_i, dMod_i, dDiv_i, dMul_r, dMul_l, dPow_18, dGtA_i, dLtA_i, dGtI_i, dLtI_i, dGeI_i, dLeI_i, dInt_i, dAbs_i, dLen_l, dLen_t, dTuple_l, dList_l, dList_t, dAdd_l, dAdd_t, tupOf_i, lstOf_i, seqOf_l, seqOf_t, range1_i, WpPut_i, WpPush_i, WpEnd_i, WpApp_i, dEq_i, dNe_i, dNe_bb, dEq_bb, bools_true, allT, isL, dCnt_s, dOnce_i, onceOf, dIs_n, dIs_b, enumOf_l, enumOf_t, zipOf_t, zipOf_l, zipD_c, zipD_n, dIsNot_n, gTup_t, gs_c, gs_n, range2_i, Option.bind_some, unpack, dRev_l, dRev_t, isInt, isBool, isTuple, isList, isStr, isN, isOwnL, dSumA_l, dSumA_t, dAll, dAny, bools, Option.map_some, List.all_cons, List.all_nil, List.any_cons, List.any_nil, id_eq, Bool.and_true, Bool.true_and, Bool.and_self, Bool.not_true, Bool.not_false, dSlice_l, dSlice_t, asI_i, decide_true, decide_false, Int.reduceLE, Int.reduceLT, Int.reduceToNat, Int.reduceNeg, Int.reduceAdd, Int.reduceSub, Int.reduceMul, Nat.reduceLeDiff, Nat.reduceLT, reduceIte, Int.reducePow, Int.cast_ofNat_Int, Int.toNat_one, Int.toNat_zero, Nat.zero_add, Nat.lt_add_one, Nat.zero_lt_succ, Int.reduceEq, Nat.reduceEqDiff, Int.toNat_natCast]
  refine Wm_of rfl ?_
  unfold M.fb_is_whole
  simp only [↓Wp_rIf, ↓Wp_seq, ↓Wp_seqN, ↓Wp_seqR, ↓Wp_seqB, ↓Wp_seqC, ↓Wp_next, ↓Wp_brk, ↓Wp_cnt, ↓Wp_set, ↓Wp_asg, ↓Wp_ret, ↓Wp_drop, ↓Wp_kill, ↓Wp_par, ↓Wp_ifs, ↓Wp_for, ↓forK_nx, ↓forK_cnt, ↓forK_brk, ↓forK_ret, ↓Wp_c, ↓Wp_var, ↓WpVar_d, ↓WpVar_o, ↓Wp_view, ↓Wp_andV, ↓Wp_orV, ↓Wp_chain, ↓Wp_bin, ↓Wp_andB, ↓Wp_orB, ↓Wp_yes, ↓Wp_push0, ↓Wp_pushN, ↓Wp_nil, ↓Wp_cons, ↓Wp_move, ↓WpMv_d, ↓WpMv_o, ↓WpMv_s, ↓Wp_cnil, ↓Wp_cval, ↓Wp_cbor, ↓Wp_call, ↓Wp_comp, ↓Wp_comp2, ↓retK_r, ↓retK_n, ↓forJ_nx, ↓forJ_cnt, ↓Wp_asDat, ↓Wp_asDatO, ↓Wp_asB, ↓Wp_tru, ↓Wp_bind, ↓Wp_ok, ↓Wp_lift, ↓Wp_ite, ↓Wp_lite, ↓Wp_aug, ↓WpAug_i, ↓Wp_dnewK, ↓Wp_dnewT, ↓Wp_putH, ↓WpPutH_d, ↓WpPutH_T, ↓Wp_put, ↓Wp_push, ↓Wp_end, ↓Wp_app, ↓WB_b, ↓Wi_true, ↓Wi_false, Wp_rIf, Wp_seq, Wp_seqN, Wp_seqR, Wp_seqB, Wp_seqC, Wp_next, Wp_brk, Wp_cnt, Wp_set, Wp_asg, Wp_ret, Wp_drop, Wp_kill, Wp_par, Wp_ifs, Wp_for, forK_nx, forK_cnt, forK_brk, forK_ret, Wp_c, Wp_var, WpVar_d, WpVar_o, Wp_view, Wp_andV, Wp_orV, Wp_chain, Wp_bin, Wp_andB, Wp_orB, Wp_yes, Wp_push0, Wp_pushN, Wp_nil, Wp_cons, Wp_move, WpMv_d, WpMv_o, WpMv_s, Wp_cnil, Wp_cval, Wp_cbor, Wp_call, Wp_comp, Wp_comp2, retK_r, retK_n, forJ_nx, forJ_cnt, Wp_asDat, Wp_asDatO, Wp_asB, Wp_tru, Wp_bind, Wp_ok, Wp_lift, Wp_ite, Wp_lite, Wp_aug, WpAug_i, Wp_dnewK, Wp_dnewT, Wp_putH, WpPutH_d, WpPutH_T, Wp_put, Wp_push, Wp_end, Wp_app, WB_b, Wi_true, Wi_false, Wq_run, argsOf_v, argsOf_b, argsOf_n, putBack_v, putBack_b, putBack_n, back_o, back_s, back_d, see_d, see_o, see_s, List.getElem?_cons_zero, List.getElem?_cons_succ, List.set_cons_zero, List.set_cons_succ, List.cons_append, List.nil_append, List.take_succ_cons, List.take_zero, List.length_cons, List.length_nil, List.dropLast_cons₂, List.dropLast_singleton, Option.getD_some, wipeE, restoreE, gN, List.replicate_zero, List.replicate_succ, Nat.reduceAdd, Nat.reduceSub, decide_eq_true_eq, Bool.true_eq_false, Bool.false_eq_true, reduceCtorEq, not_false_eq_true, see_d, see_o, see_s, ownS_o, WpAug_l, isS_d, isS_o, mkRg_l, mkRg_t, dMax2_i, dMin2_i, dIx_l, dIx_t, dAdd_i, dSub_i, dNeg_i, dMod_i, dDiv_i, dMul_r, dMul_l, dPow_18, dGtA_i, dLtA_i, dGtI_i, dLtI_i, dGeI_i, dLeI_i, dInt_i, dAbs_i, dLen_l, dLen_t, dTuple_l, dList_l, dList_t, dAdd_l, dAdd_t, tupOf_i, lstOf_i, seqOf_l, seqOf_t, range1_i, WpPut_i, WpPush_i, WpEnd_i, WpApp_i, dEq_i, dNe_i, dNe_bb, dEq_bb, bools_true, allT, isL, dCnt_s, dOnce_i, onceOf, dIs_n, dIs_b, enumOf_l, enumOf_t, zipOf_t, zipOf_l, zipD_c, zipD_n, dIsNot_n, gTup_t, gs_c, gs_n, range2_i, Option.bind_some, unpack, dRev_l, dRev_t, isInt, isBool, isTuple, isList, isStr, isN, isOwnL, dSumA_l, dSumA_t, dAll, dAny, bools, Option.map_some, List.all_cons, List.all_nil, List.any_cons, List.any_nil, id_eq, Bool.and_true, Bool.true_and, Bool.and_self, Bool.not_true, Bool.not_false, dSlice_l, dSlice_t, asI_i, decide_true, decide_false, Int.reduceLE, Int.reduceLT, Int.reduceToNat, Int.reduceNeg, Int.reduceAdd, Int.reduceSub, Int.reduceMul, Nat.reduceLeDiff, Nat.reduceLT, reduceIte, Int.reducePow, Int.cast_ofNat_Int, Int.toNat_one, Int.toNat_zero, Nat.zero_add, Nat.lt_add_one, Nat.zero_lt_succ, Int.reduceEq, Nat.reduceEqDiff, Int.toNat_natCast, h1, h2]
  exact ⟨trivial, trivial⟩
/-- a piece turned -/
def rot (n : Nat) (a b c d : Int) : PyData := match n with
  | 0 => P4 a b c d
  | 1 => P4 d a b c
  | 2 => P4 c d a b
  | _ => P4 b c d a
theorem turned_in_eq (n : Nat) (hn : n < 4) : Wm M.m_turned_in Q [.dat (P4 a b c d), .dat (.int n)] = Q (.dat (rot n a b c d)) [.dat (P4 a b c d), .dat (.int n)] := by
  refine Wm_eq ?_
  match n, hn with
  | 0, _ => kernel_rfl
  | 1, _ => kernel_rfl
  | 2, _ => kernel_rfl
  | 3, _ => kernel_rfl
theorem turned_eq (z : inP 9 a b c d) (n : Nat) (hn : n < 4) : Wm M.m_turned Q [.dat (P4 a b c d), .dat (.int n)] = Q (.dat (rot n a b c d)) [.dat (P4 a b c d), .dat (.int n)] := by
  refine Wm_exact (Wm_of rfl ?_)
  unfold M.fb_turned
  have h1 : (0 : Int) ≤ n := by omega
  have h2 : (n : Int) ≤ 3 := by omega
  simp only [↓Wp_rIf, ↓Wp_seq, ↓Wp_seqN, ↓Wp_seqR, ↓Wp_seqB, ↓Wp_seqC, ↓Wp_next, ↓Wp_brk, ↓Wp_cnt, ↓Wp_set, ↓Wp_asg, ↓Wp_ret, ↓Wp_drop, ↓Wp_kill, ↓Wp_par, ↓Wp_ifs, ↓Wp_for, ↓forK_nx, ↓forK_cnt, ↓forK_brk, ↓forK_ret, ↓Wp_c, ↓Wp_var, ↓WpVar_d, ↓WpVar_o, ↓Wp_view, ↓Wp_andV, ↓Wp_orV, ↓Wp_chain, ↓Wp_bin, ↓Wp_andB, ↓Wp_orB, ↓Wp_yes, ↓Wp_push0, ↓Wp_pushN, ↓Wp_nil, ↓Wp_cons, ↓Wp_move, ↓WpMv_d, ↓WpMv_o, ↓WpMv_s, ↓Wp_cnil, ↓Wp_cval, ↓Wp_cbor, ↓Wp_call, ↓Wp_comp, ↓Wp_comp2, ↓retK_r, ↓retK_n, ↓forJ_nx, ↓forJ_cnt, ↓Wp_asDat, ↓Wp_asDatO, ↓Wp_asB, ↓Wp_tru, ↓Wp_bind, ↓Wp_ok, ↓Wp_lift, ↓Wp_ite, ↓Wp_lite, ↓Wp_aug, ↓WpAug_i, ↓Wp_dnewK, ↓Wp_dnewT, ↓Wp_putH, ↓WpPutH_d, ↓WpPutH_T, ↓Wp_put, ↓Wp_push, ↓Wp_end, ↓Wp_app, ↓WB_b, ↓Wi_true, ↓Wi_false, Wp_rIf, Wp_seq, Wp_seqN, Wp_seqR, Wp_seqB, Wp_seqC, Wp_next, Wp_brk, Wp_cnt, Wp_set, Wp_asg, Wp_ret, Wp_drop, Wp_kill, Wp_par, Wp_ifs, Wp_for, forK_nx, forK_cnt, forK_brk, forK_ret, Wp_c, Wp_var, WpVar_d, WpVar_o, Wp_view, Wp_andV, Wp_orV, Wp_chain, Wp_bin, Wp_andB, Wp_orB, Wp_yes, Wp_push0, Wp_pushN, Wp_nil, Wp_cons, Wp_move, WpMv_d, WpMv_o, WpMv_s, Wp_cnil, Wp_cval, Wp_cbor, Wp_call, Wp_comp, Wp_comp2, retK_r, retK_n, forJ_nx, forJ_cnt, Wp_asDat, Wp_asDatO, Wp_asB, Wp_tru, Wp_bind, Wp_ok, Wp_lift, Wp_ite, Wp_lite, Wp_aug, WpAug_i, Wp_dnewK, Wp_dnewT, Wp_putH, WpPutH_d, WpPutH_T, Wp_put, Wp_push, Wp_end, Wp_app, WB_b, Wi_true, Wi_false, Wq_run, argsOf_v, argsOf_b, argsOf_n, putBack_v, putBack_b, putBack_n, back_o, back_s, back_d, see_d, see_o, see_s, List.getElem?_cons_zero, List.getElem?_cons_succ, List.set_cons_zero, List.set_cons_succ, List.cons_append, List.nil_append, List.take_succ_cons, List.take_zero, List.length_cons, List.length_nil, List.dropLast_cons₂, List.dropLast_singleton, Option.getD_some, wipeE, restoreE, gN, List.replicate_zero, List.replicate_succ, Nat.reduceAdd, Nat.reduceSub, decide_eq_true_eq, Bool.true_eq_false, Bool.false_eq_true, reduceCtorEq, not_false_eq_true, see_d, see_o, see_s, ownS_o, WpAug_l, isS_d, isS_o, mkRg_l, mkRg_t, dMax2_i, dMin2_i, dIx_l, dIx_t, dAdd_i, dSub_i, dNeg_i, dMod_i, dDiv_i, dMul_r, dMul_l, dPow_18, dGtA_i, dLtA_i, dGtI_i, dLtI_i, dGeI_i, dLeI_i, dInt_i, dAbs_i, dLen_l, dLen_t, dTuple_l, dList_l, dList_t, dAdd_l, dAdd_t, tupOf_i, lstOf_i, seqOf_l, seqOf_t, range1_i, WpPut_i, WpPush_i, WpEnd_i, WpApp_i, dEq_i, dNe_i, dNe_bb, dEq_bb, bools_true, allT, isL, dCnt_s, dOnce_i, onceOf, dIs_n, dIs_b, enumOf_l, enumOf_t, zipOf_t, zipOf_l, zipD_c, zipD_n, dIsNot_n, gTup_t, gs_c, gs_n, range2_i, Option.bind_some, unpack, dRev_l, dRev_t, isInt, isBool, isTuple, isList, isStr, isN, isOwnL, dSumA_l, dSumA_t, dAll, dAny, bools, Option.map_some, List.all_cons, List.all_nil, List.any_cons, List.any_nil, id_eq, Bool.and_true, Bool.true_and, Bool.and_self, Bool.not_true, Bool.not_false, dSlice_l, dSlice_t, asI_i, decide_true, decide_false, Int.reduceLE, Int.reduceLT, Int.reduceToNat, Int.reduceNeg, Int.reduceAdd, Int.reduceSub, Int.reduceMul, Nat.reduceLeDiff, Nat.reduceLT, reduceIte, Int.reducePow, Int.cast_ofNat_Int, Int.toNat_one, Int.toNat_zero, Nat.zero_add, Nat.lt_add_one, Nat.zero_lt_succ, Int.reduceEq, Nat.reduceEqDiff, Int.toNat_natCast, need_piece_eq z, need_side_eq h1 h2, turned_in_eq n hn]
  exact ⟨trivial, trivial⟩
def rotL (n : Nat) (a b c d : Int) : List Int := match n with
  | 0 => [a, b, c, d]
  | 1 => [d, a, b, c]
  | 2 => [c, d, a, b]
  | _ => [b, c, d, a]
theorem rot_tI : ∀ {n : Nat}, rot n a b c d = tI (rotL n a b c d)
  | 0 => rfl
  | 1 => rfl
  | 2 => rfl
  | _ + 3 => rfl
theorem rot_P {n : Nat} {a b c d : Int} (z : inP 9 a b c d) : ∃ w x y v, rot n a b c d = P4 w x y v ∧ inP 9 w x y v := by
  obtain ⟨z1, z2, z3, z4⟩ := z
  unfold rot
  split
  · exact ⟨_, _, _, _, rfl, z1, z2, z3, z4⟩
  · exact ⟨_, _, _, _, rfl, z4, z1, z2, z3⟩
  · exact ⟨_, _, _, _, rfl, z3, z4, z1, z2⟩
  · exact ⟨_, _, _, _, rfl, z2, z3, z4, z1⟩
theorem dEq_rot {n : Nat} : dEq (rot n a b c d) (P4 w x y v) = some (.dat (.bool (decide (rotL n a b c d = [w, x, y, v])))) := by
  rw [rot_tI]
  exact dEq_tI (ms := [w, x, y, v])
/-- data that the law's own comparing knows -/
inductive Sm : Nat → PyData → Prop
  | int {n : Nat} (i : Int) : Sm n (.int i)
  | bool {n : Nat} (b : Bool) : Sm n (.bool b)
  | none {n : Nat} : Sm n .none
  | str {n : Nat} {s : Str} : PyData.canLay0 (.str s) = true → Sm n (.str s)
  | tup {n : Nat} {ds : List PyData} : ds.length ≤ 1000000 → (∀ d ∈ ds, Sm n d) → Sm (n + 1) (.tuple ds)
theorem dStr_s {z : Str} : dStr [.str z] = some (.dat (.str z)) := rfl
theorem dEq_str {z : Str} (h : PyData.canLay0 (.str z) = true) : dEq (.str z) (.str z) = some (.dat (.bool true)) := by
  have hs : SeqAt.shaped (.str z) = true := by
    unfold SeqAt.shaped
    rw [h, PyData.depth]
    rfl
  rw [dEq_s hs hs, PyData.eqv]
  simp
theorem same_true : ∀ {n : Nat} {d : PyData}, Sm n d → ∀ {Q : Sl → Ev → Prop}, Wm (M.m_law_same (n + 1)) Q [.dat d, .dat d] = Q (.dat (.bool true)) [.dat d, .dat d] := by
  intro n
  induction n with
  | zero =>
    intro d h Q
    refine Wm_exact ?_
    show Wm (rLen 2 (mOf 3 (M.fb_law_same (M.m_law_same 0)))) _ _
    refine Wm_of rfl ?_
    unfold M.fb_law_same
    cases h with
    | int i =>
      simp only [↓Wp_rIf, ↓Wp_seq, ↓Wp_seqN, ↓Wp_seqR, ↓Wp_seqB, ↓Wp_seqC, ↓Wp_next, ↓Wp_brk, ↓Wp_cnt, ↓Wp_set, ↓Wp_asg, ↓Wp_ret, ↓Wp_drop, ↓Wp_kill, ↓Wp_par, ↓Wp_ifs, ↓Wp_for, ↓forK_nx, ↓forK_cnt, ↓forK_brk, ↓forK_ret, ↓Wp_c, ↓Wp_var, ↓WpVar_d, ↓WpVar_o, ↓Wp_view, ↓Wp_andV, ↓Wp_orV, ↓Wp_chain, ↓Wp_bin, ↓Wp_andB, ↓Wp_orB, ↓Wp_yes, ↓Wp_push0, ↓Wp_pushN, ↓Wp_nil, ↓Wp_cons, ↓Wp_move, ↓WpMv_d, ↓WpMv_o, ↓WpMv_s, ↓Wp_cnil, ↓Wp_cval, ↓Wp_cbor, ↓Wp_call, ↓Wp_comp, ↓Wp_comp2, ↓retK_r, ↓retK_n, ↓forJ_nx, ↓forJ_cnt, ↓Wp_asDat, ↓Wp_asDatO, ↓Wp_asB, ↓Wp_tru, ↓Wp_bind, ↓Wp_ok, ↓Wp_lift, ↓Wp_ite, ↓Wp_lite, ↓Wp_aug, ↓WpAug_i, ↓Wp_dnewK, ↓Wp_dnewT, ↓Wp_putH, ↓WpPutH_d, ↓WpPutH_T, ↓Wp_put, ↓Wp_push, ↓Wp_end, ↓Wp_app, ↓WB_b, ↓Wi_true, ↓Wi_false, Wp_rIf, Wp_seq, Wp_seqN, Wp_seqR, Wp_seqB, Wp_seqC, Wp_next, Wp_brk, Wp_cnt, Wp_set, Wp_asg, Wp_ret, Wp_drop, Wp_kill, Wp_par, Wp_ifs, Wp_for, forK_nx, forK_cnt, forK_brk, forK_ret, Wp_c, Wp_var, WpVar_d, WpVar_o, Wp_view, Wp_andV, Wp_orV, Wp_chain, Wp_bin, Wp_andB, Wp_orB, Wp_yes, Wp_push0, Wp_pushN, Wp_nil, Wp_cons, Wp_move, WpMv_d, WpMv_o, WpMv_s, Wp_cnil, Wp_cval, Wp_cbor, Wp_call, Wp_comp, Wp_comp2, retK_r, retK_n, forJ_nx, forJ_cnt, Wp_asDat, Wp_asDatO, Wp_asB, Wp_tru, Wp_bind, Wp_ok, Wp_lift, Wp_ite, Wp_lite, Wp_aug, WpAug_i, Wp_dnewK, Wp_dnewT, Wp_putH, WpPutH_d, WpPutH_T, Wp_put, Wp_push, Wp_end, Wp_app, WB_b, Wi_true, Wi_false, Wq_run, argsOf_v, argsOf_b, argsOf_n, putBack_v, putBack_b, putBack_n, back_o, back_s, back_d, see_d, see_o, see_s, List.getElem?_cons_zero, List.getElem?_cons_succ, List.set_cons_zero, List.set_cons_succ, List.cons_append, List.nil_append, List.take_succ_cons, List.take_zero, List.length_cons, List.length_nil, List.dropLast_cons₂, List.dropLast_singleton, Option.getD_some, wipeE, restoreE, gN, List.replicate_zero, List.replicate_succ, Nat.reduceAdd, Nat.reduceSub, decide_eq_true_eq, Bool.true_eq_false, Bool.false_eq_true, reduceCtorEq, not_false_eq_true, see_d, see_o, see_s, ownS_o, WpAug_l, isS_d, isS_o, mkRg_l, mkRg_t, dMax2_i, dMin2_i, dIx_l, dIx_t, dAdd_i, dSub_i, dNeg_i, dMod_i, dDiv_i, dMul_r, dMul_l, dPow_18, dGtA_i, dLtA_i, dGtI_i, dLtI_i, dGeI_i, dLeI_i, dInt_i, dAbs_i, dLen_l, dLen_t, dTuple_l, dList_l, dList_t, dAdd_l, dAdd_t, tupOf_i, lstOf_i, seqOf_l, seqOf_t, range1_i, WpPut_i, WpPush_i, WpEnd_i, WpApp_i, dEq_i, dNe_i, dNe_bb, dEq_bb, bools_true, allT, isL, dCnt_s, dOnce_i, onceOf, dIs_n, dIs_b, enumOf_l, enumOf_t, zipOf_t, zipOf_l, zipD_c, zipD_n, dIsNot_n, gTup_t, gs_c, gs_n, range2_i, Option.bind_some, unpack, dRev_l, dRev_t, isInt, isBool, isTuple, isList, isStr, isN, isOwnL, dSumA_l, dSumA_t, dAll, dAny, bools, Option.map_some, List.all_cons, List.all_nil, List.any_cons, List.any_nil, id_eq, Bool.and_true, Bool.true_and, Bool.and_self, Bool.not_true, Bool.not_false, dSlice_l, dSlice_t, asI_i, decide_true, decide_false, Int.reduceLE, Int.reduceLT, Int.reduceToNat, Int.reduceNeg, Int.reduceAdd, Int.reduceSub, Int.reduceMul, Nat.reduceLeDiff, Nat.reduceLT, reduceIte, Int.reducePow, Int.cast_ofNat_Int, Int.toNat_one, Int.toNat_zero, Nat.zero_add, Nat.lt_add_one, Nat.zero_lt_succ, Int.reduceEq, Nat.reduceEqDiff, Int.toNat_natCast]
      exact ⟨trivial, trivial⟩
    | bool b =>
      cases b <;> simp only [↓Wp_rIf, ↓Wp_seq, ↓Wp_seqN, ↓Wp_seqR, ↓Wp_seqB, ↓Wp_seqC, ↓Wp_next, ↓Wp_brk, ↓Wp_cnt, ↓Wp_set, ↓Wp_asg, ↓Wp_ret, ↓Wp_drop, ↓Wp_kill, ↓Wp_par, ↓Wp_ifs, ↓Wp_for, ↓forK_nx, ↓forK_cnt, ↓forK_brk, ↓forK_ret, ↓Wp_c, ↓Wp_var, ↓WpVar_d, ↓WpVar_o, ↓Wp_view, ↓Wp_andV, ↓Wp_orV, ↓Wp_chain, ↓Wp_bin, ↓Wp_andB, ↓Wp_orB, ↓Wp_yes, ↓Wp_push0, ↓Wp_pushN, ↓Wp_nil, ↓Wp_cons, ↓Wp_move, ↓WpMv_d, ↓WpMv_o, ↓WpMv_s, ↓Wp_cnil, ↓Wp_cval, ↓Wp_cbor, ↓Wp_call, ↓Wp_comp, ↓Wp_comp2, ↓retK_r, ↓retK_n, ↓forJ_nx, ↓forJ_cnt, ↓Wp_asDat, ↓Wp_asDatO, ↓Wp_asB, ↓Wp_tru, ↓Wp_bind, ↓Wp_ok, ↓Wp_lift, ↓Wp_ite, ↓Wp_lite, ↓Wp_aug, ↓WpAug_i, ↓Wp_dnewK, ↓Wp_dnewT, ↓Wp_putH, ↓WpPutH_d, ↓WpPutH_T, ↓Wp_put, ↓Wp_push, ↓Wp_end, ↓Wp_app, ↓WB_b, ↓Wi_true, ↓Wi_false, Wp_rIf, Wp_seq, Wp_seqN, Wp_seqR, Wp_seqB, Wp_seqC, Wp_next, Wp_brk, Wp_cnt, Wp_set, Wp_asg, Wp_ret, Wp_drop, Wp_kill, Wp_par, Wp_ifs, Wp_for, forK_nx, forK_cnt, forK_brk, forK_ret, Wp_c, Wp_var, WpVar_d, WpVar_o, Wp_view, Wp_andV, Wp_orV, Wp_chain, Wp_bin, Wp_andB, Wp_orB, Wp_yes, Wp_push0, Wp_pushN, Wp_nil, Wp_cons, Wp_move, WpMv_d, WpMv_o, WpMv_s, Wp_cnil, Wp_cval, Wp_cbor, Wp_call, Wp_comp, Wp_comp2, retK_r, retK_n, forJ_nx, forJ_cnt, Wp_asDat, Wp_asDatO, Wp_asB, Wp_tru, Wp_bind, Wp_ok, Wp_lift, Wp_ite, Wp_lite, Wp_aug, WpAug_i, Wp_dnewK, Wp_dnewT, Wp_putH, WpPutH_d, WpPutH_T, Wp_put, Wp_push, Wp_end, Wp_app, WB_b, Wi_true, Wi_false, Wq_run, argsOf_v, argsOf_b, argsOf_n, putBack_v, putBack_b, putBack_n, back_o, back_s, back_d, see_d, see_o, see_s, List.getElem?_cons_zero, List.getElem?_cons_succ, List.set_cons_zero, List.set_cons_succ, List.cons_append, List.nil_append, List.take_succ_cons, List.take_zero, List.length_cons, List.length_nil, List.dropLast_cons₂, List.dropLast_singleton, Option.getD_some, wipeE, restoreE, gN, List.replicate_zero, List.replicate_succ, Nat.reduceAdd, Nat.reduceSub, decide_eq_true_eq, Bool.true_eq_false, Bool.false_eq_true, reduceCtorEq, not_false_eq_true, see_d, see_o, see_s, ownS_o, WpAug_l, isS_d, isS_o, mkRg_l, mkRg_t, dMax2_i, dMin2_i, dIx_l, dIx_t, dAdd_i, dSub_i, dNeg_i, dMod_i, dDiv_i, dMul_r, dMul_l, dPow_18, dGtA_i, dLtA_i, dGtI_i, dLtI_i, dGeI_i, dLeI_i, dInt_i, dAbs_i, dLen_l, dLen_t, dTuple_l, dList_l, dList_t, dAdd_l, dAdd_t, tupOf_i, lstOf_i, seqOf_l, seqOf_t, range1_i, WpPut_i, WpPush_i, WpEnd_i, WpApp_i, dEq_i, dNe_i, dNe_bb, dEq_bb, bools_true, allT, isL, dCnt_s, dOnce_i, onceOf, dIs_n, dIs_b, enumOf_l, enumOf_t, zipOf_t, zipOf_l, zipD_c, zipD_n, dIsNot_n, gTup_t, gs_c, gs_n, range2_i, Option.bind_some, unpack, dRev_l, dRev_t, isInt, isBool, isTuple, isList, isStr, isN, isOwnL, dSumA_l, dSumA_t, dAll, dAny, bools, Option.map_some, List.all_cons, List.all_nil, List.any_cons, List.any_nil, id_eq, Bool.and_true, Bool.true_and, Bool.and_self, Bool.not_true, Bool.not_false, dSlice_l, dSlice_t, asI_i, decide_true, decide_false, Int.reduceLE, Int.reduceLT, Int.reduceToNat, Int.reduceNeg, Int.reduceAdd, Int.reduceSub, Int.reduceMul, Nat.reduceLeDiff, Nat.reduceLT, reduceIte, Int.reducePow, Int.cast_ofNat_Int, Int.toNat_one, Int.toNat_zero, Nat.zero_add, Nat.lt_add_one, Nat.zero_lt_succ, Int.reduceEq, Nat.reduceEqDiff, Int.toNat_natCast] <;> exact ⟨trivial, trivial⟩
    | none =>
      simp only [↓Wp_rIf, ↓Wp_seq, ↓Wp_seqN, ↓Wp_seqR, ↓Wp_seqB, ↓Wp_seqC, ↓Wp_next, ↓Wp_brk, ↓Wp_cnt, ↓Wp_set, ↓Wp_asg, ↓Wp_ret, ↓Wp_drop, ↓Wp_kill, ↓Wp_par, ↓Wp_ifs, ↓Wp_for, ↓forK_nx, ↓forK_cnt, ↓forK_brk, ↓forK_ret, ↓Wp_c, ↓Wp_var, ↓WpVar_d, ↓WpVar_o, ↓Wp_view, ↓Wp_andV, ↓Wp_orV, ↓Wp_chain, ↓Wp_bin, ↓Wp_andB, ↓Wp_orB, ↓Wp_yes, ↓Wp_push0, ↓Wp_pushN, ↓Wp_nil, ↓Wp_cons, ↓Wp_move, ↓WpMv_d, ↓WpMv_o, ↓WpMv_s, ↓Wp_cnil, ↓Wp_cval, ↓Wp_cbor, ↓Wp_call, ↓Wp_comp, ↓Wp_comp2, ↓retK_r, ↓retK_n, ↓forJ_nx, ↓forJ_cnt, ↓Wp_asDat, ↓Wp_asDatO, ↓Wp_asB, ↓Wp_tru, ↓Wp_bind, ↓Wp_ok, ↓Wp_lift, ↓Wp_ite, ↓Wp_lite, ↓Wp_aug, ↓WpAug_i, ↓Wp_dnewK, ↓Wp_dnewT, ↓Wp_putH, ↓WpPutH_d, ↓WpPutH_T, ↓Wp_put, ↓Wp_push, ↓Wp_end, ↓Wp_app, ↓WB_b, ↓Wi_true, ↓Wi_false, Wp_rIf, Wp_seq, Wp_seqN, Wp_seqR, Wp_seqB, Wp_seqC, Wp_next, Wp_brk, Wp_cnt, Wp_set, Wp_asg, Wp_ret, Wp_drop, Wp_kill, Wp_par, Wp_ifs, Wp_for, forK_nx, forK_cnt, forK_brk, forK_ret, Wp_c, Wp_var, WpVar_d, WpVar_o, Wp_view, Wp_andV, Wp_orV, Wp_chain, Wp_bin, Wp_andB, Wp_orB, Wp_yes, Wp_push0, Wp_pushN, Wp_nil, Wp_cons, Wp_move, WpMv_d, WpMv_o, WpMv_s, Wp_cnil, Wp_cval, Wp_cbor, Wp_call, Wp_comp, Wp_comp2, retK_r, retK_n, forJ_nx, forJ_cnt, Wp_asDat, Wp_asDatO, Wp_asB, Wp_tru, Wp_bind, Wp_ok, Wp_lift, Wp_ite, Wp_lite, Wp_aug, WpAug_i, Wp_dnewK, Wp_dnewT, Wp_putH, WpPutH_d, WpPutH_T, Wp_put, Wp_push, Wp_end, Wp_app, WB_b, Wi_true, Wi_false, Wq_run, argsOf_v, argsOf_b, argsOf_n, putBack_v, putBack_b, putBack_n, back_o, back_s, back_d, see_d, see_o, see_s, List.getElem?_cons_zero, List.getElem?_cons_succ, List.set_cons_zero, List.set_cons_succ, List.cons_append, List.nil_append, List.take_succ_cons, List.take_zero, List.length_cons, List.length_nil, List.dropLast_cons₂, List.dropLast_singleton, Option.getD_some, wipeE, restoreE, gN, List.replicate_zero, List.replicate_succ, Nat.reduceAdd, Nat.reduceSub, decide_eq_true_eq, Bool.true_eq_false, Bool.false_eq_true, reduceCtorEq, not_false_eq_true, see_d, see_o, see_s, ownS_o, WpAug_l, isS_d, isS_o, mkRg_l, mkRg_t, dMax2_i, dMin2_i, dIx_l, dIx_t, dAdd_i, dSub_i, dNeg_i, dMod_i, dDiv_i, dMul_r, dMul_l, dPow_18, dGtA_i, dLtA_i, dGtI_i, dLtI_i, dGeI_i, dLeI_i, dInt_i, dAbs_i, dLen_l, dLen_t, dTuple_l, dList_l, dList_t, dAdd_l, dAdd_t, tupOf_i, lstOf_i, seqOf_l, seqOf_t, range1_i, WpPut_i, WpPush_i, WpEnd_i, WpApp_i, dEq_i, dNe_i, dNe_bb, dEq_bb, bools_true, allT, isL, dCnt_s, dOnce_i, onceOf, dIs_n, dIs_b, enumOf_l, enumOf_t, zipOf_t, zipOf_l, zipD_c, zipD_n, dIsNot_n, gTup_t, gs_c, gs_n, range2_i, Option.bind_some, unpack, dRev_l, dRev_t, isInt, isBool, isTuple, isList, isStr, isN, isOwnL, dSumA_l, dSumA_t, dAll, dAny, bools, Option.map_some, List.all_cons, List.all_nil, List.any_cons, List.any_nil, id_eq, Bool.and_true, Bool.true_and, Bool.and_self, Bool.not_true, Bool.not_false, dSlice_l, dSlice_t, asI_i, decide_true, decide_false, Int.reduceLE, Int.reduceLT, Int.reduceToNat, Int.reduceNeg, Int.reduceAdd, Int.reduceSub, Int.reduceMul, Nat.reduceLeDiff, Nat.reduceLT, reduceIte, Int.reducePow, Int.cast_ofNat_Int, Int.toNat_one, Int.toNat_zero, Nat.zero_add, Nat.lt_add_one, Nat.zero_lt_succ, Int.reduceEq, Nat.reduceEqDiff, Int.toNat_natCast]
      exact ⟨trivial, trivial⟩
    | str hs =>
      simp only [↓Wp_rIf, ↓Wp_seq, ↓Wp_seqN, ↓Wp_seqR, ↓Wp_seqB, ↓Wp_seqC, ↓Wp_next, ↓Wp_brk, ↓Wp_cnt, ↓Wp_set, ↓Wp_asg, ↓Wp_ret, ↓Wp_drop, ↓Wp_kill, ↓Wp_par, ↓Wp_ifs, ↓Wp_for, ↓forK_nx, ↓forK_cnt, ↓forK_brk, ↓forK_ret, ↓Wp_c, ↓Wp_var, ↓WpVar_d, ↓WpVar_o, ↓Wp_view, ↓Wp_andV, ↓Wp_orV, ↓Wp_chain, ↓Wp_bin, ↓Wp_andB, ↓Wp_orB, ↓Wp_yes, ↓Wp_push0, ↓Wp_pushN, ↓Wp_nil, ↓Wp_cons, ↓Wp_move, ↓WpMv_d, ↓WpMv_o, ↓WpMv_s, ↓Wp_cnil, ↓Wp_cval, ↓Wp_cbor, ↓Wp_call, ↓Wp_comp, ↓Wp_comp2, ↓retK_r, ↓retK_n, ↓forJ_nx, ↓forJ_cnt, ↓Wp_asDat, ↓Wp_asDatO, ↓Wp_asB, ↓Wp_tru, ↓Wp_bind, ↓Wp_ok, ↓Wp_lift, ↓Wp_ite, ↓Wp_lite, ↓Wp_aug, ↓WpAug_i, ↓Wp_dnewK, ↓Wp_dnewT, ↓Wp_putH, ↓WpPutH_d, ↓WpPutH_T, ↓Wp_put, ↓Wp_push, ↓Wp_end, ↓Wp_app, ↓WB_b, ↓Wi_true, ↓Wi_false, Wp_rIf, Wp_seq, Wp_seqN, Wp_seqR, Wp_seqB, Wp_seqC, Wp_next, Wp_brk, Wp_cnt, Wp_set, Wp_asg, Wp_ret, Wp_drop, Wp_kill, Wp_par, Wp_ifs, Wp_for, forK_nx, forK_cnt, forK_brk, forK_ret, Wp_c, Wp_var, WpVar_d, WpVar_o, Wp_view, Wp_andV, Wp_orV, Wp_chain, Wp_bin, Wp_andB, Wp_orB, Wp_yes, Wp_push0, Wp_pushN, Wp_nil, Wp_cons, Wp_move, WpMv_d, WpMv_o, WpMv_s, Wp_cnil, Wp_cval, Wp_cbor, Wp_call, Wp_comp, Wp_comp2, retK_r, retK_n, forJ_nx, forJ_cnt, Wp_asDat, Wp_asDatO, Wp_asB, Wp_tru, Wp_bind, Wp_ok, Wp_lift, Wp_ite, Wp_lite, Wp_aug, WpAug_i, Wp_dnewK, Wp_dnewT, Wp_putH, WpPutH_d, WpPutH_T, Wp_put, Wp_push, Wp_end, Wp_app, WB_b, Wi_true, Wi_false, Wq_run, argsOf_v, argsOf_b, argsOf_n, putBack_v, putBack_b, putBack_n, back_o, back_s, back_d, see_d, see_o, see_s, List.getElem?_cons_zero, List.getElem?_cons_succ, List.set_cons_zero, List.set_cons_succ, List.cons_append, List.nil_append, List.take_succ_cons, List.take_zero, List.length_cons, List.length_nil, List.dropLast_cons₂, List.dropLast_singleton, Option.getD_some, wipeE, restoreE, gN, List.replicate_zero, List.replicate_succ, Nat.reduceAdd, Nat.reduceSub, decide_eq_true_eq, Bool.true_eq_false, Bool.false_eq_true, reduceCtorEq, not_false_eq_true, see_d, see_o, see_s, ownS_o, WpAug_l, isS_d, isS_o, mkRg_l, mkRg_t, dMax2_i, dMin2_i, dIx_l, dIx_t, dAdd_i, dSub_i, dNeg_i, dMod_i, dDiv_i, dMul_r, dMul_l, dPow_18, dGtA_i, dLtA_i, dGtI_i, dLtI_i, dGeI_i, dLeI_i, dInt_i, dAbs_i, dLen_l, dLen_t, dTuple_l, dList_l, dList_t, dAdd_l, dAdd_t, tupOf_i, lstOf_i, seqOf_l, seqOf_t, range1_i, WpPut_i, WpPush_i, WpEnd_i, WpApp_i, dEq_i, dNe_i, dNe_bb, dEq_bb, bools_true, allT, isL, dCnt_s, dOnce_i, onceOf, dIs_n, dIs_b, enumOf_l, enumOf_t, zipOf_t, zipOf_l, zipD_c, zipD_n, dIsNot_n, gTup_t, gs_c, gs_n, range2_i, Option.bind_some, unpack, dRev_l, dRev_t, isInt, isBool, isTuple, isList, isStr, isN, isOwnL, dSumA_l, dSumA_t, dAll, dAny, bools, Option.map_some, List.all_cons, List.all_nil, List.any_cons, List.any_nil, id_eq, Bool.and_true, Bool.true_and, Bool.and_self, Bool.not_true, Bool.not_false, dSlice_l, dSlice_t, asI_i, decide_true, decide_false, Int.reduceLE, Int.reduceLT, Int.reduceToNat, Int.reduceNeg, Int.reduceAdd, Int.reduceSub, Int.reduceMul, Nat.reduceLeDiff, Nat.reduceLT, reduceIte, Int.reducePow, Int.cast_ofNat_Int, Int.toNat_one, Int.toNat_zero, Nat.zero_add, Nat.lt_add_one, Nat.zero_lt_succ, Int.reduceEq, Nat.reduceEqDiff, Int.toNat_natCast, dStr_s, dEq_str hs]
      exact ⟨trivial, trivial⟩
  | succ n ih =>
    intro d h Q
    refine Wm_exact ?_
    show Wm (rLen 2 (mOf 3 (M.fb_law_same (M.m_law_same (n + 1))))) _ _
    refine Wm_of rfl ?_
    unfold M.fb_law_same
    cases h with
    | int i =>
      simp only [↓Wp_rIf, ↓Wp_seq, ↓Wp_seqN, ↓Wp_seqR, ↓Wp_seqB, ↓Wp_seqC, ↓Wp_next, ↓Wp_brk, ↓Wp_cnt, ↓Wp_set, ↓Wp_asg, ↓Wp_ret, ↓Wp_drop, ↓Wp_kill, ↓Wp_par, ↓Wp_ifs, ↓Wp_for, ↓forK_nx, ↓forK_cnt, ↓forK_brk, ↓forK_ret, ↓Wp_c, ↓Wp_var, ↓WpVar_d, ↓WpVar_o, ↓Wp_view, ↓Wp_andV, ↓Wp_orV, ↓Wp_chain, ↓Wp_bin, ↓Wp_andB, ↓Wp_orB, ↓Wp_yes, ↓Wp_push0, ↓Wp_pushN, ↓Wp_nil, ↓Wp_cons, ↓Wp_move, ↓WpMv_d, ↓WpMv_o, ↓WpMv_s, ↓Wp_cnil, ↓Wp_cval, ↓Wp_cbor, ↓Wp_call, ↓Wp_comp, ↓Wp_comp2, ↓retK_r, ↓retK_n, ↓forJ_nx, ↓forJ_cnt, ↓Wp_asDat, ↓Wp_asDatO, ↓Wp_asB, ↓Wp_tru, ↓Wp_bind, ↓Wp_ok, ↓Wp_lift, ↓Wp_ite, ↓Wp_lite, ↓Wp_aug, ↓WpAug_i, ↓Wp_dnewK, ↓Wp_dnewT, ↓Wp_putH, ↓WpPutH_d, ↓WpPutH_T, ↓Wp_put, ↓Wp_push, ↓Wp_end, ↓Wp_app, ↓WB_b, ↓Wi_true, ↓Wi_false, Wp_rIf, Wp_seq, Wp_seqN, Wp_seqR, Wp_seqB, Wp_seqC, Wp_next, Wp_brk, Wp_cnt, Wp_set, Wp_asg, Wp_ret, Wp_drop, Wp_kill, Wp_par, Wp_ifs, Wp_for, forK_nx, forK_cnt, forK_brk, forK_ret, Wp_c, Wp_var, WpVar_d, WpVar_o, Wp_view, Wp_andV, Wp_orV, Wp_chain, Wp_bin, Wp_andB, Wp_orB, Wp_yes, Wp_push0, Wp_pushN, Wp_nil, Wp_cons, Wp_move, WpMv_d, WpMv_o, WpMv_s, Wp_cnil, Wp_cval, Wp_cbor, Wp_call, Wp_comp, Wp_comp2, retK_r, retK_n, forJ_nx, forJ_cnt, Wp_asDat, Wp_asDatO, Wp_asB, Wp_tru, Wp_bind, Wp_ok, Wp_lift, Wp_ite, Wp_lite, Wp_aug, WpAug_i, Wp_dnewK, Wp_dnewT, Wp_putH, WpPutH_d, WpPutH_T, Wp_put, Wp_push, Wp_end, Wp_app, WB_b, Wi_true, Wi_false, Wq_run, argsOf_v, argsOf_b, argsOf_n, putBack_v, putBack_b, putBack_n, back_o, back_s, back_d, see_d, see_o, see_s, List.getElem?_cons_zero, List.getElem?_cons_succ, List.set_cons_zero, List.set_cons_succ, List.cons_append, List.nil_append, List.take_succ_cons, List.take_zero, List.length_cons, List.length_nil, List.dropLast_cons₂, List.dropLast_singleton, Option.getD_some, wipeE, restoreE, gN, List.replicate_zero, List.replicate_succ, Nat.reduceAdd, Nat.reduceSub, decide_eq_true_eq, Bool.true_eq_false, Bool.false_eq_true, reduceCtorEq, not_false_eq_true, see_d, see_o, see_s, ownS_o, WpAug_l, isS_d, isS_o, mkRg_l, mkRg_t, dMax2_i, dMin2_i, dIx_l, dIx_t, dAdd_i, dSub_i, dNeg_i, dMod_i, dDiv_i, dMul_r, dMul_l, dPow_18, dGtA_i, dLtA_i, dGtI_i, dLtI_i, dGeI_i, dLeI_i, dInt_i, dAbs_i, dLen_l, dLen_t, dTuple_l, dList_l, dList_t, dAdd_l, dAdd_t, tupOf_i, lstOf_i, seqOf_l, seqOf_t, range1_i, WpPut_i, WpPush_i, WpEnd_i, WpApp_i, dEq_i, dNe_i, dNe_bb, dEq_bb, bools_true, allT, isL, dCnt_s, dOnce_i, onceOf, dIs_n, dIs_b, enumOf_l, enumOf_t, zipOf_t, zipOf_l, zipD_c, zipD_n, dIsNot_n, gTup_t, gs_c, gs_n, range2_i, Option.bind_some, unpack, dRev_l, dRev_t, isInt, isBool, isTuple, isList, isStr, isN, isOwnL, dSumA_l, dSumA_t, dAll, dAny, bools, Option.map_some, List.all_cons, List.all_nil, List.any_cons, List.any_nil, id_eq, Bool.and_true, Bool.true_and, Bool.and_self, Bool.not_true, Bool.not_false, dSlice_l, dSlice_t, asI_i, decide_true, decide_false, Int.reduceLE, Int.reduceLT, Int.reduceToNat, Int.reduceNeg, Int.reduceAdd, Int.reduceSub, Int.reduceMul, Nat.reduceLeDiff, Nat.reduceLT, reduceIte, Int.reducePow, Int.cast_ofNat_Int, Int.toNat_one, Int.toNat_zero, Nat.zero_add, Nat.lt_add_one, Nat.zero_lt_succ, Int.reduceEq, Nat.reduceEqDiff, Int.toNat_natCast]
      exact ⟨trivial, trivial⟩
    | bool b =>
      cases b <;> simp only [↓Wp_rIf, ↓Wp_seq, ↓Wp_seqN, ↓Wp_seqR, ↓Wp_seqB, ↓Wp_seqC, ↓Wp_next, ↓Wp_brk, ↓Wp_cnt, ↓Wp_set, ↓Wp_asg, ↓Wp_ret, ↓Wp_drop, ↓Wp_kill, ↓Wp_par, ↓Wp_ifs, ↓Wp_for, ↓forK_nx, ↓forK_cnt, ↓forK_brk, ↓forK_ret, ↓Wp_c, ↓Wp_var, ↓WpVar_d, ↓WpVar_o, ↓Wp_view, ↓Wp_andV, ↓Wp_orV, ↓Wp_chain, ↓Wp_bin, ↓Wp_andB, ↓Wp_orB, ↓Wp_yes, ↓Wp_push0, ↓Wp_pushN, ↓Wp_nil, ↓Wp_cons, ↓Wp_move, ↓WpMv_d, ↓WpMv_o, ↓WpMv_s, ↓Wp_cnil, ↓Wp_cval, ↓Wp_cbor, ↓Wp_call, ↓Wp_comp, ↓Wp_comp2, ↓retK_r, ↓retK_n, ↓forJ_nx, ↓forJ_cnt, ↓Wp_asDat, ↓Wp_asDatO, ↓Wp_asB, ↓Wp_tru, ↓Wp_bind, ↓Wp_ok, ↓Wp_lift, ↓Wp_ite, ↓Wp_lite, ↓Wp_aug, ↓WpAug_i, ↓Wp_dnewK, ↓Wp_dnewT, ↓Wp_putH, ↓WpPutH_d, ↓WpPutH_T, ↓Wp_put, ↓Wp_push, ↓Wp_end, ↓Wp_app, ↓WB_b, ↓Wi_true, ↓Wi_false, Wp_rIf, Wp_seq, Wp_seqN, Wp_seqR, Wp_seqB, Wp_seqC, Wp_next, Wp_brk, Wp_cnt, Wp_set, Wp_asg, Wp_ret, Wp_drop, Wp_kill, Wp_par, Wp_ifs, Wp_for, forK_nx, forK_cnt, forK_brk, forK_ret, Wp_c, Wp_var, WpVar_d, WpVar_o, Wp_view, Wp_andV, Wp_orV, Wp_chain, Wp_bin, Wp_andB, Wp_orB, Wp_yes, Wp_push0, Wp_pushN, Wp_nil, Wp_cons, Wp_move, WpMv_d, WpMv_o, WpMv_s, Wp_cnil, Wp_cval, Wp_cbor, Wp_call, Wp_comp, Wp_comp2, retK_r, retK_n, forJ_nx, forJ_cnt, Wp_asDat, Wp_asDatO, Wp_asB, Wp_tru, Wp_bind, Wp_ok, Wp_lift, Wp_ite, Wp_lite, Wp_aug, WpAug_i, Wp_dnewK, Wp_dnewT, Wp_putH, WpPutH_d, WpPutH_T, Wp_put, Wp_push, Wp_end, Wp_app, WB_b, Wi_true, Wi_false, Wq_run, argsOf_v, argsOf_b, argsOf_n, putBack_v, putBack_b, putBack_n, back_o, back_s, back_d, see_d, see_o, see_s, List.getElem?_cons_zero, List.getElem?_cons_succ, List.set_cons_zero, List.set_cons_succ, List.cons_append, List.nil_append, List.take_succ_cons, List.take_zero, List.length_cons, List.length_nil, List.dropLast_cons₂, List.dropLast_singleton, Option.getD_some, wipeE, restoreE, gN, List.replicate_zero, List.replicate_succ, Nat.reduceAdd, Nat.reduceSub, decide_eq_true_eq, Bool.true_eq_false, Bool.false_eq_true, reduceCtorEq, not_false_eq_true, see_d, see_o, see_s, ownS_o, WpAug_l, isS_d, isS_o, mkRg_l, mkRg_t, dMax2_i, dMin2_i, dIx_l, dIx_t, dAdd_i, dSub_i, dNeg_i, dMod_i, dDiv_i, dMul_r, dMul_l, dPow_18, dGtA_i, dLtA_i, dGtI_i, dLtI_i, dGeI_i, dLeI_i, dInt_i, dAbs_i, dLen_l, dLen_t, dTuple_l, dList_l, dList_t, dAdd_l, dAdd_t, tupOf_i, lstOf_i, seqOf_l, seqOf_t, range1_i, WpPut_i, WpPush_i, WpEnd_i, WpApp_i, dEq_i, dNe_i, dNe_bb, dEq_bb, bools_true, allT, isL, dCnt_s, dOnce_i, onceOf, dIs_n, dIs_b, enumOf_l, enumOf_t, zipOf_t, zipOf_l, zipD_c, zipD_n, dIsNot_n, gTup_t, gs_c, gs_n, range2_i, Option.bind_some, unpack, dRev_l, dRev_t, isInt, isBool, isTuple, isList, isStr, isN, isOwnL, dSumA_l, dSumA_t, dAll, dAny, bools, Option.map_some, List.all_cons, List.all_nil, List.any_cons, List.any_nil, id_eq, Bool.and_true, Bool.true_and, Bool.and_self, Bool.not_true, Bool.not_false, dSlice_l, dSlice_t, asI_i, decide_true, decide_false, Int.reduceLE, Int.reduceLT, Int.reduceToNat, Int.reduceNeg, Int.reduceAdd, Int.reduceSub, Int.reduceMul, Nat.reduceLeDiff, Nat.reduceLT, reduceIte, Int.reducePow, Int.cast_ofNat_Int, Int.toNat_one, Int.toNat_zero, Nat.zero_add, Nat.lt_add_one, Nat.zero_lt_succ, Int.reduceEq, Nat.reduceEqDiff, Int.toNat_natCast] <;> exact ⟨trivial, trivial⟩
    | none =>
      simp only [↓Wp_rIf, ↓Wp_seq, ↓Wp_seqN, ↓Wp_seqR, ↓Wp_seqB, ↓Wp_seqC, ↓Wp_next, ↓Wp_brk, ↓Wp_cnt, ↓Wp_set, ↓Wp_asg, ↓Wp_ret, ↓Wp_drop, ↓Wp_kill, ↓Wp_par, ↓Wp_ifs, ↓Wp_for, ↓forK_nx, ↓forK_cnt, ↓forK_brk, ↓forK_ret, ↓Wp_c, ↓Wp_var, ↓WpVar_d, ↓WpVar_o, ↓Wp_view, ↓Wp_andV, ↓Wp_orV, ↓Wp_chain, ↓Wp_bin, ↓Wp_andB, ↓Wp_orB, ↓Wp_yes, ↓Wp_push0, ↓Wp_pushN, ↓Wp_nil, ↓Wp_cons, ↓Wp_move, ↓WpMv_d, ↓WpMv_o, ↓WpMv_s, ↓Wp_cnil, ↓Wp_cval, ↓Wp_cbor, ↓Wp_call, ↓Wp_comp, ↓Wp_comp2, ↓retK_r, ↓retK_n, ↓forJ_nx, ↓forJ_cnt, ↓Wp_asDat, ↓Wp_asDatO, ↓Wp_asB, ↓Wp_tru, ↓Wp_bind, ↓Wp_ok, ↓Wp_lift, ↓Wp_ite, ↓Wp_lite, ↓Wp_aug, ↓WpAug_i, ↓Wp_dnewK, ↓Wp_dnewT, ↓Wp_putH, ↓WpPutH_d, ↓WpPutH_T, ↓Wp_put, ↓Wp_push, ↓Wp_end, ↓Wp_app, ↓WB_b, ↓Wi_true, ↓Wi_false, Wp_rIf, Wp_seq, Wp_seqN, Wp_seqR, Wp_seqB, Wp_seqC, Wp_next, Wp_brk, Wp_cnt, Wp_set, Wp_asg, Wp_ret, Wp_drop, Wp_kill, Wp_par, Wp_ifs, Wp_for, forK_nx, forK_cnt, forK_brk, forK_ret, Wp_c, Wp_var, WpVar_d, WpVar_o, Wp_view, Wp_andV, Wp_orV, Wp_chain, Wp_bin, Wp_andB, Wp_orB, Wp_yes, Wp_push0, Wp_pushN, Wp_nil, Wp_cons, Wp_move, WpMv_d, WpMv_o, WpMv_s, Wp_cnil, Wp_cval, Wp_cbor, Wp_call, Wp_comp, Wp_comp2, retK_r, retK_n, forJ_nx, forJ_cnt, Wp_asDat, Wp_asDatO, Wp_asB, Wp_tru, Wp_bind, Wp_ok, Wp_lift, Wp_ite, Wp_lite, Wp_aug, WpAug_i, Wp_dnewK, Wp_dnewT, Wp_putH, WpPutH_d, WpPutH_T, Wp_put, Wp_push, Wp_end, Wp_app, WB_b, Wi_true, Wi_false, Wq_run, argsOf_v, argsOf_b, argsOf_n, putBack_v, putBack_b, putBack_n, back_o, back_s, back_d, see_d, see_o, see_s, List.getElem?_cons_zero, List.getElem?_cons_succ, List.set_cons_zero, List.set_cons_succ, List.cons_append, List.nil_append, List.take_succ_cons, List.take_zero, List.length_cons, List.length_nil, List.dropLast_cons₂, List.dropLast_singleton, Option.getD_some, wipeE, restoreE, gN, List.replicate_zero, List.replicate_succ, Nat.reduceAdd, Nat.reduceSub, decide_eq_true_eq, Bool.true_eq_false, Bool.false_eq_true, reduceCtorEq, not_false_eq_true, see_d, see_o, see_s, ownS_o, WpAug_l, isS_d, isS_o, mkRg_l, mkRg_t, dMax2_i, dMin2_i, dIx_l, dIx_t, dAdd_i, dSub_i, dNeg_i, dMod_i, dDiv_i, dMul_r, dMul_l, dPow_18, dGtA_i, dLtA_i, dGtI_i, dLtI_i, dGeI_i, dLeI_i, dInt_i, dAbs_i, dLen_l, dLen_t, dTuple_l, dList_l, dList_t, dAdd_l, dAdd_t, tupOf_i, lstOf_i, seqOf_l, seqOf_t, range1_i, WpPut_i, WpPush_i, WpEnd_i, WpApp_i, dEq_i, dNe_i, dNe_bb, dEq_bb, bools_true, allT, isL, dCnt_s, dOnce_i, onceOf, dIs_n, dIs_b, enumOf_l, enumOf_t, zipOf_t, zipOf_l, zipD_c, zipD_n, dIsNot_n, gTup_t, gs_c, gs_n, range2_i, Option.bind_some, unpack, dRev_l, dRev_t, isInt, isBool, isTuple, isList, isStr, isN, isOwnL, dSumA_l, dSumA_t, dAll, dAny, bools, Option.map_some, List.all_cons, List.all_nil, List.any_cons, List.any_nil, id_eq, Bool.and_true, Bool.true_and, Bool.and_self, Bool.not_true, Bool.not_false, dSlice_l, dSlice_t, asI_i, decide_true, decide_false, Int.reduceLE, Int.reduceLT, Int.reduceToNat, Int.reduceNeg, Int.reduceAdd, Int.reduceSub, Int.reduceMul, Nat.reduceLeDiff, Nat.reduceLT, reduceIte, Int.reducePow, Int.cast_ofNat_Int, Int.toNat_one, Int.toNat_zero, Nat.zero_add, Nat.lt_add_one, Nat.zero_lt_succ, Int.reduceEq, Nat.reduceEqDiff, Int.toNat_natCast]
      exact ⟨trivial, trivial⟩
    | str hs =>
      simp only [↓Wp_rIf, ↓Wp_seq, ↓Wp_seqN, ↓Wp_seqR, ↓Wp_seqB, ↓Wp_seqC, ↓Wp_next, ↓Wp_brk, ↓Wp_cnt, ↓Wp_set, ↓Wp_asg, ↓Wp_ret, ↓Wp_drop, ↓Wp_kill, ↓Wp_par, ↓Wp_ifs, ↓Wp_for, ↓forK_nx, ↓forK_cnt, ↓forK_brk, ↓forK_ret, ↓Wp_c, ↓Wp_var, ↓WpVar_d, ↓WpVar_o, ↓Wp_view, ↓Wp_andV, ↓Wp_orV, ↓Wp_chain, ↓Wp_bin, ↓Wp_andB, ↓Wp_orB, ↓Wp_yes, ↓Wp_push0, ↓Wp_pushN, ↓Wp_nil, ↓Wp_cons, ↓Wp_move, ↓WpMv_d, ↓WpMv_o, ↓WpMv_s, ↓Wp_cnil, ↓Wp_cval, ↓Wp_cbor, ↓Wp_call, ↓Wp_comp, ↓Wp_comp2, ↓retK_r, ↓retK_n, ↓forJ_nx, ↓forJ_cnt, ↓Wp_asDat, ↓Wp_asDatO, ↓Wp_asB, ↓Wp_tru, ↓Wp_bind, ↓Wp_ok, ↓Wp_lift, ↓Wp_ite, ↓Wp_lite, ↓Wp_aug, ↓WpAug_i, ↓Wp_dnewK, ↓Wp_dnewT, ↓Wp_putH, ↓WpPutH_d, ↓WpPutH_T, ↓Wp_put, ↓Wp_push, ↓Wp_end, ↓Wp_app, ↓WB_b, ↓Wi_true, ↓Wi_false, Wp_rIf, Wp_seq, Wp_seqN, Wp_seqR, Wp_seqB, Wp_seqC, Wp_next, Wp_brk, Wp_cnt, Wp_set, Wp_asg, Wp_ret, Wp_drop, Wp_kill, Wp_par, Wp_ifs, Wp_for, forK_nx, forK_cnt, forK_brk, forK_ret, Wp_c, Wp_var, WpVar_d, WpVar_o, Wp_view, Wp_andV, Wp_orV, Wp_chain, Wp_bin, Wp_andB, Wp_orB, Wp_yes, Wp_push0, Wp_pushN, Wp_nil, Wp_cons, Wp_move, WpMv_d, WpMv_o, WpMv_s, Wp_cnil, Wp_cval, Wp_cbor, Wp_call, Wp_comp, Wp_comp2, retK_r, retK_n, forJ_nx, forJ_cnt, Wp_asDat, Wp_asDatO, Wp_asB, Wp_tru, Wp_bind, Wp_ok, Wp_lift, Wp_ite, Wp_lite, Wp_aug, WpAug_i, Wp_dnewK, Wp_dnewT, Wp_putH, WpPutH_d, WpPutH_T, Wp_put, Wp_push, Wp_end, Wp_app, WB_b, Wi_true, Wi_false, Wq_run, argsOf_v, argsOf_b, argsOf_n, putBack_v, putBack_b, putBack_n, back_o, back_s, back_d, see_d, see_o, see_s, List.getElem?_cons_zero, List.getElem?_cons_succ, List.set_cons_zero, List.set_cons_succ, List.cons_append, List.nil_append, List.take_succ_cons, List.take_zero, List.length_cons, List.length_nil, List.dropLast_cons₂, List.dropLast_singleton, Option.getD_some, wipeE, restoreE, gN, List.replicate_zero, List.replicate_succ, Nat.reduceAdd, Nat.reduceSub, decide_eq_true_eq, Bool.true_eq_false, Bool.false_eq_true, reduceCtorEq, not_false_eq_true, see_d, see_o, see_s, ownS_o, WpAug_l, isS_d, isS_o, mkRg_l, mkRg_t, dMax2_i, dMin2_i, dIx_l, dIx_t, dAdd_i, dSub_i, dNeg_i, dMod_i, dDiv_i, dMul_r, dMul_l, dPow_18, dGtA_i, dLtA_i, dGtI_i, dLtI_i, dGeI_i, dLeI_i, dInt_i, dAbs_i, dLen_l, dLen_t, dTuple_l, dList_l, dList_t, dAdd_l, dAdd_t, tupOf_i, lstOf_i, seqOf_l, seqOf_t, range1_i, WpPut_i, WpPush_i, WpEnd_i, WpApp_i, dEq_i, dNe_i, dNe_bb, dEq_bb, bools_true, allT, isL, dCnt_s, dOnce_i, onceOf, dIs_n, dIs_b, enumOf_l, enumOf_t, zipOf_t, zipOf_l, zipD_c, zipD_n, dIsNot_n, gTup_t, gs_c, gs_n, range2_i, Option.bind_some, unpack, dRev_l, dRev_t, isInt, isBool, isTuple, isList, isStr, isN, isOwnL, dSumA_l, dSumA_t, dAll, dAny, bools, Option.map_some, List.all_cons, List.all_nil, List.any_cons, List.any_nil, id_eq, Bool.and_true, Bool.true_and, Bool.and_self, Bool.not_true, Bool.not_false, dSlice_l, dSlice_t, asI_i, decide_true, decide_false, Int.reduceLE, Int.reduceLT, Int.reduceToNat, Int.reduceNeg, Int.reduceAdd, Int.reduceSub, Int.reduceMul, Nat.reduceLeDiff, Nat.reduceLT, reduceIte, Int.reducePow, Int.cast_ofNat_Int, Int.toNat_one, Int.toNat_zero, Nat.zero_add, Nat.lt_add_one, Nat.zero_lt_succ, Int.reduceEq, Nat.reduceEqDiff, Int.toNat_natCast, dStr_s, dEq_str hs]
      exact ⟨trivial, trivial⟩
    | @tup n ds hl hd =>
      have h1 : -4611686018427387904 ≤ (ds.length : Int) := by omega
      have h2 : (ds.length : Int) < 4611686018427387904 := by omega
      simp only [↓Wp_rIf, ↓Wp_seq, ↓Wp_seqN, ↓Wp_seqR, ↓Wp_seqB, ↓Wp_seqC, ↓Wp_next, ↓Wp_brk, ↓Wp_cnt, ↓Wp_set, ↓Wp_asg, ↓Wp_ret, ↓Wp_drop, ↓Wp_kill, ↓Wp_par, ↓Wp_ifs, ↓Wp_for, ↓forK_nx, ↓forK_cnt, ↓forK_brk, ↓forK_ret, ↓Wp_c, ↓Wp_var, ↓WpVar_d, ↓WpVar_o, ↓Wp_view, ↓Wp_andV, ↓Wp_orV, ↓Wp_chain, ↓Wp_bin, ↓Wp_andB, ↓Wp_orB, ↓Wp_yes, ↓Wp_push0, ↓Wp_pushN, ↓Wp_nil, ↓Wp_cons, ↓Wp_move, ↓WpMv_d, ↓WpMv_o, ↓WpMv_s, ↓Wp_cnil, ↓Wp_cval, ↓Wp_cbor, ↓Wp_call, ↓Wp_comp, ↓Wp_comp2, ↓retK_r, ↓retK_n, ↓forJ_nx, ↓forJ_cnt, ↓Wp_asDat, ↓Wp_asDatO, ↓Wp_asB, ↓Wp_tru, ↓Wp_bind, ↓Wp_ok, ↓Wp_lift, ↓Wp_ite, ↓Wp_lite, ↓Wp_aug, ↓WpAug_i, ↓Wp_dnewK, ↓Wp_dnewT, ↓Wp_putH, ↓WpPutH_d, ↓WpPutH_T, ↓Wp_put, ↓Wp_push, ↓Wp_end, ↓Wp_app, ↓WB_b, ↓Wi_true, ↓Wi_false, Wp_rIf, Wp_seq, Wp_seqN, Wp_seqR, Wp_seqB, Wp_seqC, Wp_next, Wp_brk, Wp_cnt, Wp_set, Wp_asg, Wp_ret, Wp_drop, Wp_kill, Wp_par, Wp_ifs, Wp_for, forK_nx, forK_cnt, forK_brk, forK_ret, Wp_c, Wp_var, WpVar_d, WpVar_o, Wp_view, Wp_andV, Wp_orV, Wp_chain, Wp_bin, Wp_andB, Wp_orB, Wp_yes, Wp_push0, Wp_pushN, Wp_nil, Wp_cons, Wp_move, WpMv_d, WpMv_o, WpMv_s, Wp_cnil, Wp_cval, Wp_cbor, Wp_call, Wp_comp, Wp_comp2, retK_r, retK_n, forJ_nx, forJ_cnt, Wp_asDat, Wp_asDatO, Wp_asB, Wp_tru, Wp_bind, Wp_ok, Wp_lift, Wp_ite, Wp_lite, Wp_aug, WpAug_i, Wp_dnewK, Wp_dnewT, Wp_putH, WpPutH_d, WpPutH_T, Wp_put, Wp_push, Wp_end, Wp_app, WB_b, Wi_true, Wi_false, Wq_run, argsOf_v, argsOf_b, argsOf_n, putBack_v, putBack_b, putBack_n, back_o, back_s, back_d, see_d, see_o, see_s, List.getElem?_cons_zero, List.getElem?_cons_succ, List.set_cons_zero, List.set_cons_succ, List.cons_append, List.nil_append, List.take_succ_cons, List.take_zero, List.length_cons, List.length_nil, List.dropLast_cons₂, List.dropLast_singleton, Option.getD_some, wipeE, restoreE, gN, List.replicate_zero, List.replicate_succ, Nat.reduceAdd, Nat.reduceSub, decide_eq_true_eq, Bool.true_eq_false, Bool.false_eq_true, reduceCtorEq, not_false_eq_true, see_d, see_o, see_s, ownS_o, WpAug_l, isS_d, isS_o, mkRg_l, mkRg_t, dMax2_i, dMin2_i, dIx_l, dIx_t, dAdd_i, dSub_i, dNeg_i, dMod_i, dDiv_i, dMul_r, dMul_l, dPow_18, dGtA_i, dLtA_i, dGtI_i, dLtI_i, dGeI_i, dLeI_i, dInt_i, dAbs_i, dLen_l, dLen_t, dTuple_l, dList_l, dList_t, dAdd_l, dAdd_t, tupOf_i, lstOf_i, seqOf_l, seqOf_t, range1_i, WpPut_i, WpPush_i, WpEnd_i, WpApp_i, dEq_i, dNe_i, dNe_bb, dEq_bb, bools_true, allT, isL, dCnt_s, dOnce_i, onceOf, dIs_n, dIs_b, enumOf_l, enumOf_t, zipOf_t, zipOf_l, zipD_c, zipD_n, dIsNot_n, gTup_t, gs_c, gs_n, range2_i, Option.bind_some, unpack, dRev_l, dRev_t, isInt, isBool, isTuple, isList, isStr, isN, isOwnL, dSumA_l, dSumA_t, dAll, dAny, bools, Option.map_some, List.all_cons, List.all_nil, List.any_cons, List.any_nil, id_eq, Bool.and_true, Bool.true_and, Bool.and_self, Bool.not_true, Bool.not_false, dSlice_l, dSlice_t, asI_i, decide_true, decide_false, Int.reduceLE, Int.reduceLT, Int.reduceToNat, Int.reduceNeg, Int.reduceAdd, Int.reduceSub, Int.reduceMul, Nat.reduceLeDiff, Nat.reduceLT, reduceIte, Int.reducePow, Int.cast_ofNat_Int, Int.toNat_one, Int.toNat_zero, Nat.zero_add, Nat.lt_add_one, Nat.zero_lt_succ, Int.reduceEq, Nat.reduceEqDiff, Int.toNat_natCast, h1, h2]
      refine go_map [.dat (.tuple ds), .dat (.tuple ds), .emp] (fun _ => true) (fun _ => .bool true) (by rw [upto_len]; simp; omega) (fun d hd' acc => ?_) ?_
      · obtain ⟨k, hk, rfl⟩ := upto_mem hd'
        have e : ds[k]? = some ds[k] := List.getElem?_eq_getElem hk
        have h3 : (0 : Int) ≤ k := by omega
        simp only [↓Wp_rIf, ↓Wp_seq, ↓Wp_seqN, ↓Wp_seqR, ↓Wp_seqB, ↓Wp_seqC, ↓Wp_next, ↓Wp_brk, ↓Wp_cnt, ↓Wp_set, ↓Wp_asg, ↓Wp_ret, ↓Wp_drop, ↓Wp_kill, ↓Wp_par, ↓Wp_ifs, ↓Wp_for, ↓forK_nx, ↓forK_cnt, ↓forK_brk, ↓forK_ret, ↓Wp_c, ↓Wp_var, ↓WpVar_d, ↓WpVar_o, ↓Wp_view, ↓Wp_andV, ↓Wp_orV, ↓Wp_chain, ↓Wp_bin, ↓Wp_andB, ↓Wp_orB, ↓Wp_yes, ↓Wp_push0, ↓Wp_pushN, ↓Wp_nil, ↓Wp_cons, ↓Wp_move, ↓WpMv_d, ↓WpMv_o, ↓WpMv_s, ↓Wp_cnil, ↓Wp_cval, ↓Wp_cbor, ↓Wp_call, ↓Wp_comp, ↓Wp_comp2, ↓retK_r, ↓retK_n, ↓forJ_nx, ↓forJ_cnt, ↓Wp_asDat, ↓Wp_asDatO, ↓Wp_asB, ↓Wp_tru, ↓Wp_bind, ↓Wp_ok, ↓Wp_lift, ↓Wp_ite, ↓Wp_lite, ↓Wp_aug, ↓WpAug_i, ↓Wp_dnewK, ↓Wp_dnewT, ↓Wp_putH, ↓WpPutH_d, ↓WpPutH_T, ↓Wp_put, ↓Wp_push, ↓Wp_end, ↓Wp_app, ↓WB_b, ↓Wi_true, ↓Wi_false, Wp_rIf, Wp_seq, Wp_seqN, Wp_seqR, Wp_seqB, Wp_seqC, Wp_next, Wp_brk, Wp_cnt, Wp_set, Wp_asg, Wp_ret, Wp_drop, Wp_kill, Wp_par, Wp_ifs, Wp_for, forK_nx, forK_cnt, forK_brk, forK_ret, Wp_c, Wp_var, WpVar_d, WpVar_o, Wp_view, Wp_andV, Wp_orV, Wp_chain, Wp_bin, Wp_andB, Wp_orB, Wp_yes, Wp_push0, Wp_pushN, Wp_nil, Wp_cons, Wp_move, WpMv_d, WpMv_o, WpMv_s, Wp_cnil, Wp_cval, Wp_cbor, Wp_call, Wp_comp, Wp_comp2, retK_r, retK_n, forJ_nx, forJ_cnt, Wp_asDat, Wp_asDatO, Wp_asB, Wp_tru, Wp_bind, Wp_ok, Wp_lift, Wp_ite, Wp_lite, Wp_aug, WpAug_i, Wp_dnewK, Wp_dnewT, Wp_putH, WpPutH_d, WpPutH_T, Wp_put, Wp_push, Wp_end, Wp_app, WB_b, Wi_true, Wi_false, Wq_run, argsOf_v, argsOf_b, argsOf_n, putBack_v, putBack_b, putBack_n, back_o, back_s, back_d, see_d, see_o, see_s, List.getElem?_cons_zero, List.getElem?_cons_succ, List.set_cons_zero, List.set_cons_succ, List.cons_append, List.nil_append, List.take_succ_cons, List.take_zero, List.length_cons, List.length_nil, List.dropLast_cons₂, List.dropLast_singleton, Option.getD_some, wipeE, restoreE, gN, List.replicate_zero, List.replicate_succ, Nat.reduceAdd, Nat.reduceSub, decide_eq_true_eq, Bool.true_eq_false, Bool.false_eq_true, reduceCtorEq, not_false_eq_true, see_d, see_o, see_s, ownS_o, WpAug_l, isS_d, isS_o, mkRg_l, mkRg_t, dMax2_i, dMin2_i, dIx_l, dIx_t, dAdd_i, dSub_i, dNeg_i, dMod_i, dDiv_i, dMul_r, dMul_l, dPow_18, dGtA_i, dLtA_i, dGtI_i, dLtI_i, dGeI_i, dLeI_i, dInt_i, dAbs_i, dLen_l, dLen_t, dTuple_l, dList_l, dList_t, dAdd_l, dAdd_t, tupOf_i, lstOf_i, seqOf_l, seqOf_t, range1_i, WpPut_i, WpPush_i, WpEnd_i, WpApp_i, dEq_i, dNe_i, dNe_bb, dEq_bb, bools_true, allT, isL, dCnt_s, dOnce_i, onceOf, dIs_n, dIs_b, enumOf_l, enumOf_t, zipOf_t, zipOf_l, zipD_c, zipD_n, dIsNot_n, gTup_t, gs_c, gs_n, range2_i, Option.bind_some, unpack, dRev_l, dRev_t, isInt, isBool, isTuple, isList, isStr, isN, isOwnL, dSumA_l, dSumA_t, dAll, dAny, bools, Option.map_some, List.all_cons, List.all_nil, List.any_cons, List.any_nil, id_eq, Bool.and_true, Bool.true_and, Bool.and_self, Bool.not_true, Bool.not_false, dSlice_l, dSlice_t, asI_i, decide_true, decide_false, Int.reduceLE, Int.reduceLT, Int.reduceToNat, Int.reduceNeg, Int.reduceAdd, Int.reduceSub, Int.reduceMul, Nat.reduceLeDiff, Nat.reduceLT, reduceIte, Int.reducePow, Int.cast_ofNat_Int, Int.toNat_one, Int.toNat_zero, Nat.zero_add, Nat.lt_add_one, Nat.zero_lt_succ, Int.reduceEq, Nat.reduceEqDiff, Int.toNat_natCast, e, h3, ih (hd _ (List.getElem_mem hk))]
        refine ⟨trivial, fun _ => trivial, fun _ => ⟨trivial, [.dat (.tuple ds), .dat (.tuple ds), .dat (.int k)], rfl, rfl, fun x => rfl⟩⟩
      · simp only [↓Wp_rIf, ↓Wp_seq, ↓Wp_seqN, ↓Wp_seqR, ↓Wp_seqB, ↓Wp_seqC, ↓Wp_next, ↓Wp_brk, ↓Wp_cnt, ↓Wp_set, ↓Wp_asg, ↓Wp_ret, ↓Wp_drop, ↓Wp_kill, ↓Wp_par, ↓Wp_ifs, ↓Wp_for, ↓forK_nx, ↓forK_cnt, ↓forK_brk, ↓forK_ret, ↓Wp_c, ↓Wp_var, ↓WpVar_d, ↓WpVar_o, ↓Wp_view, ↓Wp_andV, ↓Wp_orV, ↓Wp_chain, ↓Wp_bin, ↓Wp_andB, ↓Wp_orB, ↓Wp_yes, ↓Wp_push0, ↓Wp_pushN, ↓Wp_nil, ↓Wp_cons, ↓Wp_move, ↓WpMv_d, ↓WpMv_o, ↓WpMv_s, ↓Wp_cnil, ↓Wp_cval, ↓Wp_cbor, ↓Wp_call, ↓Wp_comp, ↓Wp_comp2, ↓retK_r, ↓retK_n, ↓forJ_nx, ↓forJ_cnt, ↓Wp_asDat, ↓Wp_asDatO, ↓Wp_asB, ↓Wp_tru, ↓Wp_bind, ↓Wp_ok, ↓Wp_lift, ↓Wp_ite, ↓Wp_lite, ↓Wp_aug, ↓WpAug_i, ↓Wp_dnewK, ↓Wp_dnewT, ↓Wp_putH, ↓WpPutH_d, ↓WpPutH_T, ↓Wp_put, ↓Wp_push, ↓Wp_end, ↓Wp_app, ↓WB_b, ↓Wi_true, ↓Wi_false, Wp_rIf, Wp_seq, Wp_seqN, Wp_seqR, Wp_seqB, Wp_seqC, Wp_next, Wp_brk, Wp_cnt, Wp_set, Wp_asg, Wp_ret, Wp_drop, Wp_kill, Wp_par, Wp_ifs, Wp_for, forK_nx, forK_cnt, forK_brk, forK_ret, Wp_c, Wp_var, WpVar_d, WpVar_o, Wp_view, Wp_andV, Wp_orV, Wp_chain, Wp_bin, Wp_andB, Wp_orB, Wp_yes, Wp_push0, Wp_pushN, Wp_nil, Wp_cons, Wp_move, WpMv_d, WpMv_o, WpMv_s, Wp_cnil, Wp_cval, Wp_cbor, Wp_call, Wp_comp, Wp_comp2, retK_r, retK_n, forJ_nx, forJ_cnt, Wp_asDat, Wp_asDatO, Wp_asB, Wp_tru, Wp_bind, Wp_ok, Wp_lift, Wp_ite, Wp_lite, Wp_aug, WpAug_i, Wp_dnewK, Wp_dnewT, Wp_putH, WpPutH_d, WpPutH_T, Wp_put, Wp_push, Wp_end, Wp_app, WB_b, Wi_true, Wi_false, Wq_run, argsOf_v, argsOf_b, argsOf_n, putBack_v, putBack_b, putBack_n, back_o, back_s, back_d, see_d, see_o, see_s, List.getElem?_cons_zero, List.getElem?_cons_succ, List.set_cons_zero, List.set_cons_succ, List.cons_append, List.nil_append, List.take_succ_cons, List.take_zero, List.length_cons, List.length_nil, List.dropLast_cons₂, List.dropLast_singleton, Option.getD_some, wipeE, restoreE, gN, List.replicate_zero, List.replicate_succ, Nat.reduceAdd, Nat.reduceSub, decide_eq_true_eq, Bool.true_eq_false, Bool.false_eq_true, reduceCtorEq, not_false_eq_true, see_d, see_o, see_s, ownS_o, WpAug_l, isS_d, isS_o, mkRg_l, mkRg_t, dMax2_i, dMin2_i, dIx_l, dIx_t, dAdd_i, dSub_i, dNeg_i, dMod_i, dDiv_i, dMul_r, dMul_l, dPow_18, dGtA_i, dLtA_i, dGtI_i, dLtI_i, dGeI_i, dLeI_i, dInt_i, dAbs_i, dLen_l, dLen_t, dTuple_l, dList_l, dList_t, dAdd_l, dAdd_t, tupOf_i, lstOf_i, seqOf_l, seqOf_t, range1_i, WpPut_i, WpPush_i, WpEnd_i, WpApp_i, dEq_i, dNe_i, dNe_bb, dEq_bb, bools_true, allT, isL, dCnt_s, dOnce_i, onceOf, dIs_n, dIs_b, enumOf_l, enumOf_t, zipOf_t, zipOf_l, zipD_c, zipD_n, dIsNot_n, gTup_t, gs_c, gs_n, range2_i, Option.bind_some, unpack, dRev_l, dRev_t, isInt, isBool, isTuple, isList, isStr, isN, isOwnL, dSumA_l, dSumA_t, dAll, dAny, bools, Option.map_some, List.all_cons, List.all_nil, List.any_cons, List.any_nil, id_eq, Bool.and_true, Bool.true_and, Bool.and_self, Bool.not_true, Bool.not_false, dSlice_l, dSlice_t, asI_i, decide_true, decide_false, Int.reduceLE, Int.reduceLT, Int.reduceToNat, Int.reduceNeg, Int.reduceAdd, Int.reduceSub, Int.reduceMul, Nat.reduceLeDiff, Nat.reduceLT, reduceIte, Int.reducePow, Int.cast_ofNat_Int, Int.toNat_one, Int.toNat_zero, Nat.zero_add, Nat.lt_add_one, Nat.zero_lt_succ, Int.reduceEq, Nat.reduceEqDiff, Int.toNat_natCast, bools_true, allT]
        exact ⟨trivial, trivial⟩
theorem Sm_P4 {n : Nat} : Sm (n + 1) (P4 a b c d) := .tup (by simp) fun e he => by
  simp only [List.mem_cons, List.not_mem_nil, or_false] at he
  rcases he with rfl | rfl | rfl | rfl <;> exact .int _
theorem Sm_tI {n : Nat} {ns : List Int} (h : ns.length ≤ 1000000) : Sm (n + 1) (tI ns) := .tup (by rw [List.length_map]; exact h) fun e he => by
  obtain ⟨i, _, rfl⟩ := List.mem_map.mp he
  exact .int i
theorem Sm_2 {n : Nat} {p q : PyData} (h1 : Sm n p) (h2 : Sm n q) : Sm (n + 1) (.tuple [p, q]) := .tup (by simp) fun e he => by
  simp only [List.mem_cons, List.not_mem_nil, or_false] at he
  rcases he with rfl | rfl <;> assumption
theorem Sm_3 {n : Nat} {p q r : PyData} (h1 : Sm n p) (h2 : Sm n q) (h3 : Sm n r) : Sm (n + 1) (.tuple [p, q, r]) := .tup (by simp) fun e he => by
  simp only [List.mem_cons, List.not_mem_nil, or_false] at he
  rcases he with rfl | rfl | rfl <;> assumption
theorem tI_fold {l : List Int} : PyData.tuple (l.map .int) = tI l := rfl
theorem inP_r {h a b c d : Int} (z : inP h a b c d) : inP h d a b c := by unfold inP at z ⊢; omega
theorem inP_m {h a b c d : Int} (z : inP h a b c d) : inP h a d c b := by unfold inP at z ⊢; omega
theorem inP_n {h a b c d : Int} (z : inP h a b c d) : inP h (-a) (-b) (-c) (-d) := by unfold inP at z ⊢; omega
theorem Wp_eq {α : Type} {Q : α → Ev → Prop} {o : Out α} {a : α} {ρ : Ev} (e : o = .ok a ρ) (q : Q a ρ) : Wp Q o := by
  rw [e, Wp_ok]
  exact q
theorem sl_lo {xs : List PyData} {n : Nat} (h : n ≤ xs.length) : cut xs none (some (n : Int)) = xs.take n := by
  unfold cut
  rw [HT.sIx_none, HT.sIx_nat, Nat.min_eq_left h, Nat.sub_zero, List.drop_zero]
theorem sl_hi {xs : List PyData} {n : Nat} (h : n ≤ xs.length) : cut xs (some (n : Int)) none = xs.drop n := by
  unfold cut
  rw [HT.sIx_none, HT.sIx_nat, Nat.min_eq_left h]
  apply List.take_of_length_le
  rw [List.length_drop]
  exact Nat.le_refl _
theorem tt0 (z : inP 9 a b c d) : Wm M.m_turned Q [.dat (P4 a b c d), .dat (.int 0)] = Q (.dat (P4 a b c d)) [.dat (P4 a b c d), .dat (.int 0)] := turned_eq z 0 (by decide)
theorem tt1 (z : inP 9 a b c d) : Wm M.m_turned Q [.dat (P4 a b c d), .dat (.int 1)] = Q (.dat (P4 d a b c)) [.dat (P4 a b c d), .dat (.int 1)] := turned_eq z 1 (by decide)
theorem tt2 (z : inP 9 a b c d) : Wm M.m_turned Q [.dat (P4 a b c d), .dat (.int 2)] = Q (.dat (P4 c d a b)) [.dat (P4 a b c d), .dat (.int 2)] := turned_eq z 2 (by decide)
theorem tt3 (z : inP 9 a b c d) : Wm M.m_turned Q [.dat (P4 a b c d), .dat (.int 3)] = Q (.dat (P4 b c d a)) [.dat (P4 a b c d), .dat (.int 3)] := turned_eq z 3 (by decide)
end
end DL
/-! sets of pieces -/
namespace DL
open PySem PySem.W L2
section
variable {a b c d w x y v : Int} {Q : Sl → Ev → Prop}
def fit (x y : Int) : Bool := !decide (x = 0) && decide (x + y = 0)
theorem fit_comm (x y : Int) : fit x y = fit y x := by
  unfold fit
  rw [Bool.eq_iff_iff]
  simp
  omega
/-- a piece's edge at a side -/
def at4 (n : Nat) (a b c d : Int) : Int := match n with
  | 0 => a
  | 1 => b
  | 2 => c
  | _ => d
theorem lt4 {n : Nat} (h : n < 4) : n = 0 ∨ n = 1 ∨ n = 2 ∨ n = 3 := by omega
theorem ix4 {n : Nat} (h : n < 4) : [PyData.int a, .int b, .int c, .int d][n]? = some (.int (at4 n a b c d)) := by
  rcases lt4 h with rfl | rfl | rfl | rfl <;> rfl
def bk (n : Nat) : Nat := (n + 2) % 4
theorem bk_lt {n : Nat} : bk n < 4 := by unfold bk; omega
theorem bk_int {n : Nat} : ((n : Int) + 2) % 4 = (bk n : Nat) := by unfold bk; omega
theorem bk_ix {n : Nat} (h : n < 4) : [PyData.int 2, .int 3, .int 0, .int 1][n]? = some (.int (bk n : Nat)) := by
  rcases lt4 h with rfl | rfl | rfl | rfl <;> rfl
theorem bk_bk {n : Nat} (h : n < 4) : bk (bk n) = n := by unfold bk; omega
/-- the edge of a turned piece -/
def rv (t k : Nat) (a b c d : Int) : Int := at4 ((k + 4 - t) % 4) a b c d
theorem dIx_rot {t k : Nat} (ht : t < 4) (hk : k < 4) : dIx (rot t a b c d) (.int (k : Nat)) = some (.int (rv t k a b c d)) := by
  rcases lt4 ht with rfl | rfl | rfl | rfl <;> rcases lt4 hk with rfl | rfl | rfl | rfl <;> rfl
theorem nonneg (n : Nat) : (0 : Int) ≤ n := by omega
theorem le3 {n : Nat} (h : n < 4) : (n : Int) ≤ 3 := by omega
theorem upto4_mem {e : PyData} (h : e ∈ upto 4) : ∃ k : Nat, k < 4 ∧ e = .int k := upto_mem (n := 4) h
theorem inP_9 {h : Int} (z : inP h a b c d) (h1 : h ≤ 9) : inP 9 a b c d := by unfold inP at z ⊢; omega
/-- a piece, a set of pieces -/
abbrev Pc := Int × Int × Int × Int
def pcD (q : Pc) : PyData := P4 q.1 q.2.1 q.2.2.1 q.2.2.2
def inQ (h : Int) (q : Pc) : Prop := inP h q.1 q.2.1 q.2.2.1 q.2.2.2
def SD (qs : List Pc) : PyData := .tuple (qs.map pcD)
structure GoodS (qs : List Pc) : Prop where
  pos : 0 < qs.length
  le : qs.length ≤ 36
  ok : ∀ q ∈ qs, inQ 9 q
theorem SD_fold {qs : List Pc} : PyData.tuple (qs.map pcD) = SD qs := rfl
theorem SD_len {qs : List Pc} : dLen [SD qs] = some (.dat (.int qs.length)) := by
  show some (Sl.dat (.int (qs.map pcD).length)) = _
  rw [List.length_map]
theorem SD_ix {qs : List Pc} {n : Nat} (h : n < qs.length) : dIx (SD qs) (.int (n : Nat)) = some (pcD qs[n]) := by
  have e := dIx_t (xs := qs.map pcD) (i := (n : Int)) (nonneg n)
  rw [Int.toNat_natCast, List.getElem?_map, List.getElem?_eq_getElem h] at e
  exact e
theorem fits_set_eq {qs : List Pc} (z : GoodS qs) : Wm M.m_fits_set Q [.dat (SD qs)] = Q (.dat (.bool true)) [.dat (SD qs)] := by
  refine Wm_exact (Wm_of rfl ?_)
  unfold M.fb_fits_set SD
  simp only [↓Wp_rIf, ↓Wp_seq, ↓Wp_seqN, ↓Wp_seqR, ↓Wp_seqB, ↓Wp_seqC, ↓Wp_next, ↓Wp_brk, ↓Wp_cnt, ↓Wp_set, ↓Wp_asg, ↓Wp_ret, ↓Wp_drop, ↓Wp_kill, ↓Wp_par, ↓Wp_ifs, ↓Wp_for, ↓forK_nx, ↓forK_cnt, ↓forK_brk, ↓forK_ret, ↓Wp_c, ↓Wp_var, ↓WpVar_d, ↓WpVar_o, ↓Wp_view, ↓Wp_andV, ↓Wp_orV, ↓Wp_chain, ↓Wp_bin, ↓Wp_andB, ↓Wp_orB, ↓Wp_yes, ↓Wp_push0, ↓Wp_pushN, ↓Wp_nil, ↓Wp_cons, ↓Wp_move, ↓WpMv_d, ↓WpMv_o, ↓WpMv_s, ↓Wp_cnil, ↓Wp_cval, ↓Wp_cbor, ↓Wp_call, ↓Wp_comp, ↓Wp_comp2, ↓retK_r, ↓retK_n, ↓forJ_nx, ↓forJ_cnt, ↓Wp_asDat, ↓Wp_asDatO, ↓Wp_asB, ↓Wp_tru, ↓Wp_bind, ↓Wp_ok, ↓Wp_lift, ↓Wp_ite, ↓Wp_lite, ↓Wp_aug, ↓WpAug_i, ↓Wp_dnewK, ↓Wp_dnewT, ↓Wp_putH, ↓WpPutH_d, ↓WpPutH_T, ↓Wp_put, ↓Wp_push, ↓Wp_end, ↓Wp_app, ↓WB_b, ↓Wi_true, ↓Wi_false, Wp_rIf, Wp_seq, Wp_seqN, Wp_seqR, Wp_seqB, Wp_seqC, Wp_next, Wp_brk, Wp_cnt, Wp_set, Wp_asg, Wp_ret, Wp_drop, Wp_kill, Wp_par, Wp_ifs, Wp_for, forK_nx, forK_cnt, forK_brk, forK_ret, Wp_c, Wp_var, WpVar_d, WpVar_o, Wp_view, Wp_andV, Wp_orV, Wp_chain, Wp_bin, Wp_andB, Wp_orB, Wp_yes, Wp_push0, Wp_pushN, Wp_nil, Wp_cons, Wp_move, WpMv_d, WpMv_o, WpMv_s, Wp_cnil, Wp_cval, Wp_cbor, Wp_call, Wp_comp, Wp_comp2, retK_r, retK_n, forJ_nx, forJ_cnt, Wp_asDat, Wp_asDatO, Wp_asB, Wp_tru, Wp_bind, Wp_ok, Wp_lift, Wp_ite, Wp_lite, Wp_aug, WpAug_i, Wp_dnewK, Wp_dnewT, Wp_putH, WpPutH_d, WpPutH_T, Wp_put, Wp_push, Wp_end, Wp_app, WB_b, Wi_true, Wi_false, Wq_run, argsOf_v, argsOf_b, argsOf_n, putBack_v, putBack_b, putBack_n, back_o, back_s, back_d, see_d, see_o, see_s, List.getElem?_cons_zero, List.getElem?_cons_succ, List.set_cons_zero, List.set_cons_succ, List.cons_append, List.nil_append, List.take_succ_cons, List.take_zero, List.length_cons, List.length_nil, List.dropLast_cons₂, List.dropLast_singleton, Option.getD_some, wipeE, restoreE, gN, List.replicate_zero, List.replicate_succ, Nat.reduceAdd, Nat.reduceSub, decide_eq_true_eq, Bool.true_eq_false, Bool.false_eq_true, reduceCtorEq, not_false_eq_true, see_d, see_o, see_s, ownS_o, WpAug_l, isS_d, isS_o, mkRg_l, mkRg_t, dMax2_i, dMin2_i, dIx_l, dIx_t, dAdd_i, dSub_i, dNeg_i, dMod_i, dDiv_i, dMul_r, dMul_l, dPow_18, dGtA_i, dLtA_i, dGtI_i, dLtI_i, dGeI_i, dLeI_i, dInt_i, dAbs_i, dLen_l, dLen_t, dTuple_l, dList_l, dList_t, dAdd_l, dAdd_t, tupOf_i, lstOf_i, seqOf_l, seqOf_t, range1_i, WpPut_i, WpPush_i, WpEnd_i, WpApp_i, dEq_i, dNe_i, dNe_bb, dEq_bb, bools_true, allT, isL, dCnt_s, dOnce_i, onceOf, dIs_n, dIs_b, enumOf_l, enumOf_t, zipOf_t, zipOf_l, zipD_c, zipD_n, dIsNot_n, gTup_t, gs_c, gs_n, range2_i, Option.bind_some, unpack, dRev_l, dRev_t, isInt, isBool, isTuple, isList, isStr, isN, isOwnL, dSumA_l, dSumA_t, dAll, dAny, bools, Option.map_some, List.all_cons, List.all_nil, List.any_cons, List.any_nil, id_eq, Bool.and_true, Bool.true_and, Bool.and_self, Bool.not_true, Bool.not_false, dSlice_l, dSlice_t, asI_i, decide_true, decide_false, Int.reduceLE, Int.reduceLT, Int.reduceToNat, Int.reduceNeg, Int.reduceAdd, Int.reduceSub, Int.reduceMul, Nat.reduceLeDiff, Nat.reduceLT, reduceIte, Int.reducePow, Int.cast_ofNat_Int, Int.toNat_one, Int.toNat_zero, Nat.zero_add, Nat.lt_add_one, Nat.zero_lt_succ, Int.reduceEq, Nat.reduceEqDiff, Int.toNat_natCast]
  refine Wm_of rfl ?_
  unfold M.fb_is_tuple_of
  have h1 : (1 : Int) ≤ (qs.length : Int) := by have := z.pos; omega
  have h2 : (qs.length : Int) ≤ 36 := by have := z.le; omega
  simp only [↓Wp_rIf, ↓Wp_seq, ↓Wp_seqN, ↓Wp_seqR, ↓Wp_seqB, ↓Wp_seqC, ↓Wp_next, ↓Wp_brk, ↓Wp_cnt, ↓Wp_set, ↓Wp_asg, ↓Wp_ret, ↓Wp_drop, ↓Wp_kill, ↓Wp_par, ↓Wp_ifs, ↓Wp_for, ↓forK_nx, ↓forK_cnt, ↓forK_brk, ↓forK_ret, ↓Wp_c, ↓Wp_var, ↓WpVar_d, ↓WpVar_o, ↓Wp_view, ↓Wp_andV, ↓Wp_orV, ↓Wp_chain, ↓Wp_bin, ↓Wp_andB, ↓Wp_orB, ↓Wp_yes, ↓Wp_push0, ↓Wp_pushN, ↓Wp_nil, ↓Wp_cons, ↓Wp_move, ↓WpMv_d, ↓WpMv_o, ↓WpMv_s, ↓Wp_cnil, ↓Wp_cval, ↓Wp_cbor, ↓Wp_call, ↓Wp_comp, ↓Wp_comp2, ↓retK_r, ↓retK_n, ↓forJ_nx, ↓forJ_cnt, ↓Wp_asDat, ↓Wp_asDatO, ↓Wp_asB, ↓Wp_tru, ↓Wp_bind, ↓Wp_ok, ↓Wp_lift, ↓Wp_ite, ↓Wp_lite, ↓Wp_aug, ↓WpAug_i, ↓Wp_dnewK, ↓Wp_dnewT, ↓Wp_putH, ↓WpPutH_d, ↓WpPutH_T, ↓Wp_put, ↓Wp_push, ↓Wp_end, ↓Wp_app, ↓WB_b, ↓Wi_true, ↓Wi_false, Wp_rIf, Wp_seq, Wp_seqN, Wp_seqR, Wp_seqB, Wp_seqC, Wp_next, Wp_brk, Wp_cnt, Wp_set, Wp_asg, Wp_ret, Wp_drop, Wp_kill, Wp_par, Wp_ifs, Wp_for, forK_nx, forK_cnt, forK_brk, forK_ret, Wp_c, Wp_var, WpVar_d, WpVar_o, Wp_view, Wp_andV, Wp_orV, Wp_chain, Wp_bin, Wp_andB, Wp_orB, Wp_yes, Wp_push0, Wp_pushN, Wp_nil, Wp_cons, Wp_move, WpMv_d, WpMv_o, WpMv_s, Wp_cnil, Wp_cval, Wp_cbor, Wp_call, Wp_comp, Wp_comp2, retK_r, retK_n, forJ_nx, forJ_cnt, Wp_asDat, Wp_asDatO, Wp_asB, Wp_tru, Wp_bind, Wp_ok, Wp_lift, Wp_ite, Wp_lite, Wp_aug, WpAug_i, Wp_dnewK, Wp_dnewT, Wp_putH, WpPutH_d, WpPutH_T, Wp_put, Wp_push, Wp_end, Wp_app, WB_b, Wi_true, Wi_false, Wq_run, argsOf_v, argsOf_b, argsOf_n, putBack_v, putBack_b, putBack_n, back_o, back_s, back_d, see_d, see_o, see_s, List.getElem?_cons_zero, List.getElem?_cons_succ, List.set_cons_zero, List.set_cons_succ, List.cons_append, List.nil_append, List.take_succ_cons, List.take_zero, List.length_cons, List.length_nil, List.dropLast_cons₂, List.dropLast_singleton, Option.getD_some, wipeE, restoreE, gN, List.replicate_zero, List.replicate_succ, Nat.reduceAdd, Nat.reduceSub, decide_eq_true_eq, Bool.true_eq_false, Bool.false_eq_true, reduceCtorEq, not_false_eq_true, see_d, see_o, see_s, ownS_o, WpAug_l, isS_d, isS_o, mkRg_l, mkRg_t, dMax2_i, dMin2_i, dIx_l, dIx_t, dAdd_i, dSub_i, dNeg_i, dMod_i, dDiv_i, dMul_r, dMul_l, dPow_18, dGtA_i, dLtA_i, dGtI_i, dLtI_i, dGeI_i, dLeI_i, dInt_i, dAbs_i, dLen_l, dLen_t, dTuple_l, dList_l, dList_t, dAdd_l, dAdd_t, tupOf_i, lstOf_i, seqOf_l, seqOf_t, range1_i, WpPut_i, WpPush_i, WpEnd_i, WpApp_i, dEq_i, dNe_i, dNe_bb, dEq_bb, bools_true, allT, isL, dCnt_s, dOnce_i, onceOf, dIs_n, dIs_b, enumOf_l, enumOf_t, zipOf_t, zipOf_l, zipD_c, zipD_n, dIsNot_n, gTup_t, gs_c, gs_n, range2_i, Option.bind_some, unpack, dRev_l, dRev_t, isInt, isBool, isTuple, isList, isStr, isN, isOwnL, dSumA_l, dSumA_t, dAll, dAny, bools, Option.map_some, List.all_cons, List.all_nil, List.any_cons, List.any_nil, id_eq, Bool.and_true, Bool.true_and, Bool.and_self, Bool.not_true, Bool.not_false, dSlice_l, dSlice_t, asI_i, decide_true, decide_false, Int.reduceLE, Int.reduceLT, Int.reduceToNat, Int.reduceNeg, Int.reduceAdd, Int.reduceSub, Int.reduceMul, Nat.reduceLeDiff, Nat.reduceLT, reduceIte, Int.reducePow, Int.cast_ofNat_Int, Int.toNat_one, Int.toNat_zero, Nat.zero_add, Nat.lt_add_one, Nat.zero_lt_succ, Int.reduceEq, Nat.reduceEqDiff, Int.toNat_natCast, List.length_map, h1, h2]
  refine go_auto (hm := rfl) (hL := rfl) (hk := rfl) (p := fun _ => true) (f := fun _ => .bool true) (hl := by rw [List.length_map]; have := z.le; omega) (hs := fun e he acc => ?_) (q := ?_)
  · obtain ⟨q, hq, rfl⟩ := List.mem_map.mp he
    have hz := z.ok q hq
    unfold pcD
    simp only [↓Wp_rIf, ↓Wp_seq, ↓Wp_seqN, ↓Wp_seqR, ↓Wp_seqB, ↓Wp_seqC, ↓Wp_next, ↓Wp_brk, ↓Wp_cnt, ↓Wp_set, ↓Wp_asg, ↓Wp_ret, ↓Wp_drop, ↓Wp_kill, ↓Wp_par, ↓Wp_ifs, ↓Wp_for, ↓forK_nx, ↓forK_cnt, ↓forK_brk, ↓forK_ret, ↓Wp_c, ↓Wp_var, ↓WpVar_d, ↓WpVar_o, ↓Wp_view, ↓Wp_andV, ↓Wp_orV, ↓Wp_chain, ↓Wp_bin, ↓Wp_andB, ↓Wp_orB, ↓Wp_yes, ↓Wp_push0, ↓Wp_pushN, ↓Wp_nil, ↓Wp_cons, ↓Wp_move, ↓WpMv_d, ↓WpMv_o, ↓WpMv_s, ↓Wp_cnil, ↓Wp_cval, ↓Wp_cbor, ↓Wp_call, ↓Wp_comp, ↓Wp_comp2, ↓retK_r, ↓retK_n, ↓forJ_nx, ↓forJ_cnt, ↓Wp_asDat, ↓Wp_asDatO, ↓Wp_asB, ↓Wp_tru, ↓Wp_bind, ↓Wp_ok, ↓Wp_lift, ↓Wp_ite, ↓Wp_lite, ↓Wp_aug, ↓WpAug_i, ↓Wp_dnewK, ↓Wp_dnewT, ↓Wp_putH, ↓WpPutH_d, ↓WpPutH_T, ↓Wp_put, ↓Wp_push, ↓Wp_end, ↓Wp_app, ↓WB_b, ↓Wi_true, ↓Wi_false, Wp_rIf, Wp_seq, Wp_seqN, Wp_seqR, Wp_seqB, Wp_seqC, Wp_next, Wp_brk, Wp_cnt, Wp_set, Wp_asg, Wp_ret, Wp_drop, Wp_kill, Wp_par, Wp_ifs, Wp_for, forK_nx, forK_cnt, forK_brk, forK_ret, Wp_c, Wp_var, WpVar_d, WpVar_o, Wp_view, Wp_andV, Wp_orV, Wp_chain, Wp_bin, Wp_andB, Wp_orB, Wp_yes, Wp_push0, Wp_pushN, Wp_nil, Wp_cons, Wp_move, WpMv_d, WpMv_o, WpMv_s, Wp_cnil, Wp_cval, Wp_cbor, Wp_call, Wp_comp, Wp_comp2, retK_r, retK_n, forJ_nx, forJ_cnt, Wp_asDat, Wp_asDatO, Wp_asB, Wp_tru, Wp_bind, Wp_ok, Wp_lift, Wp_ite, Wp_lite, Wp_aug, WpAug_i, Wp_dnewK, Wp_dnewT, Wp_putH, WpPutH_d, WpPutH_T, Wp_put, Wp_push, Wp_end, Wp_app, WB_b, Wi_true, Wi_false, Wq_run, argsOf_v, argsOf_b, argsOf_n, putBack_v, putBack_b, putBack_n, back_o, back_s, back_d, see_d, see_o, see_s, List.getElem?_cons_zero, List.getElem?_cons_succ, List.set_cons_zero, List.set_cons_succ, List.cons_append, List.nil_append, List.take_succ_cons, List.take_zero, List.length_cons, List.length_nil, List.dropLast_cons₂, List.dropLast_singleton, Option.getD_some, wipeE, restoreE, gN, List.replicate_zero, List.replicate_succ, Nat.reduceAdd, Nat.reduceSub, decide_eq_true_eq, Bool.true_eq_false, Bool.false_eq_true, reduceCtorEq, not_false_eq_true, see_d, see_o, see_s, ownS_o, WpAug_l, isS_d, isS_o, mkRg_l, mkRg_t, dMax2_i, dMin2_i, dIx_l, dIx_t, dAdd_i, dSub_i, dNeg_i, dMod_i, dDiv_i, dMul_r, dMul_l, dPow_18, dGtA_i, dLtA_i, dGtI_i, dLtI_i, dGeI_i, dLeI_i, dInt_i, dAbs_i, dLen_l, dLen_t, dTuple_l, dList_l, dList_t, dAdd_l, dAdd_t, tupOf_i, lstOf_i, seqOf_l, seqOf_t, range1_i, WpPut_i, WpPush_i, WpEnd_i, WpApp_i, dEq_i, dNe_i, dNe_bb, dEq_bb, bools_true, allT, isL, dCnt_s, dOnce_i, onceOf, dIs_n, dIs_b, enumOf_l, enumOf_t, zipOf_t, zipOf_l, zipD_c, zipD_n, dIsNot_n, gTup_t, gs_c, gs_n, range2_i, Option.bind_some, unpack, dRev_l, dRev_t, isInt, isBool, isTuple, isList, isStr, isN, isOwnL, dSumA_l, dSumA_t, dAll, dAny, bools, Option.map_some, List.all_cons, List.all_nil, List.any_cons, List.any_nil, id_eq, Bool.and_true, Bool.true_and, Bool.and_self, Bool.not_true, Bool.not_false, dSlice_l, dSlice_t, asI_i, decide_true, decide_false, Int.reduceLE, Int.reduceLT, Int.reduceToNat, Int.reduceNeg, Int.reduceAdd, Int.reduceSub, Int.reduceMul, Nat.reduceLeDiff, Nat.reduceLT, reduceIte, Int.reducePow, Int.cast_ofNat_Int, Int.toNat_one, Int.toNat_zero, Nat.zero_add, Nat.lt_add_one, Nat.zero_lt_succ, Int.reduceEq, Nat.reduceEqDiff, Int.toNat_natCast, fits_piece_eq hz]
    exact ⟨trivial, fun _ => by first | exact rfl | exact trivial, fun _ => ⟨by first | exact rfl | exact trivial, by first | exact rfl | exact trivial, by first | exact rfl | exact trivial⟩⟩
  · simp only [↓Wp_rIf, ↓Wp_seq, ↓Wp_seqN, ↓Wp_seqR, ↓Wp_seqB, ↓Wp_seqC, ↓Wp_next, ↓Wp_brk, ↓Wp_cnt, ↓Wp_set, ↓Wp_asg, ↓Wp_ret, ↓Wp_drop, ↓Wp_kill, ↓Wp_par, ↓Wp_ifs, ↓Wp_for, ↓forK_nx, ↓forK_cnt, ↓forK_brk, ↓forK_ret, ↓Wp_c, ↓Wp_var, ↓WpVar_d, ↓WpVar_o, ↓Wp_view, ↓Wp_andV, ↓Wp_orV, ↓Wp_chain, ↓Wp_bin, ↓Wp_andB, ↓Wp_orB, ↓Wp_yes, ↓Wp_push0, ↓Wp_pushN, ↓Wp_nil, ↓Wp_cons, ↓Wp_move, ↓WpMv_d, ↓WpMv_o, ↓WpMv_s, ↓Wp_cnil, ↓Wp_cval, ↓Wp_cbor, ↓Wp_call, ↓Wp_comp, ↓Wp_comp2, ↓retK_r, ↓retK_n, ↓forJ_nx, ↓forJ_cnt, ↓Wp_asDat, ↓Wp_asDatO, ↓Wp_asB, ↓Wp_tru, ↓Wp_bind, ↓Wp_ok, ↓Wp_lift, ↓Wp_ite, ↓Wp_lite, ↓Wp_aug, ↓WpAug_i, ↓Wp_dnewK, ↓Wp_dnewT, ↓Wp_putH, ↓WpPutH_d, ↓WpPutH_T, ↓Wp_put, ↓Wp_push, ↓Wp_end, ↓Wp_app, ↓WB_b, ↓Wi_true, ↓Wi_false, Wp_rIf, Wp_seq, Wp_seqN, Wp_seqR, Wp_seqB, Wp_seqC, Wp_next, Wp_brk, Wp_cnt, Wp_set, Wp_asg, Wp_ret, Wp_drop, Wp_kill, Wp_par, Wp_ifs, Wp_for, forK_nx, forK_cnt, forK_brk, forK_ret, Wp_c, Wp_var, WpVar_d, WpVar_o, Wp_view, Wp_andV, Wp_orV, Wp_chain, Wp_bin, Wp_andB, Wp_orB, Wp_yes, Wp_push0, Wp_pushN, Wp_nil, Wp_cons, Wp_move, WpMv_d, WpMv_o, WpMv_s, Wp_cnil, Wp_cval, Wp_cbor, Wp_call, Wp_comp, Wp_comp2, retK_r, retK_n, forJ_nx, forJ_cnt, Wp_asDat, Wp_asDatO, Wp_asB, Wp_tru, Wp_bind, Wp_ok, Wp_lift, Wp_ite, Wp_lite, Wp_aug, WpAug_i, Wp_dnewK, Wp_dnewT, Wp_putH, WpPutH_d, WpPutH_T, Wp_put, Wp_push, Wp_end, Wp_app, WB_b, Wi_true, Wi_false, Wq_run, argsOf_v, argsOf_b, argsOf_n, putBack_v, putBack_b, putBack_n, back_o, back_s, back_d, see_d, see_o, see_s, List.getElem?_cons_zero, List.getElem?_cons_succ, List.set_cons_zero, List.set_cons_succ, List.cons_append, List.nil_append, List.take_succ_cons, List.take_zero, List.length_cons, List.length_nil, List.dropLast_cons₂, List.dropLast_singleton, Option.getD_some, wipeE, restoreE, gN, List.replicate_zero, List.replicate_succ, Nat.reduceAdd, Nat.reduceSub, decide_eq_true_eq, Bool.true_eq_false, Bool.false_eq_true, reduceCtorEq, not_false_eq_true, see_d, see_o, see_s, ownS_o, WpAug_l, isS_d, isS_o, mkRg_l, mkRg_t, dMax2_i, dMin2_i, dIx_l, dIx_t, dAdd_i, dSub_i, dNeg_i, dMod_i, dDiv_i, dMul_r, dMul_l, dPow_18, dGtA_i, dLtA_i, dGtI_i, dLtI_i, dGeI_i, dLeI_i, dInt_i, dAbs_i, dLen_l, dLen_t, dTuple_l, dList_l, dList_t, dAdd_l, dAdd_t, tupOf_i, lstOf_i, seqOf_l, seqOf_t, range1_i, WpPut_i, WpPush_i, WpEnd_i, WpApp_i, dEq_i, dNe_i, dNe_bb, dEq_bb, bools_true, allT, isL, dCnt_s, dOnce_i, onceOf, dIs_n, dIs_b, enumOf_l, enumOf_t, zipOf_t, zipOf_l, zipD_c, zipD_n, dIsNot_n, gTup_t, gs_c, gs_n, range2_i, Option.bind_some, unpack, dRev_l, dRev_t, isInt, isBool, isTuple, isList, isStr, isN, isOwnL, dSumA_l, dSumA_t, dAll, dAny, bools, Option.map_some, List.all_cons, List.all_nil, List.any_cons, List.any_nil, id_eq, Bool.and_true, Bool.true_and, Bool.and_self, Bool.not_true, Bool.not_false, dSlice_l, dSlice_t, asI_i, decide_true, decide_false, Int.reduceLE, Int.reduceLT, Int.reduceToNat, Int.reduceNeg, Int.reduceAdd, Int.reduceSub, Int.reduceMul, Nat.reduceLeDiff, Nat.reduceLT, reduceIte, Int.reducePow, Int.cast_ofNat_Int, Int.toNat_one, Int.toNat_zero, Nat.zero_add, Nat.lt_add_one, Nat.zero_lt_succ, Int.reduceEq, Nat.reduceEqDiff, Int.toNat_natCast]
    exact ⟨trivial, trivial⟩
theorem need_set_eq {qs : List Pc} (z : GoodS qs) : Wm M.m_need_set Q [.dat (SD qs)] = Q (.dat .none) [.dat (SD qs)] := by
  refine Wm_exact (Wm_of rfl ?_)
  unfold M.fb_need_set
  simp only [↓Wp_rIf, ↓Wp_seq, ↓Wp_seqN, ↓Wp_seqR, ↓Wp_seqB, ↓Wp_seqC, ↓Wp_next, ↓Wp_brk, ↓Wp_cnt, ↓Wp_set, ↓Wp_asg, ↓Wp_ret, ↓Wp_drop, ↓Wp_kill, ↓Wp_par, ↓Wp_ifs, ↓Wp_for, ↓forK_nx, ↓forK_cnt, ↓forK_brk, ↓forK_ret, ↓Wp_c, ↓Wp_var, ↓WpVar_d, ↓WpVar_o, ↓Wp_view, ↓Wp_andV, ↓Wp_orV, ↓Wp_chain, ↓Wp_bin, ↓Wp_andB, ↓Wp_orB, ↓Wp_yes, ↓Wp_push0, ↓Wp_pushN, ↓Wp_nil, ↓Wp_cons, ↓Wp_move, ↓WpMv_d, ↓WpMv_o, ↓WpMv_s, ↓Wp_cnil, ↓Wp_cval, ↓Wp_cbor, ↓Wp_call, ↓Wp_comp, ↓Wp_comp2, ↓retK_r, ↓retK_n, ↓forJ_nx, ↓forJ_cnt, ↓Wp_asDat, ↓Wp_asDatO, ↓Wp_asB, ↓Wp_tru, ↓Wp_bind, ↓Wp_ok, ↓Wp_lift, ↓Wp_ite, ↓Wp_lite, ↓Wp_aug, ↓WpAug_i, ↓Wp_dnewK, ↓Wp_dnewT, ↓Wp_putH, ↓WpPutH_d, ↓WpPutH_T, ↓Wp_put, ↓Wp_push, ↓Wp_end, ↓Wp_app, ↓WB_b, ↓Wi_true, ↓Wi_false, Wp_rIf, Wp_seq, Wp_seqN, Wp_seqR, Wp_seqB, Wp_seqC, Wp_next, Wp_brk, Wp_cnt, Wp_set, Wp_asg, Wp_ret, Wp_drop, Wp_kill, Wp_par, Wp_ifs, Wp_for, forK_nx, forK_cnt, forK_brk, forK_ret, Wp_c, Wp_var, WpVar_d, WpVar_o, Wp_view, Wp_andV, Wp_orV, Wp_chain, Wp_bin, Wp_andB, Wp_orB, Wp_yes, Wp_push0, Wp_pushN, Wp_nil, Wp_cons, Wp_move, WpMv_d, WpMv_o, WpMv_s, Wp_cnil, Wp_cval, Wp_cbor, Wp_call, Wp_comp, Wp_comp2, retK_r, retK_n, forJ_nx, forJ_cnt, Wp_asDat, Wp_asDatO, Wp_asB, Wp_tru, Wp_bind, Wp_ok, Wp_lift, Wp_ite, Wp_lite, Wp_aug, WpAug_i, Wp_dnewK, Wp_dnewT, Wp_putH, WpPutH_d, WpPutH_T, Wp_put, Wp_push, Wp_end, Wp_app, WB_b, Wi_true, Wi_false, Wq_run, argsOf_v, argsOf_b, argsOf_n, putBack_v, putBack_b, putBack_n, back_o, back_s, back_d, see_d, see_o, see_s, List.getElem?_cons_zero, List.getElem?_cons_succ, List.set_cons_zero, List.set_cons_succ, List.cons_append, List.nil_append, List.take_succ_cons, List.take_zero, List.length_cons, List.length_nil, List.dropLast_cons₂, List.dropLast_singleton, Option.getD_some, wipeE, restoreE, gN, List.replicate_zero, List.replicate_succ, Nat.reduceAdd, Nat.reduceSub, decide_eq_true_eq, Bool.true_eq_false, Bool.false_eq_true, reduceCtorEq, not_false_eq_true, see_d, see_o, see_s, ownS_o, WpAug_l, isS_d, isS_o, mkRg_l, mkRg_t, dMax2_i, dMin2_i, dIx_l, dIx_t, dAdd_i, dSub_i, dNeg_i, dMod_i, dDiv_i, dMul_r, dMul_l, dPow_18, dGtA_i, dLtA_i, dGtI_i, dLtI_i, dGeI_i, dLeI_i, dInt_i, dAbs_i, dLen_l, dLen_t, dTuple_l, dList_l, dList_t, dAdd_l, dAdd_t, tupOf_i, lstOf_i, seqOf_l, seqOf_t, range1_i, WpPut_i, WpPush_i, WpEnd_i, WpApp_i, dEq_i, dNe_i, dNe_bb, dEq_bb, bools_true, allT, isL, dCnt_s, dOnce_i, onceOf, dIs_n, dIs_b, enumOf_l, enumOf_t, zipOf_t, zipOf_l, zipD_c, zipD_n, dIsNot_n, gTup_t, gs_c, gs_n, range2_i, Option.bind_some, unpack, dRev_l, dRev_t, isInt, isBool, isTuple, isList, isStr, isN, isOwnL, dSumA_l, dSumA_t, dAll, dAny, bools, Option.map_some, List.all_cons, List.all_nil, List.any_cons, List.any_nil, id_eq, Bool.and_true, Bool.true_and, Bool.and_self, Bool.not_true, Bool.not_false, dSlice_l, dSlice_t, asI_i, decide_true, decide_false, Int.reduceLE, Int.reduceLT, Int.reduceToNat, Int.reduceNeg, Int.reduceAdd, Int.reduceSub, Int.reduceMul, Nat.reduceLeDiff, Nat.reduceLT, reduceIte, Int.reducePow, Int.cast_ofNat_Int, Int.toNat_one, Int.toNat_zero, Nat.zero_add, Nat.lt_add_one, Nat.zero_lt_succ, Int.reduceEq, Nat.reduceEqDiff, Int.toNat_natCast, fits_set_eq z]
  exact ⟨trivial, trivial⟩
theorem law_set_spec {c0 c1 many h : Int} {Q : Sl → Ev → Prop} (m0 : 0 < many) (m1 : many ≤ 36) (h0 : 0 ≤ h) (h1 : h < 1000) (k : ∀ (qs : List Pc) (a b : Int), 0 < qs.length → (qs.length : Int) ≤ many → (∀ q ∈ qs, inQ h q) → Q (.dat (SD qs)) [cup a b, .dat (.int many), .dat (.int h)]) :
    Wm M.m_law_set Q [cup c0 c1, .dat (.int many), .dat (.int h)] := by
  refine Wm_of rfl ?_
  unfold M.fb_law_set
  simp only [↓Wp_rIf, ↓Wp_seq, ↓Wp_seqN, ↓Wp_seqR, ↓Wp_seqB, ↓Wp_seqC, ↓Wp_next, ↓Wp_brk, ↓Wp_cnt, ↓Wp_set, ↓Wp_asg, ↓Wp_ret, ↓Wp_drop, ↓Wp_kill, ↓Wp_par, ↓Wp_ifs, ↓Wp_for, ↓forK_nx, ↓forK_cnt, ↓forK_brk, ↓forK_ret, ↓Wp_c, ↓Wp_var, ↓WpVar_d, ↓WpVar_o, ↓Wp_view, ↓Wp_andV, ↓Wp_orV, ↓Wp_chain, ↓Wp_bin, ↓Wp_andB, ↓Wp_orB, ↓Wp_yes, ↓Wp_push0, ↓Wp_pushN, ↓Wp_nil, ↓Wp_cons, ↓Wp_move, ↓WpMv_d, ↓WpMv_o, ↓WpMv_s, ↓Wp_cnil, ↓Wp_cval, ↓Wp_cbor, ↓Wp_call, ↓Wp_comp, ↓Wp_comp2, ↓retK_r, ↓retK_n, ↓forJ_nx, ↓forJ_cnt, ↓Wp_asDat, ↓Wp_asDatO, ↓Wp_asB, ↓Wp_tru, ↓Wp_bind, ↓Wp_ok, ↓Wp_lift, ↓Wp_ite, ↓Wp_lite, ↓Wp_aug, ↓WpAug_i, ↓Wp_dnewK, ↓Wp_dnewT, ↓Wp_putH, ↓WpPutH_d, ↓WpPutH_T, ↓Wp_put, ↓Wp_push, ↓Wp_end, ↓Wp_app, ↓WB_b, ↓Wi_true, ↓Wi_false, Wp_rIf, Wp_seq, Wp_seqN, Wp_seqR, Wp_seqB, Wp_seqC, Wp_next, Wp_brk, Wp_cnt, Wp_set, Wp_asg, Wp_ret, Wp_drop, Wp_kill, Wp_par, Wp_ifs, Wp_for, forK_nx, forK_cnt, forK_brk, forK_ret, Wp_c, Wp_var, WpVar_d, WpVar_o, Wp_view, Wp_andV, Wp_orV, Wp_chain, Wp_bin, Wp_andB, Wp_orB, Wp_yes, Wp_push0, Wp_pushN, Wp_nil, Wp_cons, Wp_move, WpMv_d, WpMv_o, WpMv_s, Wp_cnil, Wp_cval, Wp_cbor, Wp_call, Wp_comp, Wp_comp2, retK_r, retK_n, forJ_nx, forJ_cnt, Wp_asDat, Wp_asDatO, Wp_asB, Wp_tru, Wp_bind, Wp_ok, Wp_lift, Wp_ite, Wp_lite, Wp_aug, WpAug_i, Wp_dnewK, Wp_dnewT, Wp_putH, WpPutH_d, WpPutH_T, Wp_put, Wp_push, Wp_end, Wp_app, WB_b, Wi_true, Wi_false, Wq_run, argsOf_v, argsOf_b, argsOf_n, putBack_v, putBack_b, putBack_n, back_o, back_s, back_d, see_d, see_o, see_s, List.getElem?_cons_zero, List.getElem?_cons_succ, List.set_cons_zero, List.set_cons_succ, List.cons_append, List.nil_append, List.take_succ_cons, List.take_zero, List.length_cons, List.length_nil, List.dropLast_cons₂, List.dropLast_singleton, Option.getD_some, wipeE, restoreE, gN, List.replicate_zero, List.replicate_succ, Nat.reduceAdd, Nat.reduceSub, decide_eq_true_eq, Bool.true_eq_false, Bool.false_eq_true, reduceCtorEq, not_false_eq_true, see_d, see_o, see_s, ownS_o, WpAug_l, isS_d, isS_o, mkRg_l, mkRg_t, dMax2_i, dMin2_i, dIx_l, dIx_t, dAdd_i, dSub_i, dNeg_i, dMod_i, dDiv_i, dMul_r, dMul_l, dPow_18, dGtA_i, dLtA_i, dGtI_i, dLtI_i, dGeI_i, dLeI_i, dInt_i, dAbs_i, dLen_l, dLen_t, dTuple_l, dList_l, dList_t, dAdd_l, dAdd_t, tupOf_i, lstOf_i, seqOf_l, seqOf_t, range1_i, WpPut_i, WpPush_i, WpEnd_i, WpApp_i, dEq_i, dNe_i, dNe_bb, dEq_bb, bools_true, allT, isL, dCnt_s, dOnce_i, onceOf, dIs_n, dIs_b, enumOf_l, enumOf_t, zipOf_t, zipOf_l, zipD_c, zipD_n, dIsNot_n, gTup_t, gs_c, gs_n, range2_i, Option.bind_some, unpack, dRev_l, dRev_t, isInt, isBool, isTuple, isList, isStr, isN, isOwnL, dSumA_l, dSumA_t, dAll, dAny, bools, Option.map_some, List.all_cons, List.all_nil, List.any_cons, List.any_nil, id_eq, Bool.and_true, Bool.true_and, Bool.and_self, Bool.not_true, Bool.not_false, dSlice_l, dSlice_t, asI_i, decide_true, decide_false, Int.reduceLE, Int.reduceLT, Int.reduceToNat, Int.reduceNeg, Int.reduceAdd, Int.reduceSub, Int.reduceMul, Nat.reduceLeDiff, Nat.reduceLT, reduceIte, Int.reducePow, Int.cast_ofNat_Int, Int.toNat_one, Int.toNat_zero, Nat.zero_add, Nat.lt_add_one, Nat.zero_lt_succ, Int.reduceEq, Nat.reduceEqDiff, Int.toNat_natCast]
  refine roll_spec m0 (by omega) fun r c0 c1 hr0 hr1 => ?_
  have e1 : -4611686018427387904 ≤ 1 + r := by omega
  have e2 : 1 + r < 4611686018427387904 := by omega
  simp only [↓Wp_rIf, ↓Wp_seq, ↓Wp_seqN, ↓Wp_seqR, ↓Wp_seqB, ↓Wp_seqC, ↓Wp_next, ↓Wp_brk, ↓Wp_cnt, ↓Wp_set, ↓Wp_asg, ↓Wp_ret, ↓Wp_drop, ↓Wp_kill, ↓Wp_par, ↓Wp_ifs, ↓Wp_for, ↓forK_nx, ↓forK_cnt, ↓forK_brk, ↓forK_ret, ↓Wp_c, ↓Wp_var, ↓WpVar_d, ↓WpVar_o, ↓Wp_view, ↓Wp_andV, ↓Wp_orV, ↓Wp_chain, ↓Wp_bin, ↓Wp_andB, ↓Wp_orB, ↓Wp_yes, ↓Wp_push0, ↓Wp_pushN, ↓Wp_nil, ↓Wp_cons, ↓Wp_move, ↓WpMv_d, ↓WpMv_o, ↓WpMv_s, ↓Wp_cnil, ↓Wp_cval, ↓Wp_cbor, ↓Wp_call, ↓Wp_comp, ↓Wp_comp2, ↓retK_r, ↓retK_n, ↓forJ_nx, ↓forJ_cnt, ↓Wp_asDat, ↓Wp_asDatO, ↓Wp_asB, ↓Wp_tru, ↓Wp_bind, ↓Wp_ok, ↓Wp_lift, ↓Wp_ite, ↓Wp_lite, ↓Wp_aug, ↓WpAug_i, ↓Wp_dnewK, ↓Wp_dnewT, ↓Wp_putH, ↓WpPutH_d, ↓WpPutH_T, ↓Wp_put, ↓Wp_push, ↓Wp_end, ↓Wp_app, ↓WB_b, ↓Wi_true, ↓Wi_false, Wp_rIf, Wp_seq, Wp_seqN, Wp_seqR, Wp_seqB, Wp_seqC, Wp_next, Wp_brk, Wp_cnt, Wp_set, Wp_asg, Wp_ret, Wp_drop, Wp_kill, Wp_par, Wp_ifs, Wp_for, forK_nx, forK_cnt, forK_brk, forK_ret, Wp_c, Wp_var, WpVar_d, WpVar_o, Wp_view, Wp_andV, Wp_orV, Wp_chain, Wp_bin, Wp_andB, Wp_orB, Wp_yes, Wp_push0, Wp_pushN, Wp_nil, Wp_cons, Wp_move, WpMv_d, WpMv_o, WpMv_s, Wp_cnil, Wp_cval, Wp_cbor, Wp_call, Wp_comp, Wp_comp2, retK_r, retK_n, forJ_nx, forJ_cnt, Wp_asDat, Wp_asDatO, Wp_asB, Wp_tru, Wp_bind, Wp_ok, Wp_lift, Wp_ite, Wp_lite, Wp_aug, WpAug_i, Wp_dnewK, Wp_dnewT, Wp_putH, WpPutH_d, WpPutH_T, Wp_put, Wp_push, Wp_end, Wp_app, WB_b, Wi_true, Wi_false, Wq_run, argsOf_v, argsOf_b, argsOf_n, putBack_v, putBack_b, putBack_n, back_o, back_s, back_d, see_d, see_o, see_s, List.getElem?_cons_zero, List.getElem?_cons_succ, List.set_cons_zero, List.set_cons_succ, List.cons_append, List.nil_append, List.take_succ_cons, List.take_zero, List.length_cons, List.length_nil, List.dropLast_cons₂, List.dropLast_singleton, Option.getD_some, wipeE, restoreE, gN, List.replicate_zero, List.replicate_succ, Nat.reduceAdd, Nat.reduceSub, decide_eq_true_eq, Bool.true_eq_false, Bool.false_eq_true, reduceCtorEq, not_false_eq_true, see_d, see_o, see_s, ownS_o, WpAug_l, isS_d, isS_o, mkRg_l, mkRg_t, dMax2_i, dMin2_i, dIx_l, dIx_t, dAdd_i, dSub_i, dNeg_i, dMod_i, dDiv_i, dMul_r, dMul_l, dPow_18, dGtA_i, dLtA_i, dGtI_i, dLtI_i, dGeI_i, dLeI_i, dInt_i, dAbs_i, dLen_l, dLen_t, dTuple_l, dList_l, dList_t, dAdd_l, dAdd_t, tupOf_i, lstOf_i, seqOf_l, seqOf_t, range1_i, WpPut_i, WpPush_i, WpEnd_i, WpApp_i, dEq_i, dNe_i, dNe_bb, dEq_bb, bools_true, allT, isL, dCnt_s, dOnce_i, onceOf, dIs_n, dIs_b, enumOf_l, enumOf_t, zipOf_t, zipOf_l, zipD_c, zipD_n, dIsNot_n, gTup_t, gs_c, gs_n, range2_i, Option.bind_some, unpack, dRev_l, dRev_t, isInt, isBool, isTuple, isList, isStr, isN, isOwnL, dSumA_l, dSumA_t, dAll, dAny, bools, Option.map_some, List.all_cons, List.all_nil, List.any_cons, List.any_nil, id_eq, Bool.and_true, Bool.true_and, Bool.and_self, Bool.not_true, Bool.not_false, dSlice_l, dSlice_t, asI_i, decide_true, decide_false, Int.reduceLE, Int.reduceLT, Int.reduceToNat, Int.reduceNeg, Int.reduceAdd, Int.reduceSub, Int.reduceMul, Nat.reduceLeDiff, Nat.reduceLT, reduceIte, Int.reducePow, Int.cast_ofNat_Int, Int.toNat_one, Int.toNat_zero, Nat.zero_add, Nat.lt_add_one, Nat.zero_lt_succ, Int.reduceEq, Nat.reduceEqDiff, Int.toNat_natCast, e1, e2]
  have hlen : (upto (1 + r)).length = (1 + r).toNat := by unfold upto; rw [List.length_map, List.length_range]
  refine go_inv (fun i ρ => ∃ (a b : Int) (qs : List Pc), qs.length = i ∧ i ≤ 100 ∧ (∀ q ∈ qs, inQ h q) ∧ ρ = [cup a b, .dat (.int many), .dat (.int h), .emp, .own (.list (qs.map pcD))]) ⟨c0, c1, [], rfl, by decide, (fun _ h => nomatch h), rfl⟩ (fun i e ρ he hI => ?_) (fun ρ hI => ?_)
  · obtain ⟨a, b, qs, rfl, hi, hq, rfl⟩ := hI
    have hlt : qs.length < (1 + r).toNat := by rw [← hlen]; exact (List.getElem?_eq_some_iff.mp he).1
    simp only [↓Wp_rIf, ↓Wp_seq, ↓Wp_seqN, ↓Wp_seqR, ↓Wp_seqB, ↓Wp_seqC, ↓Wp_next, ↓Wp_brk, ↓Wp_cnt, ↓Wp_set, ↓Wp_asg, ↓Wp_ret, ↓Wp_drop, ↓Wp_kill, ↓Wp_par, ↓Wp_ifs, ↓Wp_for, ↓forK_nx, ↓forK_cnt, ↓forK_brk, ↓forK_ret, ↓Wp_c, ↓Wp_var, ↓WpVar_d, ↓WpVar_o, ↓Wp_view, ↓Wp_andV, ↓Wp_orV, ↓Wp_chain, ↓Wp_bin, ↓Wp_andB, ↓Wp_orB, ↓Wp_yes, ↓Wp_push0, ↓Wp_pushN, ↓Wp_nil, ↓Wp_cons, ↓Wp_move, ↓WpMv_d, ↓WpMv_o, ↓WpMv_s, ↓Wp_cnil, ↓Wp_cval, ↓Wp_cbor, ↓Wp_call, ↓Wp_comp, ↓Wp_comp2, ↓retK_r, ↓retK_n, ↓forJ_nx, ↓forJ_cnt, ↓Wp_asDat, ↓Wp_asDatO, ↓Wp_asB, ↓Wp_tru, ↓Wp_bind, ↓Wp_ok, ↓Wp_lift, ↓Wp_ite, ↓Wp_lite, ↓Wp_aug, ↓WpAug_i, ↓Wp_dnewK, ↓Wp_dnewT, ↓Wp_putH, ↓WpPutH_d, ↓WpPutH_T, ↓Wp_put, ↓Wp_push, ↓Wp_end, ↓Wp_app, ↓WB_b, ↓Wi_true, ↓Wi_false, Wp_rIf, Wp_seq, Wp_seqN, Wp_seqR, Wp_seqB, Wp_seqC, Wp_next, Wp_brk, Wp_cnt, Wp_set, Wp_asg, Wp_ret, Wp_drop, Wp_kill, Wp_par, Wp_ifs, Wp_for, forK_nx, forK_cnt, forK_brk, forK_ret, Wp_c, Wp_var, WpVar_d, WpVar_o, Wp_view, Wp_andV, Wp_orV, Wp_chain, Wp_bin, Wp_andB, Wp_orB, Wp_yes, Wp_push0, Wp_pushN, Wp_nil, Wp_cons, Wp_move, WpMv_d, WpMv_o, WpMv_s, Wp_cnil, Wp_cval, Wp_cbor, Wp_call, Wp_comp, Wp_comp2, retK_r, retK_n, forJ_nx, forJ_cnt, Wp_asDat, Wp_asDatO, Wp_asB, Wp_tru, Wp_bind, Wp_ok, Wp_lift, Wp_ite, Wp_lite, Wp_aug, WpAug_i, Wp_dnewK, Wp_dnewT, Wp_putH, WpPutH_d, WpPutH_T, Wp_put, Wp_push, Wp_end, Wp_app, WB_b, Wi_true, Wi_false, Wq_run, argsOf_v, argsOf_b, argsOf_n, putBack_v, putBack_b, putBack_n, back_o, back_s, back_d, see_d, see_o, see_s, List.getElem?_cons_zero, List.getElem?_cons_succ, List.set_cons_zero, List.set_cons_succ, List.cons_append, List.nil_append, List.take_succ_cons, List.take_zero, List.length_cons, List.length_nil, List.dropLast_cons₂, List.dropLast_singleton, Option.getD_some, wipeE, restoreE, gN, List.replicate_zero, List.replicate_succ, Nat.reduceAdd, Nat.reduceSub, decide_eq_true_eq, Bool.true_eq_false, Bool.false_eq_true, reduceCtorEq, not_false_eq_true, see_d, see_o, see_s, ownS_o, WpAug_l, isS_d, isS_o, mkRg_l, mkRg_t, dMax2_i, dMin2_i, dIx_l, dIx_t, dAdd_i, dSub_i, dNeg_i, dMod_i, dDiv_i, dMul_r, dMul_l, dPow_18, dGtA_i, dLtA_i, dGtI_i, dLtI_i, dGeI_i, dLeI_i, dInt_i, dAbs_i, dLen_l, dLen_t, dTuple_l, dList_l, dList_t, dAdd_l, dAdd_t, tupOf_i, lstOf_i, seqOf_l, seqOf_t, range1_i, WpPut_i, WpPush_i, WpEnd_i, WpApp_i, dEq_i, dNe_i, dNe_bb, dEq_bb, bools_true, allT, isL, dCnt_s, dOnce_i, onceOf, dIs_n, dIs_b, enumOf_l, enumOf_t, zipOf_t, zipOf_l, zipD_c, zipD_n, dIsNot_n, gTup_t, gs_c, gs_n, range2_i, Option.bind_some, unpack, dRev_l, dRev_t, isInt, isBool, isTuple, isList, isStr, isN, isOwnL, dSumA_l, dSumA_t, dAll, dAny, bools, Option.map_some, List.all_cons, List.all_nil, List.any_cons, List.any_nil, id_eq, Bool.and_true, Bool.true_and, Bool.and_self, Bool.not_true, Bool.not_false, dSlice_l, dSlice_t, asI_i, decide_true, decide_false, Int.reduceLE, Int.reduceLT, Int.reduceToNat, Int.reduceNeg, Int.reduceAdd, Int.reduceSub, Int.reduceMul, Nat.reduceLeDiff, Nat.reduceLT, reduceIte, Int.reducePow, Int.cast_ofNat_Int, Int.toNat_one, Int.toNat_zero, Nat.zero_add, Nat.lt_add_one, Nat.zero_lt_succ, Int.reduceEq, Nat.reduceEqDiff, Int.toNat_natCast]
    refine piece_spec h0 h1 fun w x y v a b z => ?_
    have hl : (qs.map pcD).length < 16777216 := by rw [List.length_map]; omega
    simp only [↓Wp_rIf, ↓Wp_seq, ↓Wp_seqN, ↓Wp_seqR, ↓Wp_seqB, ↓Wp_seqC, ↓Wp_next, ↓Wp_brk, ↓Wp_cnt, ↓Wp_set, ↓Wp_asg, ↓Wp_ret, ↓Wp_drop, ↓Wp_kill, ↓Wp_par, ↓Wp_ifs, ↓Wp_for, ↓forK_nx, ↓forK_cnt, ↓forK_brk, ↓forK_ret, ↓Wp_c, ↓Wp_var, ↓WpVar_d, ↓WpVar_o, ↓Wp_view, ↓Wp_andV, ↓Wp_orV, ↓Wp_chain, ↓Wp_bin, ↓Wp_andB, ↓Wp_orB, ↓Wp_yes, ↓Wp_push0, ↓Wp_pushN, ↓Wp_nil, ↓Wp_cons, ↓Wp_move, ↓WpMv_d, ↓WpMv_o, ↓WpMv_s, ↓Wp_cnil, ↓Wp_cval, ↓Wp_cbor, ↓Wp_call, ↓Wp_comp, ↓Wp_comp2, ↓retK_r, ↓retK_n, ↓forJ_nx, ↓forJ_cnt, ↓Wp_asDat, ↓Wp_asDatO, ↓Wp_asB, ↓Wp_tru, ↓Wp_bind, ↓Wp_ok, ↓Wp_lift, ↓Wp_ite, ↓Wp_lite, ↓Wp_aug, ↓WpAug_i, ↓Wp_dnewK, ↓Wp_dnewT, ↓Wp_putH, ↓WpPutH_d, ↓WpPutH_T, ↓Wp_put, ↓Wp_push, ↓Wp_end, ↓Wp_app, ↓WB_b, ↓Wi_true, ↓Wi_false, Wp_rIf, Wp_seq, Wp_seqN, Wp_seqR, Wp_seqB, Wp_seqC, Wp_next, Wp_brk, Wp_cnt, Wp_set, Wp_asg, Wp_ret, Wp_drop, Wp_kill, Wp_par, Wp_ifs, Wp_for, forK_nx, forK_cnt, forK_brk, forK_ret, Wp_c, Wp_var, WpVar_d, WpVar_o, Wp_view, Wp_andV, Wp_orV, Wp_chain, Wp_bin, Wp_andB, Wp_orB, Wp_yes, Wp_push0, Wp_pushN, Wp_nil, Wp_cons, Wp_move, WpMv_d, WpMv_o, WpMv_s, Wp_cnil, Wp_cval, Wp_cbor, Wp_call, Wp_comp, Wp_comp2, retK_r, retK_n, forJ_nx, forJ_cnt, Wp_asDat, Wp_asDatO, Wp_asB, Wp_tru, Wp_bind, Wp_ok, Wp_lift, Wp_ite, Wp_lite, Wp_aug, WpAug_i, Wp_dnewK, Wp_dnewT, Wp_putH, WpPutH_d, WpPutH_T, Wp_put, Wp_push, Wp_end, Wp_app, WB_b, Wi_true, Wi_false, Wq_run, argsOf_v, argsOf_b, argsOf_n, putBack_v, putBack_b, putBack_n, back_o, back_s, back_d, see_d, see_o, see_s, List.getElem?_cons_zero, List.getElem?_cons_succ, List.set_cons_zero, List.set_cons_succ, List.cons_append, List.nil_append, List.take_succ_cons, List.take_zero, List.length_cons, List.length_nil, List.dropLast_cons₂, List.dropLast_singleton, Option.getD_some, wipeE, restoreE, gN, List.replicate_zero, List.replicate_succ, Nat.reduceAdd, Nat.reduceSub, decide_eq_true_eq, Bool.true_eq_false, Bool.false_eq_true, reduceCtorEq, not_false_eq_true, see_d, see_o, see_s, ownS_o, WpAug_l, isS_d, isS_o, mkRg_l, mkRg_t, dMax2_i, dMin2_i, dIx_l, dIx_t, dAdd_i, dSub_i, dNeg_i, dMod_i, dDiv_i, dMul_r, dMul_l, dPow_18, dGtA_i, dLtA_i, dGtI_i, dLtI_i, dGeI_i, dLeI_i, dInt_i, dAbs_i, dLen_l, dLen_t, dTuple_l, dList_l, dList_t, dAdd_l, dAdd_t, tupOf_i, lstOf_i, seqOf_l, seqOf_t, range1_i, WpPut_i, WpPush_i, WpEnd_i, WpApp_i, dEq_i, dNe_i, dNe_bb, dEq_bb, bools_true, allT, isL, dCnt_s, dOnce_i, onceOf, dIs_n, dIs_b, enumOf_l, enumOf_t, zipOf_t, zipOf_l, zipD_c, zipD_n, dIsNot_n, gTup_t, gs_c, gs_n, range2_i, Option.bind_some, unpack, dRev_l, dRev_t, isInt, isBool, isTuple, isList, isStr, isN, isOwnL, dSumA_l, dSumA_t, dAll, dAny, bools, Option.map_some, List.all_cons, List.all_nil, List.any_cons, List.any_nil, id_eq, Bool.and_true, Bool.true_and, Bool.and_self, Bool.not_true, Bool.not_false, dSlice_l, dSlice_t, asI_i, decide_true, decide_false, Int.reduceLE, Int.reduceLT, Int.reduceToNat, Int.reduceNeg, Int.reduceAdd, Int.reduceSub, Int.reduceMul, Nat.reduceLeDiff, Nat.reduceLT, reduceIte, Int.reducePow, Int.cast_ofNat_Int, Int.toNat_one, Int.toNat_zero, Nat.zero_add, Nat.lt_add_one, Nat.zero_lt_succ, Int.reduceEq, Nat.reduceEqDiff, Int.toNat_natCast, hl]
    refine ⟨a, b, qs ++ [(w, x, y, v)], by rw [List.length_append]; rfl, by omega, fun q hq' => ?_, ?_⟩
    · rcases List.mem_append.mp hq' with h | h
      · exact hq q h
      · rw [List.mem_singleton.mp h]; exact z
    · rw [List.map_append]
      rfl
  · obtain ⟨a, b, qs, e, hi, hq, rfl⟩ := hI
    simp only [↓Wp_rIf, ↓Wp_seq, ↓Wp_seqN, ↓Wp_seqR, ↓Wp_seqB, ↓Wp_seqC, ↓Wp_next, ↓Wp_brk, ↓Wp_cnt, ↓Wp_set, ↓Wp_asg, ↓Wp_ret, ↓Wp_drop, ↓Wp_kill, ↓Wp_par, ↓Wp_ifs, ↓Wp_for, ↓forK_nx, ↓forK_cnt, ↓forK_brk, ↓forK_ret, ↓Wp_c, ↓Wp_var, ↓WpVar_d, ↓WpVar_o, ↓Wp_view, ↓Wp_andV, ↓Wp_orV, ↓Wp_chain, ↓Wp_bin, ↓Wp_andB, ↓Wp_orB, ↓Wp_yes, ↓Wp_push0, ↓Wp_pushN, ↓Wp_nil, ↓Wp_cons, ↓Wp_move, ↓WpMv_d, ↓WpMv_o, ↓WpMv_s, ↓Wp_cnil, ↓Wp_cval, ↓Wp_cbor, ↓Wp_call, ↓Wp_comp, ↓Wp_comp2, ↓retK_r, ↓retK_n, ↓forJ_nx, ↓forJ_cnt, ↓Wp_asDat, ↓Wp_asDatO, ↓Wp_asB, ↓Wp_tru, ↓Wp_bind, ↓Wp_ok, ↓Wp_lift, ↓Wp_ite, ↓Wp_lite, ↓Wp_aug, ↓WpAug_i, ↓Wp_dnewK, ↓Wp_dnewT, ↓Wp_putH, ↓WpPutH_d, ↓WpPutH_T, ↓Wp_put, ↓Wp_push, ↓Wp_end, ↓Wp_app, ↓WB_b, ↓Wi_true, ↓Wi_false, Wp_rIf, Wp_seq, Wp_seqN, Wp_seqR, Wp_seqB, Wp_seqC, Wp_next, Wp_brk, Wp_cnt, Wp_set, Wp_asg, Wp_ret, Wp_drop, Wp_kill, Wp_par, Wp_ifs, Wp_for, forK_nx, forK_cnt, forK_brk, forK_ret, Wp_c, Wp_var, WpVar_d, WpVar_o, Wp_view, Wp_andV, Wp_orV, Wp_chain, Wp_bin, Wp_andB, Wp_orB, Wp_yes, Wp_push0, Wp_pushN, Wp_nil, Wp_cons, Wp_move, WpMv_d, WpMv_o, WpMv_s, Wp_cnil, Wp_cval, Wp_cbor, Wp_call, Wp_comp, Wp_comp2, retK_r, retK_n, forJ_nx, forJ_cnt, Wp_asDat, Wp_asDatO, Wp_asB, Wp_tru, Wp_bind, Wp_ok, Wp_lift, Wp_ite, Wp_lite, Wp_aug, WpAug_i, Wp_dnewK, Wp_dnewT, Wp_putH, WpPutH_d, WpPutH_T, Wp_put, Wp_push, Wp_end, Wp_app, WB_b, Wi_true, Wi_false, Wq_run, argsOf_v, argsOf_b, argsOf_n, putBack_v, putBack_b, putBack_n, back_o, back_s, back_d, see_d, see_o, see_s, List.getElem?_cons_zero, List.getElem?_cons_succ, List.set_cons_zero, List.set_cons_succ, List.cons_append, List.nil_append, List.take_succ_cons, List.take_zero, List.length_cons, List.length_nil, List.dropLast_cons₂, List.dropLast_singleton, Option.getD_some, wipeE, restoreE, gN, List.replicate_zero, List.replicate_succ, Nat.reduceAdd, Nat.reduceSub, decide_eq_true_eq, Bool.true_eq_false, Bool.false_eq_true, reduceCtorEq, not_false_eq_true, see_d, see_o, see_s, ownS_o, WpAug_l, isS_d, isS_o, mkRg_l, mkRg_t, dMax2_i, dMin2_i, dIx_l, dIx_t, dAdd_i, dSub_i, dNeg_i, dMod_i, dDiv_i, dMul_r, dMul_l, dPow_18, dGtA_i, dLtA_i, dGtI_i, dLtI_i, dGeI_i, dLeI_i, dInt_i, dAbs_i, dLen_l, dLen_t, dTuple_l, dList_l, dList_t, dAdd_l, dAdd_t, tupOf_i, lstOf_i, seqOf_l, seqOf_t, range1_i, WpPut_i, WpPush_i, WpEnd_i, WpApp_i, dEq_i, dNe_i, dNe_bb, dEq_bb, bools_true, allT, isL, dCnt_s, dOnce_i, onceOf, dIs_n, dIs_b, enumOf_l, enumOf_t, zipOf_t, zipOf_l, zipD_c, zipD_n, dIsNot_n, gTup_t, gs_c, gs_n, range2_i, Option.bind_some, unpack, dRev_l, dRev_t, isInt, isBool, isTuple, isList, isStr, isN, isOwnL, dSumA_l, dSumA_t, dAll, dAny, bools, Option.map_some, List.all_cons, List.all_nil, List.any_cons, List.any_nil, id_eq, Bool.and_true, Bool.true_and, Bool.and_self, Bool.not_true, Bool.not_false, dSlice_l, dSlice_t, asI_i, decide_true, decide_false, Int.reduceLE, Int.reduceLT, Int.reduceToNat, Int.reduceNeg, Int.reduceAdd, Int.reduceSub, Int.reduceMul, Nat.reduceLeDiff, Nat.reduceLT, reduceIte, Int.reducePow, Int.cast_ofNat_Int, Int.toNat_one, Int.toNat_zero, Nat.zero_add, Nat.lt_add_one, Nat.zero_lt_succ, Int.reduceEq, Nat.reduceEqDiff, Int.toNat_natCast]
    refine k qs a b ?_ ?_ hq <;> rw [e, hlen] <;> omega
end
end DL
/-! boards that a law cuts -/
namespace DL
open PySem PySem.W L2
section
variable {ρ : Ev}
def WpGet2 (k : Nat) (g x : Ev → Out PyData) (ρ : Ev) (Q : PyData → Ev → Prop) (o : TgU Q ρ) : Prop := match ownS (o : Option Sl) with
  | some (.dict _) => Wp (fun b ρ2 => Wp (fun c ρ3 => Wp (fun d ρ4 => Wp Q (lift ((dGetO d b).map fun o => o.getD c) ρ4)) (lift (ownS ρ3[k]?) ρ3)) (x ρ2)) (g ρ)
  | _ => False
theorem Wp_get2 {k : Nat} {g x : Ev → Out PyData} {Q : PyData → Ev → Prop} : Wp Q (rDGet2 k g x ρ) = WpGet2 k g x ρ Q ρ[k]? := by
  unfold rDGet2 WpGet2
  rw [Wp_bind]
  cases ownS ρ[k]? with
  | none => with_unfolding_all rfl
  | some d =>
    rw [Wp_lift]
    cases d with
    | dict kvs =>
      show Wp Q (Out.bind (g ρ) _) = Wp _ (g ρ)
      rw [Wp_bind]
      congr
      funext b ρ2
      rw [Wp_bind]
      congr
      funext c ρ3
      rw [Wp_bind]
    | _ => with_unfolding_all rfl
theorem WpGet2_T {k : Nat} {g x : Ev → Out PyData} {Q : PyData → Ev → Prop} {kvs : List (PyData × PyData)} : WpGet2 k g x ρ Q (some (.own (dT kvs))) = Wp (fun b ρ2 => Wp (fun c ρ3 => Wp (fun d ρ4 => Wp Q (lift ((dGetO d b).map fun o => o.getD c) ρ4)) (lift (ownS ρ3[k]?) ρ3)) (x ρ2)) (g ρ) := rfl
end
theorem upto_get {n i : Nat} {d : PyData} (h : (upto n)[i]? = some d) : d = .int i ∧ i < n := by
  obtain ⟨k, hk, rfl⟩ := upto_mem (List.mem_of_getElem? h)
  have := upto_at h
  subst this
  exact ⟨rfl, hk⟩
theorem upto_z (n : Nat) : upto (n : Int) = (List.range n).map fun (k : Nat) => .int k := by
  unfold upto
  rw [Int.toNat_natCast]
abbrev kI (r c : Int) : List Key := [.inl r, .inl c]
/-- what a table holds: a number at each place of V, none at the rim -/
structure Tb (A : List (PyData × PyData)) (n : Nat) (P : Nat → Nat → Int → Prop) (V : Nat → Nat → Prop) : Prop where
  at_ : ∀ r c : Nat, V r c → ∃ x, lookD keyT A (kI r c) = some (.int x) ∧ P r c x
  up : ∀ c : Int, lookD keyT A (kI (-1) c) = none
  lf : ∀ r : Int, lookD keyT A (kI r (-1)) = none
  len : A.length ≤ n
theorem Tb_nil {n : Nat} {P : Nat → Nat → Int → Prop} {V : Nat → Nat → Prop} (h : ∀ r c, ¬ V r c) : Tb [] n P V := ⟨fun r c v => absurd v (h r c), fun _ => rfl, fun _ => rfl, Nat.zero_le _⟩
theorem Tb_put {A : List (PyData × PyData)} {n r c : Nat} {P : Nat → Nat → Int → Prop} {V V' : Nat → Nat → Prop} {x : Int} (t : Tb A n P V) (p : P r c x) (h : ∀ r' c', V' r' c' → V r' c' ∨ (r' = r ∧ c' = c)) : Tb (putD keyT A (kI r c) (.tuple [.int r, .int c]) (.int x)) (n + 1) P V' := by
  have e := fun k' => look_put (key := keyT) (k := kI r c) (k' := k') (d := .tuple [.int r, .int c]) (v := .int x) rfl A
  refine ⟨fun r' c' v => ?_, fun c' => ?_, fun r' => ?_, Nat.le_trans len_put (Nat.add_le_add_right t.len 1)⟩
  · rw [e]
    by_cases z : kI r' c' = kI r c
    · rw [if_pos z]
      have : r' = r ∧ c' = c := by
        injection z with z1 z2
        injection z2 with z2 z3
        injection z1 with z1
        injection z2 with z2
        omega
      obtain ⟨rfl, rfl⟩ := this
      exact ⟨x, rfl, p⟩
    · rw [if_neg z]
      rcases h r' c' v with v | ⟨rfl, rfl⟩
      · exact t.at_ r' c' v
      · exact absurd rfl z
  · rw [e, if_neg, t.up]
    intro z
    injection z with z1 z2
    injection z1 with z1
    omega
  · rw [e, if_neg, t.lf]
    intro z
    injection z with z1 z2
    injection z2 with z2 z3
    injection z2 with z2
    omega
theorem Tb_mono {A : List (PyData × PyData)} {n m : Nat} {P : Nat → Nat → Int → Prop} {V V' : Nat → Nat → Prop} (t : Tb A n P V) (h : ∀ r c, V' r c → V r c) (hn : n ≤ m) : Tb A m P V' := ⟨fun r c v => t.at_ r c (h r c v), t.up, t.lf, Nat.le_trans t.len hn⟩
def dnOf (A : List (PyData × PyData)) (r c : Nat) : Int := match lookD keyT A (kI r c) with
  | some (.int x) => x
  | _ => 0
theorem dnOf_at {A : List (PyData × PyData)} {n r c : Nat} {P : Nat → Nat → Int → Prop} {V : Nat → Nat → Prop} (t : Tb A n P V) (v : V r c) : lookD keyT A (kI r c) = some (.int (dnOf A r c)) ∧ P r c (dnOf A r c) := by
  obtain ⟨x, e, p⟩ := t.at_ r c v
  unfold dnOf
  rw [e]
  exact ⟨rfl, p⟩
/-- one piece of a board that is cut -/
def cutAt (dn rt : Nat → Nat → Int) (r c : Nat) : Pc := (-(if r = 0 then 0 else dn (r - 1) c), rt r c, dn r c, -(if c = 0 then 0 else rt r (c - 1)))
def cutRow (dn rt : Nat → Nat → Int) (wide r : Nat) : List Pc := (List.range wide).map (cutAt dn rt r)
def cutRows (dn rt : Nat → Nat → Int) (high wide : Nat) : List (List Pc) := (List.range high).map (cutRow dn rt wide)
/-- a board -/
def BD (rows : List (List Pc)) : PyData := .tuple (rows.map SD)
/-- what a cut may be -/
def okCut (most : Int) (last : Prop) (x : Int) : Prop := (last → x = 0) ∧ (¬ last → x ≠ 0) ∧ -most ≤ x ∧ x ≤ most
structure CutOK (dn rt : Nat → Nat → Int) (high wide : Nat) (most : Int) : Prop where
  dn_ : ∀ r c, r < high → c < wide → okCut most (r + 1 = high) (dn r c)
  rt_ : ∀ r c, r < high → c < wide → okCut most (c + 1 = wide) (rt r c)
end DL
/-! any values: pieces or not -/
namespace DL
open PySem PySem.W L2
section
variable {Q : Sl → Ev → Prop}
/-- an edge, whatever the value -/
def fE : PyData → Bool
  | .int i => decide (-9 ≤ i) && decide (i ≤ 9)
  | _ => false
def fPc : PyData → Bool
  | .tuple ds => decide (ds.length = 4) && ds.all fE
  | _ => false
theorem is_whole_int {i : Int} : Wm M.m_is_whole Q [.dat (.int i)] = Q (.dat (.bool true)) [.dat (.int i)] := by
  refine Wm_exact (Wm_of rfl ?_)
  unfold M.fb_is_whole
  simp only [↓Wp_rIf, ↓Wp_seq, ↓Wp_seqN, ↓Wp_seqR, ↓Wp_seqB, ↓Wp_seqC, ↓Wp_next, ↓Wp_brk, ↓Wp_cnt, ↓Wp_set, ↓Wp_asg, ↓Wp_ret, ↓Wp_drop, ↓Wp_kill, ↓Wp_par, ↓Wp_ifs, ↓Wp_for, ↓forK_nx, ↓forK_cnt, ↓forK_brk, ↓forK_ret, ↓Wp_c, ↓Wp_var, ↓WpVar_d, ↓WpVar_o, ↓Wp_view, ↓Wp_andV, ↓Wp_orV, ↓Wp_chain, ↓Wp_bin, ↓Wp_andB, ↓Wp_orB, ↓Wp_yes, ↓Wp_push0, ↓Wp_pushN, ↓Wp_nil, ↓Wp_cons, ↓Wp_move, ↓WpMv_d, ↓WpMv_o, ↓WpMv_s, ↓Wp_cnil, ↓Wp_cval, ↓Wp_cbor, ↓Wp_call, ↓Wp_comp, ↓Wp_comp2, ↓retK_r, ↓retK_n, ↓forJ_nx, ↓forJ_cnt, ↓Wp_asDat, ↓Wp_asDatO, ↓Wp_asB, ↓Wp_tru, ↓Wp_bind, ↓Wp_ok, ↓Wp_lift, ↓Wp_ite, ↓Wp_lite, ↓Wp_aug, ↓WpAug_i, ↓Wp_dnewK, ↓Wp_dnewT, ↓Wp_putH, ↓WpPutH_d, ↓WpPutH_T, ↓Wp_put, ↓Wp_push, ↓Wp_end, ↓Wp_app, ↓WB_b, ↓Wi_true, ↓Wi_false, Wp_rIf, Wp_seq, Wp_seqN, Wp_seqR, Wp_seqB, Wp_seqC, Wp_next, Wp_brk, Wp_cnt, Wp_set, Wp_asg, Wp_ret, Wp_drop, Wp_kill, Wp_par, Wp_ifs, Wp_for, forK_nx, forK_cnt, forK_brk, forK_ret, Wp_c, Wp_var, WpVar_d, WpVar_o, Wp_view, Wp_andV, Wp_orV, Wp_chain, Wp_bin, Wp_andB, Wp_orB, Wp_yes, Wp_push0, Wp_pushN, Wp_nil, Wp_cons, Wp_move, WpMv_d, WpMv_o, WpMv_s, Wp_cnil, Wp_cval, Wp_cbor, Wp_call, Wp_comp, Wp_comp2, retK_r, retK_n, forJ_nx, forJ_cnt, Wp_asDat, Wp_asDatO, Wp_asB, Wp_tru, Wp_bind, Wp_ok, Wp_lift, Wp_ite, Wp_lite, Wp_aug, WpAug_i, Wp_dnewK, Wp_dnewT, Wp_putH, WpPutH_d, WpPutH_T, Wp_put, Wp_push, Wp_end, Wp_app, WB_b, Wi_true, Wi_false, Wq_run, argsOf_v, argsOf_b, argsOf_n, putBack_v, putBack_b, putBack_n, back_o, back_s, back_d, see_d, see_o, see_s, List.getElem?_cons_zero, List.getElem?_cons_succ, List.set_cons_zero, List.set_cons_succ, List.cons_append, List.nil_append, List.take_succ_cons, List.take_zero, List.length_cons, List.length_nil, List.dropLast_cons₂, List.dropLast_singleton, Option.getD_some, wipeE, restoreE, gN, List.replicate_zero, List.replicate_succ, Nat.reduceAdd, Nat.reduceSub, decide_eq_true_eq, Bool.true_eq_false, Bool.false_eq_true, reduceCtorEq, not_false_eq_true, see_d, see_o, see_s, ownS_o, WpAug_l, isS_d, isS_o, mkRg_l, mkRg_t, dMax2_i, dMin2_i, dIx_l, dIx_t, dAdd_i, dSub_i, dNeg_i, dMod_i, dDiv_i, dMul_r, dMul_l, dPow_18, dGtA_i, dLtA_i, dGtI_i, dLtI_i, dGeI_i, dLeI_i, dInt_i, dAbs_i, dLen_l, dLen_t, dTuple_l, dList_l, dList_t, dAdd_l, dAdd_t, tupOf_i, lstOf_i, seqOf_l, seqOf_t, range1_i, WpPut_i, WpPush_i, WpEnd_i, WpApp_i, dEq_i, dNe_i, dNe_bb, dEq_bb, bools_true, allT, isL, dCnt_s, dOnce_i, onceOf, dIs_n, dIs_b, enumOf_l, enumOf_t, zipOf_t, zipOf_l, zipD_c, zipD_n, dIsNot_n, gTup_t, gs_c, gs_n, range2_i, Option.bind_some, unpack, dRev_l, dRev_t, isInt, isBool, isTuple, isList, isStr, isN, isOwnL, dSumA_l, dSumA_t, dAll, dAny, bools, Option.map_some, List.all_cons, List.all_nil, List.any_cons, List.any_nil, id_eq, Bool.and_true, Bool.true_and, Bool.and_self, Bool.not_true, Bool.not_false, dSlice_l, dSlice_t, asI_i, decide_true, decide_false, Int.reduceLE, Int.reduceLT, Int.reduceToNat, Int.reduceNeg, Int.reduceAdd, Int.reduceSub, Int.reduceMul, Nat.reduceLeDiff, Nat.reduceLT, reduceIte, Int.reducePow, Int.cast_ofNat_Int, Int.toNat_one, Int.toNat_zero, Nat.zero_add, Nat.lt_add_one, Nat.zero_lt_succ, Int.reduceEq, Nat.reduceEqDiff, Int.toNat_natCast]
  exact ⟨trivial, trivial⟩
theorem fits_edge_any (d : PyData) : Wm M.m_fits_edge Q [.dat d] = Q (.dat (.bool (fE d))) [.dat d] := by
  refine Wm_exact (Wm_of rfl ?_)
  unfold M.fb_fits_edge
  simp only [↓Wp_rIf, ↓Wp_seq, ↓Wp_seqN, ↓Wp_seqR, ↓Wp_seqB, ↓Wp_seqC, ↓Wp_next, ↓Wp_brk, ↓Wp_cnt, ↓Wp_set, ↓Wp_asg, ↓Wp_ret, ↓Wp_drop, ↓Wp_kill, ↓Wp_par, ↓Wp_ifs, ↓Wp_for, ↓forK_nx, ↓forK_cnt, ↓forK_brk, ↓forK_ret, ↓Wp_c, ↓Wp_var, ↓WpVar_d, ↓WpVar_o, ↓Wp_view, ↓Wp_andV, ↓Wp_orV, ↓Wp_chain, ↓Wp_bin, ↓Wp_andB, ↓Wp_orB, ↓Wp_yes, ↓Wp_push0, ↓Wp_pushN, ↓Wp_nil, ↓Wp_cons, ↓Wp_move, ↓WpMv_d, ↓WpMv_o, ↓WpMv_s, ↓Wp_cnil, ↓Wp_cval, ↓Wp_cbor, ↓Wp_call, ↓Wp_comp, ↓Wp_comp2, ↓retK_r, ↓retK_n, ↓forJ_nx, ↓forJ_cnt, ↓Wp_asDat, ↓Wp_asDatO, ↓Wp_asB, ↓Wp_tru, ↓Wp_bind, ↓Wp_ok, ↓Wp_lift, ↓Wp_ite, ↓Wp_lite, ↓Wp_aug, ↓WpAug_i, ↓Wp_dnewK, ↓Wp_dnewT, ↓Wp_putH, ↓WpPutH_d, ↓WpPutH_T, ↓Wp_put, ↓Wp_push, ↓Wp_end, ↓Wp_app, ↓WB_b, ↓Wi_true, ↓Wi_false, Wp_rIf, Wp_seq, Wp_seqN, Wp_seqR, Wp_seqB, Wp_seqC, Wp_next, Wp_brk, Wp_cnt, Wp_set, Wp_asg, Wp_ret, Wp_drop, Wp_kill, Wp_par, Wp_ifs, Wp_for, forK_nx, forK_cnt, forK_brk, forK_ret, Wp_c, Wp_var, WpVar_d, WpVar_o, Wp_view, Wp_andV, Wp_orV, Wp_chain, Wp_bin, Wp_andB, Wp_orB, Wp_yes, Wp_push0, Wp_pushN, Wp_nil, Wp_cons, Wp_move, WpMv_d, WpMv_o, WpMv_s, Wp_cnil, Wp_cval, Wp_cbor, Wp_call, Wp_comp, Wp_comp2, retK_r, retK_n, forJ_nx, forJ_cnt, Wp_asDat, Wp_asDatO, Wp_asB, Wp_tru, Wp_bind, Wp_ok, Wp_lift, Wp_ite, Wp_lite, Wp_aug, WpAug_i, Wp_dnewK, Wp_dnewT, Wp_putH, WpPutH_d, WpPutH_T, Wp_put, Wp_push, Wp_end, Wp_app, WB_b, Wi_true, Wi_false, Wq_run, argsOf_v, argsOf_b, argsOf_n, putBack_v, putBack_b, putBack_n, back_o, back_s, back_d, see_d, see_o, see_s, List.getElem?_cons_zero, List.getElem?_cons_succ, List.set_cons_zero, List.set_cons_succ, List.cons_append, List.nil_append, List.take_succ_cons, List.take_zero, List.length_cons, List.length_nil, List.dropLast_cons₂, List.dropLast_singleton, Option.getD_some, wipeE, restoreE, gN, List.replicate_zero, List.replicate_succ, Nat.reduceAdd, Nat.reduceSub, decide_eq_true_eq, Bool.true_eq_false, Bool.false_eq_true, reduceCtorEq, not_false_eq_true, see_d, see_o, see_s, ownS_o, WpAug_l, isS_d, isS_o, mkRg_l, mkRg_t, dMax2_i, dMin2_i, dIx_l, dIx_t, dAdd_i, dSub_i, dNeg_i, dMod_i, dDiv_i, dMul_r, dMul_l, dPow_18, dGtA_i, dLtA_i, dGtI_i, dLtI_i, dGeI_i, dLeI_i, dInt_i, dAbs_i, dLen_l, dLen_t, dTuple_l, dList_l, dList_t, dAdd_l, dAdd_t, tupOf_i, lstOf_i, seqOf_l, seqOf_t, range1_i, WpPut_i, WpPush_i, WpEnd_i, WpApp_i, dEq_i, dNe_i, dNe_bb, dEq_bb, bools_true, allT, isL, dCnt_s, dOnce_i, onceOf, dIs_n, dIs_b, enumOf_l, enumOf_t, zipOf_t, zipOf_l, zipD_c, zipD_n, dIsNot_n, gTup_t, gs_c, gs_n, range2_i, Option.bind_some, unpack, dRev_l, dRev_t, isInt, isBool, isTuple, isList, isStr, isN, isOwnL, dSumA_l, dSumA_t, dAll, dAny, bools, Option.map_some, List.all_cons, List.all_nil, List.any_cons, List.any_nil, id_eq, Bool.and_true, Bool.true_and, Bool.and_self, Bool.not_true, Bool.not_false, dSlice_l, dSlice_t, asI_i, decide_true, decide_false, Int.reduceLE, Int.reduceLT, Int.reduceToNat, Int.reduceNeg, Int.reduceAdd, Int.reduceSub, Int.reduceMul, Nat.reduceLeDiff, Nat.reduceLT, reduceIte, Int.reducePow, Int.cast_ofNat_Int, Int.toNat_one, Int.toNat_zero, Nat.zero_add, Nat.lt_add_one, Nat.zero_lt_succ, Int.reduceEq, Nat.reduceEqDiff, Int.toNat_natCast]
  refine Wm_of rfl ?_
  unfold M.fb_fits_whole
  simp only [↓Wp_rIf, ↓Wp_seq, ↓Wp_seqN, ↓Wp_seqR, ↓Wp_seqB, ↓Wp_seqC, ↓Wp_next, ↓Wp_brk, ↓Wp_cnt, ↓Wp_set, ↓Wp_asg, ↓Wp_ret, ↓Wp_drop, ↓Wp_kill, ↓Wp_par, ↓Wp_ifs, ↓Wp_for, ↓forK_nx, ↓forK_cnt, ↓forK_brk, ↓forK_ret, ↓Wp_c, ↓Wp_var, ↓WpVar_d, ↓WpVar_o, ↓Wp_view, ↓Wp_andV, ↓Wp_orV, ↓Wp_chain, ↓Wp_bin, ↓Wp_andB, ↓Wp_orB, ↓Wp_yes, ↓Wp_push0, ↓Wp_pushN, ↓Wp_nil, ↓Wp_cons, ↓Wp_move, ↓WpMv_d, ↓WpMv_o, ↓WpMv_s, ↓Wp_cnil, ↓Wp_cval, ↓Wp_cbor, ↓Wp_call, ↓Wp_comp, ↓Wp_comp2, ↓retK_r, ↓retK_n, ↓forJ_nx, ↓forJ_cnt, ↓Wp_asDat, ↓Wp_asDatO, ↓Wp_asB, ↓Wp_tru, ↓Wp_bind, ↓Wp_ok, ↓Wp_lift, ↓Wp_ite, ↓Wp_lite, ↓Wp_aug, ↓WpAug_i, ↓Wp_dnewK, ↓Wp_dnewT, ↓Wp_putH, ↓WpPutH_d, ↓WpPutH_T, ↓Wp_put, ↓Wp_push, ↓Wp_end, ↓Wp_app, ↓WB_b, ↓Wi_true, ↓Wi_false, Wp_rIf, Wp_seq, Wp_seqN, Wp_seqR, Wp_seqB, Wp_seqC, Wp_next, Wp_brk, Wp_cnt, Wp_set, Wp_asg, Wp_ret, Wp_drop, Wp_kill, Wp_par, Wp_ifs, Wp_for, forK_nx, forK_cnt, forK_brk, forK_ret, Wp_c, Wp_var, WpVar_d, WpVar_o, Wp_view, Wp_andV, Wp_orV, Wp_chain, Wp_bin, Wp_andB, Wp_orB, Wp_yes, Wp_push0, Wp_pushN, Wp_nil, Wp_cons, Wp_move, WpMv_d, WpMv_o, WpMv_s, Wp_cnil, Wp_cval, Wp_cbor, Wp_call, Wp_comp, Wp_comp2, retK_r, retK_n, forJ_nx, forJ_cnt, Wp_asDat, Wp_asDatO, Wp_asB, Wp_tru, Wp_bind, Wp_ok, Wp_lift, Wp_ite, Wp_lite, Wp_aug, WpAug_i, Wp_dnewK, Wp_dnewT, Wp_putH, WpPutH_d, WpPutH_T, Wp_put, Wp_push, Wp_end, Wp_app, WB_b, Wi_true, Wi_false, Wq_run, argsOf_v, argsOf_b, argsOf_n, putBack_v, putBack_b, putBack_n, back_o, back_s, back_d, see_d, see_o, see_s, List.getElem?_cons_zero, List.getElem?_cons_succ, List.set_cons_zero, List.set_cons_succ, List.cons_append, List.nil_append, List.take_succ_cons, List.take_zero, List.length_cons, List.length_nil, List.dropLast_cons₂, List.dropLast_singleton, Option.getD_some, wipeE, restoreE, gN, List.replicate_zero, List.replicate_succ, Nat.reduceAdd, Nat.reduceSub, decide_eq_true_eq, Bool.true_eq_false, Bool.false_eq_true, reduceCtorEq, not_false_eq_true, see_d, see_o, see_s, ownS_o, WpAug_l, isS_d, isS_o, mkRg_l, mkRg_t, dMax2_i, dMin2_i, dIx_l, dIx_t, dAdd_i, dSub_i, dNeg_i, dMod_i, dDiv_i, dMul_r, dMul_l, dPow_18, dGtA_i, dLtA_i, dGtI_i, dLtI_i, dGeI_i, dLeI_i, dInt_i, dAbs_i, dLen_l, dLen_t, dTuple_l, dList_l, dList_t, dAdd_l, dAdd_t, tupOf_i, lstOf_i, seqOf_l, seqOf_t, range1_i, WpPut_i, WpPush_i, WpEnd_i, WpApp_i, dEq_i, dNe_i, dNe_bb, dEq_bb, bools_true, allT, isL, dCnt_s, dOnce_i, onceOf, dIs_n, dIs_b, enumOf_l, enumOf_t, zipOf_t, zipOf_l, zipD_c, zipD_n, dIsNot_n, gTup_t, gs_c, gs_n, range2_i, Option.bind_some, unpack, dRev_l, dRev_t, isInt, isBool, isTuple, isList, isStr, isN, isOwnL, dSumA_l, dSumA_t, dAll, dAny, bools, Option.map_some, List.all_cons, List.all_nil, List.any_cons, List.any_nil, id_eq, Bool.and_true, Bool.true_and, Bool.and_self, Bool.not_true, Bool.not_false, dSlice_l, dSlice_t, asI_i, decide_true, decide_false, Int.reduceLE, Int.reduceLT, Int.reduceToNat, Int.reduceNeg, Int.reduceAdd, Int.reduceSub, Int.reduceMul, Nat.reduceLeDiff, Nat.reduceLT, reduceIte, Int.reducePow, Int.cast_ofNat_Int, Int.toNat_one, Int.toNat_zero, Nat.zero_add, Nat.lt_add_one, Nat.zero_lt_succ, Int.reduceEq, Nat.reduceEqDiff, Int.toNat_natCast]
  refine Wm_of rfl ?_
  unfold M.fb_is_whole
  cases d with
  | int i =>
    by_cases h : -9 ≤ i
    · simp only [↓Wp_rIf, ↓Wp_seq, ↓Wp_seqN, ↓Wp_seqR, ↓Wp_seqB, ↓Wp_seqC, ↓Wp_next, ↓Wp_brk, ↓Wp_cnt, ↓Wp_set, ↓Wp_asg, ↓Wp_ret, ↓Wp_drop, ↓Wp_kill, ↓Wp_par, ↓Wp_ifs, ↓Wp_for, ↓forK_nx, ↓forK_cnt, ↓forK_brk, ↓forK_ret, ↓Wp_c, ↓Wp_var, ↓WpVar_d, ↓WpVar_o, ↓Wp_view, ↓Wp_andV, ↓Wp_orV, ↓Wp_chain, ↓Wp_bin, ↓Wp_andB, ↓Wp_orB, ↓Wp_yes, ↓Wp_push0, ↓Wp_pushN, ↓Wp_nil, ↓Wp_cons, ↓Wp_move, ↓WpMv_d, ↓WpMv_o, ↓WpMv_s, ↓Wp_cnil, ↓Wp_cval, ↓Wp_cbor, ↓Wp_call, ↓Wp_comp, ↓Wp_comp2, ↓retK_r, ↓retK_n, ↓forJ_nx, ↓forJ_cnt, ↓Wp_asDat, ↓Wp_asDatO, ↓Wp_asB, ↓Wp_tru, ↓Wp_bind, ↓Wp_ok, ↓Wp_lift, ↓Wp_ite, ↓Wp_lite, ↓Wp_aug, ↓WpAug_i, ↓Wp_dnewK, ↓Wp_dnewT, ↓Wp_putH, ↓WpPutH_d, ↓WpPutH_T, ↓Wp_put, ↓Wp_push, ↓Wp_end, ↓Wp_app, ↓WB_b, ↓Wi_true, ↓Wi_false, Wp_rIf, Wp_seq, Wp_seqN, Wp_seqR, Wp_seqB, Wp_seqC, Wp_next, Wp_brk, Wp_cnt, Wp_set, Wp_asg, Wp_ret, Wp_drop, Wp_kill, Wp_par, Wp_ifs, Wp_for, forK_nx, forK_cnt, forK_brk, forK_ret, Wp_c, Wp_var, WpVar_d, WpVar_o, Wp_view, Wp_andV, Wp_orV, Wp_chain, Wp_bin, Wp_andB, Wp_orB, Wp_yes, Wp_push0, Wp_pushN, Wp_nil, Wp_cons, Wp_move, WpMv_d, WpMv_o, WpMv_s, Wp_cnil, Wp_cval, Wp_cbor, Wp_call, Wp_comp, Wp_comp2, retK_r, retK_n, forJ_nx, forJ_cnt, Wp_asDat, Wp_asDatO, Wp_asB, Wp_tru, Wp_bind, Wp_ok, Wp_lift, Wp_ite, Wp_lite, Wp_aug, WpAug_i, Wp_dnewK, Wp_dnewT, Wp_putH, WpPutH_d, WpPutH_T, Wp_put, Wp_push, Wp_end, Wp_app, WB_b, Wi_true, Wi_false, Wq_run, argsOf_v, argsOf_b, argsOf_n, putBack_v, putBack_b, putBack_n, back_o, back_s, back_d, see_d, see_o, see_s, List.getElem?_cons_zero, List.getElem?_cons_succ, List.set_cons_zero, List.set_cons_succ, List.cons_append, List.nil_append, List.take_succ_cons, List.take_zero, List.length_cons, List.length_nil, List.dropLast_cons₂, List.dropLast_singleton, Option.getD_some, wipeE, restoreE, gN, List.replicate_zero, List.replicate_succ, Nat.reduceAdd, Nat.reduceSub, decide_eq_true_eq, Bool.true_eq_false, Bool.false_eq_true, reduceCtorEq, not_false_eq_true, see_d, see_o, see_s, ownS_o, WpAug_l, isS_d, isS_o, mkRg_l, mkRg_t, dMax2_i, dMin2_i, dIx_l, dIx_t, dAdd_i, dSub_i, dNeg_i, dMod_i, dDiv_i, dMul_r, dMul_l, dPow_18, dGtA_i, dLtA_i, dGtI_i, dLtI_i, dGeI_i, dLeI_i, dInt_i, dAbs_i, dLen_l, dLen_t, dTuple_l, dList_l, dList_t, dAdd_l, dAdd_t, tupOf_i, lstOf_i, seqOf_l, seqOf_t, range1_i, WpPut_i, WpPush_i, WpEnd_i, WpApp_i, dEq_i, dNe_i, dNe_bb, dEq_bb, bools_true, allT, isL, dCnt_s, dOnce_i, onceOf, dIs_n, dIs_b, enumOf_l, enumOf_t, zipOf_t, zipOf_l, zipD_c, zipD_n, dIsNot_n, gTup_t, gs_c, gs_n, range2_i, Option.bind_some, unpack, dRev_l, dRev_t, isInt, isBool, isTuple, isList, isStr, isN, isOwnL, dSumA_l, dSumA_t, dAll, dAny, bools, Option.map_some, List.all_cons, List.all_nil, List.any_cons, List.any_nil, id_eq, Bool.and_true, Bool.true_and, Bool.and_self, Bool.not_true, Bool.not_false, dSlice_l, dSlice_t, asI_i, decide_true, decide_false, Int.reduceLE, Int.reduceLT, Int.reduceToNat, Int.reduceNeg, Int.reduceAdd, Int.reduceSub, Int.reduceMul, Nat.reduceLeDiff, Nat.reduceLT, reduceIte, Int.reducePow, Int.cast_ofNat_Int, Int.toNat_one, Int.toNat_zero, Nat.zero_add, Nat.lt_add_one, Nat.zero_lt_succ, Int.reduceEq, Nat.reduceEqDiff, Int.toNat_natCast, h]
      refine ⟨?_, trivial⟩
      simp [fE, h]
    · simp only [↓Wp_rIf, ↓Wp_seq, ↓Wp_seqN, ↓Wp_seqR, ↓Wp_seqB, ↓Wp_seqC, ↓Wp_next, ↓Wp_brk, ↓Wp_cnt, ↓Wp_set, ↓Wp_asg, ↓Wp_ret, ↓Wp_drop, ↓Wp_kill, ↓Wp_par, ↓Wp_ifs, ↓Wp_for, ↓forK_nx, ↓forK_cnt, ↓forK_brk, ↓forK_ret, ↓Wp_c, ↓Wp_var, ↓WpVar_d, ↓WpVar_o, ↓Wp_view, ↓Wp_andV, ↓Wp_orV, ↓Wp_chain, ↓Wp_bin, ↓Wp_andB, ↓Wp_orB, ↓Wp_yes, ↓Wp_push0, ↓Wp_pushN, ↓Wp_nil, ↓Wp_cons, ↓Wp_move, ↓WpMv_d, ↓WpMv_o, ↓WpMv_s, ↓Wp_cnil, ↓Wp_cval, ↓Wp_cbor, ↓Wp_call, ↓Wp_comp, ↓Wp_comp2, ↓retK_r, ↓retK_n, ↓forJ_nx, ↓forJ_cnt, ↓Wp_asDat, ↓Wp_asDatO, ↓Wp_asB, ↓Wp_tru, ↓Wp_bind, ↓Wp_ok, ↓Wp_lift, ↓Wp_ite, ↓Wp_lite, ↓Wp_aug, ↓WpAug_i, ↓Wp_dnewK, ↓Wp_dnewT, ↓Wp_putH, ↓WpPutH_d, ↓WpPutH_T, ↓Wp_put, ↓Wp_push, ↓Wp_end, ↓Wp_app, ↓WB_b, ↓Wi_true, ↓Wi_false, Wp_rIf, Wp_seq, Wp_seqN, Wp_seqR, Wp_seqB, Wp_seqC, Wp_next, Wp_brk, Wp_cnt, Wp_set, Wp_asg, Wp_ret, Wp_drop, Wp_kill, Wp_par, Wp_ifs, Wp_for, forK_nx, forK_cnt, forK_brk, forK_ret, Wp_c, Wp_var, WpVar_d, WpVar_o, Wp_view, Wp_andV, Wp_orV, Wp_chain, Wp_bin, Wp_andB, Wp_orB, Wp_yes, Wp_push0, Wp_pushN, Wp_nil, Wp_cons, Wp_move, WpMv_d, WpMv_o, WpMv_s, Wp_cnil, Wp_cval, Wp_cbor, Wp_call, Wp_comp, Wp_comp2, retK_r, retK_n, forJ_nx, forJ_cnt, Wp_asDat, Wp_asDatO, Wp_asB, Wp_tru, Wp_bind, Wp_ok, Wp_lift, Wp_ite, Wp_lite, Wp_aug, WpAug_i, Wp_dnewK, Wp_dnewT, Wp_putH, WpPutH_d, WpPutH_T, Wp_put, Wp_push, Wp_end, Wp_app, WB_b, Wi_true, Wi_false, Wq_run, argsOf_v, argsOf_b, argsOf_n, putBack_v, putBack_b, putBack_n, back_o, back_s, back_d, see_d, see_o, see_s, List.getElem?_cons_zero, List.getElem?_cons_succ, List.set_cons_zero, List.set_cons_succ, List.cons_append, List.nil_append, List.take_succ_cons, List.take_zero, List.length_cons, List.length_nil, List.dropLast_cons₂, List.dropLast_singleton, Option.getD_some, wipeE, restoreE, gN, List.replicate_zero, List.replicate_succ, Nat.reduceAdd, Nat.reduceSub, decide_eq_true_eq, Bool.true_eq_false, Bool.false_eq_true, reduceCtorEq, not_false_eq_true, see_d, see_o, see_s, ownS_o, WpAug_l, isS_d, isS_o, mkRg_l, mkRg_t, dMax2_i, dMin2_i, dIx_l, dIx_t, dAdd_i, dSub_i, dNeg_i, dMod_i, dDiv_i, dMul_r, dMul_l, dPow_18, dGtA_i, dLtA_i, dGtI_i, dLtI_i, dGeI_i, dLeI_i, dInt_i, dAbs_i, dLen_l, dLen_t, dTuple_l, dList_l, dList_t, dAdd_l, dAdd_t, tupOf_i, lstOf_i, seqOf_l, seqOf_t, range1_i, WpPut_i, WpPush_i, WpEnd_i, WpApp_i, dEq_i, dNe_i, dNe_bb, dEq_bb, bools_true, allT, isL, dCnt_s, dOnce_i, onceOf, dIs_n, dIs_b, enumOf_l, enumOf_t, zipOf_t, zipOf_l, zipD_c, zipD_n, dIsNot_n, gTup_t, gs_c, gs_n, range2_i, Option.bind_some, unpack, dRev_l, dRev_t, isInt, isBool, isTuple, isList, isStr, isN, isOwnL, dSumA_l, dSumA_t, dAll, dAny, bools, Option.map_some, List.all_cons, List.all_nil, List.any_cons, List.any_nil, id_eq, Bool.and_true, Bool.true_and, Bool.and_self, Bool.not_true, Bool.not_false, dSlice_l, dSlice_t, asI_i, decide_true, decide_false, Int.reduceLE, Int.reduceLT, Int.reduceToNat, Int.reduceNeg, Int.reduceAdd, Int.reduceSub, Int.reduceMul, Nat.reduceLeDiff, Nat.reduceLT, reduceIte, Int.reducePow, Int.cast_ofNat_Int, Int.toNat_one, Int.toNat_zero, Nat.zero_add, Nat.lt_add_one, Nat.zero_lt_succ, Int.reduceEq, Nat.reduceEqDiff, Int.toNat_natCast, h]
      refine ⟨?_, trivial⟩
      simp [fE, h]
  | bool b =>
    simp only [↓Wp_rIf, ↓Wp_seq, ↓Wp_seqN, ↓Wp_seqR, ↓Wp_seqB, ↓Wp_seqC, ↓Wp_next, ↓Wp_brk, ↓Wp_cnt, ↓Wp_set, ↓Wp_asg, ↓Wp_ret, ↓Wp_drop, ↓Wp_kill, ↓Wp_par, ↓Wp_ifs, ↓Wp_for, ↓forK_nx, ↓forK_cnt, ↓forK_brk, ↓forK_ret, ↓Wp_c, ↓Wp_var, ↓WpVar_d, ↓WpVar_o, ↓Wp_view, ↓Wp_andV, ↓Wp_orV, ↓Wp_chain, ↓Wp_bin, ↓Wp_andB, ↓Wp_orB, ↓Wp_yes, ↓Wp_push0, ↓Wp_pushN, ↓Wp_nil, ↓Wp_cons, ↓Wp_move, ↓WpMv_d, ↓WpMv_o, ↓WpMv_s, ↓Wp_cnil, ↓Wp_cval, ↓Wp_cbor, ↓Wp_call, ↓Wp_comp, ↓Wp_comp2, ↓retK_r, ↓retK_n, ↓forJ_nx, ↓forJ_cnt, ↓Wp_asDat, ↓Wp_asDatO, ↓Wp_asB, ↓Wp_tru, ↓Wp_bind, ↓Wp_ok, ↓Wp_lift, ↓Wp_ite, ↓Wp_lite, ↓Wp_aug, ↓WpAug_i, ↓Wp_dnewK, ↓Wp_dnewT, ↓Wp_putH, ↓WpPutH_d, ↓WpPutH_T, ↓Wp_put, ↓Wp_push, ↓Wp_end, ↓Wp_app, ↓WB_b, ↓Wi_true, ↓Wi_false, Wp_rIf, Wp_seq, Wp_seqN, Wp_seqR, Wp_seqB, Wp_seqC, Wp_next, Wp_brk, Wp_cnt, Wp_set, Wp_asg, Wp_ret, Wp_drop, Wp_kill, Wp_par, Wp_ifs, Wp_for, forK_nx, forK_cnt, forK_brk, forK_ret, Wp_c, Wp_var, WpVar_d, WpVar_o, Wp_view, Wp_andV, Wp_orV, Wp_chain, Wp_bin, Wp_andB, Wp_orB, Wp_yes, Wp_push0, Wp_pushN, Wp_nil, Wp_cons, Wp_move, WpMv_d, WpMv_o, WpMv_s, Wp_cnil, Wp_cval, Wp_cbor, Wp_call, Wp_comp, Wp_comp2, retK_r, retK_n, forJ_nx, forJ_cnt, Wp_asDat, Wp_asDatO, Wp_asB, Wp_tru, Wp_bind, Wp_ok, Wp_lift, Wp_ite, Wp_lite, Wp_aug, WpAug_i, Wp_dnewK, Wp_dnewT, Wp_putH, WpPutH_d, WpPutH_T, Wp_put, Wp_push, Wp_end, Wp_app, WB_b, Wi_true, Wi_false, Wq_run, argsOf_v, argsOf_b, argsOf_n, putBack_v, putBack_b, putBack_n, back_o, back_s, back_d, see_d, see_o, see_s, List.getElem?_cons_zero, List.getElem?_cons_succ, List.set_cons_zero, List.set_cons_succ, List.cons_append, List.nil_append, List.take_succ_cons, List.take_zero, List.length_cons, List.length_nil, List.dropLast_cons₂, List.dropLast_singleton, Option.getD_some, wipeE, restoreE, gN, List.replicate_zero, List.replicate_succ, Nat.reduceAdd, Nat.reduceSub, decide_eq_true_eq, Bool.true_eq_false, Bool.false_eq_true, reduceCtorEq, not_false_eq_true, see_d, see_o, see_s, ownS_o, WpAug_l, isS_d, isS_o, mkRg_l, mkRg_t, dMax2_i, dMin2_i, dIx_l, dIx_t, dAdd_i, dSub_i, dNeg_i, dMod_i, dDiv_i, dMul_r, dMul_l, dPow_18, dGtA_i, dLtA_i, dGtI_i, dLtI_i, dGeI_i, dLeI_i, dInt_i, dAbs_i, dLen_l, dLen_t, dTuple_l, dList_l, dList_t, dAdd_l, dAdd_t, tupOf_i, lstOf_i, seqOf_l, seqOf_t, range1_i, WpPut_i, WpPush_i, WpEnd_i, WpApp_i, dEq_i, dNe_i, dNe_bb, dEq_bb, bools_true, allT, isL, dCnt_s, dOnce_i, onceOf, dIs_n, dIs_b, enumOf_l, enumOf_t, zipOf_t, zipOf_l, zipD_c, zipD_n, dIsNot_n, gTup_t, gs_c, gs_n, range2_i, Option.bind_some, unpack, dRev_l, dRev_t, isInt, isBool, isTuple, isList, isStr, isN, isOwnL, dSumA_l, dSumA_t, dAll, dAny, bools, Option.map_some, List.all_cons, List.all_nil, List.any_cons, List.any_nil, id_eq, Bool.and_true, Bool.true_and, Bool.and_self, Bool.not_true, Bool.not_false, dSlice_l, dSlice_t, asI_i, decide_true, decide_false, Int.reduceLE, Int.reduceLT, Int.reduceToNat, Int.reduceNeg, Int.reduceAdd, Int.reduceSub, Int.reduceMul, Nat.reduceLeDiff, Nat.reduceLT, reduceIte, Int.reducePow, Int.cast_ofNat_Int, Int.toNat_one, Int.toNat_zero, Nat.zero_add, Nat.lt_add_one, Nat.zero_lt_succ, Int.reduceEq, Nat.reduceEqDiff, Int.toNat_natCast]
    exact ⟨rfl, trivial⟩
  | _ =>
    simp only [↓Wp_rIf, ↓Wp_seq, ↓Wp_seqN, ↓Wp_seqR, ↓Wp_seqB, ↓Wp_seqC, ↓Wp_next, ↓Wp_brk, ↓Wp_cnt, ↓Wp_set, ↓Wp_asg, ↓Wp_ret, ↓Wp_drop, ↓Wp_kill, ↓Wp_par, ↓Wp_ifs, ↓Wp_for, ↓forK_nx, ↓forK_cnt, ↓forK_brk, ↓forK_ret, ↓Wp_c, ↓Wp_var, ↓WpVar_d, ↓WpVar_o, ↓Wp_view, ↓Wp_andV, ↓Wp_orV, ↓Wp_chain, ↓Wp_bin, ↓Wp_andB, ↓Wp_orB, ↓Wp_yes, ↓Wp_push0, ↓Wp_pushN, ↓Wp_nil, ↓Wp_cons, ↓Wp_move, ↓WpMv_d, ↓WpMv_o, ↓WpMv_s, ↓Wp_cnil, ↓Wp_cval, ↓Wp_cbor, ↓Wp_call, ↓Wp_comp, ↓Wp_comp2, ↓retK_r, ↓retK_n, ↓forJ_nx, ↓forJ_cnt, ↓Wp_asDat, ↓Wp_asDatO, ↓Wp_asB, ↓Wp_tru, ↓Wp_bind, ↓Wp_ok, ↓Wp_lift, ↓Wp_ite, ↓Wp_lite, ↓Wp_aug, ↓WpAug_i, ↓Wp_dnewK, ↓Wp_dnewT, ↓Wp_putH, ↓WpPutH_d, ↓WpPutH_T, ↓Wp_put, ↓Wp_push, ↓Wp_end, ↓Wp_app, ↓WB_b, ↓Wi_true, ↓Wi_false, Wp_rIf, Wp_seq, Wp_seqN, Wp_seqR, Wp_seqB, Wp_seqC, Wp_next, Wp_brk, Wp_cnt, Wp_set, Wp_asg, Wp_ret, Wp_drop, Wp_kill, Wp_par, Wp_ifs, Wp_for, forK_nx, forK_cnt, forK_brk, forK_ret, Wp_c, Wp_var, WpVar_d, WpVar_o, Wp_view, Wp_andV, Wp_orV, Wp_chain, Wp_bin, Wp_andB, Wp_orB, Wp_yes, Wp_push0, Wp_pushN, Wp_nil, Wp_cons, Wp_move, WpMv_d, WpMv_o, WpMv_s, Wp_cnil, Wp_cval, Wp_cbor, Wp_call, Wp_comp, Wp_comp2, retK_r, retK_n, forJ_nx, forJ_cnt, Wp_asDat, Wp_asDatO, Wp_asB, Wp_tru, Wp_bind, Wp_ok, Wp_lift, Wp_ite, Wp_lite, Wp_aug, WpAug_i, Wp_dnewK, Wp_dnewT, Wp_putH, WpPutH_d, WpPutH_T, Wp_put, Wp_push, Wp_end, Wp_app, WB_b, Wi_true, Wi_false, Wq_run, argsOf_v, argsOf_b, argsOf_n, putBack_v, putBack_b, putBack_n, back_o, back_s, back_d, see_d, see_o, see_s, List.getElem?_cons_zero, List.getElem?_cons_succ, List.set_cons_zero, List.set_cons_succ, List.cons_append, List.nil_append, List.take_succ_cons, List.take_zero, List.length_cons, List.length_nil, List.dropLast_cons₂, List.dropLast_singleton, Option.getD_some, wipeE, restoreE, gN, List.replicate_zero, List.replicate_succ, Nat.reduceAdd, Nat.reduceSub, decide_eq_true_eq, Bool.true_eq_false, Bool.false_eq_true, reduceCtorEq, not_false_eq_true, see_d, see_o, see_s, ownS_o, WpAug_l, isS_d, isS_o, mkRg_l, mkRg_t, dMax2_i, dMin2_i, dIx_l, dIx_t, dAdd_i, dSub_i, dNeg_i, dMod_i, dDiv_i, dMul_r, dMul_l, dPow_18, dGtA_i, dLtA_i, dGtI_i, dLtI_i, dGeI_i, dLeI_i, dInt_i, dAbs_i, dLen_l, dLen_t, dTuple_l, dList_l, dList_t, dAdd_l, dAdd_t, tupOf_i, lstOf_i, seqOf_l, seqOf_t, range1_i, WpPut_i, WpPush_i, WpEnd_i, WpApp_i, dEq_i, dNe_i, dNe_bb, dEq_bb, bools_true, allT, isL, dCnt_s, dOnce_i, onceOf, dIs_n, dIs_b, enumOf_l, enumOf_t, zipOf_t, zipOf_l, zipD_c, zipD_n, dIsNot_n, gTup_t, gs_c, gs_n, range2_i, Option.bind_some, unpack, dRev_l, dRev_t, isInt, isBool, isTuple, isList, isStr, isN, isOwnL, dSumA_l, dSumA_t, dAll, dAny, bools, Option.map_some, List.all_cons, List.all_nil, List.any_cons, List.any_nil, id_eq, Bool.and_true, Bool.true_and, Bool.and_self, Bool.not_true, Bool.not_false, dSlice_l, dSlice_t, asI_i, decide_true, decide_false, Int.reduceLE, Int.reduceLT, Int.reduceToNat, Int.reduceNeg, Int.reduceAdd, Int.reduceSub, Int.reduceMul, Nat.reduceLeDiff, Nat.reduceLT, reduceIte, Int.reducePow, Int.cast_ofNat_Int, Int.toNat_one, Int.toNat_zero, Nat.zero_add, Nat.lt_add_one, Nat.zero_lt_succ, Int.reduceEq, Nat.reduceEqDiff, Int.toNat_natCast]
    exact ⟨rfl, trivial⟩
theorem bools_f {p : PyData → Bool} : ∀ (l : List PyData), bools (l.map fun e => PyData.bool (p e)) = some (l.map p)
  | [] => rfl
  | x :: l => by
    show (bools (l.map fun e => PyData.bool (p e))).map (p x :: ·) = _
    rw [bools_f l]
    rfl
theorem all_f {p : PyData → Bool} {l : List PyData} : dAll [.list (l.map fun e => PyData.bool (p e))] = some (.dat (.bool (l.all p))) := by
  show Option.map _ (bools _) = _
  rw [bools_f]
  show some (Sl.dat (.bool ((l.map p).all id))) = _
  rw [List.all_map]
  rfl
theorem filter_yes' {α : Type} {l : List α} : l.filter (fun _ => true) = l := List.filter_eq_self.mpr fun _ _ => rfl
theorem fits_piece_any (d : PyData) (h : ∀ ds, d = .tuple ds → ds.length ≤ 100000) : Wm M.m_fits_piece Q [.dat d] = Q (.dat (.bool (fPc d))) [.dat d] := by
  refine Wm_exact (Wm_of rfl ?_)
  unfold M.fb_fits_piece
  simp only [↓Wp_rIf, ↓Wp_seq, ↓Wp_seqN, ↓Wp_seqR, ↓Wp_seqB, ↓Wp_seqC, ↓Wp_next, ↓Wp_brk, ↓Wp_cnt, ↓Wp_set, ↓Wp_asg, ↓Wp_ret, ↓Wp_drop, ↓Wp_kill, ↓Wp_par, ↓Wp_ifs, ↓Wp_for, ↓forK_nx, ↓forK_cnt, ↓forK_brk, ↓forK_ret, ↓Wp_c, ↓Wp_var, ↓WpVar_d, ↓WpVar_o, ↓Wp_view, ↓Wp_andV, ↓Wp_orV, ↓Wp_chain, ↓Wp_bin, ↓Wp_andB, ↓Wp_orB, ↓Wp_yes, ↓Wp_push0, ↓Wp_pushN, ↓Wp_nil, ↓Wp_cons, ↓Wp_move, ↓WpMv_d, ↓WpMv_o, ↓WpMv_s, ↓Wp_cnil, ↓Wp_cval, ↓Wp_cbor, ↓Wp_call, ↓Wp_comp, ↓Wp_comp2, ↓retK_r, ↓retK_n, ↓forJ_nx, ↓forJ_cnt, ↓Wp_asDat, ↓Wp_asDatO, ↓Wp_asB, ↓Wp_tru, ↓Wp_bind, ↓Wp_ok, ↓Wp_lift, ↓Wp_ite, ↓Wp_lite, ↓Wp_aug, ↓WpAug_i, ↓Wp_dnewK, ↓Wp_dnewT, ↓Wp_putH, ↓WpPutH_d, ↓WpPutH_T, ↓Wp_put, ↓Wp_push, ↓Wp_end, ↓Wp_app, ↓WB_b, ↓Wi_true, ↓Wi_false, Wp_rIf, Wp_seq, Wp_seqN, Wp_seqR, Wp_seqB, Wp_seqC, Wp_next, Wp_brk, Wp_cnt, Wp_set, Wp_asg, Wp_ret, Wp_drop, Wp_kill, Wp_par, Wp_ifs, Wp_for, forK_nx, forK_cnt, forK_brk, forK_ret, Wp_c, Wp_var, WpVar_d, WpVar_o, Wp_view, Wp_andV, Wp_orV, Wp_chain, Wp_bin, Wp_andB, Wp_orB, Wp_yes, Wp_push0, Wp_pushN, Wp_nil, Wp_cons, Wp_move, WpMv_d, WpMv_o, WpMv_s, Wp_cnil, Wp_cval, Wp_cbor, Wp_call, Wp_comp, Wp_comp2, retK_r, retK_n, forJ_nx, forJ_cnt, Wp_asDat, Wp_asDatO, Wp_asB, Wp_tru, Wp_bind, Wp_ok, Wp_lift, Wp_ite, Wp_lite, Wp_aug, WpAug_i, Wp_dnewK, Wp_dnewT, Wp_putH, WpPutH_d, WpPutH_T, Wp_put, Wp_push, Wp_end, Wp_app, WB_b, Wi_true, Wi_false, Wq_run, argsOf_v, argsOf_b, argsOf_n, putBack_v, putBack_b, putBack_n, back_o, back_s, back_d, see_d, see_o, see_s, List.getElem?_cons_zero, List.getElem?_cons_succ, List.set_cons_zero, List.set_cons_succ, List.cons_append, List.nil_append, List.take_succ_cons, List.take_zero, List.length_cons, List.length_nil, List.dropLast_cons₂, List.dropLast_singleton, Option.getD_some, wipeE, restoreE, gN, List.replicate_zero, List.replicate_succ, Nat.reduceAdd, Nat.reduceSub, decide_eq_true_eq, Bool.true_eq_false, Bool.false_eq_true, reduceCtorEq, not_false_eq_true, see_d, see_o, see_s, ownS_o, WpAug_l, isS_d, isS_o, mkRg_l, mkRg_t, dMax2_i, dMin2_i, dIx_l, dIx_t, dAdd_i, dSub_i, dNeg_i, dMod_i, dDiv_i, dMul_r, dMul_l, dPow_18, dGtA_i, dLtA_i, dGtI_i, dLtI_i, dGeI_i, dLeI_i, dInt_i, dAbs_i, dLen_l, dLen_t, dTuple_l, dList_l, dList_t, dAdd_l, dAdd_t, tupOf_i, lstOf_i, seqOf_l, seqOf_t, range1_i, WpPut_i, WpPush_i, WpEnd_i, WpApp_i, dEq_i, dNe_i, dNe_bb, dEq_bb, bools_true, allT, isL, dCnt_s, dOnce_i, onceOf, dIs_n, dIs_b, enumOf_l, enumOf_t, zipOf_t, zipOf_l, zipD_c, zipD_n, dIsNot_n, gTup_t, gs_c, gs_n, range2_i, Option.bind_some, unpack, dRev_l, dRev_t, isInt, isBool, isTuple, isList, isStr, isN, isOwnL, dSumA_l, dSumA_t, dAll, dAny, bools, Option.map_some, List.all_cons, List.all_nil, List.any_cons, List.any_nil, id_eq, Bool.and_true, Bool.true_and, Bool.and_self, Bool.not_true, Bool.not_false, dSlice_l, dSlice_t, asI_i, decide_true, decide_false, Int.reduceLE, Int.reduceLT, Int.reduceToNat, Int.reduceNeg, Int.reduceAdd, Int.reduceSub, Int.reduceMul, Nat.reduceLeDiff, Nat.reduceLT, reduceIte, Int.reducePow, Int.cast_ofNat_Int, Int.toNat_one, Int.toNat_zero, Nat.zero_add, Nat.lt_add_one, Nat.zero_lt_succ, Int.reduceEq, Nat.reduceEqDiff, Int.toNat_natCast]
  refine Wm_of rfl ?_
  unfold M.fb_is_tuple_of
  cases d with
  | tuple ds =>
    have hl := h ds rfl
    by_cases h4 : ds.length = 4
    · simp only [↓Wp_rIf, ↓Wp_seq, ↓Wp_seqN, ↓Wp_seqR, ↓Wp_seqB, ↓Wp_seqC, ↓Wp_next, ↓Wp_brk, ↓Wp_cnt, ↓Wp_set, ↓Wp_asg, ↓Wp_ret, ↓Wp_drop, ↓Wp_kill, ↓Wp_par, ↓Wp_ifs, ↓Wp_for, ↓forK_nx, ↓forK_cnt, ↓forK_brk, ↓forK_ret, ↓Wp_c, ↓Wp_var, ↓WpVar_d, ↓WpVar_o, ↓Wp_view, ↓Wp_andV, ↓Wp_orV, ↓Wp_chain, ↓Wp_bin, ↓Wp_andB, ↓Wp_orB, ↓Wp_yes, ↓Wp_push0, ↓Wp_pushN, ↓Wp_nil, ↓Wp_cons, ↓Wp_move, ↓WpMv_d, ↓WpMv_o, ↓WpMv_s, ↓Wp_cnil, ↓Wp_cval, ↓Wp_cbor, ↓Wp_call, ↓Wp_comp, ↓Wp_comp2, ↓retK_r, ↓retK_n, ↓forJ_nx, ↓forJ_cnt, ↓Wp_asDat, ↓Wp_asDatO, ↓Wp_asB, ↓Wp_tru, ↓Wp_bind, ↓Wp_ok, ↓Wp_lift, ↓Wp_ite, ↓Wp_lite, ↓Wp_aug, ↓WpAug_i, ↓Wp_dnewK, ↓Wp_dnewT, ↓Wp_putH, ↓WpPutH_d, ↓WpPutH_T, ↓Wp_put, ↓Wp_push, ↓Wp_end, ↓Wp_app, ↓WB_b, ↓Wi_true, ↓Wi_false, Wp_rIf, Wp_seq, Wp_seqN, Wp_seqR, Wp_seqB, Wp_seqC, Wp_next, Wp_brk, Wp_cnt, Wp_set, Wp_asg, Wp_ret, Wp_drop, Wp_kill, Wp_par, Wp_ifs, Wp_for, forK_nx, forK_cnt, forK_brk, forK_ret, Wp_c, Wp_var, WpVar_d, WpVar_o, Wp_view, Wp_andV, Wp_orV, Wp_chain, Wp_bin, Wp_andB, Wp_orB, Wp_yes, Wp_push0, Wp_pushN, Wp_nil, Wp_cons, Wp_move, WpMv_d, WpMv_o, WpMv_s, Wp_cnil, Wp_cval, Wp_cbor, Wp_call, Wp_comp, Wp_comp2, retK_r, retK_n, forJ_nx, forJ_cnt, Wp_asDat, Wp_asDatO, Wp_asB, Wp_tru, Wp_bind, Wp_ok, Wp_lift, Wp_ite, Wp_lite, Wp_aug, WpAug_i, Wp_dnewK, Wp_dnewT, Wp_putH, WpPutH_d, WpPutH_T, Wp_put, Wp_push, Wp_end, Wp_app, WB_b, Wi_true, Wi_false, Wq_run, argsOf_v, argsOf_b, argsOf_n, putBack_v, putBack_b, putBack_n, back_o, back_s, back_d, see_d, see_o, see_s, List.getElem?_cons_zero, List.getElem?_cons_succ, List.set_cons_zero, List.set_cons_succ, List.cons_append, List.nil_append, List.take_succ_cons, List.take_zero, List.length_cons, List.length_nil, List.dropLast_cons₂, List.dropLast_singleton, Option.getD_some, wipeE, restoreE, gN, List.replicate_zero, List.replicate_succ, Nat.reduceAdd, Nat.reduceSub, decide_eq_true_eq, Bool.true_eq_false, Bool.false_eq_true, reduceCtorEq, not_false_eq_true, see_d, see_o, see_s, ownS_o, WpAug_l, isS_d, isS_o, mkRg_l, mkRg_t, dMax2_i, dMin2_i, dIx_l, dIx_t, dAdd_i, dSub_i, dNeg_i, dMod_i, dDiv_i, dMul_r, dMul_l, dPow_18, dGtA_i, dLtA_i, dGtI_i, dLtI_i, dGeI_i, dLeI_i, dInt_i, dAbs_i, dLen_l, dLen_t, dTuple_l, dList_l, dList_t, dAdd_l, dAdd_t, tupOf_i, lstOf_i, seqOf_l, seqOf_t, range1_i, WpPut_i, WpPush_i, WpEnd_i, WpApp_i, dEq_i, dNe_i, dNe_bb, dEq_bb, bools_true, allT, isL, dCnt_s, dOnce_i, onceOf, dIs_n, dIs_b, enumOf_l, enumOf_t, zipOf_t, zipOf_l, zipD_c, zipD_n, dIsNot_n, gTup_t, gs_c, gs_n, range2_i, Option.bind_some, unpack, dRev_l, dRev_t, isInt, isBool, isTuple, isList, isStr, isN, isOwnL, dSumA_l, dSumA_t, dAll, dAny, bools, Option.map_some, List.all_cons, List.all_nil, List.any_cons, List.any_nil, id_eq, Bool.and_true, Bool.true_and, Bool.and_self, Bool.not_true, Bool.not_false, dSlice_l, dSlice_t, asI_i, decide_true, decide_false, Int.reduceLE, Int.reduceLT, Int.reduceToNat, Int.reduceNeg, Int.reduceAdd, Int.reduceSub, Int.reduceMul, Nat.reduceLeDiff, Nat.reduceLT, reduceIte, Int.reducePow, Int.cast_ofNat_Int, Int.toNat_one, Int.toNat_zero, Nat.zero_add, Nat.lt_add_one, Nat.zero_lt_succ, Int.reduceEq, Nat.reduceEqDiff, Int.toNat_natCast, h4]
      refine go_auto (hm := rfl) (hL := rfl) (hk := rfl) (p := fun _ => true) (f := fun e => .bool (fE e)) (hl := by omega) (hs := fun e he acc => ?_) (q := ?_)
      · simp only [↓Wp_rIf, ↓Wp_seq, ↓Wp_seqN, ↓Wp_seqR, ↓Wp_seqB, ↓Wp_seqC, ↓Wp_next, ↓Wp_brk, ↓Wp_cnt, ↓Wp_set, ↓Wp_asg, ↓Wp_ret, ↓Wp_drop, ↓Wp_kill, ↓Wp_par, ↓Wp_ifs, ↓Wp_for, ↓forK_nx, ↓forK_cnt, ↓forK_brk, ↓forK_ret, ↓Wp_c, ↓Wp_var, ↓WpVar_d, ↓WpVar_o, ↓Wp_view, ↓Wp_andV, ↓Wp_orV, ↓Wp_chain, ↓Wp_bin, ↓Wp_andB, ↓Wp_orB, ↓Wp_yes, ↓Wp_push0, ↓Wp_pushN, ↓Wp_nil, ↓Wp_cons, ↓Wp_move, ↓WpMv_d, ↓WpMv_o, ↓WpMv_s, ↓Wp_cnil, ↓Wp_cval, ↓Wp_cbor, ↓Wp_call, ↓Wp_comp, ↓Wp_comp2, ↓retK_r, ↓retK_n, ↓forJ_nx, ↓forJ_cnt, ↓Wp_asDat, ↓Wp_asDatO, ↓Wp_asB, ↓Wp_tru, ↓Wp_bind, ↓Wp_ok, ↓Wp_lift, ↓Wp_ite, ↓Wp_lite, ↓Wp_aug, ↓WpAug_i, ↓Wp_dnewK, ↓Wp_dnewT, ↓Wp_putH, ↓WpPutH_d, ↓WpPutH_T, ↓Wp_put, ↓Wp_push, ↓Wp_end, ↓Wp_app, ↓WB_b, ↓Wi_true, ↓Wi_false, Wp_rIf, Wp_seq, Wp_seqN, Wp_seqR, Wp_seqB, Wp_seqC, Wp_next, Wp_brk, Wp_cnt, Wp_set, Wp_asg, Wp_ret, Wp_drop, Wp_kill, Wp_par, Wp_ifs, Wp_for, forK_nx, forK_cnt, forK_brk, forK_ret, Wp_c, Wp_var, WpVar_d, WpVar_o, Wp_view, Wp_andV, Wp_orV, Wp_chain, Wp_bin, Wp_andB, Wp_orB, Wp_yes, Wp_push0, Wp_pushN, Wp_nil, Wp_cons, Wp_move, WpMv_d, WpMv_o, WpMv_s, Wp_cnil, Wp_cval, Wp_cbor, Wp_call, Wp_comp, Wp_comp2, retK_r, retK_n, forJ_nx, forJ_cnt, Wp_asDat, Wp_asDatO, Wp_asB, Wp_tru, Wp_bind, Wp_ok, Wp_lift, Wp_ite, Wp_lite, Wp_aug, WpAug_i, Wp_dnewK, Wp_dnewT, Wp_putH, WpPutH_d, WpPutH_T, Wp_put, Wp_push, Wp_end, Wp_app, WB_b, Wi_true, Wi_false, Wq_run, argsOf_v, argsOf_b, argsOf_n, putBack_v, putBack_b, putBack_n, back_o, back_s, back_d, see_d, see_o, see_s, List.getElem?_cons_zero, List.getElem?_cons_succ, List.set_cons_zero, List.set_cons_succ, List.cons_append, List.nil_append, List.take_succ_cons, List.take_zero, List.length_cons, List.length_nil, List.dropLast_cons₂, List.dropLast_singleton, Option.getD_some, wipeE, restoreE, gN, List.replicate_zero, List.replicate_succ, Nat.reduceAdd, Nat.reduceSub, decide_eq_true_eq, Bool.true_eq_false, Bool.false_eq_true, reduceCtorEq, not_false_eq_true, see_d, see_o, see_s, ownS_o, WpAug_l, isS_d, isS_o, mkRg_l, mkRg_t, dMax2_i, dMin2_i, dIx_l, dIx_t, dAdd_i, dSub_i, dNeg_i, dMod_i, dDiv_i, dMul_r, dMul_l, dPow_18, dGtA_i, dLtA_i, dGtI_i, dLtI_i, dGeI_i, dLeI_i, dInt_i, dAbs_i, dLen_l, dLen_t, dTuple_l, dList_l, dList_t, dAdd_l, dAdd_t, tupOf_i, lstOf_i, seqOf_l, seqOf_t, range1_i, WpPut_i, WpPush_i, WpEnd_i, WpApp_i, dEq_i, dNe_i, dNe_bb, dEq_bb, bools_true, allT, isL, dCnt_s, dOnce_i, onceOf, dIs_n, dIs_b, enumOf_l, enumOf_t, zipOf_t, zipOf_l, zipD_c, zipD_n, dIsNot_n, gTup_t, gs_c, gs_n, range2_i, Option.bind_some, unpack, dRev_l, dRev_t, isInt, isBool, isTuple, isList, isStr, isN, isOwnL, dSumA_l, dSumA_t, dAll, dAny, bools, Option.map_some, List.all_cons, List.all_nil, List.any_cons, List.any_nil, id_eq, Bool.and_true, Bool.true_and, Bool.and_self, Bool.not_true, Bool.not_false, dSlice_l, dSlice_t, asI_i, decide_true, decide_false, Int.reduceLE, Int.reduceLT, Int.reduceToNat, Int.reduceNeg, Int.reduceAdd, Int.reduceSub, Int.reduceMul, Nat.reduceLeDiff, Nat.reduceLT, reduceIte, Int.reducePow, Int.cast_ofNat_Int, Int.toNat_one, Int.toNat_zero, Nat.zero_add, Nat.lt_add_one, Nat.zero_lt_succ, Int.reduceEq, Nat.reduceEqDiff, Int.toNat_natCast, fits_edge_any]
        exact ⟨trivial, fun _ => by first | exact rfl | exact trivial, fun _ => ⟨by first | exact rfl | exact trivial, by first | exact rfl | exact trivial, by first | exact rfl | exact trivial⟩⟩
      · rw [filter_yes']
        simp only [↓Wp_rIf, ↓Wp_seq, ↓Wp_seqN, ↓Wp_seqR, ↓Wp_seqB, ↓Wp_seqC, ↓Wp_next, ↓Wp_brk, ↓Wp_cnt, ↓Wp_set, ↓Wp_asg, ↓Wp_ret, ↓Wp_drop, ↓Wp_kill, ↓Wp_par, ↓Wp_ifs, ↓Wp_for, ↓forK_nx, ↓forK_cnt, ↓forK_brk, ↓forK_ret, ↓Wp_c, ↓Wp_var, ↓WpVar_d, ↓WpVar_o, ↓Wp_view, ↓Wp_andV, ↓Wp_orV, ↓Wp_chain, ↓Wp_bin, ↓Wp_andB, ↓Wp_orB, ↓Wp_yes, ↓Wp_push0, ↓Wp_pushN, ↓Wp_nil, ↓Wp_cons, ↓Wp_move, ↓WpMv_d, ↓WpMv_o, ↓WpMv_s, ↓Wp_cnil, ↓Wp_cval, ↓Wp_cbor, ↓Wp_call, ↓Wp_comp, ↓Wp_comp2, ↓retK_r, ↓retK_n, ↓forJ_nx, ↓forJ_cnt, ↓Wp_asDat, ↓Wp_asDatO, ↓Wp_asB, ↓Wp_tru, ↓Wp_bind, ↓Wp_ok, ↓Wp_lift, ↓Wp_ite, ↓Wp_lite, ↓Wp_aug, ↓WpAug_i, ↓Wp_dnewK, ↓Wp_dnewT, ↓Wp_putH, ↓WpPutH_d, ↓WpPutH_T, ↓Wp_put, ↓Wp_push, ↓Wp_end, ↓Wp_app, ↓WB_b, ↓Wi_true, ↓Wi_false, Wp_rIf, Wp_seq, Wp_seqN, Wp_seqR, Wp_seqB, Wp_seqC, Wp_next, Wp_brk, Wp_cnt, Wp_set, Wp_asg, Wp_ret, Wp_drop, Wp_kill, Wp_par, Wp_ifs, Wp_for, forK_nx, forK_cnt, forK_brk, forK_ret, Wp_c, Wp_var, WpVar_d, WpVar_o, Wp_view, Wp_andV, Wp_orV, Wp_chain, Wp_bin, Wp_andB, Wp_orB, Wp_yes, Wp_push0, Wp_pushN, Wp_nil, Wp_cons, Wp_move, WpMv_d, WpMv_o, WpMv_s, Wp_cnil, Wp_cval, Wp_cbor, Wp_call, Wp_comp, Wp_comp2, retK_r, retK_n, forJ_nx, forJ_cnt, Wp_asDat, Wp_asDatO, Wp_asB, Wp_tru, Wp_bind, Wp_ok, Wp_lift, Wp_ite, Wp_lite, Wp_aug, WpAug_i, Wp_dnewK, Wp_dnewT, Wp_putH, WpPutH_d, WpPutH_T, Wp_put, Wp_push, Wp_end, Wp_app, WB_b, Wi_true, Wi_false, Wq_run, argsOf_v, argsOf_b, argsOf_n, putBack_v, putBack_b, putBack_n, back_o, back_s, back_d, see_d, see_o, see_s, List.getElem?_cons_zero, List.getElem?_cons_succ, List.set_cons_zero, List.set_cons_succ, List.cons_append, List.nil_append, List.take_succ_cons, List.take_zero, List.length_cons, List.length_nil, List.dropLast_cons₂, List.dropLast_singleton, Option.getD_some, wipeE, restoreE, gN, List.replicate_zero, List.replicate_succ, Nat.reduceAdd, Nat.reduceSub, decide_eq_true_eq, Bool.true_eq_false, Bool.false_eq_true, reduceCtorEq, not_false_eq_true, see_d, see_o, see_s, ownS_o, WpAug_l, isS_d, isS_o, mkRg_l, mkRg_t, dMax2_i, dMin2_i, dIx_l, dIx_t, dAdd_i, dSub_i, dNeg_i, dMod_i, dDiv_i, dMul_r, dMul_l, dPow_18, dGtA_i, dLtA_i, dGtI_i, dLtI_i, dGeI_i, dLeI_i, dInt_i, dAbs_i, dLen_l, dLen_t, dTuple_l, dList_l, dList_t, dAdd_l, dAdd_t, tupOf_i, lstOf_i, seqOf_l, seqOf_t, range1_i, WpPut_i, WpPush_i, WpEnd_i, WpApp_i, dEq_i, dNe_i, dNe_bb, dEq_bb, bools_true, allT, isL, dCnt_s, dOnce_i, onceOf, dIs_n, dIs_b, enumOf_l, enumOf_t, zipOf_t, zipOf_l, zipD_c, zipD_n, dIsNot_n, gTup_t, gs_c, gs_n, range2_i, Option.bind_some, unpack, dRev_l, dRev_t, isInt, isBool, isTuple, isList, isStr, isN, isOwnL, dSumA_l, dSumA_t, dAll, dAny, bools, Option.map_some, List.all_cons, List.all_nil, List.any_cons, List.any_nil, id_eq, Bool.and_true, Bool.true_and, Bool.and_self, Bool.not_true, Bool.not_false, dSlice_l, dSlice_t, asI_i, decide_true, decide_false, Int.reduceLE, Int.reduceLT, Int.reduceToNat, Int.reduceNeg, Int.reduceAdd, Int.reduceSub, Int.reduceMul, Nat.reduceLeDiff, Nat.reduceLT, reduceIte, Int.reducePow, Int.cast_ofNat_Int, Int.toNat_one, Int.toNat_zero, Nat.zero_add, Nat.lt_add_one, Nat.zero_lt_succ, Int.reduceEq, Nat.reduceEqDiff, Int.toNat_natCast, bools_f, List.all_map, Function.comp_def]
        refine ⟨?_, trivial⟩
        simp [fPc, h4]
    · by_cases h5 : (4 : Int) ≤ (ds.length : Int)
      · have h6 : ¬ (ds.length : Int) ≤ 4 := by omega
        simp only [↓Wp_rIf, ↓Wp_seq, ↓Wp_seqN, ↓Wp_seqR, ↓Wp_seqB, ↓Wp_seqC, ↓Wp_next, ↓Wp_brk, ↓Wp_cnt, ↓Wp_set, ↓Wp_asg, ↓Wp_ret, ↓Wp_drop, ↓Wp_kill, ↓Wp_par, ↓Wp_ifs, ↓Wp_for, ↓forK_nx, ↓forK_cnt, ↓forK_brk, ↓forK_ret, ↓Wp_c, ↓Wp_var, ↓WpVar_d, ↓WpVar_o, ↓Wp_view, ↓Wp_andV, ↓Wp_orV, ↓Wp_chain, ↓Wp_bin, ↓Wp_andB, ↓Wp_orB, ↓Wp_yes, ↓Wp_push0, ↓Wp_pushN, ↓Wp_nil, ↓Wp_cons, ↓Wp_move, ↓WpMv_d, ↓WpMv_o, ↓WpMv_s, ↓Wp_cnil, ↓Wp_cval, ↓Wp_cbor, ↓Wp_call, ↓Wp_comp, ↓Wp_comp2, ↓retK_r, ↓retK_n, ↓forJ_nx, ↓forJ_cnt, ↓Wp_asDat, ↓Wp_asDatO, ↓Wp_asB, ↓Wp_tru, ↓Wp_bind, ↓Wp_ok, ↓Wp_lift, ↓Wp_ite, ↓Wp_lite, ↓Wp_aug, ↓WpAug_i, ↓Wp_dnewK, ↓Wp_dnewT, ↓Wp_putH, ↓WpPutH_d, ↓WpPutH_T, ↓Wp_put, ↓Wp_push, ↓Wp_end, ↓Wp_app, ↓WB_b, ↓Wi_true, ↓Wi_false, Wp_rIf, Wp_seq, Wp_seqN, Wp_seqR, Wp_seqB, Wp_seqC, Wp_next, Wp_brk, Wp_cnt, Wp_set, Wp_asg, Wp_ret, Wp_drop, Wp_kill, Wp_par, Wp_ifs, Wp_for, forK_nx, forK_cnt, forK_brk, forK_ret, Wp_c, Wp_var, WpVar_d, WpVar_o, Wp_view, Wp_andV, Wp_orV, Wp_chain, Wp_bin, Wp_andB, Wp_orB, Wp_yes, Wp_push0, Wp_pushN, Wp_nil, Wp_cons, Wp_move, WpMv_d, WpMv_o, WpMv_s, Wp_cnil, Wp_cval, Wp_cbor, Wp_call, Wp_comp, Wp_comp2, retK_r, retK_n, forJ_nx, forJ_cnt, Wp_asDat, Wp_asDatO, Wp_asB, Wp_tru, Wp_bind, Wp_ok, Wp_lift, Wp_ite, Wp_lite, Wp_aug, WpAug_i, Wp_dnewK, Wp_dnewT, Wp_putH, WpPutH_d, WpPutH_T, Wp_put, Wp_push, Wp_end, Wp_app, WB_b, Wi_true, Wi_false, Wq_run, argsOf_v, argsOf_b, argsOf_n, putBack_v, putBack_b, putBack_n, back_o, back_s, back_d, see_d, see_o, see_s, List.getElem?_cons_zero, List.getElem?_cons_succ, List.set_cons_zero, List.set_cons_succ, List.cons_append, List.nil_append, List.take_succ_cons, List.take_zero, List.length_cons, List.length_nil, List.dropLast_cons₂, List.dropLast_singleton, Option.getD_some, wipeE, restoreE, gN, List.replicate_zero, List.replicate_succ, Nat.reduceAdd, Nat.reduceSub, decide_eq_true_eq, Bool.true_eq_false, Bool.false_eq_true, reduceCtorEq, not_false_eq_true, see_d, see_o, see_s, ownS_o, WpAug_l, isS_d, isS_o, mkRg_l, mkRg_t, dMax2_i, dMin2_i, dIx_l, dIx_t, dAdd_i, dSub_i, dNeg_i, dMod_i, dDiv_i, dMul_r, dMul_l, dPow_18, dGtA_i, dLtA_i, dGtI_i, dLtI_i, dGeI_i, dLeI_i, dInt_i, dAbs_i, dLen_l, dLen_t, dTuple_l, dList_l, dList_t, dAdd_l, dAdd_t, tupOf_i, lstOf_i, seqOf_l, seqOf_t, range1_i, WpPut_i, WpPush_i, WpEnd_i, WpApp_i, dEq_i, dNe_i, dNe_bb, dEq_bb, bools_true, allT, isL, dCnt_s, dOnce_i, onceOf, dIs_n, dIs_b, enumOf_l, enumOf_t, zipOf_t, zipOf_l, zipD_c, zipD_n, dIsNot_n, gTup_t, gs_c, gs_n, range2_i, Option.bind_some, unpack, dRev_l, dRev_t, isInt, isBool, isTuple, isList, isStr, isN, isOwnL, dSumA_l, dSumA_t, dAll, dAny, bools, Option.map_some, List.all_cons, List.all_nil, List.any_cons, List.any_nil, id_eq, Bool.and_true, Bool.true_and, Bool.and_self, Bool.not_true, Bool.not_false, dSlice_l, dSlice_t, asI_i, decide_true, decide_false, Int.reduceLE, Int.reduceLT, Int.reduceToNat, Int.reduceNeg, Int.reduceAdd, Int.reduceSub, Int.reduceMul, Nat.reduceLeDiff, Nat.reduceLT, reduceIte, Int.reducePow, Int.cast_ofNat_Int, Int.toNat_one, Int.toNat_zero, Nat.zero_add, Nat.lt_add_one, Nat.zero_lt_succ, Int.reduceEq, Nat.reduceEqDiff, Int.toNat_natCast, h5, h6]
        refine ⟨?_, trivial⟩
        simp [fPc, h4]
      · simp only [↓Wp_rIf, ↓Wp_seq, ↓Wp_seqN, ↓Wp_seqR, ↓Wp_seqB, ↓Wp_seqC, ↓Wp_next, ↓Wp_brk, ↓Wp_cnt, ↓Wp_set, ↓Wp_asg, ↓Wp_ret, ↓Wp_drop, ↓Wp_kill, ↓Wp_par, ↓Wp_ifs, ↓Wp_for, ↓forK_nx, ↓forK_cnt, ↓forK_brk, ↓forK_ret, ↓Wp_c, ↓Wp_var, ↓WpVar_d, ↓WpVar_o, ↓Wp_view, ↓Wp_andV, ↓Wp_orV, ↓Wp_chain, ↓Wp_bin, ↓Wp_andB, ↓Wp_orB, ↓Wp_yes, ↓Wp_push0, ↓Wp_pushN, ↓Wp_nil, ↓Wp_cons, ↓Wp_move, ↓WpMv_d, ↓WpMv_o, ↓WpMv_s, ↓Wp_cnil, ↓Wp_cval, ↓Wp_cbor, ↓Wp_call, ↓Wp_comp, ↓Wp_comp2, ↓retK_r, ↓retK_n, ↓forJ_nx, ↓forJ_cnt, ↓Wp_asDat, ↓Wp_asDatO, ↓Wp_asB, ↓Wp_tru, ↓Wp_bind, ↓Wp_ok, ↓Wp_lift, ↓Wp_ite, ↓Wp_lite, ↓Wp_aug, ↓WpAug_i, ↓Wp_dnewK, ↓Wp_dnewT, ↓Wp_putH, ↓WpPutH_d, ↓WpPutH_T, ↓Wp_put, ↓Wp_push, ↓Wp_end, ↓Wp_app, ↓WB_b, ↓Wi_true, ↓Wi_false, Wp_rIf, Wp_seq, Wp_seqN, Wp_seqR, Wp_seqB, Wp_seqC, Wp_next, Wp_brk, Wp_cnt, Wp_set, Wp_asg, Wp_ret, Wp_drop, Wp_kill, Wp_par, Wp_ifs, Wp_for, forK_nx, forK_cnt, forK_brk, forK_ret, Wp_c, Wp_var, WpVar_d, WpVar_o, Wp_view, Wp_andV, Wp_orV, Wp_chain, Wp_bin, Wp_andB, Wp_orB, Wp_yes, Wp_push0, Wp_pushN, Wp_nil, Wp_cons, Wp_move, WpMv_d, WpMv_o, WpMv_s, Wp_cnil, Wp_cval, Wp_cbor, Wp_call, Wp_comp, Wp_comp2, retK_r, retK_n, forJ_nx, forJ_cnt, Wp_asDat, Wp_asDatO, Wp_asB, Wp_tru, Wp_bind, Wp_ok, Wp_lift, Wp_ite, Wp_lite, Wp_aug, WpAug_i, Wp_dnewK, Wp_dnewT, Wp_putH, WpPutH_d, WpPutH_T, Wp_put, Wp_push, Wp_end, Wp_app, WB_b, Wi_true, Wi_false, Wq_run, argsOf_v, argsOf_b, argsOf_n, putBack_v, putBack_b, putBack_n, back_o, back_s, back_d, see_d, see_o, see_s, List.getElem?_cons_zero, List.getElem?_cons_succ, List.set_cons_zero, List.set_cons_succ, List.cons_append, List.nil_append, List.take_succ_cons, List.take_zero, List.length_cons, List.length_nil, List.dropLast_cons₂, List.dropLast_singleton, Option.getD_some, wipeE, restoreE, gN, List.replicate_zero, List.replicate_succ, Nat.reduceAdd, Nat.reduceSub, decide_eq_true_eq, Bool.true_eq_false, Bool.false_eq_true, reduceCtorEq, not_false_eq_true, see_d, see_o, see_s, ownS_o, WpAug_l, isS_d, isS_o, mkRg_l, mkRg_t, dMax2_i, dMin2_i, dIx_l, dIx_t, dAdd_i, dSub_i, dNeg_i, dMod_i, dDiv_i, dMul_r, dMul_l, dPow_18, dGtA_i, dLtA_i, dGtI_i, dLtI_i, dGeI_i, dLeI_i, dInt_i, dAbs_i, dLen_l, dLen_t, dTuple_l, dList_l, dList_t, dAdd_l, dAdd_t, tupOf_i, lstOf_i, seqOf_l, seqOf_t, range1_i, WpPut_i, WpPush_i, WpEnd_i, WpApp_i, dEq_i, dNe_i, dNe_bb, dEq_bb, bools_true, allT, isL, dCnt_s, dOnce_i, onceOf, dIs_n, dIs_b, enumOf_l, enumOf_t, zipOf_t, zipOf_l, zipD_c, zipD_n, dIsNot_n, gTup_t, gs_c, gs_n, range2_i, Option.bind_some, unpack, dRev_l, dRev_t, isInt, isBool, isTuple, isList, isStr, isN, isOwnL, dSumA_l, dSumA_t, dAll, dAny, bools, Option.map_some, List.all_cons, List.all_nil, List.any_cons, List.any_nil, id_eq, Bool.and_true, Bool.true_and, Bool.and_self, Bool.not_true, Bool.not_false, dSlice_l, dSlice_t, asI_i, decide_true, decide_false, Int.reduceLE, Int.reduceLT, Int.reduceToNat, Int.reduceNeg, Int.reduceAdd, Int.reduceSub, Int.reduceMul, Nat.reduceLeDiff, Nat.reduceLT, reduceIte, Int.reducePow, Int.cast_ofNat_Int, Int.toNat_one, Int.toNat_zero, Nat.zero_add, Nat.lt_add_one, Nat.zero_lt_succ, Int.reduceEq, Nat.reduceEqDiff, Int.toNat_natCast, h5]
        refine ⟨?_, trivial⟩
        simp [fPc, h4]
  | _ =>
    simp only [↓Wp_rIf, ↓Wp_seq, ↓Wp_seqN, ↓Wp_seqR, ↓Wp_seqB, ↓Wp_seqC, ↓Wp_next, ↓Wp_brk, ↓Wp_cnt, ↓Wp_set, ↓Wp_asg, ↓Wp_ret, ↓Wp_drop, ↓Wp_kill, ↓Wp_par, ↓Wp_ifs, ↓Wp_for, ↓forK_nx, ↓forK_cnt, ↓forK_brk, ↓forK_ret, ↓Wp_c, ↓Wp_var, ↓WpVar_d, ↓WpVar_o, ↓Wp_view, ↓Wp_andV, ↓Wp_orV, ↓Wp_chain, ↓Wp_bin, ↓Wp_andB, ↓Wp_orB, ↓Wp_yes, ↓Wp_push0, ↓Wp_pushN, ↓Wp_nil, ↓Wp_cons, ↓Wp_move, ↓WpMv_d, ↓WpMv_o, ↓WpMv_s, ↓Wp_cnil, ↓Wp_cval, ↓Wp_cbor, ↓Wp_call, ↓Wp_comp, ↓Wp_comp2, ↓retK_r, ↓retK_n, ↓forJ_nx, ↓forJ_cnt, ↓Wp_asDat, ↓Wp_asDatO, ↓Wp_asB, ↓Wp_tru, ↓Wp_bind, ↓Wp_ok, ↓Wp_lift, ↓Wp_ite, ↓Wp_lite, ↓Wp_aug, ↓WpAug_i, ↓Wp_dnewK, ↓Wp_dnewT, ↓Wp_putH, ↓WpPutH_d, ↓WpPutH_T, ↓Wp_put, ↓Wp_push, ↓Wp_end, ↓Wp_app, ↓WB_b, ↓Wi_true, ↓Wi_false, Wp_rIf, Wp_seq, Wp_seqN, Wp_seqR, Wp_seqB, Wp_seqC, Wp_next, Wp_brk, Wp_cnt, Wp_set, Wp_asg, Wp_ret, Wp_drop, Wp_kill, Wp_par, Wp_ifs, Wp_for, forK_nx, forK_cnt, forK_brk, forK_ret, Wp_c, Wp_var, WpVar_d, WpVar_o, Wp_view, Wp_andV, Wp_orV, Wp_chain, Wp_bin, Wp_andB, Wp_orB, Wp_yes, Wp_push0, Wp_pushN, Wp_nil, Wp_cons, Wp_move, WpMv_d, WpMv_o, WpMv_s, Wp_cnil, Wp_cval, Wp_cbor, Wp_call, Wp_comp, Wp_comp2, retK_r, retK_n, forJ_nx, forJ_cnt, Wp_asDat, Wp_asDatO, Wp_asB, Wp_tru, Wp_bind, Wp_ok, Wp_lift, Wp_ite, Wp_lite, Wp_aug, WpAug_i, Wp_dnewK, Wp_dnewT, Wp_putH, WpPutH_d, WpPutH_T, Wp_put, Wp_push, Wp_end, Wp_app, WB_b, Wi_true, Wi_false, Wq_run, argsOf_v, argsOf_b, argsOf_n, putBack_v, putBack_b, putBack_n, back_o, back_s, back_d, see_d, see_o, see_s, List.getElem?_cons_zero, List.getElem?_cons_succ, List.set_cons_zero, List.set_cons_succ, List.cons_append, List.nil_append, List.take_succ_cons, List.take_zero, List.length_cons, List.length_nil, List.dropLast_cons₂, List.dropLast_singleton, Option.getD_some, wipeE, restoreE, gN, List.replicate_zero, List.replicate_succ, Nat.reduceAdd, Nat.reduceSub, decide_eq_true_eq, Bool.true_eq_false, Bool.false_eq_true, reduceCtorEq, not_false_eq_true, see_d, see_o, see_s, ownS_o, WpAug_l, isS_d, isS_o, mkRg_l, mkRg_t, dMax2_i, dMin2_i, dIx_l, dIx_t, dAdd_i, dSub_i, dNeg_i, dMod_i, dDiv_i, dMul_r, dMul_l, dPow_18, dGtA_i, dLtA_i, dGtI_i, dLtI_i, dGeI_i, dLeI_i, dInt_i, dAbs_i, dLen_l, dLen_t, dTuple_l, dList_l, dList_t, dAdd_l, dAdd_t, tupOf_i, lstOf_i, seqOf_l, seqOf_t, range1_i, WpPut_i, WpPush_i, WpEnd_i, WpApp_i, dEq_i, dNe_i, dNe_bb, dEq_bb, bools_true, allT, isL, dCnt_s, dOnce_i, onceOf, dIs_n, dIs_b, enumOf_l, enumOf_t, zipOf_t, zipOf_l, zipD_c, zipD_n, dIsNot_n, gTup_t, gs_c, gs_n, range2_i, Option.bind_some, unpack, dRev_l, dRev_t, isInt, isBool, isTuple, isList, isStr, isN, isOwnL, dSumA_l, dSumA_t, dAll, dAny, bools, Option.map_some, List.all_cons, List.all_nil, List.any_cons, List.any_nil, id_eq, Bool.and_true, Bool.true_and, Bool.and_self, Bool.not_true, Bool.not_false, dSlice_l, dSlice_t, asI_i, decide_true, decide_false, Int.reduceLE, Int.reduceLT, Int.reduceToNat, Int.reduceNeg, Int.reduceAdd, Int.reduceSub, Int.reduceMul, Nat.reduceLeDiff, Nat.reduceLT, reduceIte, Int.reducePow, Int.cast_ofNat_Int, Int.toNat_one, Int.toNat_zero, Nat.zero_add, Nat.lt_add_one, Nat.zero_lt_succ, Int.reduceEq, Nat.reduceEqDiff, Int.toNat_natCast]
    exact ⟨rfl, trivial⟩
/-- a set of pieces, whatever the value -/
def fSt : PyData → Bool
  | .tuple ds => decide (1 ≤ ds.length ∧ ds.length ≤ 36) && ds.all fPc
  | _ => false
theorem shaped_sub {ds : List PyData} {p : PyData → Bool} (h : SeqAt.shaped (.tuple ds) = true) : SeqAt.shaped (.list (ds.filter p)) = true := by
  have e1 : PyData.canLay0 (.tuple ds) = PyData.canLayAll0 ds := by rw [PyData.canLay0]
  have e2 : PyData.canLay0 (.list (ds.filter p)) = PyData.canLayAll0 (ds.filter p) := by rw [PyData.canLay0]
  have e3 : PyData.depth (.tuple ds) = PyData.depthAll ds + 1 := by rw [PyData.depth]
  have e4 : PyData.depth (.list (ds.filter p)) = PyData.depthAll (ds.filter p) + 1 := by rw [PyData.depth]
  unfold SeqAt.shaped at h ⊢
  rw [Bool.and_eq_true, decide_eq_true_eq, e1, e3] at h
  rw [Bool.and_eq_true, decide_eq_true_eq, e2, e4]
  obtain ⟨h1, h2⟩ := h
  have a : ∀ l : List PyData, PyData.canLayAll0 l = true → PyData.canLayAll0 (l.filter p) = true ∧ PyData.depthAll (l.filter p) ≤ PyData.depthAll l := by
    intro l
    induction l with
    | nil => intro _; exact ⟨rfl, Nat.le_refl _⟩
    | cons x l ih =>
      intro h
      rw [PyData.canLayAll0, Bool.and_eq_true] at h
      obtain ⟨i1, i2⟩ := ih h.2
      by_cases hp : p x = true
      · rw [List.filter_cons_of_pos hp, PyData.canLayAll0, h.1, i1, PyData.depthAll, PyData.depthAll]
        exact ⟨rfl, by omega⟩
      · rw [List.filter_cons_of_neg hp, PyData.depthAll]
        exact ⟨i1, by omega⟩
  obtain ⟨b1, b2⟩ := a ds h1
  exact ⟨b1, by omega⟩
theorem dEq_empty {l : List PyData} (h : SeqAt.shaped (.list l) = true) : dEq (.list l) (.list []) = some (.dat (.bool l.isEmpty)) := by
  rw [dEq_s h rfl, PyData.eqv]
  cases l with
  | nil => rfl
  | cons a l => rw [PyData.eqvAll]; rfl
theorem empty_filter {p : PyData → Bool} : ∀ {l : List PyData}, (l.filter fun e => !p e).isEmpty = l.all p
  | [] => rfl
  | x :: l => by
    rw [List.all_cons, ← empty_filter (l := l)]
    by_cases h : p x = true
    · rw [List.filter_cons_of_neg (by simp [h]), h, Bool.true_and]
    · rw [List.filter_cons_of_pos (by simp [h])]
      simp [h]
theorem fits_set_any (d : PyData) (h : ∀ ds, d = .tuple ds → ds.length ≤ 100000 ∧ ∀ e ∈ ds, ∀ es, e = .tuple es → es.length ≤ 100000) : Wm M.m_fits_set Q [.dat d] = Q (.dat (.bool (fSt d))) [.dat d] := by
  refine Wm_exact (Wm_of rfl ?_)
  unfold M.fb_fits_set
  simp only [↓Wp_rIf, ↓Wp_seq, ↓Wp_seqN, ↓Wp_seqR, ↓Wp_seqB, ↓Wp_seqC, ↓Wp_next, ↓Wp_brk, ↓Wp_cnt, ↓Wp_set, ↓Wp_asg, ↓Wp_ret, ↓Wp_drop, ↓Wp_kill, ↓Wp_par, ↓Wp_ifs, ↓Wp_for, ↓forK_nx, ↓forK_cnt, ↓forK_brk, ↓forK_ret, ↓Wp_c, ↓Wp_var, ↓WpVar_d, ↓WpVar_o, ↓Wp_view, ↓Wp_andV, ↓Wp_orV, ↓Wp_chain, ↓Wp_bin, ↓Wp_andB, ↓Wp_orB, ↓Wp_yes, ↓Wp_push0, ↓Wp_pushN, ↓Wp_nil, ↓Wp_cons, ↓Wp_move, ↓WpMv_d, ↓WpMv_o, ↓WpMv_s, ↓Wp_cnil, ↓Wp_cval, ↓Wp_cbor, ↓Wp_call, ↓Wp_comp, ↓Wp_comp2, ↓retK_r, ↓retK_n, ↓forJ_nx, ↓forJ_cnt, ↓Wp_asDat, ↓Wp_asDatO, ↓Wp_asB, ↓Wp_tru, ↓Wp_bind, ↓Wp_ok, ↓Wp_lift, ↓Wp_ite, ↓Wp_lite, ↓Wp_aug, ↓WpAug_i, ↓Wp_dnewK, ↓Wp_dnewT, ↓Wp_putH, ↓WpPutH_d, ↓WpPutH_T, ↓Wp_put, ↓Wp_push, ↓Wp_end, ↓Wp_app, ↓WB_b, ↓Wi_true, ↓Wi_false, Wp_rIf, Wp_seq, Wp_seqN, Wp_seqR, Wp_seqB, Wp_seqC, Wp_next, Wp_brk, Wp_cnt, Wp_set, Wp_asg, Wp_ret, Wp_drop, Wp_kill, Wp_par, Wp_ifs, Wp_for, forK_nx, forK_cnt, forK_brk, forK_ret, Wp_c, Wp_var, WpVar_d, WpVar_o, Wp_view, Wp_andV, Wp_orV, Wp_chain, Wp_bin, Wp_andB, Wp_orB, Wp_yes, Wp_push0, Wp_pushN, Wp_nil, Wp_cons, Wp_move, WpMv_d, WpMv_o, WpMv_s, Wp_cnil, Wp_cval, Wp_cbor, Wp_call, Wp_comp, Wp_comp2, retK_r, retK_n, forJ_nx, forJ_cnt, Wp_asDat, Wp_asDatO, Wp_asB, Wp_tru, Wp_bind, Wp_ok, Wp_lift, Wp_ite, Wp_lite, Wp_aug, WpAug_i, Wp_dnewK, Wp_dnewT, Wp_putH, WpPutH_d, WpPutH_T, Wp_put, Wp_push, Wp_end, Wp_app, WB_b, Wi_true, Wi_false, Wq_run, argsOf_v, argsOf_b, argsOf_n, putBack_v, putBack_b, putBack_n, back_o, back_s, back_d, see_d, see_o, see_s, List.getElem?_cons_zero, List.getElem?_cons_succ, List.set_cons_zero, List.set_cons_succ, List.cons_append, List.nil_append, List.take_succ_cons, List.take_zero, List.length_cons, List.length_nil, List.dropLast_cons₂, List.dropLast_singleton, Option.getD_some, wipeE, restoreE, gN, List.replicate_zero, List.replicate_succ, Nat.reduceAdd, Nat.reduceSub, decide_eq_true_eq, Bool.true_eq_false, Bool.false_eq_true, reduceCtorEq, not_false_eq_true, see_d, see_o, see_s, ownS_o, WpAug_l, isS_d, isS_o, mkRg_l, mkRg_t, dMax2_i, dMin2_i, dIx_l, dIx_t, dAdd_i, dSub_i, dNeg_i, dMod_i, dDiv_i, dMul_r, dMul_l, dPow_18, dGtA_i, dLtA_i, dGtI_i, dLtI_i, dGeI_i, dLeI_i, dInt_i, dAbs_i, dLen_l, dLen_t, dTuple_l, dList_l, dList_t, dAdd_l, dAdd_t, tupOf_i, lstOf_i, seqOf_l, seqOf_t, range1_i, WpPut_i, WpPush_i, WpEnd_i, WpApp_i, dEq_i, dNe_i, dNe_bb, dEq_bb, bools_true, allT, isL, dCnt_s, dOnce_i, onceOf, dIs_n, dIs_b, enumOf_l, enumOf_t, zipOf_t, zipOf_l, zipD_c, zipD_n, dIsNot_n, gTup_t, gs_c, gs_n, range2_i, Option.bind_some, unpack, dRev_l, dRev_t, isInt, isBool, isTuple, isList, isStr, isN, isOwnL, dSumA_l, dSumA_t, dAll, dAny, bools, Option.map_some, List.all_cons, List.all_nil, List.any_cons, List.any_nil, id_eq, Bool.and_true, Bool.true_and, Bool.and_self, Bool.not_true, Bool.not_false, dSlice_l, dSlice_t, asI_i, decide_true, decide_false, Int.reduceLE, Int.reduceLT, Int.reduceToNat, Int.reduceNeg, Int.reduceAdd, Int.reduceSub, Int.reduceMul, Nat.reduceLeDiff, Nat.reduceLT, reduceIte, Int.reducePow, Int.cast_ofNat_Int, Int.toNat_one, Int.toNat_zero, Nat.zero_add, Nat.lt_add_one, Nat.zero_lt_succ, Int.reduceEq, Nat.reduceEqDiff, Int.toNat_natCast]
  refine Wm_of rfl ?_
  unfold M.fb_is_tuple_of
  cases d with
  | tuple ds =>
    obtain ⟨hl, he'⟩ := h ds rfl
    by_cases k1 : (1 : Int) ≤ (ds.length : Int)
    · by_cases k2 : (ds.length : Int) ≤ 36
      · simp only [↓Wp_rIf, ↓Wp_seq, ↓Wp_seqN, ↓Wp_seqR, ↓Wp_seqB, ↓Wp_seqC, ↓Wp_next, ↓Wp_brk, ↓Wp_cnt, ↓Wp_set, ↓Wp_asg, ↓Wp_ret, ↓Wp_drop, ↓Wp_kill, ↓Wp_par, ↓Wp_ifs, ↓Wp_for, ↓forK_nx, ↓forK_cnt, ↓forK_brk, ↓forK_ret, ↓Wp_c, ↓Wp_var, ↓WpVar_d, ↓WpVar_o, ↓Wp_view, ↓Wp_andV, ↓Wp_orV, ↓Wp_chain, ↓Wp_bin, ↓Wp_andB, ↓Wp_orB, ↓Wp_yes, ↓Wp_push0, ↓Wp_pushN, ↓Wp_nil, ↓Wp_cons, ↓Wp_move, ↓WpMv_d, ↓WpMv_o, ↓WpMv_s, ↓Wp_cnil, ↓Wp_cval, ↓Wp_cbor, ↓Wp_call, ↓Wp_comp, ↓Wp_comp2, ↓retK_r, ↓retK_n, ↓forJ_nx, ↓forJ_cnt, ↓Wp_asDat, ↓Wp_asDatO, ↓Wp_asB, ↓Wp_tru, ↓Wp_bind, ↓Wp_ok, ↓Wp_lift, ↓Wp_ite, ↓Wp_lite, ↓Wp_aug, ↓WpAug_i, ↓Wp_dnewK, ↓Wp_dnewT, ↓Wp_putH, ↓WpPutH_d, ↓WpPutH_T, ↓Wp_put, ↓Wp_push, ↓Wp_end, ↓Wp_app, ↓WB_b, ↓Wi_true, ↓Wi_false, Wp_rIf, Wp_seq, Wp_seqN, Wp_seqR, Wp_seqB, Wp_seqC, Wp_next, Wp_brk, Wp_cnt, Wp_set, Wp_asg, Wp_ret, Wp_drop, Wp_kill, Wp_par, Wp_ifs, Wp_for, forK_nx, forK_cnt, forK_brk, forK_ret, Wp_c, Wp_var, WpVar_d, WpVar_o, Wp_view, Wp_andV, Wp_orV, Wp_chain, Wp_bin, Wp_andB, Wp_orB, Wp_yes, Wp_push0, Wp_pushN, Wp_nil, Wp_cons, Wp_move, WpMv_d, WpMv_o, WpMv_s, Wp_cnil, Wp_cval, Wp_cbor, Wp_call, Wp_comp, Wp_comp2, retK_r, retK_n, forJ_nx, forJ_cnt, Wp_asDat, Wp_asDatO, Wp_asB, Wp_tru, Wp_bind, Wp_ok, Wp_lift, Wp_ite, Wp_lite, Wp_aug, WpAug_i, Wp_dnewK, Wp_dnewT, Wp_putH, WpPutH_d, WpPutH_T, Wp_put, Wp_push, Wp_end, Wp_app, WB_b, Wi_true, Wi_false, Wq_run, argsOf_v, argsOf_b, argsOf_n, putBack_v, putBack_b, putBack_n, back_o, back_s, back_d, see_d, see_o, see_s, List.getElem?_cons_zero, List.getElem?_cons_succ, List.set_cons_zero, List.set_cons_succ, List.cons_append, List.nil_append, List.take_succ_cons, List.take_zero, List.length_cons, List.length_nil, List.dropLast_cons₂, List.dropLast_singleton, Option.getD_some, wipeE, restoreE, gN, List.replicate_zero, List.replicate_succ, Nat.reduceAdd, Nat.reduceSub, decide_eq_true_eq, Bool.true_eq_false, Bool.false_eq_true, reduceCtorEq, not_false_eq_true, see_d, see_o, see_s, ownS_o, WpAug_l, isS_d, isS_o, mkRg_l, mkRg_t, dMax2_i, dMin2_i, dIx_l, dIx_t, dAdd_i, dSub_i, dNeg_i, dMod_i, dDiv_i, dMul_r, dMul_l, dPow_18, dGtA_i, dLtA_i, dGtI_i, dLtI_i, dGeI_i, dLeI_i, dInt_i, dAbs_i, dLen_l, dLen_t, dTuple_l, dList_l, dList_t, dAdd_l, dAdd_t, tupOf_i, lstOf_i, seqOf_l, seqOf_t, range1_i, WpPut_i, WpPush_i, WpEnd_i, WpApp_i, dEq_i, dNe_i, dNe_bb, dEq_bb, bools_true, allT, isL, dCnt_s, dOnce_i, onceOf, dIs_n, dIs_b, enumOf_l, enumOf_t, zipOf_t, zipOf_l, zipD_c, zipD_n, dIsNot_n, gTup_t, gs_c, gs_n, range2_i, Option.bind_some, unpack, dRev_l, dRev_t, isInt, isBool, isTuple, isList, isStr, isN, isOwnL, dSumA_l, dSumA_t, dAll, dAny, bools, Option.map_some, List.all_cons, List.all_nil, List.any_cons, List.any_nil, id_eq, Bool.and_true, Bool.true_and, Bool.and_self, Bool.not_true, Bool.not_false, dSlice_l, dSlice_t, asI_i, decide_true, decide_false, Int.reduceLE, Int.reduceLT, Int.reduceToNat, Int.reduceNeg, Int.reduceAdd, Int.reduceSub, Int.reduceMul, Nat.reduceLeDiff, Nat.reduceLT, reduceIte, Int.reducePow, Int.cast_ofNat_Int, Int.toNat_one, Int.toNat_zero, Nat.zero_add, Nat.lt_add_one, Nat.zero_lt_succ, Int.reduceEq, Nat.reduceEqDiff, Int.toNat_natCast, k1, k2]
        refine go_auto (hm := rfl) (hL := rfl) (hk := rfl) (p := fun _ => true) (f := fun e => .bool (fPc e)) (hl := by omega) (hs := fun e he acc => ?_) (q := ?_)
        · simp only [↓Wp_rIf, ↓Wp_seq, ↓Wp_seqN, ↓Wp_seqR, ↓Wp_seqB, ↓Wp_seqC, ↓Wp_next, ↓Wp_brk, ↓Wp_cnt, ↓Wp_set, ↓Wp_asg, ↓Wp_ret, ↓Wp_drop, ↓Wp_kill, ↓Wp_par, ↓Wp_ifs, ↓Wp_for, ↓forK_nx, ↓forK_cnt, ↓forK_brk, ↓forK_ret, ↓Wp_c, ↓Wp_var, ↓WpVar_d, ↓WpVar_o, ↓Wp_view, ↓Wp_andV, ↓Wp_orV, ↓Wp_chain, ↓Wp_bin, ↓Wp_andB, ↓Wp_orB, ↓Wp_yes, ↓Wp_push0, ↓Wp_pushN, ↓Wp_nil, ↓Wp_cons, ↓Wp_move, ↓WpMv_d, ↓WpMv_o, ↓WpMv_s, ↓Wp_cnil, ↓Wp_cval, ↓Wp_cbor, ↓Wp_call, ↓Wp_comp, ↓Wp_comp2, ↓retK_r, ↓retK_n, ↓forJ_nx, ↓forJ_cnt, ↓Wp_asDat, ↓Wp_asDatO, ↓Wp_asB, ↓Wp_tru, ↓Wp_bind, ↓Wp_ok, ↓Wp_lift, ↓Wp_ite, ↓Wp_lite, ↓Wp_aug, ↓WpAug_i, ↓Wp_dnewK, ↓Wp_dnewT, ↓Wp_putH, ↓WpPutH_d, ↓WpPutH_T, ↓Wp_put, ↓Wp_push, ↓Wp_end, ↓Wp_app, ↓WB_b, ↓Wi_true, ↓Wi_false, Wp_rIf, Wp_seq, Wp_seqN, Wp_seqR, Wp_seqB, Wp_seqC, Wp_next, Wp_brk, Wp_cnt, Wp_set, Wp_asg, Wp_ret, Wp_drop, Wp_kill, Wp_par, Wp_ifs, Wp_for, forK_nx, forK_cnt, forK_brk, forK_ret, Wp_c, Wp_var, WpVar_d, WpVar_o, Wp_view, Wp_andV, Wp_orV, Wp_chain, Wp_bin, Wp_andB, Wp_orB, Wp_yes, Wp_push0, Wp_pushN, Wp_nil, Wp_cons, Wp_move, WpMv_d, WpMv_o, WpMv_s, Wp_cnil, Wp_cval, Wp_cbor, Wp_call, Wp_comp, Wp_comp2, retK_r, retK_n, forJ_nx, forJ_cnt, Wp_asDat, Wp_asDatO, Wp_asB, Wp_tru, Wp_bind, Wp_ok, Wp_lift, Wp_ite, Wp_lite, Wp_aug, WpAug_i, Wp_dnewK, Wp_dnewT, Wp_putH, WpPutH_d, WpPutH_T, Wp_put, Wp_push, Wp_end, Wp_app, WB_b, Wi_true, Wi_false, Wq_run, argsOf_v, argsOf_b, argsOf_n, putBack_v, putBack_b, putBack_n, back_o, back_s, back_d, see_d, see_o, see_s, List.getElem?_cons_zero, List.getElem?_cons_succ, List.set_cons_zero, List.set_cons_succ, List.cons_append, List.nil_append, List.take_succ_cons, List.take_zero, List.length_cons, List.length_nil, List.dropLast_cons₂, List.dropLast_singleton, Option.getD_some, wipeE, restoreE, gN, List.replicate_zero, List.replicate_succ, Nat.reduceAdd, Nat.reduceSub, decide_eq_true_eq, Bool.true_eq_false, Bool.false_eq_true, reduceCtorEq, not_false_eq_true, see_d, see_o, see_s, ownS_o, WpAug_l, isS_d, isS_o, mkRg_l, mkRg_t, dMax2_i, dMin2_i, dIx_l, dIx_t, dAdd_i, dSub_i, dNeg_i, dMod_i, dDiv_i, dMul_r, dMul_l, dPow_18, dGtA_i, dLtA_i, dGtI_i, dLtI_i, dGeI_i, dLeI_i, dInt_i, dAbs_i, dLen_l, dLen_t, dTuple_l, dList_l, dList_t, dAdd_l, dAdd_t, tupOf_i, lstOf_i, seqOf_l, seqOf_t, range1_i, WpPut_i, WpPush_i, WpEnd_i, WpApp_i, dEq_i, dNe_i, dNe_bb, dEq_bb, bools_true, allT, isL, dCnt_s, dOnce_i, onceOf, dIs_n, dIs_b, enumOf_l, enumOf_t, zipOf_t, zipOf_l, zipD_c, zipD_n, dIsNot_n, gTup_t, gs_c, gs_n, range2_i, Option.bind_some, unpack, dRev_l, dRev_t, isInt, isBool, isTuple, isList, isStr, isN, isOwnL, dSumA_l, dSumA_t, dAll, dAny, bools, Option.map_some, List.all_cons, List.all_nil, List.any_cons, List.any_nil, id_eq, Bool.and_true, Bool.true_and, Bool.and_self, Bool.not_true, Bool.not_false, dSlice_l, dSlice_t, asI_i, decide_true, decide_false, Int.reduceLE, Int.reduceLT, Int.reduceToNat, Int.reduceNeg, Int.reduceAdd, Int.reduceSub, Int.reduceMul, Nat.reduceLeDiff, Nat.reduceLT, reduceIte, Int.reducePow, Int.cast_ofNat_Int, Int.toNat_one, Int.toNat_zero, Nat.zero_add, Nat.lt_add_one, Nat.zero_lt_succ, Int.reduceEq, Nat.reduceEqDiff, Int.toNat_natCast, fits_piece_any e (he' e he)]
          exact ⟨trivial, fun _ => by first | exact rfl | exact trivial, fun _ => ⟨by first | exact rfl | exact trivial, by first | exact rfl | exact trivial, by first | exact rfl | exact trivial⟩⟩
        · rw [filter_yes']
          simp only [↓Wp_rIf, ↓Wp_seq, ↓Wp_seqN, ↓Wp_seqR, ↓Wp_seqB, ↓Wp_seqC, ↓Wp_next, ↓Wp_brk, ↓Wp_cnt, ↓Wp_set, ↓Wp_asg, ↓Wp_ret, ↓Wp_drop, ↓Wp_kill, ↓Wp_par, ↓Wp_ifs, ↓Wp_for, ↓forK_nx, ↓forK_cnt, ↓forK_brk, ↓forK_ret, ↓Wp_c, ↓Wp_var, ↓WpVar_d, ↓WpVar_o, ↓Wp_view, ↓Wp_andV, ↓Wp_orV, ↓Wp_chain, ↓Wp_bin, ↓Wp_andB, ↓Wp_orB, ↓Wp_yes, ↓Wp_push0, ↓Wp_pushN, ↓Wp_nil, ↓Wp_cons, ↓Wp_move, ↓WpMv_d, ↓WpMv_o, ↓WpMv_s, ↓Wp_cnil, ↓Wp_cval, ↓Wp_cbor, ↓Wp_call, ↓Wp_comp, ↓Wp_comp2, ↓retK_r, ↓retK_n, ↓forJ_nx, ↓forJ_cnt, ↓Wp_asDat, ↓Wp_asDatO, ↓Wp_asB, ↓Wp_tru, ↓Wp_bind, ↓Wp_ok, ↓Wp_lift, ↓Wp_ite, ↓Wp_lite, ↓Wp_aug, ↓WpAug_i, ↓Wp_dnewK, ↓Wp_dnewT, ↓Wp_putH, ↓WpPutH_d, ↓WpPutH_T, ↓Wp_put, ↓Wp_push, ↓Wp_end, ↓Wp_app, ↓WB_b, ↓Wi_true, ↓Wi_false, Wp_rIf, Wp_seq, Wp_seqN, Wp_seqR, Wp_seqB, Wp_seqC, Wp_next, Wp_brk, Wp_cnt, Wp_set, Wp_asg, Wp_ret, Wp_drop, Wp_kill, Wp_par, Wp_ifs, Wp_for, forK_nx, forK_cnt, forK_brk, forK_ret, Wp_c, Wp_var, WpVar_d, WpVar_o, Wp_view, Wp_andV, Wp_orV, Wp_chain, Wp_bin, Wp_andB, Wp_orB, Wp_yes, Wp_push0, Wp_pushN, Wp_nil, Wp_cons, Wp_move, WpMv_d, WpMv_o, WpMv_s, Wp_cnil, Wp_cval, Wp_cbor, Wp_call, Wp_comp, Wp_comp2, retK_r, retK_n, forJ_nx, forJ_cnt, Wp_asDat, Wp_asDatO, Wp_asB, Wp_tru, Wp_bind, Wp_ok, Wp_lift, Wp_ite, Wp_lite, Wp_aug, WpAug_i, Wp_dnewK, Wp_dnewT, Wp_putH, WpPutH_d, WpPutH_T, Wp_put, Wp_push, Wp_end, Wp_app, WB_b, Wi_true, Wi_false, Wq_run, argsOf_v, argsOf_b, argsOf_n, putBack_v, putBack_b, putBack_n, back_o, back_s, back_d, see_d, see_o, see_s, List.getElem?_cons_zero, List.getElem?_cons_succ, List.set_cons_zero, List.set_cons_succ, List.cons_append, List.nil_append, List.take_succ_cons, List.take_zero, List.length_cons, List.length_nil, List.dropLast_cons₂, List.dropLast_singleton, Option.getD_some, wipeE, restoreE, gN, List.replicate_zero, List.replicate_succ, Nat.reduceAdd, Nat.reduceSub, decide_eq_true_eq, Bool.true_eq_false, Bool.false_eq_true, reduceCtorEq, not_false_eq_true, see_d, see_o, see_s, ownS_o, WpAug_l, isS_d, isS_o, mkRg_l, mkRg_t, dMax2_i, dMin2_i, dIx_l, dIx_t, dAdd_i, dSub_i, dNeg_i, dMod_i, dDiv_i, dMul_r, dMul_l, dPow_18, dGtA_i, dLtA_i, dGtI_i, dLtI_i, dGeI_i, dLeI_i, dInt_i, dAbs_i, dLen_l, dLen_t, dTuple_l, dList_l, dList_t, dAdd_l, dAdd_t, tupOf_i, lstOf_i, seqOf_l, seqOf_t, range1_i, WpPut_i, WpPush_i, WpEnd_i, WpApp_i, dEq_i, dNe_i, dNe_bb, dEq_bb, bools_true, allT, isL, dCnt_s, dOnce_i, onceOf, dIs_n, dIs_b, enumOf_l, enumOf_t, zipOf_t, zipOf_l, zipD_c, zipD_n, dIsNot_n, gTup_t, gs_c, gs_n, range2_i, Option.bind_some, unpack, dRev_l, dRev_t, isInt, isBool, isTuple, isList, isStr, isN, isOwnL, dSumA_l, dSumA_t, dAll, dAny, bools, Option.map_some, List.all_cons, List.all_nil, List.any_cons, List.any_nil, id_eq, Bool.and_true, Bool.true_and, Bool.and_self, Bool.not_true, Bool.not_false, dSlice_l, dSlice_t, asI_i, decide_true, decide_false, Int.reduceLE, Int.reduceLT, Int.reduceToNat, Int.reduceNeg, Int.reduceAdd, Int.reduceSub, Int.reduceMul, Nat.reduceLeDiff, Nat.reduceLT, reduceIte, Int.reducePow, Int.cast_ofNat_Int, Int.toNat_one, Int.toNat_zero, Nat.zero_add, Nat.lt_add_one, Nat.zero_lt_succ, Int.reduceEq, Nat.reduceEqDiff, Int.toNat_natCast, bools_f, List.all_map, Function.comp_def]
          refine ⟨?_, trivial⟩
          have : 1 ≤ ds.length ∧ ds.length ≤ 36 := by omega
          simp [fSt, this]
      · simp only [↓Wp_rIf, ↓Wp_seq, ↓Wp_seqN, ↓Wp_seqR, ↓Wp_seqB, ↓Wp_seqC, ↓Wp_next, ↓Wp_brk, ↓Wp_cnt, ↓Wp_set, ↓Wp_asg, ↓Wp_ret, ↓Wp_drop, ↓Wp_kill, ↓Wp_par, ↓Wp_ifs, ↓Wp_for, ↓forK_nx, ↓forK_cnt, ↓forK_brk, ↓forK_ret, ↓Wp_c, ↓Wp_var, ↓WpVar_d, ↓WpVar_o, ↓Wp_view, ↓Wp_andV, ↓Wp_orV, ↓Wp_chain, ↓Wp_bin, ↓Wp_andB, ↓Wp_orB, ↓Wp_yes, ↓Wp_push0, ↓Wp_pushN, ↓Wp_nil, ↓Wp_cons, ↓Wp_move, ↓WpMv_d, ↓WpMv_o, ↓WpMv_s, ↓Wp_cnil, ↓Wp_cval, ↓Wp_cbor, ↓Wp_call, ↓Wp_comp, ↓Wp_comp2, ↓retK_r, ↓retK_n, ↓forJ_nx, ↓forJ_cnt, ↓Wp_asDat, ↓Wp_asDatO, ↓Wp_asB, ↓Wp_tru, ↓Wp_bind, ↓Wp_ok, ↓Wp_lift, ↓Wp_ite, ↓Wp_lite, ↓Wp_aug, ↓WpAug_i, ↓Wp_dnewK, ↓Wp_dnewT, ↓Wp_putH, ↓WpPutH_d, ↓WpPutH_T, ↓Wp_put, ↓Wp_push, ↓Wp_end, ↓Wp_app, ↓WB_b, ↓Wi_true, ↓Wi_false, Wp_rIf, Wp_seq, Wp_seqN, Wp_seqR, Wp_seqB, Wp_seqC, Wp_next, Wp_brk, Wp_cnt, Wp_set, Wp_asg, Wp_ret, Wp_drop, Wp_kill, Wp_par, Wp_ifs, Wp_for, forK_nx, forK_cnt, forK_brk, forK_ret, Wp_c, Wp_var, WpVar_d, WpVar_o, Wp_view, Wp_andV, Wp_orV, Wp_chain, Wp_bin, Wp_andB, Wp_orB, Wp_yes, Wp_push0, Wp_pushN, Wp_nil, Wp_cons, Wp_move, WpMv_d, WpMv_o, WpMv_s, Wp_cnil, Wp_cval, Wp_cbor, Wp_call, Wp_comp, Wp_comp2, retK_r, retK_n, forJ_nx, forJ_cnt, Wp_asDat, Wp_asDatO, Wp_asB, Wp_tru, Wp_bind, Wp_ok, Wp_lift, Wp_ite, Wp_lite, Wp_aug, WpAug_i, Wp_dnewK, Wp_dnewT, Wp_putH, WpPutH_d, WpPutH_T, Wp_put, Wp_push, Wp_end, Wp_app, WB_b, Wi_true, Wi_false, Wq_run, argsOf_v, argsOf_b, argsOf_n, putBack_v, putBack_b, putBack_n, back_o, back_s, back_d, see_d, see_o, see_s, List.getElem?_cons_zero, List.getElem?_cons_succ, List.set_cons_zero, List.set_cons_succ, List.cons_append, List.nil_append, List.take_succ_cons, List.take_zero, List.length_cons, List.length_nil, List.dropLast_cons₂, List.dropLast_singleton, Option.getD_some, wipeE, restoreE, gN, List.replicate_zero, List.replicate_succ, Nat.reduceAdd, Nat.reduceSub, decide_eq_true_eq, Bool.true_eq_false, Bool.false_eq_true, reduceCtorEq, not_false_eq_true, see_d, see_o, see_s, ownS_o, WpAug_l, isS_d, isS_o, mkRg_l, mkRg_t, dMax2_i, dMin2_i, dIx_l, dIx_t, dAdd_i, dSub_i, dNeg_i, dMod_i, dDiv_i, dMul_r, dMul_l, dPow_18, dGtA_i, dLtA_i, dGtI_i, dLtI_i, dGeI_i, dLeI_i, dInt_i, dAbs_i, dLen_l, dLen_t, dTuple_l, dList_l, dList_t, dAdd_l, dAdd_t, tupOf_i, lstOf_i, seqOf_l, seqOf_t, range1_i, WpPut_i, WpPush_i, WpEnd_i, WpApp_i, dEq_i, dNe_i, dNe_bb, dEq_bb, bools_true, allT, isL, dCnt_s, dOnce_i, onceOf, dIs_n, dIs_b, enumOf_l, enumOf_t, zipOf_t, zipOf_l, zipD_c, zipD_n, dIsNot_n, gTup_t, gs_c, gs_n, range2_i, Option.bind_some, unpack, dRev_l, dRev_t, isInt, isBool, isTuple, isList, isStr, isN, isOwnL, dSumA_l, dSumA_t, dAll, dAny, bools, Option.map_some, List.all_cons, List.all_nil, List.any_cons, List.any_nil, id_eq, Bool.and_true, Bool.true_and, Bool.and_self, Bool.not_true, Bool.not_false, dSlice_l, dSlice_t, asI_i, decide_true, decide_false, Int.reduceLE, Int.reduceLT, Int.reduceToNat, Int.reduceNeg, Int.reduceAdd, Int.reduceSub, Int.reduceMul, Nat.reduceLeDiff, Nat.reduceLT, reduceIte, Int.reducePow, Int.cast_ofNat_Int, Int.toNat_one, Int.toNat_zero, Nat.zero_add, Nat.lt_add_one, Nat.zero_lt_succ, Int.reduceEq, Nat.reduceEqDiff, Int.toNat_natCast, k1, k2]
        refine ⟨?_, trivial⟩
        have : ¬ (1 ≤ ds.length ∧ ds.length ≤ 36) := by omega
        simp [fSt, this]
    · simp only [↓Wp_rIf, ↓Wp_seq, ↓Wp_seqN, ↓Wp_seqR, ↓Wp_seqB, ↓Wp_seqC, ↓Wp_next, ↓Wp_brk, ↓Wp_cnt, ↓Wp_set, ↓Wp_asg, ↓Wp_ret, ↓Wp_drop, ↓Wp_kill, ↓Wp_par, ↓Wp_ifs, ↓Wp_for, ↓forK_nx, ↓forK_cnt, ↓forK_brk, ↓forK_ret, ↓Wp_c, ↓Wp_var, ↓WpVar_d, ↓WpVar_o, ↓Wp_view, ↓Wp_andV, ↓Wp_orV, ↓Wp_chain, ↓Wp_bin, ↓Wp_andB, ↓Wp_orB, ↓Wp_yes, ↓Wp_push0, ↓Wp_pushN, ↓Wp_nil, ↓Wp_cons, ↓Wp_move, ↓WpMv_d, ↓WpMv_o, ↓WpMv_s, ↓Wp_cnil, ↓Wp_cval, ↓Wp_cbor, ↓Wp_call, ↓Wp_comp, ↓Wp_comp2, ↓retK_r, ↓retK_n, ↓forJ_nx, ↓forJ_cnt, ↓Wp_asDat, ↓Wp_asDatO, ↓Wp_asB, ↓Wp_tru, ↓Wp_bind, ↓Wp_ok, ↓Wp_lift, ↓Wp_ite, ↓Wp_lite, ↓Wp_aug, ↓WpAug_i, ↓Wp_dnewK, ↓Wp_dnewT, ↓Wp_putH, ↓WpPutH_d, ↓WpPutH_T, ↓Wp_put, ↓Wp_push, ↓Wp_end, ↓Wp_app, ↓WB_b, ↓Wi_true, ↓Wi_false, Wp_rIf, Wp_seq, Wp_seqN, Wp_seqR, Wp_seqB, Wp_seqC, Wp_next, Wp_brk, Wp_cnt, Wp_set, Wp_asg, Wp_ret, Wp_drop, Wp_kill, Wp_par, Wp_ifs, Wp_for, forK_nx, forK_cnt, forK_brk, forK_ret, Wp_c, Wp_var, WpVar_d, WpVar_o, Wp_view, Wp_andV, Wp_orV, Wp_chain, Wp_bin, Wp_andB, Wp_orB, Wp_yes, Wp_push0, Wp_pushN, Wp_nil, Wp_cons, Wp_move, WpMv_d, WpMv_o, WpMv_s, Wp_cnil, Wp_cval, Wp_cbor, Wp_call, Wp_comp, Wp_comp2, retK_r, retK_n, forJ_nx, forJ_cnt, Wp_asDat, Wp_asDatO, Wp_asB, Wp_tru, Wp_bind, Wp_ok, Wp_lift, Wp_ite, Wp_lite, Wp_aug, WpAug_i, Wp_dnewK, Wp_dnewT, Wp_putH, WpPutH_d, WpPutH_T, Wp_put, Wp_push, Wp_end, Wp_app, WB_b, Wi_true, Wi_false, Wq_run, argsOf_v, argsOf_b, argsOf_n, putBack_v, putBack_b, putBack_n, back_o, back_s, back_d, see_d, see_o, see_s, List.getElem?_cons_zero, List.getElem?_cons_succ, List.set_cons_zero, List.set_cons_succ, List.cons_append, List.nil_append, List.take_succ_cons, List.take_zero, List.length_cons, List.length_nil, List.dropLast_cons₂, List.dropLast_singleton, Option.getD_some, wipeE, restoreE, gN, List.replicate_zero, List.replicate_succ, Nat.reduceAdd, Nat.reduceSub, decide_eq_true_eq, Bool.true_eq_false, Bool.false_eq_true, reduceCtorEq, not_false_eq_true, see_d, see_o, see_s, ownS_o, WpAug_l, isS_d, isS_o, mkRg_l, mkRg_t, dMax2_i, dMin2_i, dIx_l, dIx_t, dAdd_i, dSub_i, dNeg_i, dMod_i, dDiv_i, dMul_r, dMul_l, dPow_18, dGtA_i, dLtA_i, dGtI_i, dLtI_i, dGeI_i, dLeI_i, dInt_i, dAbs_i, dLen_l, dLen_t, dTuple_l, dList_l, dList_t, dAdd_l, dAdd_t, tupOf_i, lstOf_i, seqOf_l, seqOf_t, range1_i, WpPut_i, WpPush_i, WpEnd_i, WpApp_i, dEq_i, dNe_i, dNe_bb, dEq_bb, bools_true, allT, isL, dCnt_s, dOnce_i, onceOf, dIs_n, dIs_b, enumOf_l, enumOf_t, zipOf_t, zipOf_l, zipD_c, zipD_n, dIsNot_n, gTup_t, gs_c, gs_n, range2_i, Option.bind_some, unpack, dRev_l, dRev_t, isInt, isBool, isTuple, isList, isStr, isN, isOwnL, dSumA_l, dSumA_t, dAll, dAny, bools, Option.map_some, List.all_cons, List.all_nil, List.any_cons, List.any_nil, id_eq, Bool.and_true, Bool.true_and, Bool.and_self, Bool.not_true, Bool.not_false, dSlice_l, dSlice_t, asI_i, decide_true, decide_false, Int.reduceLE, Int.reduceLT, Int.reduceToNat, Int.reduceNeg, Int.reduceAdd, Int.reduceSub, Int.reduceMul, Nat.reduceLeDiff, Nat.reduceLT, reduceIte, Int.reducePow, Int.cast_ofNat_Int, Int.toNat_one, Int.toNat_zero, Nat.zero_add, Nat.lt_add_one, Nat.zero_lt_succ, Int.reduceEq, Nat.reduceEqDiff, Int.toNat_natCast, k1]
      refine ⟨?_, trivial⟩
      have : ¬ (1 ≤ ds.length ∧ ds.length ≤ 36) := by omega
      simp [fSt, this]
  | _ =>
    simp only [↓Wp_rIf, ↓Wp_seq, ↓Wp_seqN, ↓Wp_seqR, ↓Wp_seqB, ↓Wp_seqC, ↓Wp_next, ↓Wp_brk, ↓Wp_cnt, ↓Wp_set, ↓Wp_asg, ↓Wp_ret, ↓Wp_drop, ↓Wp_kill, ↓Wp_par, ↓Wp_ifs, ↓Wp_for, ↓forK_nx, ↓forK_cnt, ↓forK_brk, ↓forK_ret, ↓Wp_c, ↓Wp_var, ↓WpVar_d, ↓WpVar_o, ↓Wp_view, ↓Wp_andV, ↓Wp_orV, ↓Wp_chain, ↓Wp_bin, ↓Wp_andB, ↓Wp_orB, ↓Wp_yes, ↓Wp_push0, ↓Wp_pushN, ↓Wp_nil, ↓Wp_cons, ↓Wp_move, ↓WpMv_d, ↓WpMv_o, ↓WpMv_s, ↓Wp_cnil, ↓Wp_cval, ↓Wp_cbor, ↓Wp_call, ↓Wp_comp, ↓Wp_comp2, ↓retK_r, ↓retK_n, ↓forJ_nx, ↓forJ_cnt, ↓Wp_asDat, ↓Wp_asDatO, ↓Wp_asB, ↓Wp_tru, ↓Wp_bind, ↓Wp_ok, ↓Wp_lift, ↓Wp_ite, ↓Wp_lite, ↓Wp_aug, ↓WpAug_i, ↓Wp_dnewK, ↓Wp_dnewT, ↓Wp_putH, ↓WpPutH_d, ↓WpPutH_T, ↓Wp_put, ↓Wp_push, ↓Wp_end, ↓Wp_app, ↓WB_b, ↓Wi_true, ↓Wi_false, Wp_rIf, Wp_seq, Wp_seqN, Wp_seqR, Wp_seqB, Wp_seqC, Wp_next, Wp_brk, Wp_cnt, Wp_set, Wp_asg, Wp_ret, Wp_drop, Wp_kill, Wp_par, Wp_ifs, Wp_for, forK_nx, forK_cnt, forK_brk, forK_ret, Wp_c, Wp_var, WpVar_d, WpVar_o, Wp_view, Wp_andV, Wp_orV, Wp_chain, Wp_bin, Wp_andB, Wp_orB, Wp_yes, Wp_push0, Wp_pushN, Wp_nil, Wp_cons, Wp_move, WpMv_d, WpMv_o, WpMv_s, Wp_cnil, Wp_cval, Wp_cbor, Wp_call, Wp_comp, Wp_comp2, retK_r, retK_n, forJ_nx, forJ_cnt, Wp_asDat, Wp_asDatO, Wp_asB, Wp_tru, Wp_bind, Wp_ok, Wp_lift, Wp_ite, Wp_lite, Wp_aug, WpAug_i, Wp_dnewK, Wp_dnewT, Wp_putH, WpPutH_d, WpPutH_T, Wp_put, Wp_push, Wp_end, Wp_app, WB_b, Wi_true, Wi_false, Wq_run, argsOf_v, argsOf_b, argsOf_n, putBack_v, putBack_b, putBack_n, back_o, back_s, back_d, see_d, see_o, see_s, List.getElem?_cons_zero, List.getElem?_cons_succ, List.set_cons_zero, List.set_cons_succ, List.cons_append, List.nil_append, List.take_succ_cons, List.take_zero, List.length_cons, List.length_nil, List.dropLast_cons₂, List.dropLast_singleton, Option.getD_some, wipeE, restoreE, gN, List.replicate_zero, List.replicate_succ, Nat.reduceAdd, Nat.reduceSub, decide_eq_true_eq, Bool.true_eq_false, Bool.false_eq_true, reduceCtorEq, not_false_eq_true, see_d, see_o, see_s, ownS_o, WpAug_l, isS_d, isS_o, mkRg_l, mkRg_t, dMax2_i, dMin2_i, dIx_l, dIx_t, dAdd_i, dSub_i, dNeg_i, dMod_i, dDiv_i, dMul_r, dMul_l, dPow_18, dGtA_i, dLtA_i, dGtI_i, dLtI_i, dGeI_i, dLeI_i, dInt_i, dAbs_i, dLen_l, dLen_t, dTuple_l, dList_l, dList_t, dAdd_l, dAdd_t, tupOf_i, lstOf_i, seqOf_l, seqOf_t, range1_i, WpPut_i, WpPush_i, WpEnd_i, WpApp_i, dEq_i, dNe_i, dNe_bb, dEq_bb, bools_true, allT, isL, dCnt_s, dOnce_i, onceOf, dIs_n, dIs_b, enumOf_l, enumOf_t, zipOf_t, zipOf_l, zipD_c, zipD_n, dIsNot_n, gTup_t, gs_c, gs_n, range2_i, Option.bind_some, unpack, dRev_l, dRev_t, isInt, isBool, isTuple, isList, isStr, isN, isOwnL, dSumA_l, dSumA_t, dAll, dAny, bools, Option.map_some, List.all_cons, List.all_nil, List.any_cons, List.any_nil, id_eq, Bool.and_true, Bool.true_and, Bool.and_self, Bool.not_true, Bool.not_false, dSlice_l, dSlice_t, asI_i, decide_true, decide_false, Int.reduceLE, Int.reduceLT, Int.reduceToNat, Int.reduceNeg, Int.reduceAdd, Int.reduceSub, Int.reduceMul, Nat.reduceLeDiff, Nat.reduceLT, reduceIte, Int.reducePow, Int.cast_ofNat_Int, Int.toNat_one, Int.toNat_zero, Nat.zero_add, Nat.lt_add_one, Nat.zero_lt_succ, Int.reduceEq, Nat.reduceEqDiff, Int.toNat_natCast]
    exact ⟨rfl, trivial⟩
theorem same_b {b : Bool} : Wm (M.m_law_same 12) Q [.dat (.bool b), .dat (.bool b)] = Q (.dat (.bool true)) [.dat (.bool b), .dat (.bool b)] := same_true (n := 11) (.bool b)
/-- values that are small and can be compared -/
inductive Nice : Nat → PyData → Prop
  | int {n : Nat} (i : Int) : Nice n (.int i)
  | bool {n : Nat} (b : Bool) : Nice n (.bool b)
  | none {n : Nat} : Nice n .none
  | str {n : Nat} {s : Str} : PyData.canLay0 (.str s) = true → Nice n (.str s)
  | tup {n : Nat} {ds : List PyData} : ds.length ≤ 100000 → (∀ d ∈ ds, Nice n d) → Nice (n + 1) (.tuple ds)
  | lst {n : Nat} {ds : List PyData} : (∀ d ∈ ds, Nice n d) → Nice (n + 1) (.list ds)
theorem nice_all {n : Nat} : ∀ {ds : List PyData}, (∀ d ∈ ds, PyData.canLay0 d = true ∧ PyData.depth d ≤ n) → PyData.canLayAll0 ds = true ∧ PyData.depthAll ds ≤ n
  | [], _ => ⟨by rw [PyData.canLayAll0], by rw [PyData.depthAll]; omega⟩
  | x :: ds, h => by
    obtain ⟨h1, h2⟩ := h x List.mem_cons_self
    obtain ⟨i1, i2⟩ := nice_all fun d hd => h d (List.mem_cons_of_mem _ hd)
    rw [PyData.canLayAll0, PyData.depthAll, h1, i1]
    exact ⟨rfl, by omega⟩
theorem nice_sh : ∀ {n : Nat} {d : PyData}, Nice n d → PyData.canLay0 d = true ∧ PyData.depth d ≤ n := by
  intro n d h
  induction h with
  | int i => exact ⟨by rw [PyData.canLay0], by rw [PyData.depth]; omega⟩
  | bool i => exact ⟨by rw [PyData.canLay0], by rw [PyData.depth]; omega⟩
  | none => exact ⟨by rw [PyData.canLay0], by rw [PyData.depth]; omega⟩
  | str h => exact ⟨h, by rw [PyData.depth]; omega⟩
  | tup h h1 ih =>
    obtain ⟨i1, i2⟩ := nice_all ih
    rw [PyData.canLay0, PyData.depth]
    exact ⟨i1, by omega⟩
  | lst h1 ih =>
    obtain ⟨i1, i2⟩ := nice_all ih
    rw [PyData.canLay0, PyData.depth]
    exact ⟨i1, by omega⟩
theorem nice_shaped {n : Nat} {d : PyData} (h : Nice n d) (hn : n ≤ 64) : SeqAt.shaped d = true := by
  obtain ⟨h1, h2⟩ := nice_sh h
  unfold SeqAt.shaped
  rw [h1, decide_eq_true (by omega)]
  rfl
theorem nice_len {n : Nat} {d : PyData} (h : Nice n d) : ∀ ds, d = .tuple ds → ds.length ≤ 100000 := by
  intro ds e
  subst e
  cases h with
  | tup h _ => exact h
theorem nice_sub {n : Nat} {ds : List PyData} (h : Nice (n + 1) (.tuple ds)) : ∀ d ∈ ds, Nice n d := by
  cases h with
  | tup _ h => exact h
theorem nice_up {n : Nat} {d : PyData} (h : Nice n d) : Nice (n + 1) d := by
  induction h with
  | int i => exact .int i
  | bool i => exact .bool i
  | none => exact .none
  | str h => exact .str h
  | tup h h1 ih => exact .tup h ih
  | lst h1 ih => exact .lst ih
theorem nice_P4 {n : Nat} {a b c d : Int} : Nice (n + 1) (P4 a b c d) := .tup (by simp) fun e he => by
  simp only [List.mem_cons, List.not_mem_nil, or_false] at he
  rcases he with rfl | rfl | rfl | rfl <;> exact .int _
theorem dMul_tup {xs : List PyData} {k : Int} (h0 : 1 ≤ k) (h1 : k ≤ 1000) (h2 : xs.length ≤ 1000) (h3 : xs ≠ []) : dMul (.tuple xs) (.int k) = some (.dat (.tuple (List.replicate k.toNat xs).flatten)) := if_pos ⟨h0, h1, h2, h3⟩
end
end DL
/-! walks with numbers; mixing -/
namespace DL
open PySem PySem.W L2
theorem enumD_get {ds : List PyData} {i : Nat} {e : PyData} (h : (enumD ds)[i]? = some e) : ∃ d, ds[i]? = some d ∧ e = .tuple [.int (i : Nat), d] := by
  unfold enumD at h
  rw [List.getElem?_map] at h
  obtain ⟨k, h1, rfl⟩ := Option.map_eq_some_iff.mp h
  obtain ⟨h2, h3⟩ := List.getElem?_eq_some_iff.mp h1
  rw [List.getElem_range] at h3
  subst h3
  rw [List.length_range] at h2
  exact ⟨ds[i], List.getElem?_eq_getElem h2, by rw [List.getElem?_eq_getElem h2]; rfl⟩
theorem enumD_len {ds : List PyData} : (enumD ds).length = ds.length := by
  unfold enumD
  rw [List.length_map, List.length_range]
theorem enumD_mem {ds : List PyData} {e : PyData} (h : e ∈ enumD ds) : ∃ (i : Nat) (d : PyData), ds[i]? = some d ∧ e = .tuple [.int (i : Nat), d] := by
  obtain ⟨i, h⟩ := List.mem_iff_getElem?.mp h
  obtain ⟨d, h1, h2⟩ := enumD_get h
  exact ⟨i, d, h1, h2⟩
theorem some_specT {c0 c1 : Int} {ds : List PyData} {Q : Sl → Ev → Prop} (h : 0 < ds.length) (h2 : ds.length < 1073741824) (k : ∀ d ∈ ds, ∀ a b : Int, Q (.dat d) [cup a b, .dat (.tuple ds)]) :
    Wm M.m_law_some Q [cup c0 c1, .dat (.tuple ds)] := by
  refine Wm_of rfl ?_
  unfold M.fb_law_some cup
  simp only [↓Wp_rIf, ↓Wp_seq, ↓Wp_seqN, ↓Wp_seqR, ↓Wp_seqB, ↓Wp_seqC, ↓Wp_next, ↓Wp_brk, ↓Wp_cnt, ↓Wp_set, ↓Wp_asg, ↓Wp_ret, ↓Wp_drop, ↓Wp_kill, ↓Wp_par, ↓Wp_ifs, ↓Wp_for, ↓forK_nx, ↓forK_cnt, ↓forK_brk, ↓forK_ret, ↓Wp_c, ↓Wp_var, ↓WpVar_d, ↓WpVar_o, ↓Wp_view, ↓Wp_andV, ↓Wp_orV, ↓Wp_chain, ↓Wp_bin, ↓Wp_andB, ↓Wp_orB, ↓Wp_yes, ↓Wp_push0, ↓Wp_pushN, ↓Wp_nil, ↓Wp_cons, ↓Wp_move, ↓WpMv_d, ↓WpMv_o, ↓WpMv_s, ↓Wp_cnil, ↓Wp_cval, ↓Wp_cbor, ↓Wp_call, ↓Wp_comp, ↓Wp_comp2, ↓retK_r, ↓retK_n, ↓forJ_nx, ↓forJ_cnt, ↓Wp_asDat, ↓Wp_asDatO, ↓Wp_asB, ↓Wp_tru, ↓Wp_bind, ↓Wp_ok, ↓Wp_lift, ↓Wp_ite, ↓Wp_lite, ↓Wp_aug, ↓WpAug_i, ↓Wp_dnewK, ↓Wp_dnewT, ↓Wp_putH, ↓WpPutH_d, ↓WpPutH_T, ↓Wp_put, ↓Wp_push, ↓Wp_end, ↓Wp_app, ↓WB_b, ↓Wi_true, ↓Wi_false, Wp_rIf, Wp_seq, Wp_seqN, Wp_seqR, Wp_seqB, Wp_seqC, Wp_next, Wp_brk, Wp_cnt, Wp_set, Wp_asg, Wp_ret, Wp_drop, Wp_kill, Wp_par, Wp_ifs, Wp_for, forK_nx, forK_cnt, forK_brk, forK_ret, Wp_c, Wp_var, WpVar_d, WpVar_o, Wp_view, Wp_andV, Wp_orV, Wp_chain, Wp_bin, Wp_andB, Wp_orB, Wp_yes, Wp_push0, Wp_pushN, Wp_nil, Wp_cons, Wp_move, WpMv_d, WpMv_o, WpMv_s, Wp_cnil, Wp_cval, Wp_cbor, Wp_call, Wp_comp, Wp_comp2, retK_r, retK_n, forJ_nx, forJ_cnt, Wp_asDat, Wp_asDatO, Wp_asB, Wp_tru, Wp_bind, Wp_ok, Wp_lift, Wp_ite, Wp_lite, Wp_aug, WpAug_i, Wp_dnewK, Wp_dnewT, Wp_putH, WpPutH_d, WpPutH_T, Wp_put, Wp_push, Wp_end, Wp_app, WB_b, Wi_true, Wi_false, Wq_run, argsOf_v, argsOf_b, argsOf_n, putBack_v, putBack_b, putBack_n, back_o, back_s, back_d, see_d, see_o, see_s, List.getElem?_cons_zero, List.getElem?_cons_succ, List.set_cons_zero, List.set_cons_succ, List.cons_append, List.nil_append, List.take_succ_cons, List.take_zero, List.length_cons, List.length_nil, List.dropLast_cons₂, List.dropLast_singleton, Option.getD_some, wipeE, restoreE, gN, List.replicate_zero, List.replicate_succ, Nat.reduceAdd, Nat.reduceSub, decide_eq_true_eq, Bool.true_eq_false, Bool.false_eq_true, reduceCtorEq, not_false_eq_true, see_d, see_o, see_s, ownS_o, WpAug_l, isS_d, isS_o, mkRg_l, mkRg_t, dMax2_i, dMin2_i, dIx_l, dIx_t, dAdd_i, dSub_i, dNeg_i, dMod_i, dDiv_i, dMul_r, dMul_l, dPow_18, dGtA_i, dLtA_i, dGtI_i, dLtI_i, dGeI_i, dLeI_i, dInt_i, dAbs_i, dLen_l, dLen_t, dTuple_l, dList_l, dList_t, dAdd_l, dAdd_t, tupOf_i, lstOf_i, seqOf_l, seqOf_t, range1_i, WpPut_i, WpPush_i, WpEnd_i, WpApp_i, dEq_i, dNe_i, dNe_bb, dEq_bb, bools_true, allT, isL, dCnt_s, dOnce_i, onceOf, dIs_n, dIs_b, enumOf_l, enumOf_t, zipOf_t, zipOf_l, zipD_c, zipD_n, dIsNot_n, gTup_t, gs_c, gs_n, range2_i, Option.bind_some, unpack, dRev_l, dRev_t, isInt, isBool, isTuple, isList, isStr, isN, isOwnL, dSumA_l, dSumA_t, dAll, dAny, bools, Option.map_some, List.all_cons, List.all_nil, List.any_cons, List.any_nil, id_eq, Bool.and_true, Bool.true_and, Bool.and_self, Bool.not_true, Bool.not_false, dSlice_l, dSlice_t, asI_i, decide_true, decide_false, Int.reduceLE, Int.reduceLT, Int.reduceToNat, Int.reduceNeg, Int.reduceAdd, Int.reduceSub, Int.reduceMul, Nat.reduceLeDiff, Nat.reduceLT, reduceIte, Int.reducePow, Int.cast_ofNat_Int, Int.toNat_one, Int.toNat_zero, Nat.zero_add, Nat.lt_add_one, Nat.zero_lt_succ, Int.reduceEq, Nat.reduceEqDiff, Int.toNat_natCast]
  refine roll_spec (by omega) (by omega) fun r a b h3 h4 => ?_
  have e : ds[r.toNat]? = some ds[r.toNat] := List.getElem?_eq_getElem (by omega)
  simp only [↓Wp_rIf, ↓Wp_seq, ↓Wp_seqN, ↓Wp_seqR, ↓Wp_seqB, ↓Wp_seqC, ↓Wp_next, ↓Wp_brk, ↓Wp_cnt, ↓Wp_set, ↓Wp_asg, ↓Wp_ret, ↓Wp_drop, ↓Wp_kill, ↓Wp_par, ↓Wp_ifs, ↓Wp_for, ↓forK_nx, ↓forK_cnt, ↓forK_brk, ↓forK_ret, ↓Wp_c, ↓Wp_var, ↓WpVar_d, ↓WpVar_o, ↓Wp_view, ↓Wp_andV, ↓Wp_orV, ↓Wp_chain, ↓Wp_bin, ↓Wp_andB, ↓Wp_orB, ↓Wp_yes, ↓Wp_push0, ↓Wp_pushN, ↓Wp_nil, ↓Wp_cons, ↓Wp_move, ↓WpMv_d, ↓WpMv_o, ↓WpMv_s, ↓Wp_cnil, ↓Wp_cval, ↓Wp_cbor, ↓Wp_call, ↓Wp_comp, ↓Wp_comp2, ↓retK_r, ↓retK_n, ↓forJ_nx, ↓forJ_cnt, ↓Wp_asDat, ↓Wp_asDatO, ↓Wp_asB, ↓Wp_tru, ↓Wp_bind, ↓Wp_ok, ↓Wp_lift, ↓Wp_ite, ↓Wp_lite, ↓Wp_aug, ↓WpAug_i, ↓Wp_dnewK, ↓Wp_dnewT, ↓Wp_putH, ↓WpPutH_d, ↓WpPutH_T, ↓Wp_put, ↓Wp_push, ↓Wp_end, ↓Wp_app, ↓WB_b, ↓Wi_true, ↓Wi_false, Wp_rIf, Wp_seq, Wp_seqN, Wp_seqR, Wp_seqB, Wp_seqC, Wp_next, Wp_brk, Wp_cnt, Wp_set, Wp_asg, Wp_ret, Wp_drop, Wp_kill, Wp_par, Wp_ifs, Wp_for, forK_nx, forK_cnt, forK_brk, forK_ret, Wp_c, Wp_var, WpVar_d, WpVar_o, Wp_view, Wp_andV, Wp_orV, Wp_chain, Wp_bin, Wp_andB, Wp_orB, Wp_yes, Wp_push0, Wp_pushN, Wp_nil, Wp_cons, Wp_move, WpMv_d, WpMv_o, WpMv_s, Wp_cnil, Wp_cval, Wp_cbor, Wp_call, Wp_comp, Wp_comp2, retK_r, retK_n, forJ_nx, forJ_cnt, Wp_asDat, Wp_asDatO, Wp_asB, Wp_tru, Wp_bind, Wp_ok, Wp_lift, Wp_ite, Wp_lite, Wp_aug, WpAug_i, Wp_dnewK, Wp_dnewT, Wp_putH, WpPutH_d, WpPutH_T, Wp_put, Wp_push, Wp_end, Wp_app, WB_b, Wi_true, Wi_false, Wq_run, argsOf_v, argsOf_b, argsOf_n, putBack_v, putBack_b, putBack_n, back_o, back_s, back_d, see_d, see_o, see_s, List.getElem?_cons_zero, List.getElem?_cons_succ, List.set_cons_zero, List.set_cons_succ, List.cons_append, List.nil_append, List.take_succ_cons, List.take_zero, List.length_cons, List.length_nil, List.dropLast_cons₂, List.dropLast_singleton, Option.getD_some, wipeE, restoreE, gN, List.replicate_zero, List.replicate_succ, Nat.reduceAdd, Nat.reduceSub, decide_eq_true_eq, Bool.true_eq_false, Bool.false_eq_true, reduceCtorEq, not_false_eq_true, see_d, see_o, see_s, ownS_o, WpAug_l, isS_d, isS_o, mkRg_l, mkRg_t, dMax2_i, dMin2_i, dIx_l, dIx_t, dAdd_i, dSub_i, dNeg_i, dMod_i, dDiv_i, dMul_r, dMul_l, dPow_18, dGtA_i, dLtA_i, dGtI_i, dLtI_i, dGeI_i, dLeI_i, dInt_i, dAbs_i, dLen_l, dLen_t, dTuple_l, dList_l, dList_t, dAdd_l, dAdd_t, tupOf_i, lstOf_i, seqOf_l, seqOf_t, range1_i, WpPut_i, WpPush_i, WpEnd_i, WpApp_i, dEq_i, dNe_i, dNe_bb, dEq_bb, bools_true, allT, isL, dCnt_s, dOnce_i, onceOf, dIs_n, dIs_b, enumOf_l, enumOf_t, zipOf_t, zipOf_l, zipD_c, zipD_n, dIsNot_n, gTup_t, gs_c, gs_n, range2_i, Option.bind_some, unpack, dRev_l, dRev_t, isInt, isBool, isTuple, isList, isStr, isN, isOwnL, dSumA_l, dSumA_t, dAll, dAny, bools, Option.map_some, List.all_cons, List.all_nil, List.any_cons, List.any_nil, id_eq, Bool.and_true, Bool.true_and, Bool.and_self, Bool.not_true, Bool.not_false, dSlice_l, dSlice_t, asI_i, decide_true, decide_false, Int.reduceLE, Int.reduceLT, Int.reduceToNat, Int.reduceNeg, Int.reduceAdd, Int.reduceSub, Int.reduceMul, Nat.reduceLeDiff, Nat.reduceLT, reduceIte, Int.reducePow, Int.cast_ofNat_Int, Int.toNat_one, Int.toNat_zero, Nat.zero_add, Nat.lt_add_one, Nat.zero_lt_succ, Int.reduceEq, Nat.reduceEqDiff, Int.toNat_natCast, h3, e]
  exact k _ (List.getElem_mem _) _ _
theorem dIx_last {xs : List PyData} {x : PyData} : dIx (.list (xs ++ [x])) (.int (-1)) = some x := by
  show L2.atI (xs ++ [x]) (-1) = some x
  unfold L2.atI L2.ixN
  have e : ¬ ((0 : Int) ≤ -1) := by decide
  rw [if_neg e, List.length_append, List.length_singleton, if_pos (by omega)]
  show (xs ++ [x])[(-1 + ((xs.length + 1 : Nat) : Int)).toNat]? = some x
  rw [show (-1 + ((xs.length + 1 : Nat) : Int)).toNat = xs.length by omega]
  simp
def niceB : Nat → PyData → Bool
  | _, .int _ => true
  | _, .bool _ => true
  | _, .none => true
  | _, .str s => PyData.canLay0 (.str s)
  | n + 1, .tuple ds => decide (ds.length ≤ 100000) && ds.all (niceB n)
  | n + 1, .list ds => ds.all (niceB n)
  | _, _ => false
theorem nice_of : ∀ {n : Nat} {d : PyData}, niceB n d = true → Nice n d := by
  intro n
  induction n with
  | zero =>
    intro d h
    cases d with
    | int i => exact .int i
    | bool b => exact .bool b
    | none => exact .none
    | str s => exact .str h
    | _ => cases h
  | succ n ih =>
    intro d h
    cases d with
    | int i => exact .int i
    | bool b => exact .bool b
    | none => exact .none
    | str s => exact .str h
    | tuple ds =>
      have h : (decide (ds.length ≤ 100000) && ds.all (niceB n)) = true := h
      rw [Bool.and_eq_true, decide_eq_true_eq, List.all_eq_true] at h
      exact .tup h.1 fun e he => ih (h.2 e he)
    | list ds =>
      have h : ds.all (niceB n) = true := h
      rw [List.all_eq_true] at h
      exact .lst fun e he => ih (h e he)
    | dict kvs => cases h
def rotQ (n : Nat) (q : Pc) : Pc := match n with
  | 0 => q
  | 1 => (q.2.2.2, q.1, q.2.1, q.2.2.1)
  | 2 => (q.2.2.1, q.2.2.2, q.1, q.2.1)
  | _ => (q.2.1, q.2.2.1, q.2.2.2, q.1)
theorem rotQ_D : ∀ {n : Nat} {q : Pc}, rot n q.1 q.2.1 q.2.2.1 q.2.2.2 = pcD (rotQ n q)
  | 0, _ => rfl
  | 1, _ => rfl
  | 2, _ => rfl
  | _ + 3, _ => rfl
theorem rotQ_in {n : Nat} {q : Pc} {h : Int} (z : inQ h q) : inQ h (rotQ n q) := by
  obtain ⟨z1, z2, z3, z4⟩ := z
  unfold rotQ
  split
  · exact ⟨z1, z2, z3, z4⟩
  · exact ⟨z4, z1, z2, z3⟩
  · exact ⟨z3, z4, z1, z2⟩
  · exact ⟨z2, z3, z4, z1⟩
/-- pieces in another order, each turned -/
inductive Mix : List Pc → List Pc → Prop
  | nil : Mix [] []
  | snoc {as bs cs : List Pc} {q : Pc} {n : Nat} : Mix (as ++ bs) cs → Mix (as ++ [rotQ n q] ++ bs) (cs ++ [q])
theorem Mix.len {as bs : List Pc} (h : Mix as bs) : as.length = bs.length := by
  induction h with
  | nil => rfl
  | snoc h ih =>
    simp only [List.length_append, List.length_singleton] at ih ⊢
    omega
theorem Mix.all {P : Pc → Prop} (hP : ∀ q n, P q → P (rotQ n q)) {as bs : List Pc} (h : Mix as bs) : (∀ q ∈ bs, P q) → ∀ q ∈ as, P q := by
  induction h with
  | nil => intro _ q hq; cases hq
  | snoc h ih =>
    intro hb q hq
    rcases List.mem_append.mp hq with hq | hq
    · rcases List.mem_append.mp hq with hq | hq
      · exact ih (fun q hq => hb q (List.mem_append_left _ hq)) q (List.mem_append_left _ hq)
      · rw [List.mem_singleton.mp hq]
        exact hP _ _ (hb _ (List.mem_append_right _ (List.mem_singleton.mpr rfl)))
    · exact ih (fun q hq => hb q (List.mem_append_left _ hq)) q (List.mem_append_right _ hq)
/-- what turning leaves is as often there as before -/
theorem Mix.count {p : Pc → Bool} (hp : ∀ q n, p (rotQ n q) = p q) {as bs : List Pc} (h : Mix as bs) : as.countP p = bs.countP p := by
  induction h with
  | nil => rfl
  | snoc h ih =>
    simp only [List.countP_append, List.countP_cons, List.countP_nil, hp] at ih ⊢
    omega
theorem BD_ix {rows : List (List Pc)} {n : Nat} (h : n < rows.length) : dIx (BD rows) (.int (n : Nat)) = some (SD rows[n]) := by
  have e := dIx_t (xs := rows.map SD) (i := (n : Int)) (nonneg n)
  rw [Int.toNat_natCast, List.getElem?_map, List.getElem?_eq_getElem h] at e
  exact e
theorem cut_ix {dn rt : Nat → Nat → Int} {high wide i : Nat} (h : i < high) : dIx (BD (cutRows dn rt high wide)) (.int (i : Nat)) = some (SD (cutRow dn rt wide i)) := by
  have hl : i < (cutRows dn rt high wide).length := by unfold cutRows; rw [List.length_map, List.length_range]; exact h
  have e : (cutRows dn rt high wide)[i] = cutRow dn rt wide i := (List.getElem_map (f := cutRow dn rt wide) (l := List.range high) (h := hl)).trans (by rw [List.getElem_range])
  rw [BD_ix hl, e]
theorem row_ix {dn rt : Nat → Nat → Int} {wide i j : Nat} (h : j < wide) : dIx (SD (cutRow dn rt wide i)) (.int (j : Nat)) = some (pcD (cutAt dn rt i j)) := by
  have hl : j < (cutRow dn rt wide i).length := by unfold cutRow; rw [List.length_map, List.length_range]; exact h
  have e : (cutRow dn rt wide i)[j] = cutAt dn rt i j := (List.getElem_map (f := cutAt dn rt i) (l := List.range wide) (h := hl)).trans (by rw [List.getElem_range])
  rw [SD_ix hl, e]
theorem cutAt_in {dn rt : Nat → Nat → Int} {high wide i j : Nat} {most : Int} (z : CutOK dn rt high wide most) (m0 : 0 ≤ most) (hi : i < high) (hj : j < wide) : inQ most (cutAt dn rt i j) := by
  have a1 := (z.dn_ i j hi hj).2.2
  have a2 := (z.rt_ i j hi hj).2.2
  refine ⟨?_, ⟨a2.1, a2.2⟩, ⟨a1.1, a1.2⟩, ?_⟩
  · show -most ≤ -(if i = 0 then 0 else dn (i - 1) j) ∧ -(if i = 0 then 0 else dn (i - 1) j) ≤ most
    by_cases h : i = 0
    · rw [if_pos h]; omega
    · rw [if_neg h]
      have := (z.dn_ (i - 1) j (by omega) hj).2.2
      omega
  · show -most ≤ -(if j = 0 then 0 else rt i (j - 1)) ∧ -(if j = 0 then 0 else rt i (j - 1)) ≤ most
    by_cases h : j = 0
    · rw [if_pos h]; omega
    · rw [if_neg h]
      have := (z.rt_ i (j - 1) hi (by omega)).2.2
      omega
end DL
/-! kinds of pieces -/
namespace DL
open PySem PySem.W L2
section
variable {Q : Sl → Ev → Prop}
theorem kx0 {q : Pc} : dIx (pcD q) (.int 0) = some (.int q.1) := rfl
theorem kx1 {q : Pc} : dIx (pcD q) (.int 1) = some (.int q.2.1) := rfl
theorem kx2 {q : Pc} : dIx (pcD q) (.int 2) = some (.int q.2.2.1) := rfl
theorem kx3 {q : Pc} : dIx (pcD q) (.int 3) = some (.int q.2.2.2) := rfl
/-- the kind, by which sides are flat -/
def kB : Bool → Bool → Bool → Bool → Str
  | false, false, false, false => Str.ofString "inner"
  | true, false, false, false => Str.ofString "side"
  | false, true, false, false => Str.ofString "side"
  | false, false, true, false => Str.ofString "side"
  | false, false, false, true => Str.ofString "side"
  | true, true, false, false => Str.ofString "corner"
  | false, true, true, false => Str.ofString "corner"
  | false, false, true, true => Str.ofString "corner"
  | true, false, false, true => Str.ofString "corner"
  | true, false, true, false => Str.ofString "strip"
  | false, true, false, true => Str.ofString "strip"
  | false, true, true, true => Str.ofString "end"
  | true, false, true, true => Str.ofString "end"
  | true, true, false, true => Str.ofString "end"
  | true, true, true, false => Str.ofString "end"
  | true, true, true, true => Str.ofString "whole"
def cB : Bool → Bool → Bool → Bool → Bool
  | true, true, false, false => true
  | false, true, true, false => true
  | false, false, true, true => true
  | true, false, false, true => true
  | _, _, _, _ => false
def sB : Bool → Bool → Bool → Bool → Bool
  | true, false, false, false => true
  | false, true, false, false => true
  | false, false, true, false => true
  | false, false, false, true => true
  | _, _, _, _ => false
def kS (q : Pc) : Str := kB (decide (q.1 = 0)) (decide (q.2.1 = 0)) (decide (q.2.2.1 = 0)) (decide (q.2.2.2 = 0))
def isC (q : Pc) : Bool := cB (decide (q.1 = 0)) (decide (q.2.1 = 0)) (decide (q.2.2.1 = 0)) (decide (q.2.2.2 = 0))
def isSd (q : Pc) : Bool := sB (decide (q.1 = 0)) (decide (q.2.1 = 0)) (decide (q.2.2.1 = 0)) (decide (q.2.2.2 = 0))
theorem kind_in_eq {q : Pc} : Wm M.m_kind_in Q [.dat (pcD q)] = Q (.dat (.str (kS q))) [.dat (pcD q)] := by
  refine Wm_exact (Wm_of rfl ?_)
  unfold M.fb_kind_in kS
  cases h0 : decide (q.1 = 0) <;> cases h1 : decide (q.2.1 = 0) <;> cases h2 : decide (q.2.2.1 = 0) <;> cases h3 : decide (q.2.2.2 = 0) <;> (simp only [↓Wp_rIf, ↓Wp_seq, ↓Wp_seqN, ↓Wp_seqR, ↓Wp_seqB, ↓Wp_seqC, ↓Wp_next, ↓Wp_brk, ↓Wp_cnt, ↓Wp_set, ↓Wp_asg, ↓Wp_ret, ↓Wp_drop, ↓Wp_kill, ↓Wp_par, ↓Wp_ifs, ↓Wp_for, ↓forK_nx, ↓forK_cnt, ↓forK_brk, ↓forK_ret, ↓Wp_c, ↓Wp_var, ↓WpVar_d, ↓WpVar_o, ↓Wp_view, ↓Wp_andV, ↓Wp_orV, ↓Wp_chain, ↓Wp_bin, ↓Wp_andB, ↓Wp_orB, ↓Wp_yes, ↓Wp_push0, ↓Wp_pushN, ↓Wp_nil, ↓Wp_cons, ↓Wp_move, ↓WpMv_d, ↓WpMv_o, ↓WpMv_s, ↓Wp_cnil, ↓Wp_cval, ↓Wp_cbor, ↓Wp_call, ↓Wp_comp, ↓Wp_comp2, ↓retK_r, ↓retK_n, ↓forJ_nx, ↓forJ_cnt, ↓Wp_asDat, ↓Wp_asDatO, ↓Wp_asB, ↓Wp_tru, ↓Wp_bind, ↓Wp_ok, ↓Wp_lift, ↓Wp_ite, ↓Wp_lite, ↓Wp_aug, ↓WpAug_i, ↓Wp_dnewK, ↓Wp_dnewT, ↓Wp_putH, ↓WpPutH_d, ↓WpPutH_T, ↓Wp_put, ↓Wp_push, ↓Wp_end, ↓Wp_app, ↓WB_b, ↓Wi_true, ↓Wi_false, Wp_rIf, Wp_seq, Wp_seqN, Wp_seqR, Wp_seqB, Wp_seqC, Wp_next, Wp_brk, Wp_cnt, Wp_set, Wp_asg, Wp_ret, Wp_drop, Wp_kill, Wp_par, Wp_ifs, Wp_for, forK_nx, forK_cnt, forK_brk, forK_ret, Wp_c, Wp_var, WpVar_d, WpVar_o, Wp_view, Wp_andV, Wp_orV, Wp_chain, Wp_bin, Wp_andB, Wp_orB, Wp_yes, Wp_push0, Wp_pushN, Wp_nil, Wp_cons, Wp_move, WpMv_d, WpMv_o, WpMv_s, Wp_cnil, Wp_cval, Wp_cbor, Wp_call, Wp_comp, Wp_comp2, retK_r, retK_n, forJ_nx, forJ_cnt, Wp_asDat, Wp_asDatO, Wp_asB, Wp_tru, Wp_bind, Wp_ok, Wp_lift, Wp_ite, Wp_lite, Wp_aug, WpAug_i, Wp_dnewK, Wp_dnewT, Wp_putH, WpPutH_d, WpPutH_T, Wp_put, Wp_push, Wp_end, Wp_app, WB_b, Wi_true, Wi_false, Wq_run, argsOf_v, argsOf_b, argsOf_n, putBack_v, putBack_b, putBack_n, back_o, back_s, back_d, see_d, see_o, see_s, List.getElem?_cons_zero, List.getElem?_cons_succ, List.set_cons_zero, List.set_cons_succ, List.cons_append, List.nil_append, List.take_succ_cons, List.take_zero, List.length_cons, List.length_nil, List.dropLast_cons₂, List.dropLast_singleton, Option.getD_some, wipeE, restoreE, gN, List.replicate_zero, List.replicate_succ, Nat.reduceAdd, Nat.reduceSub, decide_eq_true_eq, Bool.true_eq_false, Bool.false_eq_true, reduceCtorEq, not_false_eq_true, see_d, see_o, see_s, ownS_o, WpAug_l, isS_d, isS_o, mkRg_l, mkRg_t, dMax2_i, dMin2_i, dIx_l, dIx_t, dAdd_i, dSub_i, dNeg_i, dMod_i, dDiv_i, dMul_r, dMul_l, dPow_18, dGtA_i, dLtA_i, dGtI_i, dLtI_i, dGeI_i, dLeI_i, dInt_i, dAbs_i, dLen_l, dLen_t, dTuple_l, dList_l, dList_t, dAdd_l, dAdd_t, tupOf_i, lstOf_i, seqOf_l, seqOf_t, range1_i, WpPut_i, WpPush_i, WpEnd_i, WpApp_i, dEq_i, dNe_i, dNe_bb, dEq_bb, bools_true, allT, isL, dCnt_s, dOnce_i, onceOf, dIs_n, dIs_b, enumOf_l, enumOf_t, zipOf_t, zipOf_l, zipD_c, zipD_n, dIsNot_n, gTup_t, gs_c, gs_n, range2_i, Option.bind_some, unpack, dRev_l, dRev_t, isInt, isBool, isTuple, isList, isStr, isN, isOwnL, dSumA_l, dSumA_t, dAll, dAny, bools, Option.map_some, List.all_cons, List.all_nil, List.any_cons, List.any_nil, id_eq, Bool.and_true, Bool.true_and, Bool.and_self, Bool.not_true, Bool.not_false, dSlice_l, dSlice_t, asI_i, decide_true, decide_false, Int.reduceLE, Int.reduceLT, Int.reduceToNat, Int.reduceNeg, Int.reduceAdd, Int.reduceSub, Int.reduceMul, Nat.reduceLeDiff, Nat.reduceLT, reduceIte, Int.reducePow, Int.cast_ofNat_Int, Int.toNat_one, Int.toNat_zero, Nat.zero_add, Nat.lt_add_one, Nat.zero_lt_succ, Int.reduceEq, Nat.reduceEqDiff, Int.toNat_natCast, ↓Wp_forN, ↓Wp_forC, ↓Wp_goN, ↓Wp_goC, ↓Wp_go2N, ↓Wp_go2C, upto4, kx0, kx1, kx2, kx3, h0, h1, h2, h3]; exact ⟨rfl, trivial⟩)
theorem kC {q : Pc} : dEq (.str (kS q)) (.str (Str.ofString "corner")) = some (.dat (.bool (isC q))) := by
  unfold kS isC
  cases decide (q.1 = 0) <;> cases decide (q.2.1 = 0) <;> cases decide (q.2.2.1 = 0) <;> cases decide (q.2.2.2 = 0) <;> kernel_rfl
theorem kSd {q : Pc} : dEq (.str (kS q)) (.str (Str.ofString "side")) = some (.dat (.bool (isSd q))) := by
  unfold kS isSd
  cases decide (q.1 = 0) <;> cases decide (q.2.1 = 0) <;> cases decide (q.2.2.1 = 0) <;> cases decide (q.2.2.2 = 0) <;> kernel_rfl
theorem isC_rot (q : Pc) (n : Nat) : isC (rotQ n q) = isC q := by
  unfold isC rotQ
  split
  · rfl
  all_goals (simp only []; cases decide (q.1 = 0) <;> cases decide (q.2.1 = 0) <;> cases decide (q.2.2.1 = 0) <;> cases decide (q.2.2.2 = 0) <;> rfl)
theorem isSd_rot (q : Pc) (n : Nat) : isSd (rotQ n q) = isSd q := by
  unfold isSd rotQ
  split
  · rfl
  all_goals (simp only []; cases decide (q.1 = 0) <;> cases decide (q.2.1 = 0) <;> cases decide (q.2.2.1 = 0) <;> cases decide (q.2.2.2 = 0) <;> rfl)
/-- a test of pieces, on data -/
def onP (p : Pc → Bool) : PyData → Bool
  | .tuple [.int a, .int b, .int c, .int d] => p (a, b, c, d)
  | _ => false
theorem onP_D {p : Pc → Bool} {q : Pc} : onP p (pcD q) = p q := rfl
def onE (p : PyData → Bool) : PyData → Bool
  | .tuple [_, d] => p d
  | _ => false
def fst2 : PyData → PyData
  | .tuple [a, _] => a
  | _ => .none
theorem enum_count {ds : List PyData} {p : PyData → Bool} : ((enumD ds).filter (onE p)).length = ds.countP p := by
  rw [← List.countP_eq_length_filter]
  unfold enumD
  rw [List.countP_map]
  have e : ds = (List.range ds.length).map fun i => ds[i]?.getD .none := by
    apply List.ext_getElem
    · simp
    · intro i h1 h2
      simp [h1]
  conv => rhs; rw [e, List.countP_map]
  rfl
end
end DL
namespace DL
open PySem PySem.W L2
section
variable {Q : Sl → Ev → Prop}
def cN (a b c d : Bool) : Int := (if a = true then 1 else 0) + (if b = true then 1 else 0) + (if c = true then 1 else 0) + (if d = true then 1 else 0)
theorem cnt4 {a b c d : Bool} : dCnt (.list [.bool a, .bool b, .bool c, .bool d]) (.bool true) = some (.int (cN a b c d)) := by
  cases a <;> cases b <;> cases c <;> cases d <;> kernel_rfl
theorem in4 {a b c d : Bool} : dIn false (.bool true) (.list [.bool a, .bool b, .bool c, .bool d]) = some (.dat (.bool (a || (b || (c || d))))) := by
  cases a <;> cases b <;> cases c <;> cases d <;> kernel_rfl
def kDisp : PyData := dispD [(.inl (0), .str (Str.ofString "inner")), (.inl (1), .str (Str.ofString "side")), (.inl (3), .str (Str.ofString "end")), (.inl (4), .str (Str.ofString "whole"))]
theorem kd0 : getHere kDisp (.int 0) = some (.str (Str.ofString "inner")) := by kernel_rfl
theorem kd1 : getHere kDisp (.int 1) = some (.str (Str.ofString "side")) := by kernel_rfl
theorem kd3 : getHere kDisp (.int 3) = some (.str (Str.ofString "end")) := by kernel_rfl
theorem kd4 : getHere kDisp (.int 4) = some (.str (Str.ofString "whole")) := by kernel_rfl
theorem Wp_disp {ρ : Ev} {Q : Sl → Ev → Prop} : Wp Q (rDisp [(.inl (0), .str (Str.ofString "inner")), (.inl (1), .str (Str.ofString "side")), (.inl (3), .str (Str.ofString "end")), (.inl (4), .str (Str.ofString "whole"))] ρ) = Q (.own kDisp) ρ := by with_unfolding_all rfl
theorem law_kind_eq {q : Pc} : Wm M.m_law_kind Q [.dat (pcD q)] = Q (.dat (.str (kS q))) [.dat (pcD q)] := by
  refine Wm_exact (Wm_of rfl ?_)
  unfold M.fb_law_kind kS pcD
  cases h0 : decide (q.1 = 0) <;> cases h1 : decide (q.2.1 = 0) <;> cases h2 : decide (q.2.2.1 = 0) <;> cases h3 : decide (q.2.2.2 = 0) <;> (simp only [↓Wp_rIf, ↓Wp_seq, ↓Wp_seqN, ↓Wp_seqR, ↓Wp_seqB, ↓Wp_seqC, ↓Wp_next, ↓Wp_brk, ↓Wp_cnt, ↓Wp_set, ↓Wp_asg, ↓Wp_ret, ↓Wp_drop, ↓Wp_kill, ↓Wp_par, ↓Wp_ifs, ↓Wp_for, ↓forK_nx, ↓forK_cnt, ↓forK_brk, ↓forK_ret, ↓Wp_c, ↓Wp_var, ↓WpVar_d, ↓WpVar_o, ↓Wp_view, ↓Wp_andV, ↓Wp_orV, ↓Wp_chain, ↓Wp_bin, ↓Wp_andB, ↓Wp_orB, ↓Wp_yes, ↓Wp_push0, ↓Wp_pushN, ↓Wp_nil, ↓Wp_cons, ↓Wp_move, ↓WpMv_d, ↓WpMv_o, ↓WpMv_s, ↓Wp_cnil, ↓Wp_cval, ↓Wp_cbor, ↓Wp_call, ↓Wp_comp, ↓Wp_comp2, ↓retK_r, ↓retK_n, ↓forJ_nx, ↓forJ_cnt, ↓Wp_asDat, ↓Wp_asDatO, ↓Wp_asB, ↓Wp_tru, ↓Wp_bind, ↓Wp_ok, ↓Wp_lift, ↓Wp_ite, ↓Wp_lite, ↓Wp_aug, ↓WpAug_i, ↓Wp_dnewK, ↓Wp_dnewT, ↓Wp_putH, ↓WpPutH_d, ↓WpPutH_T, ↓Wp_put, ↓Wp_push, ↓Wp_end, ↓Wp_app, ↓WB_b, ↓Wi_true, ↓Wi_false, Wp_rIf, Wp_seq, Wp_seqN, Wp_seqR, Wp_seqB, Wp_seqC, Wp_next, Wp_brk, Wp_cnt, Wp_set, Wp_asg, Wp_ret, Wp_drop, Wp_kill, Wp_par, Wp_ifs, Wp_for, forK_nx, forK_cnt, forK_brk, forK_ret, Wp_c, Wp_var, WpVar_d, WpVar_o, Wp_view, Wp_andV, Wp_orV, Wp_chain, Wp_bin, Wp_andB, Wp_orB, Wp_yes, Wp_push0, Wp_pushN, Wp_nil, Wp_cons, Wp_move, WpMv_d, WpMv_o, WpMv_s, Wp_cnil, Wp_cval, Wp_cbor, Wp_call, Wp_comp, Wp_comp2, retK_r, retK_n, forJ_nx, forJ_cnt, Wp_asDat, Wp_asDatO, Wp_asB, Wp_tru, Wp_bind, Wp_ok, Wp_lift, Wp_ite, Wp_lite, Wp_aug, WpAug_i, Wp_dnewK, Wp_dnewT, Wp_putH, WpPutH_d, WpPutH_T, Wp_put, Wp_push, Wp_end, Wp_app, WB_b, Wi_true, Wi_false, Wq_run, argsOf_v, argsOf_b, argsOf_n, putBack_v, putBack_b, putBack_n, back_o, back_s, back_d, see_d, see_o, see_s, List.getElem?_cons_zero, List.getElem?_cons_succ, List.set_cons_zero, List.set_cons_succ, List.cons_append, List.nil_append, List.take_succ_cons, List.take_zero, List.length_cons, List.length_nil, List.dropLast_cons₂, List.dropLast_singleton, Option.getD_some, wipeE, restoreE, gN, List.replicate_zero, List.replicate_succ, Nat.reduceAdd, Nat.reduceSub, decide_eq_true_eq, Bool.true_eq_false, Bool.false_eq_true, reduceCtorEq, not_false_eq_true, see_d, see_o, see_s, ownS_o, WpAug_l, isS_d, isS_o, mkRg_l, mkRg_t, dMax2_i, dMin2_i, dIx_l, dIx_t, dAdd_i, dSub_i, dNeg_i, dMod_i, dDiv_i, dMul_r, dMul_l, dPow_18, dGtA_i, dLtA_i, dGtI_i, dLtI_i, dGeI_i, dLeI_i, dInt_i, dAbs_i, dLen_l, dLen_t, dTuple_l, dList_l, dList_t, dAdd_l, dAdd_t, tupOf_i, lstOf_i, seqOf_l, seqOf_t, range1_i, WpPut_i, WpPush_i, WpEnd_i, WpApp_i, dEq_i, dNe_i, dNe_bb, dEq_bb, bools_true, allT, isL, dCnt_s, dOnce_i, onceOf, dIs_n, dIs_b, enumOf_l, enumOf_t, zipOf_t, zipOf_l, zipD_c, zipD_n, dIsNot_n, gTup_t, gs_c, gs_n, range2_i, Option.bind_some, unpack, dRev_l, dRev_t, isInt, isBool, isTuple, isList, isStr, isN, isOwnL, dSumA_l, dSumA_t, dAll, dAny, bools, Option.map_some, List.all_cons, List.all_nil, List.any_cons, List.any_nil, id_eq, Bool.and_true, Bool.true_and, Bool.and_self, Bool.not_true, Bool.not_false, dSlice_l, dSlice_t, asI_i, decide_true, decide_false, Int.reduceLE, Int.reduceLT, Int.reduceToNat, Int.reduceNeg, Int.reduceAdd, Int.reduceSub, Int.reduceMul, Nat.reduceLeDiff, Nat.reduceLT, reduceIte, Int.reducePow, Int.cast_ofNat_Int, Int.toNat_one, Int.toNat_zero, Nat.zero_add, Nat.lt_add_one, Nat.zero_lt_succ, Int.reduceEq, Nat.reduceEqDiff, Int.toNat_natCast, ↓Wp_forN, ↓Wp_forC, ↓Wp_goN, ↓Wp_goC, ↓Wp_go2N, ↓Wp_go2C, upto4, h0, h1, h2, h3, Int.reduceMod, cnt4, in4, cN, Bool.or_true, Bool.true_or, Bool.or_false, Bool.false_or, ↓Wp_disp, kd0, kd1, kd3, kd4]; exact ⟨rfl, trivial⟩)
theorem kind_of_eq {q : Pc} (z : inQ 9 q) : Wm M.m_kind_of Q [.dat (pcD q)] = Q (.dat (.str (kS q))) [.dat (pcD q)] := by
  refine Wm_exact (Wm_of rfl ?_)
  unfold M.fb_kind_of
  have nz : ∀ Q, Wm M.m_need_piece Q [.dat (pcD q)] = Q (.dat .none) [.dat (pcD q)] := fun Q => need_piece_eq z
  simp only [↓Wp_rIf, ↓Wp_seq, ↓Wp_seqN, ↓Wp_seqR, ↓Wp_seqB, ↓Wp_seqC, ↓Wp_next, ↓Wp_brk, ↓Wp_cnt, ↓Wp_set, ↓Wp_asg, ↓Wp_ret, ↓Wp_drop, ↓Wp_kill, ↓Wp_par, ↓Wp_ifs, ↓Wp_for, ↓forK_nx, ↓forK_cnt, ↓forK_brk, ↓forK_ret, ↓Wp_c, ↓Wp_var, ↓WpVar_d, ↓WpVar_o, ↓Wp_view, ↓Wp_andV, ↓Wp_orV, ↓Wp_chain, ↓Wp_bin, ↓Wp_andB, ↓Wp_orB, ↓Wp_yes, ↓Wp_push0, ↓Wp_pushN, ↓Wp_nil, ↓Wp_cons, ↓Wp_move, ↓WpMv_d, ↓WpMv_o, ↓WpMv_s, ↓Wp_cnil, ↓Wp_cval, ↓Wp_cbor, ↓Wp_call, ↓Wp_comp, ↓Wp_comp2, ↓retK_r, ↓retK_n, ↓forJ_nx, ↓forJ_cnt, ↓Wp_asDat, ↓Wp_asDatO, ↓Wp_asB, ↓Wp_tru, ↓Wp_bind, ↓Wp_ok, ↓Wp_lift, ↓Wp_ite, ↓Wp_lite, ↓Wp_aug, ↓WpAug_i, ↓Wp_dnewK, ↓Wp_dnewT, ↓Wp_putH, ↓WpPutH_d, ↓WpPutH_T, ↓Wp_put, ↓Wp_push, ↓Wp_end, ↓Wp_app, ↓WB_b, ↓Wi_true, ↓Wi_false, Wp_rIf, Wp_seq, Wp_seqN, Wp_seqR, Wp_seqB, Wp_seqC, Wp_next, Wp_brk, Wp_cnt, Wp_set, Wp_asg, Wp_ret, Wp_drop, Wp_kill, Wp_par, Wp_ifs, Wp_for, forK_nx, forK_cnt, forK_brk, forK_ret, Wp_c, Wp_var, WpVar_d, WpVar_o, Wp_view, Wp_andV, Wp_orV, Wp_chain, Wp_bin, Wp_andB, Wp_orB, Wp_yes, Wp_push0, Wp_pushN, Wp_nil, Wp_cons, Wp_move, WpMv_d, WpMv_o, WpMv_s, Wp_cnil, Wp_cval, Wp_cbor, Wp_call, Wp_comp, Wp_comp2, retK_r, retK_n, forJ_nx, forJ_cnt, Wp_asDat, Wp_asDatO, Wp_asB, Wp_tru, Wp_bind, Wp_ok, Wp_lift, Wp_ite, Wp_lite, Wp_aug, WpAug_i, Wp_dnewK, Wp_dnewT, Wp_putH, WpPutH_d, WpPutH_T, Wp_put, Wp_push, Wp_end, Wp_app, WB_b, Wi_true, Wi_false, Wq_run, argsOf_v, argsOf_b, argsOf_n, putBack_v, putBack_b, putBack_n, back_o, back_s, back_d, see_d, see_o, see_s, List.getElem?_cons_zero, List.getElem?_cons_succ, List.set_cons_zero, List.set_cons_succ, List.cons_append, List.nil_append, List.take_succ_cons, List.take_zero, List.length_cons, List.length_nil, List.dropLast_cons₂, List.dropLast_singleton, Option.getD_some, wipeE, restoreE, gN, List.replicate_zero, List.replicate_succ, Nat.reduceAdd, Nat.reduceSub, decide_eq_true_eq, Bool.true_eq_false, Bool.false_eq_true, reduceCtorEq, not_false_eq_true, see_d, see_o, see_s, ownS_o, WpAug_l, isS_d, isS_o, mkRg_l, mkRg_t, dMax2_i, dMin2_i, dIx_l, dIx_t, dAdd_i, dSub_i, dNeg_i, dMod_i, dDiv_i, dMul_r, dMul_l, dPow_18, dGtA_i, dLtA_i, dGtI_i, dLtI_i, dGeI_i, dLeI_i, dInt_i, dAbs_i, dLen_l, dLen_t, dTuple_l, dList_l, dList_t, dAdd_l, dAdd_t, tupOf_i, lstOf_i, seqOf_l, seqOf_t, range1_i, WpPut_i, WpPush_i, WpEnd_i, WpApp_i, dEq_i, dNe_i, dNe_bb, dEq_bb, bools_true, allT, isL, dCnt_s, dOnce_i, onceOf, dIs_n, dIs_b, enumOf_l, enumOf_t, zipOf_t, zipOf_l, zipD_c, zipD_n, dIsNot_n, gTup_t, gs_c, gs_n, range2_i, Option.bind_some, unpack, dRev_l, dRev_t, isInt, isBool, isTuple, isList, isStr, isN, isOwnL, dSumA_l, dSumA_t, dAll, dAny, bools, Option.map_some, List.all_cons, List.all_nil, List.any_cons, List.any_nil, id_eq, Bool.and_true, Bool.true_and, Bool.and_self, Bool.not_true, Bool.not_false, dSlice_l, dSlice_t, asI_i, decide_true, decide_false, Int.reduceLE, Int.reduceLT, Int.reduceToNat, Int.reduceNeg, Int.reduceAdd, Int.reduceSub, Int.reduceMul, Nat.reduceLeDiff, Nat.reduceLT, reduceIte, Int.reducePow, Int.cast_ofNat_Int, Int.toNat_one, Int.toNat_zero, Nat.zero_add, Nat.lt_add_one, Nat.zero_lt_succ, Int.reduceEq, Nat.reduceEqDiff, Int.toNat_natCast, nz, kind_in_eq]
  exact ⟨trivial, trivial⟩
/-- the flat sides -/
def fsB (a b c d : Bool) : List Int := (if a = true then [0] else []) ++ ((if b = true then [1] else []) ++ ((if c = true then [2] else []) ++ (if d = true then [3] else [])))
def fsQ (q : Pc) : List Int := fsB (decide (q.1 = 0)) (decide (q.2.1 = 0)) (decide (q.2.2.1 = 0)) (decide (q.2.2.2 = 0))
theorem flat_sides_eq {q : Pc} (z : inQ 9 q) : Wm M.m_flat_sides Q [.dat (pcD q)] = Q (.dat (tI (fsQ q))) [.dat (pcD q)] := by
  refine Wm_exact (Wm_of rfl ?_)
  unfold M.fb_flat_sides fsQ
  have nz : ∀ Q, Wm M.m_need_piece Q [.dat (pcD q)] = Q (.dat .none) [.dat (pcD q)] := fun Q => need_piece_eq z
  cases h0 : decide (q.1 = 0) <;> cases h1 : decide (q.2.1 = 0) <;> cases h2 : decide (q.2.2.1 = 0) <;> cases h3 : decide (q.2.2.2 = 0) <;> (simp only [↓Wp_rIf, ↓Wp_seq, ↓Wp_seqN, ↓Wp_seqR, ↓Wp_seqB, ↓Wp_seqC, ↓Wp_next, ↓Wp_brk, ↓Wp_cnt, ↓Wp_set, ↓Wp_asg, ↓Wp_ret, ↓Wp_drop, ↓Wp_kill, ↓Wp_par, ↓Wp_ifs, ↓Wp_for, ↓forK_nx, ↓forK_cnt, ↓forK_brk, ↓forK_ret, ↓Wp_c, ↓Wp_var, ↓WpVar_d, ↓WpVar_o, ↓Wp_view, ↓Wp_andV, ↓Wp_orV, ↓Wp_chain, ↓Wp_bin, ↓Wp_andB, ↓Wp_orB, ↓Wp_yes, ↓Wp_push0, ↓Wp_pushN, ↓Wp_nil, ↓Wp_cons, ↓Wp_move, ↓WpMv_d, ↓WpMv_o, ↓WpMv_s, ↓Wp_cnil, ↓Wp_cval, ↓Wp_cbor, ↓Wp_call, ↓Wp_comp, ↓Wp_comp2, ↓retK_r, ↓retK_n, ↓forJ_nx, ↓forJ_cnt, ↓Wp_asDat, ↓Wp_asDatO, ↓Wp_asB, ↓Wp_tru, ↓Wp_bind, ↓Wp_ok, ↓Wp_lift, ↓Wp_ite, ↓Wp_lite, ↓Wp_aug, ↓WpAug_i, ↓Wp_dnewK, ↓Wp_dnewT, ↓Wp_putH, ↓WpPutH_d, ↓WpPutH_T, ↓Wp_put, ↓Wp_push, ↓Wp_end, ↓Wp_app, ↓WB_b, ↓Wi_true, ↓Wi_false, Wp_rIf, Wp_seq, Wp_seqN, Wp_seqR, Wp_seqB, Wp_seqC, Wp_next, Wp_brk, Wp_cnt, Wp_set, Wp_asg, Wp_ret, Wp_drop, Wp_kill, Wp_par, Wp_ifs, Wp_for, forK_nx, forK_cnt, forK_brk, forK_ret, Wp_c, Wp_var, WpVar_d, WpVar_o, Wp_view, Wp_andV, Wp_orV, Wp_chain, Wp_bin, Wp_andB, Wp_orB, Wp_yes, Wp_push0, Wp_pushN, Wp_nil, Wp_cons, Wp_move, WpMv_d, WpMv_o, WpMv_s, Wp_cnil, Wp_cval, Wp_cbor, Wp_call, Wp_comp, Wp_comp2, retK_r, retK_n, forJ_nx, forJ_cnt, Wp_asDat, Wp_asDatO, Wp_asB, Wp_tru, Wp_bind, Wp_ok, Wp_lift, Wp_ite, Wp_lite, Wp_aug, WpAug_i, Wp_dnewK, Wp_dnewT, Wp_putH, WpPutH_d, WpPutH_T, Wp_put, Wp_push, Wp_end, Wp_app, WB_b, Wi_true, Wi_false, Wq_run, argsOf_v, argsOf_b, argsOf_n, putBack_v, putBack_b, putBack_n, back_o, back_s, back_d, see_d, see_o, see_s, List.getElem?_cons_zero, List.getElem?_cons_succ, List.set_cons_zero, List.set_cons_succ, List.cons_append, List.nil_append, List.take_succ_cons, List.take_zero, List.length_cons, List.length_nil, List.dropLast_cons₂, List.dropLast_singleton, Option.getD_some, wipeE, restoreE, gN, List.replicate_zero, List.replicate_succ, Nat.reduceAdd, Nat.reduceSub, decide_eq_true_eq, Bool.true_eq_false, Bool.false_eq_true, reduceCtorEq, not_false_eq_true, see_d, see_o, see_s, ownS_o, WpAug_l, isS_d, isS_o, mkRg_l, mkRg_t, dMax2_i, dMin2_i, dIx_l, dIx_t, dAdd_i, dSub_i, dNeg_i, dMod_i, dDiv_i, dMul_r, dMul_l, dPow_18, dGtA_i, dLtA_i, dGtI_i, dLtI_i, dGeI_i, dLeI_i, dInt_i, dAbs_i, dLen_l, dLen_t, dTuple_l, dList_l, dList_t, dAdd_l, dAdd_t, tupOf_i, lstOf_i, seqOf_l, seqOf_t, range1_i, WpPut_i, WpPush_i, WpEnd_i, WpApp_i, dEq_i, dNe_i, dNe_bb, dEq_bb, bools_true, allT, isL, dCnt_s, dOnce_i, onceOf, dIs_n, dIs_b, enumOf_l, enumOf_t, zipOf_t, zipOf_l, zipD_c, zipD_n, dIsNot_n, gTup_t, gs_c, gs_n, range2_i, Option.bind_some, unpack, dRev_l, dRev_t, isInt, isBool, isTuple, isList, isStr, isN, isOwnL, dSumA_l, dSumA_t, dAll, dAny, bools, Option.map_some, List.all_cons, List.all_nil, List.any_cons, List.any_nil, id_eq, Bool.and_true, Bool.true_and, Bool.and_self, Bool.not_true, Bool.not_false, dSlice_l, dSlice_t, asI_i, decide_true, decide_false, Int.reduceLE, Int.reduceLT, Int.reduceToNat, Int.reduceNeg, Int.reduceAdd, Int.reduceSub, Int.reduceMul, Nat.reduceLeDiff, Nat.reduceLT, reduceIte, Int.reducePow, Int.cast_ofNat_Int, Int.toNat_one, Int.toNat_zero, Nat.zero_add, Nat.lt_add_one, Nat.zero_lt_succ, Int.reduceEq, Nat.reduceEqDiff, Int.toNat_natCast, ↓Wp_forN, ↓Wp_forC, ↓Wp_goN, ↓Wp_goC, ↓Wp_go2N, ↓Wp_go2C, upto4, nz, kx0, kx1, kx2, kx3, h0, h1, h2, h3]; exact ⟨rfl, trivial⟩)
theorem fs_rot {q : Pc} : fsQ (rotQ 1 q) = fsB (decide (q.2.2.2 = 0)) (decide (q.1 = 0)) (decide (q.2.1 = 0)) (decide (q.2.2.1 = 0)) := rfl
theorem sort_ints {l t : List Int} (hp : t.Perm l) (hs : t.Pairwise (· ≤ ·)) (hl : l.length ≤ 64) : dSorted [.list (l.map .int)] = some (.own (.list (t.map .int))) := by
  have e1 : ∀ a b : Int, dLe (.int a) (.int b) = decide (a ≤ b) := fun a b => by
    unfold dLe
    rw [dataLt_int]
    by_cases h : b < a
    · rw [decide_eq_true h, decide_eq_false (by omega)]; rfl
    · rw [decide_eq_false h, decide_eq_true (by omega)]; rfl
  have e2 : (l.map PyData.int).mergeSort dLe = (l.mergeSort (fun x y => decide (x ≤ y))).map .int := (List.map_mergeSort fun x _ y _ => by rw [e1]).symm
  have e3 : l.mergeSort (fun x y => decide (x ≤ y)) = t := by
    have hp2 := (List.mergeSort_perm l (fun x y => decide (x ≤ y))).trans hp.symm
    have hs2 := List.pairwise_mergeSort (le := fun (x y : Int) => decide (x ≤ y)) (fun a b c h1 h2 => by simp only [decide_eq_true_eq] at *; omega) (fun a b => by simp only [Bool.or_eq_true, decide_eq_true_eq]; omega) l
    refine List.Perm.eq_of_pairwise (le := fun x y => x ≤ y) (fun a b _ _ h1 h2 => by omega) (hs2.imp fun h => by simpa using h) hs hp2
  have ok : sortOk (l.map PyData.int) = true := by
    unfold sortOk alikeOk
    rw [Bool.and_eq_true, Bool.and_eq_true, Bool.and_eq_true]
    refine ⟨⟨⟨?_, ?_⟩, ?_⟩, ?_⟩
    · rw [List.all_eq_true]
      intro a ha
      rw [List.all_eq_true]
      intro b hb
      obtain ⟨x, _, rfl⟩ := List.mem_map.mp ha
      obtain ⟨y, _, rfl⟩ := List.mem_map.mp hb
      rw [alike]
    · rw [List.all_eq_true]
      intro a ha
      obtain ⟨x, _, rfl⟩ := List.mem_map.mp ha
      rw [PyData.depth]
      rfl
    · rw [Bool.or_eq_true]
      right
      rw [List.all_eq_true]
      intro a ha
      obtain ⟨x, _, rfl⟩ := List.mem_map.mp ha
      rfl
    · rw [List.length_map]
      exact Nat.ble_eq_true_of_le (Nat.le_trans hl (by decide))
  show (if sortOk (l.map PyData.int) = true then some (Sl.own (.list ((l.map PyData.int).mergeSort dLe))) else none) = _
  rw [if_pos ok, e2, e3]
def up1 (s : Int) : Int := (s + 1) % 4
theorem fs_perm {a b c d : Bool} : (fsB d a b c).Perm ((fsB a b c d).map up1) ∧ (fsB d a b c).Pairwise (· ≤ ·) ∧ ((fsB a b c d).map up1).length ≤ 64 := by
  cases a <;> cases b <;> cases c <;> cases d <;> decide
theorem fs_sorted {a b c d : Bool} : dSorted [.list (((fsB a b c d).map up1).map .int)] = some (.own (.list ((fsB d a b c).map .int))) := sort_ints fs_perm.1 fs_perm.2.1 fs_perm.2.2
end
end DL
namespace DL
open PySem PySem.W L2
section
variable {Q : Sl → Ev → Prop}
theorem Wp_const {ρ : Ev} {ds : List PyData} {Q : List PyData → Ev → Prop} : Wp Q (rConst ds ρ) = Q ds ρ := by with_unfolding_all rfl
theorem kS_lay {q : Pc} : PyData.canLay0 (.str (kS q)) = true := by
  unfold kS
  cases decide (q.1 = 0) <;> cases decide (q.2.1 = 0) <;> cases decide (q.2.2.1 = 0) <;> cases decide (q.2.2.2 = 0) <;> kernel_rfl
theorem strs_shaped {l : List Str} (h : ∀ s ∈ l, PyData.canLay0 (.str s) = true) : SeqAt.shaped (.list (l.map .str)) = true := by
  have a : PyData.canLayAll0 (l.map PyData.str) = true ∧ PyData.depthAll (l.map PyData.str) = 0 := by
    induction l with
    | nil => exact ⟨rfl, by rw [List.map_nil, PyData.depthAll]⟩
    | cons x l ih =>
      obtain ⟨i1, i2⟩ := ih fun s hs => h s (List.mem_cons_of_mem _ hs)
      rw [List.map_cons, PyData.canLayAll0, PyData.depthAll, i1, i2, h x List.mem_cons_self, PyData.depth]
      exact ⟨rfl, rfl⟩
  unfold SeqAt.shaped
  rw [PyData.canLay0, PyData.depth, a.1, a.2]
  rfl
theorem str_shaped {s : Str} (h : PyData.canLay0 (.str s) = true) : SeqAt.shaped (.str s) = true := by
  unfold SeqAt.shaped
  rw [h, PyData.depth]
  rfl
theorem cnt_strs {l : List Str} {s : Str} (h : ∀ s ∈ l, PyData.canLay0 (.str s) = true) (hs : PyData.canLay0 (.str s) = true) : dCnt (.list (l.map .str)) (.str s) = some (.int (l.count s : Nat)) := by
  rw [dCnt_s (strs_shaped h) (str_shaped hs), List.countP_map]
  have e : ((fun z => PyData.eqv z (.str s)) ∘ PyData.str) = fun x => x == s := by
    funext x
    show PyData.eqv (.str x) (.str s) = _
    rw [PyData.eqv]
  rw [e]
  rfl
def kOf : PyData → PyData
  | .tuple [.int a, .int b, .int c, .int d] => .str (kS (a, b, c, d))
  | _ => .none
def cK (qs : List Pc) (s : Str) : Int := ((qs.map kS).count s : Nat)
def kCs (qs : List Pc) : List Int := [cK qs (Str.ofString "inner"), cK qs (Str.ofString "side"), cK qs (Str.ofString "strip"), cK qs (Str.ofString "corner"), cK qs (Str.ofString "end"), cK qs (Str.ofString "whole")]
theorem cnt_k {qs : List Pc} {s : Str} (hs : PyData.canLay0 (.str s) = true) : dCnt (.list ((qs.map kS).map .str)) (.str s) = some (.int (cK qs s)) := cnt_strs (fun s hs => by
  obtain ⟨q, _, rfl⟩ := List.mem_map.mp hs
  exact kS_lay) hs
theorem kind_counts_eq {qs : List Pc} (z : GoodS qs) : Wm M.m_kind_counts Q [.dat (SD qs)] = Q (.dat (tI (kCs qs))) [.dat (SD qs)] := by
  refine Wm_exact (Wm_of rfl ?_)
  unfold M.fb_kind_counts
  have sq : ∀ {ρ : Ev} {Q : List PyData → Ev → Prop}, Wp Q (seqOf (SD qs) ρ) = Q (qs.map pcD) ρ := seqOf_t
  simp only [↓Wp_rIf, ↓Wp_seq, ↓Wp_seqN, ↓Wp_seqR, ↓Wp_seqB, ↓Wp_seqC, ↓Wp_next, ↓Wp_brk, ↓Wp_cnt, ↓Wp_set, ↓Wp_asg, ↓Wp_ret, ↓Wp_drop, ↓Wp_kill, ↓Wp_par, ↓Wp_ifs, ↓Wp_for, ↓forK_nx, ↓forK_cnt, ↓forK_brk, ↓forK_ret, ↓Wp_c, ↓Wp_var, ↓WpVar_d, ↓WpVar_o, ↓Wp_view, ↓Wp_andV, ↓Wp_orV, ↓Wp_chain, ↓Wp_bin, ↓Wp_andB, ↓Wp_orB, ↓Wp_yes, ↓Wp_push0, ↓Wp_pushN, ↓Wp_nil, ↓Wp_cons, ↓Wp_move, ↓WpMv_d, ↓WpMv_o, ↓WpMv_s, ↓Wp_cnil, ↓Wp_cval, ↓Wp_cbor, ↓Wp_call, ↓Wp_comp, ↓Wp_comp2, ↓retK_r, ↓retK_n, ↓forJ_nx, ↓forJ_cnt, ↓Wp_asDat, ↓Wp_asDatO, ↓Wp_asB, ↓Wp_tru, ↓Wp_bind, ↓Wp_ok, ↓Wp_lift, ↓Wp_ite, ↓Wp_lite, ↓Wp_aug, ↓WpAug_i, ↓Wp_dnewK, ↓Wp_dnewT, ↓Wp_putH, ↓WpPutH_d, ↓WpPutH_T, ↓Wp_put, ↓Wp_push, ↓Wp_end, ↓Wp_app, ↓WB_b, ↓Wi_true, ↓Wi_false, Wp_rIf, Wp_seq, Wp_seqN, Wp_seqR, Wp_seqB, Wp_seqC, Wp_next, Wp_brk, Wp_cnt, Wp_set, Wp_asg, Wp_ret, Wp_drop, Wp_kill, Wp_par, Wp_ifs, Wp_for, forK_nx, forK_cnt, forK_brk, forK_ret, Wp_c, Wp_var, WpVar_d, WpVar_o, Wp_view, Wp_andV, Wp_orV, Wp_chain, Wp_bin, Wp_andB, Wp_orB, Wp_yes, Wp_push0, Wp_pushN, Wp_nil, Wp_cons, Wp_move, WpMv_d, WpMv_o, WpMv_s, Wp_cnil, Wp_cval, Wp_cbor, Wp_call, Wp_comp, Wp_comp2, retK_r, retK_n, forJ_nx, forJ_cnt, Wp_asDat, Wp_asDatO, Wp_asB, Wp_tru, Wp_bind, Wp_ok, Wp_lift, Wp_ite, Wp_lite, Wp_aug, WpAug_i, Wp_dnewK, Wp_dnewT, Wp_putH, WpPutH_d, WpPutH_T, Wp_put, Wp_push, Wp_end, Wp_app, WB_b, Wi_true, Wi_false, Wq_run, argsOf_v, argsOf_b, argsOf_n, putBack_v, putBack_b, putBack_n, back_o, back_s, back_d, see_d, see_o, see_s, List.getElem?_cons_zero, List.getElem?_cons_succ, List.set_cons_zero, List.set_cons_succ, List.cons_append, List.nil_append, List.take_succ_cons, List.take_zero, List.length_cons, List.length_nil, List.dropLast_cons₂, List.dropLast_singleton, Option.getD_some, wipeE, restoreE, gN, List.replicate_zero, List.replicate_succ, Nat.reduceAdd, Nat.reduceSub, decide_eq_true_eq, Bool.true_eq_false, Bool.false_eq_true, reduceCtorEq, not_false_eq_true, see_d, see_o, see_s, ownS_o, WpAug_l, isS_d, isS_o, mkRg_l, mkRg_t, dMax2_i, dMin2_i, dIx_l, dIx_t, dAdd_i, dSub_i, dNeg_i, dMod_i, dDiv_i, dMul_r, dMul_l, dPow_18, dGtA_i, dLtA_i, dGtI_i, dLtI_i, dGeI_i, dLeI_i, dInt_i, dAbs_i, dLen_l, dLen_t, dTuple_l, dList_l, dList_t, dAdd_l, dAdd_t, tupOf_i, lstOf_i, seqOf_l, seqOf_t, range1_i, WpPut_i, WpPush_i, WpEnd_i, WpApp_i, dEq_i, dNe_i, dNe_bb, dEq_bb, bools_true, allT, isL, dCnt_s, dOnce_i, onceOf, dIs_n, dIs_b, enumOf_l, enumOf_t, zipOf_t, zipOf_l, zipD_c, zipD_n, dIsNot_n, gTup_t, gs_c, gs_n, range2_i, Option.bind_some, unpack, dRev_l, dRev_t, isInt, isBool, isTuple, isList, isStr, isN, isOwnL, dSumA_l, dSumA_t, dAll, dAny, bools, Option.map_some, List.all_cons, List.all_nil, List.any_cons, List.any_nil, id_eq, Bool.and_true, Bool.true_and, Bool.and_self, Bool.not_true, Bool.not_false, dSlice_l, dSlice_t, asI_i, decide_true, decide_false, Int.reduceLE, Int.reduceLT, Int.reduceToNat, Int.reduceNeg, Int.reduceAdd, Int.reduceSub, Int.reduceMul, Nat.reduceLeDiff, Nat.reduceLT, reduceIte, Int.reducePow, Int.cast_ofNat_Int, Int.toNat_one, Int.toNat_zero, Nat.zero_add, Nat.lt_add_one, Nat.zero_lt_succ, Int.reduceEq, Nat.reduceEqDiff, Int.toNat_natCast, need_set_eq z, sq]
  refine go_auto (hm := rfl) (hL := rfl) (hk := rfl) (p := fun _ => true) (f := kOf) (hl := by rw [List.length_map]; have := z.le; omega) (hs := fun e he acc => ?_) (q := ?_)
  · obtain ⟨q, _, rfl⟩ := List.mem_map.mp he
    simp only [↓Wp_rIf, ↓Wp_seq, ↓Wp_seqN, ↓Wp_seqR, ↓Wp_seqB, ↓Wp_seqC, ↓Wp_next, ↓Wp_brk, ↓Wp_cnt, ↓Wp_set, ↓Wp_asg, ↓Wp_ret, ↓Wp_drop, ↓Wp_kill, ↓Wp_par, ↓Wp_ifs, ↓Wp_for, ↓forK_nx, ↓forK_cnt, ↓forK_brk, ↓forK_ret, ↓Wp_c, ↓Wp_var, ↓WpVar_d, ↓WpVar_o, ↓Wp_view, ↓Wp_andV, ↓Wp_orV, ↓Wp_chain, ↓Wp_bin, ↓Wp_andB, ↓Wp_orB, ↓Wp_yes, ↓Wp_push0, ↓Wp_pushN, ↓Wp_nil, ↓Wp_cons, ↓Wp_move, ↓WpMv_d, ↓WpMv_o, ↓WpMv_s, ↓Wp_cnil, ↓Wp_cval, ↓Wp_cbor, ↓Wp_call, ↓Wp_comp, ↓Wp_comp2, ↓retK_r, ↓retK_n, ↓forJ_nx, ↓forJ_cnt, ↓Wp_asDat, ↓Wp_asDatO, ↓Wp_asB, ↓Wp_tru, ↓Wp_bind, ↓Wp_ok, ↓Wp_lift, ↓Wp_ite, ↓Wp_lite, ↓Wp_aug, ↓WpAug_i, ↓Wp_dnewK, ↓Wp_dnewT, ↓Wp_putH, ↓WpPutH_d, ↓WpPutH_T, ↓Wp_put, ↓Wp_push, ↓Wp_end, ↓Wp_app, ↓WB_b, ↓Wi_true, ↓Wi_false, Wp_rIf, Wp_seq, Wp_seqN, Wp_seqR, Wp_seqB, Wp_seqC, Wp_next, Wp_brk, Wp_cnt, Wp_set, Wp_asg, Wp_ret, Wp_drop, Wp_kill, Wp_par, Wp_ifs, Wp_for, forK_nx, forK_cnt, forK_brk, forK_ret, Wp_c, Wp_var, WpVar_d, WpVar_o, Wp_view, Wp_andV, Wp_orV, Wp_chain, Wp_bin, Wp_andB, Wp_orB, Wp_yes, Wp_push0, Wp_pushN, Wp_nil, Wp_cons, Wp_move, WpMv_d, WpMv_o, WpMv_s, Wp_cnil, Wp_cval, Wp_cbor, Wp_call, Wp_comp, Wp_comp2, retK_r, retK_n, forJ_nx, forJ_cnt, Wp_asDat, Wp_asDatO, Wp_asB, Wp_tru, Wp_bind, Wp_ok, Wp_lift, Wp_ite, Wp_lite, Wp_aug, WpAug_i, Wp_dnewK, Wp_dnewT, Wp_putH, WpPutH_d, WpPutH_T, Wp_put, Wp_push, Wp_end, Wp_app, WB_b, Wi_true, Wi_false, Wq_run, argsOf_v, argsOf_b, argsOf_n, putBack_v, putBack_b, putBack_n, back_o, back_s, back_d, see_d, see_o, see_s, List.getElem?_cons_zero, List.getElem?_cons_succ, List.set_cons_zero, List.set_cons_succ, List.cons_append, List.nil_append, List.take_succ_cons, List.take_zero, List.length_cons, List.length_nil, List.dropLast_cons₂, List.dropLast_singleton, Option.getD_some, wipeE, restoreE, gN, List.replicate_zero, List.replicate_succ, Nat.reduceAdd, Nat.reduceSub, decide_eq_true_eq, Bool.true_eq_false, Bool.false_eq_true, reduceCtorEq, not_false_eq_true, see_d, see_o, see_s, ownS_o, WpAug_l, isS_d, isS_o, mkRg_l, mkRg_t, dMax2_i, dMin2_i, dIx_l, dIx_t, dAdd_i, dSub_i, dNeg_i, dMod_i, dDiv_i, dMul_r, dMul_l, dPow_18, dGtA_i, dLtA_i, dGtI_i, dLtI_i, dGeI_i, dLeI_i, dInt_i, dAbs_i, dLen_l, dLen_t, dTuple_l, dList_l, dList_t, dAdd_l, dAdd_t, tupOf_i, lstOf_i, seqOf_l, seqOf_t, range1_i, WpPut_i, WpPush_i, WpEnd_i, WpApp_i, dEq_i, dNe_i, dNe_bb, dEq_bb, bools_true, allT, isL, dCnt_s, dOnce_i, onceOf, dIs_n, dIs_b, enumOf_l, enumOf_t, zipOf_t, zipOf_l, zipD_c, zipD_n, dIsNot_n, gTup_t, gs_c, gs_n, range2_i, Option.bind_some, unpack, dRev_l, dRev_t, isInt, isBool, isTuple, isList, isStr, isN, isOwnL, dSumA_l, dSumA_t, dAll, dAny, bools, Option.map_some, List.all_cons, List.all_nil, List.any_cons, List.any_nil, id_eq, Bool.and_true, Bool.true_and, Bool.and_self, Bool.not_true, Bool.not_false, dSlice_l, dSlice_t, asI_i, decide_true, decide_false, Int.reduceLE, Int.reduceLT, Int.reduceToNat, Int.reduceNeg, Int.reduceAdd, Int.reduceSub, Int.reduceMul, Nat.reduceLeDiff, Nat.reduceLT, reduceIte, Int.reducePow, Int.cast_ofNat_Int, Int.toNat_one, Int.toNat_zero, Nat.zero_add, Nat.lt_add_one, Nat.zero_lt_succ, Int.reduceEq, Nat.reduceEqDiff, Int.toNat_natCast, kind_in_eq]
    exact ⟨by first | exact trivial | exact rfl, fun _ => by first | exact rfl | exact trivial, fun _ => ⟨by first | exact rfl | exact trivial, by first | exact rfl | exact trivial, by first | exact rfl | exact trivial⟩⟩
  have e : (((qs.map pcD).filter fun _ => true).map kOf) = (qs.map kS).map .str := by
    rw [filter_yes', List.map_map, List.map_map]
    rfl
  rw [e]
  have c1 := @cnt_k qs (Str.ofString "inner") (by kernel_rfl)
  have c2 := @cnt_k qs (Str.ofString "side") (by kernel_rfl)
  have c3 := @cnt_k qs (Str.ofString "strip") (by kernel_rfl)
  have c4 := @cnt_k qs (Str.ofString "corner") (by kernel_rfl)
  have c5 := @cnt_k qs (Str.ofString "end") (by kernel_rfl)
  have c6 := @cnt_k qs (Str.ofString "whole") (by kernel_rfl)
  simp only [↓Wp_rIf, ↓Wp_seq, ↓Wp_seqN, ↓Wp_seqR, ↓Wp_seqB, ↓Wp_seqC, ↓Wp_next, ↓Wp_brk, ↓Wp_cnt, ↓Wp_set, ↓Wp_asg, ↓Wp_ret, ↓Wp_drop, ↓Wp_kill, ↓Wp_par, ↓Wp_ifs, ↓Wp_for, ↓forK_nx, ↓forK_cnt, ↓forK_brk, ↓forK_ret, ↓Wp_c, ↓Wp_var, ↓WpVar_d, ↓WpVar_o, ↓Wp_view, ↓Wp_andV, ↓Wp_orV, ↓Wp_chain, ↓Wp_bin, ↓Wp_andB, ↓Wp_orB, ↓Wp_yes, ↓Wp_push0, ↓Wp_pushN, ↓Wp_nil, ↓Wp_cons, ↓Wp_move, ↓WpMv_d, ↓WpMv_o, ↓WpMv_s, ↓Wp_cnil, ↓Wp_cval, ↓Wp_cbor, ↓Wp_call, ↓Wp_comp, ↓Wp_comp2, ↓retK_r, ↓retK_n, ↓forJ_nx, ↓forJ_cnt, ↓Wp_asDat, ↓Wp_asDatO, ↓Wp_asB, ↓Wp_tru, ↓Wp_bind, ↓Wp_ok, ↓Wp_lift, ↓Wp_ite, ↓Wp_lite, ↓Wp_aug, ↓WpAug_i, ↓Wp_dnewK, ↓Wp_dnewT, ↓Wp_putH, ↓WpPutH_d, ↓WpPutH_T, ↓Wp_put, ↓Wp_push, ↓Wp_end, ↓Wp_app, ↓WB_b, ↓Wi_true, ↓Wi_false, Wp_rIf, Wp_seq, Wp_seqN, Wp_seqR, Wp_seqB, Wp_seqC, Wp_next, Wp_brk, Wp_cnt, Wp_set, Wp_asg, Wp_ret, Wp_drop, Wp_kill, Wp_par, Wp_ifs, Wp_for, forK_nx, forK_cnt, forK_brk, forK_ret, Wp_c, Wp_var, WpVar_d, WpVar_o, Wp_view, Wp_andV, Wp_orV, Wp_chain, Wp_bin, Wp_andB, Wp_orB, Wp_yes, Wp_push0, Wp_pushN, Wp_nil, Wp_cons, Wp_move, WpMv_d, WpMv_o, WpMv_s, Wp_cnil, Wp_cval, Wp_cbor, Wp_call, Wp_comp, Wp_comp2, retK_r, retK_n, forJ_nx, forJ_cnt, Wp_asDat, Wp_asDatO, Wp_asB, Wp_tru, Wp_bind, Wp_ok, Wp_lift, Wp_ite, Wp_lite, Wp_aug, WpAug_i, Wp_dnewK, Wp_dnewT, Wp_putH, WpPutH_d, WpPutH_T, Wp_put, Wp_push, Wp_end, Wp_app, WB_b, Wi_true, Wi_false, Wq_run, argsOf_v, argsOf_b, argsOf_n, putBack_v, putBack_b, putBack_n, back_o, back_s, back_d, see_d, see_o, see_s, List.getElem?_cons_zero, List.getElem?_cons_succ, List.set_cons_zero, List.set_cons_succ, List.cons_append, List.nil_append, List.take_succ_cons, List.take_zero, List.length_cons, List.length_nil, List.dropLast_cons₂, List.dropLast_singleton, Option.getD_some, wipeE, restoreE, gN, List.replicate_zero, List.replicate_succ, Nat.reduceAdd, Nat.reduceSub, decide_eq_true_eq, Bool.true_eq_false, Bool.false_eq_true, reduceCtorEq, not_false_eq_true, see_d, see_o, see_s, ownS_o, WpAug_l, isS_d, isS_o, mkRg_l, mkRg_t, dMax2_i, dMin2_i, dIx_l, dIx_t, dAdd_i, dSub_i, dNeg_i, dMod_i, dDiv_i, dMul_r, dMul_l, dPow_18, dGtA_i, dLtA_i, dGtI_i, dLtI_i, dGeI_i, dLeI_i, dInt_i, dAbs_i, dLen_l, dLen_t, dTuple_l, dList_l, dList_t, dAdd_l, dAdd_t, tupOf_i, lstOf_i, seqOf_l, seqOf_t, range1_i, WpPut_i, WpPush_i, WpEnd_i, WpApp_i, dEq_i, dNe_i, dNe_bb, dEq_bb, bools_true, allT, isL, dOnce_i, onceOf, dIs_n, dIs_b, enumOf_l, enumOf_t, zipOf_t, zipOf_l, zipD_c, zipD_n, dIsNot_n, gTup_t, gs_c, gs_n, range2_i, Option.bind_some, unpack, dRev_l, dRev_t, isInt, isBool, isTuple, isList, isStr, isN, isOwnL, dSumA_l, dSumA_t, dAll, dAny, bools, Option.map_some, List.all_cons, List.all_nil, List.any_cons, List.any_nil, id_eq, Bool.and_true, Bool.true_and, Bool.and_self, Bool.not_true, Bool.not_false, dSlice_l, dSlice_t, asI_i, decide_true, decide_false, Int.reduceLE, Int.reduceLT, Int.reduceToNat, Int.reduceNeg, Int.reduceAdd, Int.reduceSub, Int.reduceMul, Nat.reduceLeDiff, Nat.reduceLT, reduceIte, Int.reducePow, Int.cast_ofNat_Int, Int.toNat_one, Int.toNat_zero, Nat.zero_add, Nat.lt_add_one, Nat.zero_lt_succ, Int.reduceEq, Nat.reduceEqDiff, Int.toNat_natCast, ↓Wp_goN, ↓Wp_goC, ↓Wp_const, Wp_const, c1, c2, c3, c4, c5, c6]
  exact ⟨rfl, trivial⟩
end
end DL
namespace DL
open PySem PySem.W L2
theorem isT_put {kvs : List (PyData × PyData)} {k : Key} {s : Str} {i : Int} (h : isT kvs = none) : isT (putD keyK kvs k (.str s) (.int i)) = none := by
  unfold putD
  split
  · cases kvs with
    | nil => rfl
    | cons a t =>
      rw [List.map_cons]
      split
      · obtain ⟨x, y⟩ := a
        cases x <;> cases y <;> first | rfl | cases h
      · obtain ⟨x, y⟩ := a
        cases x <;> cases y <;> first | rfl | cases h
  · cases kvs with
    | nil => rfl
    | cons a t =>
      obtain ⟨x, y⟩ := a
      cases x <;> cases y <;> first | rfl | cases h
structure Dc (kvs : List (PyData × PyData)) (l : List Str) : Prop where
  t : isT kvs = none
  len : kvs.length ≤ l.length
  at_ : ∀ s, (lookD keyK kvs (.inr s)).getD (.int 0) = .int (l.count s : Nat)
theorem Dc_nil : Dc [] [] := ⟨rfl, Nat.le_refl _, fun _ => rfl⟩
theorem Dc_put {kvs : List (PyData × PyData)} {l : List Str} {s : Str} (d : Dc kvs l) : Dc (putD keyK kvs (.inr s) (.str s) (.int ((l.count s : Nat) + 1))) (l ++ [s]) := by
  refine ⟨isT_put d.t, Nat.le_trans len_put (by rw [List.length_append]; have := d.len; simp; omega), fun r => ?_⟩
  rw [look_put (key := keyK) (k := .inr s) (d := .str s) rfl]
  rw [List.count_append]
  by_cases h : r = s
  · subst h
    rw [if_pos rfl]
    simp
  · rw [if_neg (fun e => h (Sum.inr.inj e)), d.at_ r]
    have : List.count r [s] = 0 := by
      rw [List.count_eq_zero]
      intro hm
      exact h (List.mem_singleton.mp hm)
    rw [this, Nat.add_zero]
def pF (q : Pc) : PyData → Bool
  | .int k => decide (at4 k.toNat q.1 q.2.1 q.2.2.1 q.2.2.2 = 0)
  | _ => false
theorem filtF {q : Pc} : ((upto 4).filter (pF q)).map id = (fsQ q).map .int := by
  unfold fsQ
  have e : ∀ k : Nat, pF q (.int k) = decide (at4 k q.1 q.2.1 q.2.2.1 q.2.2.2 = 0) := fun _ => rfl
  have e0 : pF q (.int 0) = decide (q.1 = 0) := rfl
  have e1 : pF q (.int 1) = decide (q.2.1 = 0) := rfl
  have e2 : pF q (.int 2) = decide (q.2.2.1 = 0) := rfl
  have e3 : pF q (.int 3) = decide (q.2.2.2 = 0) := rfl
  rw [upto4, List.map_id]
  simp only [List.filter_cons, List.filter_nil, e0, e1, e2, e3]
  cases decide (q.1 = 0) <;> cases decide (q.2.1 = 0) <;> cases decide (q.2.2.1 = 0) <;> cases decide (q.2.2.2 = 0) <;> rfl
theorem pcx {n : Nat} {q : Pc} (hn : n < 4) : dIx (pcD q) (.int (n : Nat)) = some (.int (at4 n q.1 q.2.1 q.2.2.1 q.2.2.2)) := by
  rcases lt4 hn with rfl | rfl | rfl | rfl <;> rfl
theorem fs_le {a b c d : Bool} : (fsB a b c d).length ≤ 1000000 := by cases a <;> cases b <;> cases c <;> cases d <;> decide
theorem sum_k {l : List Str} (h : ∀ s ∈ l, s = Str.ofString "inner" ∨ s = Str.ofString "side" ∨ s = Str.ofString "strip" ∨ s = Str.ofString "corner" ∨ s = Str.ofString "end" ∨ s = Str.ofString "whole") : l.count (Str.ofString "inner") + (l.count (Str.ofString "side") + (l.count (Str.ofString "strip") + (l.count (Str.ofString "corner") + (l.count (Str.ofString "end") + l.count (Str.ofString "whole"))))) = l.length := by
  induction l with
  | nil => rfl
  | cons x l ih =>
    have ih := ih fun s hs => h s (List.mem_cons_of_mem _ hs)
    rw [List.length_cons, ← ih]
    rcases h x List.mem_cons_self with rfl | rfl | rfl | rfl | rfl | rfl <;> (simp only [List.count_cons]; simp (decide := true); omega)
theorem kS_six {q : Pc} : kS q = Str.ofString "inner" ∨ kS q = Str.ofString "side" ∨ kS q = Str.ofString "strip" ∨ kS q = Str.ofString "corner" ∨ kS q = Str.ofString "end" ∨ kS q = Str.ofString "whole" := by
  unfold kS
  cases decide (q.1 = 0) <;> cases decide (q.2.1 = 0) <;> cases decide (q.2.2.1 = 0) <;> cases decide (q.2.2.2 = 0) <;> simp [kB]
theorem sum_kCs {qs : List Pc} : (kCs qs).sum = qs.length := by
  have := sum_k (l := qs.map kS) fun s hs => by
    obtain ⟨q, _, rfl⟩ := List.mem_map.mp hs
    exact kS_six
  rw [List.length_map] at this
  unfold kCs cK
  simp only [List.sum_cons, List.sum_nil]
  omega
end DL
namespace DL
open PySem PySem.W L2
theorem kS_rot1 {q : Pc} : kS (rotQ 1 q) = kS q := by
  unfold kS rotQ
  simp only []
  cases decide (q.1 = 0) <;> cases decide (q.2.1 = 0) <;> cases decide (q.2.2.1 = 0) <;> cases decide (q.2.2.2 = 0) <;> rfl
theorem Sm_fs {q : Pc} {n : Nat} : Sm (n + 1) (tI (fsQ q)) := Sm_tI fs_le
theorem Sm_kS {q : Pc} {n : Nat} : Sm n (.str (kS q)) := .str kS_lay
theorem same_trip {q : Pc} {Q : Sl → Ev → Prop} : Wm (M.m_law_same 12) Q [.dat (.tuple [.str (kS q), tI (fsQ q), .str (kS q)]), .dat (.tuple [.str (kS q), tI (fsQ q), .str (kS q)])] = Q (.dat (.bool true)) [.dat (.tuple [.str (kS q), tI (fsQ q), .str (kS q)]), .dat (.tuple [.str (kS q), tI (fsQ q), .str (kS q)])] :=
  same_true (n := 11) (Sm_3 Sm_kS Sm_fs Sm_kS)
theorem same_fs {l : List Int} {Q : Sl → Ev → Prop} (h : l.length ≤ 1000000) : Wm (M.m_law_same 12) Q [.dat (tI l), .dat (tI l)] = Q (.dat (.bool true)) [.dat (tI l), .dat (tI l)] :=
  same_true (n := 11) (Sm_tI h)
def fU : PyData → PyData
  | .int s => .int (up1 s)
  | _ => .none
theorem ints_fU {l : List Int} : (l.map PyData.int).map fU = (l.map up1).map .int := by
  rw [List.map_map, List.map_map]
  rfl
def kNames : List PyData := [.str (Str.ofString "inner"), .str (Str.ofString "side"), .str (Str.ofString "strip"), .str (Str.ofString "corner"), .str (Str.ofString "end"), .str (Str.ofString "whole")]
def lastT : PyData := .tuple kNames
theorem last_same {Q : Sl → Ev → Prop} : Wm (M.m_law_same 12) Q [.dat lastT, .dat lastT] = Q (.dat (.bool true)) [.dat lastT, .dat lastT] :=
  same_true (n := 11) (.tup (by decide) fun e he => by
    simp only [kNames, List.mem_cons, List.not_mem_nil, or_false] at he
    rcases he with rfl | rfl | rfl | rfl | rfl | rfl <;> exact .str (by kernel_rfl))
theorem law_at {ns : List Int} (hl : ns.length ≤ 63) : Wm M.m_law (fun r _ => r = .dat (.bool true)) [.scr ns] := by
  refine Wm_of rfl ?_
  unfold M.fb_law
  simp only [↓Wp_rIf, ↓Wp_seq, ↓Wp_seqN, ↓Wp_seqR, ↓Wp_seqB, ↓Wp_seqC, ↓Wp_next, ↓Wp_brk, ↓Wp_cnt, ↓Wp_set, ↓Wp_asg, ↓Wp_ret, ↓Wp_drop, ↓Wp_kill, ↓Wp_par, ↓Wp_ifs, ↓Wp_for, ↓forK_nx, ↓forK_cnt, ↓forK_brk, ↓forK_ret, ↓Wp_c, ↓Wp_var, ↓WpVar_d, ↓WpVar_o, ↓Wp_view, ↓Wp_andV, ↓Wp_orV, ↓Wp_chain, ↓Wp_bin, ↓Wp_andB, ↓Wp_orB, ↓Wp_yes, ↓Wp_push0, ↓Wp_pushN, ↓Wp_nil, ↓Wp_cons, ↓Wp_move, ↓WpMv_d, ↓WpMv_o, ↓WpMv_s, ↓Wp_cnil, ↓Wp_cval, ↓Wp_cbor, ↓Wp_call, ↓Wp_comp, ↓Wp_comp2, ↓retK_r, ↓retK_n, ↓forJ_nx, ↓forJ_cnt, ↓Wp_asDat, ↓Wp_asDatO, ↓Wp_asB, ↓Wp_tru, ↓Wp_bind, ↓Wp_ok, ↓Wp_lift, ↓Wp_ite, ↓Wp_lite, ↓Wp_aug, ↓WpAug_i, ↓Wp_dnewK, ↓Wp_dnewT, ↓Wp_putH, ↓WpPutH_d, ↓WpPutH_T, ↓Wp_put, ↓Wp_push, ↓Wp_end, ↓Wp_app, ↓WB_b, ↓Wi_true, ↓Wi_false, Wp_rIf, Wp_seq, Wp_seqN, Wp_seqR, Wp_seqB, Wp_seqC, Wp_next, Wp_brk, Wp_cnt, Wp_set, Wp_asg, Wp_ret, Wp_drop, Wp_kill, Wp_par, Wp_ifs, Wp_for, forK_nx, forK_cnt, forK_brk, forK_ret, Wp_c, Wp_var, WpVar_d, WpVar_o, Wp_view, Wp_andV, Wp_orV, Wp_chain, Wp_bin, Wp_andB, Wp_orB, Wp_yes, Wp_push0, Wp_pushN, Wp_nil, Wp_cons, Wp_move, WpMv_d, WpMv_o, WpMv_s, Wp_cnil, Wp_cval, Wp_cbor, Wp_call, Wp_comp, Wp_comp2, retK_r, retK_n, forJ_nx, forJ_cnt, Wp_asDat, Wp_asDatO, Wp_asB, Wp_tru, Wp_bind, Wp_ok, Wp_lift, Wp_ite, Wp_lite, Wp_aug, WpAug_i, Wp_dnewK, Wp_dnewT, Wp_putH, WpPutH_d, WpPutH_T, Wp_put, Wp_push, Wp_end, Wp_app, WB_b, Wi_true, Wi_false, Wq_run, argsOf_v, argsOf_b, argsOf_n, putBack_v, putBack_b, putBack_n, back_o, back_s, back_d, see_d, see_o, see_s, List.getElem?_cons_zero, List.getElem?_cons_succ, List.set_cons_zero, List.set_cons_succ, List.cons_append, List.nil_append, List.take_succ_cons, List.take_zero, List.length_cons, List.length_nil, List.dropLast_cons₂, List.dropLast_singleton, Option.getD_some, wipeE, restoreE, gN, List.replicate_zero, List.replicate_succ, Nat.reduceAdd, Nat.reduceSub, decide_eq_true_eq, Bool.true_eq_false, Bool.false_eq_true, reduceCtorEq, not_false_eq_true, see_d, see_o, see_s, ownS_o, WpAug_l, isS_d, isS_o, mkRg_l, mkRg_t, dMax2_i, dMin2_i, dIx_l, dIx_t, dAdd_i, dSub_i, dNeg_i, dMod_i, dDiv_i, dMul_r, dMul_l, dPow_18, dGtA_i, dLtA_i, dGtI_i, dLtI_i, dGeI_i, dLeI_i, dInt_i, dAbs_i, dLen_l, dLen_t, dTuple_l, dList_l, dList_t, dAdd_l, dAdd_t, tupOf_i, lstOf_i, seqOf_l, seqOf_t, range1_i, WpPut_i, WpPush_i, WpEnd_i, WpApp_i, dEq_i, dNe_i, dNe_bb, dEq_bb, bools_true, allT, isL, dCnt_s, dOnce_i, onceOf, dIs_n, dIs_b, enumOf_l, enumOf_t, zipOf_t, zipOf_l, zipD_c, zipD_n, dIsNot_n, gTup_t, gs_c, gs_n, range2_i, Option.bind_some, unpack, dRev_l, dRev_t, isInt, isBool, isTuple, isList, isStr, isN, isOwnL, dSumA_l, dSumA_t, dAll, dAny, bools, Option.map_some, List.all_cons, List.all_nil, List.any_cons, List.any_nil, id_eq, Bool.and_true, Bool.true_and, Bool.and_self, Bool.not_true, Bool.not_false, dSlice_l, dSlice_t, asI_i, decide_true, decide_false, Int.reduceLE, Int.reduceLT, Int.reduceToNat, Int.reduceNeg, Int.reduceAdd, Int.reduceSub, Int.reduceMul, Nat.reduceLeDiff, Nat.reduceLT, reduceIte, Int.reducePow, Int.cast_ofNat_Int, Int.toNat_one, Int.toNat_zero, Nat.zero_add, Nat.lt_add_one, Nat.zero_lt_succ, Int.reduceEq, Nat.reduceEqDiff, Int.toNat_natCast]
  refine cup_spec hl fun a b => ?_
  simp only [↓Wp_rIf, ↓Wp_seq, ↓Wp_seqN, ↓Wp_seqR, ↓Wp_seqB, ↓Wp_seqC, ↓Wp_next, ↓Wp_brk, ↓Wp_cnt, ↓Wp_set, ↓Wp_asg, ↓Wp_ret, ↓Wp_drop, ↓Wp_kill, ↓Wp_par, ↓Wp_ifs, ↓Wp_for, ↓forK_nx, ↓forK_cnt, ↓forK_brk, ↓forK_ret, ↓Wp_c, ↓Wp_var, ↓WpVar_d, ↓WpVar_o, ↓Wp_view, ↓Wp_andV, ↓Wp_orV, ↓Wp_chain, ↓Wp_bin, ↓Wp_andB, ↓Wp_orB, ↓Wp_yes, ↓Wp_push0, ↓Wp_pushN, ↓Wp_nil, ↓Wp_cons, ↓Wp_move, ↓WpMv_d, ↓WpMv_o, ↓WpMv_s, ↓Wp_cnil, ↓Wp_cval, ↓Wp_cbor, ↓Wp_call, ↓Wp_comp, ↓Wp_comp2, ↓retK_r, ↓retK_n, ↓forJ_nx, ↓forJ_cnt, ↓Wp_asDat, ↓Wp_asDatO, ↓Wp_asB, ↓Wp_tru, ↓Wp_bind, ↓Wp_ok, ↓Wp_lift, ↓Wp_ite, ↓Wp_lite, ↓Wp_aug, ↓WpAug_i, ↓Wp_dnewK, ↓Wp_dnewT, ↓Wp_putH, ↓WpPutH_d, ↓WpPutH_T, ↓Wp_put, ↓Wp_push, ↓Wp_end, ↓Wp_app, ↓WB_b, ↓Wi_true, ↓Wi_false, Wp_rIf, Wp_seq, Wp_seqN, Wp_seqR, Wp_seqB, Wp_seqC, Wp_next, Wp_brk, Wp_cnt, Wp_set, Wp_asg, Wp_ret, Wp_drop, Wp_kill, Wp_par, Wp_ifs, Wp_for, forK_nx, forK_cnt, forK_brk, forK_ret, Wp_c, Wp_var, WpVar_d, WpVar_o, Wp_view, Wp_andV, Wp_orV, Wp_chain, Wp_bin, Wp_andB, Wp_orB, Wp_yes, Wp_push0, Wp_pushN, Wp_nil, Wp_cons, Wp_move, WpMv_d, WpMv_o, WpMv_s, Wp_cnil, Wp_cval, Wp_cbor, Wp_call, Wp_comp, Wp_comp2, retK_r, retK_n, forJ_nx, forJ_cnt, Wp_asDat, Wp_asDatO, Wp_asB, Wp_tru, Wp_bind, Wp_ok, Wp_lift, Wp_ite, Wp_lite, Wp_aug, WpAug_i, Wp_dnewK, Wp_dnewT, Wp_putH, WpPutH_d, WpPutH_T, Wp_put, Wp_push, Wp_end, Wp_app, WB_b, Wi_true, Wi_false, Wq_run, argsOf_v, argsOf_b, argsOf_n, putBack_v, putBack_b, putBack_n, back_o, back_s, back_d, see_d, see_o, see_s, List.getElem?_cons_zero, List.getElem?_cons_succ, List.set_cons_zero, List.set_cons_succ, List.cons_append, List.nil_append, List.take_succ_cons, List.take_zero, List.length_cons, List.length_nil, List.dropLast_cons₂, List.dropLast_singleton, Option.getD_some, wipeE, restoreE, gN, List.replicate_zero, List.replicate_succ, Nat.reduceAdd, Nat.reduceSub, decide_eq_true_eq, Bool.true_eq_false, Bool.false_eq_true, reduceCtorEq, not_false_eq_true, see_d, see_o, see_s, ownS_o, WpAug_l, isS_d, isS_o, mkRg_l, mkRg_t, dMax2_i, dMin2_i, dIx_l, dIx_t, dAdd_i, dSub_i, dNeg_i, dMod_i, dDiv_i, dMul_r, dMul_l, dPow_18, dGtA_i, dLtA_i, dGtI_i, dLtI_i, dGeI_i, dLeI_i, dInt_i, dAbs_i, dLen_l, dLen_t, dTuple_l, dList_l, dList_t, dAdd_l, dAdd_t, tupOf_i, lstOf_i, seqOf_l, seqOf_t, range1_i, WpPut_i, WpPush_i, WpEnd_i, WpApp_i, dEq_i, dNe_i, dNe_bb, dEq_bb, bools_true, allT, isL, dCnt_s, dOnce_i, onceOf, dIs_n, dIs_b, enumOf_l, enumOf_t, zipOf_t, zipOf_l, zipD_c, zipD_n, dIsNot_n, gTup_t, gs_c, gs_n, range2_i, Option.bind_some, unpack, dRev_l, dRev_t, isInt, isBool, isTuple, isList, isStr, isN, isOwnL, dSumA_l, dSumA_t, dAll, dAny, bools, Option.map_some, List.all_cons, List.all_nil, List.any_cons, List.any_nil, id_eq, Bool.and_true, Bool.true_and, Bool.and_self, Bool.not_true, Bool.not_false, dSlice_l, dSlice_t, asI_i, decide_true, decide_false, Int.reduceLE, Int.reduceLT, Int.reduceToNat, Int.reduceNeg, Int.reduceAdd, Int.reduceSub, Int.reduceMul, Nat.reduceLeDiff, Nat.reduceLT, reduceIte, Int.reducePow, Int.cast_ofNat_Int, Int.toNat_one, Int.toNat_zero, Nat.zero_add, Nat.lt_add_one, Nat.zero_lt_succ, Int.reduceEq, Nat.reduceEqDiff, Int.toNat_natCast]
  refine Wp_forU (fun _ ρ => ∃ a b : Int, ρ = [.scr ns, cup a b, .emp, .emp, .emp, .emp, .emp, .emp, .emp, .emp, .emp]) ⟨_, _, rfl⟩ (fun i dt ρ hd hI => ?_) (fun ρ hI => ?_)
  · obtain ⟨a, b, rfl⟩ := hI
    simp only [↓Wp_rIf, ↓Wp_seq, ↓Wp_seqN, ↓Wp_seqR, ↓Wp_seqB, ↓Wp_seqC, ↓Wp_next, ↓Wp_brk, ↓Wp_cnt, ↓Wp_set, ↓Wp_asg, ↓Wp_ret, ↓Wp_drop, ↓Wp_kill, ↓Wp_par, ↓Wp_ifs, ↓Wp_for, ↓forK_nx, ↓forK_cnt, ↓forK_brk, ↓forK_ret, ↓Wp_c, ↓Wp_var, ↓WpVar_d, ↓WpVar_o, ↓Wp_view, ↓Wp_andV, ↓Wp_orV, ↓Wp_chain, ↓Wp_bin, ↓Wp_andB, ↓Wp_orB, ↓Wp_yes, ↓Wp_push0, ↓Wp_pushN, ↓Wp_nil, ↓Wp_cons, ↓Wp_move, ↓WpMv_d, ↓WpMv_o, ↓WpMv_s, ↓Wp_cnil, ↓Wp_cval, ↓Wp_cbor, ↓Wp_call, ↓Wp_comp, ↓Wp_comp2, ↓retK_r, ↓retK_n, ↓forJ_nx, ↓forJ_cnt, ↓Wp_asDat, ↓Wp_asDatO, ↓Wp_asB, ↓Wp_tru, ↓Wp_bind, ↓Wp_ok, ↓Wp_lift, ↓Wp_ite, ↓Wp_lite, ↓Wp_aug, ↓WpAug_i, ↓Wp_dnewK, ↓Wp_dnewT, ↓Wp_putH, ↓WpPutH_d, ↓WpPutH_T, ↓Wp_put, ↓Wp_push, ↓Wp_end, ↓Wp_app, ↓WB_b, ↓Wi_true, ↓Wi_false, Wp_rIf, Wp_seq, Wp_seqN, Wp_seqR, Wp_seqB, Wp_seqC, Wp_next, Wp_brk, Wp_cnt, Wp_set, Wp_asg, Wp_ret, Wp_drop, Wp_kill, Wp_par, Wp_ifs, Wp_for, forK_nx, forK_cnt, forK_brk, forK_ret, Wp_c, Wp_var, WpVar_d, WpVar_o, Wp_view, Wp_andV, Wp_orV, Wp_chain, Wp_bin, Wp_andB, Wp_orB, Wp_yes, Wp_push0, Wp_pushN, Wp_nil, Wp_cons, Wp_move, WpMv_d, WpMv_o, WpMv_s, Wp_cnil, Wp_cval, Wp_cbor, Wp_call, Wp_comp, Wp_comp2, retK_r, retK_n, forJ_nx, forJ_cnt, Wp_asDat, Wp_asDatO, Wp_asB, Wp_tru, Wp_bind, Wp_ok, Wp_lift, Wp_ite, Wp_lite, Wp_aug, WpAug_i, Wp_dnewK, Wp_dnewT, Wp_putH, WpPutH_d, WpPutH_T, Wp_put, Wp_push, Wp_end, Wp_app, WB_b, Wi_true, Wi_false, Wq_run, argsOf_v, argsOf_b, argsOf_n, putBack_v, putBack_b, putBack_n, back_o, back_s, back_d, see_d, see_o, see_s, List.getElem?_cons_zero, List.getElem?_cons_succ, List.set_cons_zero, List.set_cons_succ, List.cons_append, List.nil_append, List.take_succ_cons, List.take_zero, List.length_cons, List.length_nil, List.dropLast_cons₂, List.dropLast_singleton, Option.getD_some, wipeE, restoreE, gN, List.replicate_zero, List.replicate_succ, Nat.reduceAdd, Nat.reduceSub, decide_eq_true_eq, Bool.true_eq_false, Bool.false_eq_true, reduceCtorEq, not_false_eq_true, see_d, see_o, see_s, ownS_o, WpAug_l, isS_d, isS_o, mkRg_l, mkRg_t, dMax2_i, dMin2_i, dIx_l, dIx_t, dAdd_i, dSub_i, dNeg_i, dMod_i, dDiv_i, dMul_r, dMul_l, dPow_18, dGtA_i, dLtA_i, dGtI_i, dLtI_i, dGeI_i, dLeI_i, dInt_i, dAbs_i, dLen_l, dLen_t, dTuple_l, dList_l, dList_t, dAdd_l, dAdd_t, tupOf_i, lstOf_i, seqOf_l, seqOf_t, range1_i, WpPut_i, WpPush_i, WpEnd_i, WpApp_i, dEq_i, dNe_i, dNe_bb, dEq_bb, bools_true, allT, isL, dCnt_s, dOnce_i, onceOf, dIs_n, dIs_b, enumOf_l, enumOf_t, zipOf_t, zipOf_l, zipD_c, zipD_n, dIsNot_n, gTup_t, gs_c, gs_n, range2_i, Option.bind_some, unpack, dRev_l, dRev_t, isInt, isBool, isTuple, isList, isStr, isN, isOwnL, dSumA_l, dSumA_t, dAll, dAny, bools, Option.map_some, List.all_cons, List.all_nil, List.any_cons, List.any_nil, id_eq, Bool.and_true, Bool.true_and, Bool.and_self, Bool.not_true, Bool.not_false, dSlice_l, dSlice_t, asI_i, decide_true, decide_false, Int.reduceLE, Int.reduceLT, Int.reduceToNat, Int.reduceNeg, Int.reduceAdd, Int.reduceSub, Int.reduceMul, Nat.reduceLeDiff, Nat.reduceLT, reduceIte, Int.reducePow, Int.cast_ofNat_Int, Int.toNat_one, Int.toNat_zero, Nat.zero_add, Nat.lt_add_one, Nat.zero_lt_succ, Int.reduceEq, Nat.reduceEqDiff, Int.toNat_natCast]
    refine some_spec (by decide) (by decide) fun hi hh a b => ?_
    obtain ⟨h, rfl, h0, h9⟩ : ∃ h : Int, hi = .int h ∧ 0 ≤ h ∧ h ≤ 9 := by
      simp only [List.mem_cons, List.not_mem_nil, or_false] at hh
      rcases hh with rfl | rfl | rfl | rfl <;> exact ⟨_, rfl, by decide, by decide⟩
    clear hh
    simp only [↓Wp_rIf, ↓Wp_seq, ↓Wp_seqN, ↓Wp_seqR, ↓Wp_seqB, ↓Wp_seqC, ↓Wp_next, ↓Wp_brk, ↓Wp_cnt, ↓Wp_set, ↓Wp_asg, ↓Wp_ret, ↓Wp_drop, ↓Wp_kill, ↓Wp_par, ↓Wp_ifs, ↓Wp_for, ↓forK_nx, ↓forK_cnt, ↓forK_brk, ↓forK_ret, ↓Wp_c, ↓Wp_var, ↓WpVar_d, ↓WpVar_o, ↓Wp_view, ↓Wp_andV, ↓Wp_orV, ↓Wp_chain, ↓Wp_bin, ↓Wp_andB, ↓Wp_orB, ↓Wp_yes, ↓Wp_push0, ↓Wp_pushN, ↓Wp_nil, ↓Wp_cons, ↓Wp_move, ↓WpMv_d, ↓WpMv_o, ↓WpMv_s, ↓Wp_cnil, ↓Wp_cval, ↓Wp_cbor, ↓Wp_call, ↓Wp_comp, ↓Wp_comp2, ↓retK_r, ↓retK_n, ↓forJ_nx, ↓forJ_cnt, ↓Wp_asDat, ↓Wp_asDatO, ↓Wp_asB, ↓Wp_tru, ↓Wp_bind, ↓Wp_ok, ↓Wp_lift, ↓Wp_ite, ↓Wp_lite, ↓Wp_aug, ↓WpAug_i, ↓Wp_dnewK, ↓Wp_dnewT, ↓Wp_putH, ↓WpPutH_d, ↓WpPutH_T, ↓Wp_put, ↓Wp_push, ↓Wp_end, ↓Wp_app, ↓WB_b, ↓Wi_true, ↓Wi_false, Wp_rIf, Wp_seq, Wp_seqN, Wp_seqR, Wp_seqB, Wp_seqC, Wp_next, Wp_brk, Wp_cnt, Wp_set, Wp_asg, Wp_ret, Wp_drop, Wp_kill, Wp_par, Wp_ifs, Wp_for, forK_nx, forK_cnt, forK_brk, forK_ret, Wp_c, Wp_var, WpVar_d, WpVar_o, Wp_view, Wp_andV, Wp_orV, Wp_chain, Wp_bin, Wp_andB, Wp_orB, Wp_yes, Wp_push0, Wp_pushN, Wp_nil, Wp_cons, Wp_move, WpMv_d, WpMv_o, WpMv_s, Wp_cnil, Wp_cval, Wp_cbor, Wp_call, Wp_comp, Wp_comp2, retK_r, retK_n, forJ_nx, forJ_cnt, Wp_asDat, Wp_asDatO, Wp_asB, Wp_tru, Wp_bind, Wp_ok, Wp_lift, Wp_ite, Wp_lite, Wp_aug, WpAug_i, Wp_dnewK, Wp_dnewT, Wp_putH, WpPutH_d, WpPutH_T, Wp_put, Wp_push, Wp_end, Wp_app, WB_b, Wi_true, Wi_false, Wq_run, argsOf_v, argsOf_b, argsOf_n, putBack_v, putBack_b, putBack_n, back_o, back_s, back_d, see_d, see_o, see_s, List.getElem?_cons_zero, List.getElem?_cons_succ, List.set_cons_zero, List.set_cons_succ, List.cons_append, List.nil_append, List.take_succ_cons, List.take_zero, List.length_cons, List.length_nil, List.dropLast_cons₂, List.dropLast_singleton, Option.getD_some, wipeE, restoreE, gN, List.replicate_zero, List.replicate_succ, Nat.reduceAdd, Nat.reduceSub, decide_eq_true_eq, Bool.true_eq_false, Bool.false_eq_true, reduceCtorEq, not_false_eq_true, see_d, see_o, see_s, ownS_o, WpAug_l, isS_d, isS_o, mkRg_l, mkRg_t, dMax2_i, dMin2_i, dIx_l, dIx_t, dAdd_i, dSub_i, dNeg_i, dMod_i, dDiv_i, dMul_r, dMul_l, dPow_18, dGtA_i, dLtA_i, dGtI_i, dLtI_i, dGeI_i, dLeI_i, dInt_i, dAbs_i, dLen_l, dLen_t, dTuple_l, dList_l, dList_t, dAdd_l, dAdd_t, tupOf_i, lstOf_i, seqOf_l, seqOf_t, range1_i, WpPut_i, WpPush_i, WpEnd_i, WpApp_i, dEq_i, dNe_i, dNe_bb, dEq_bb, bools_true, allT, isL, dCnt_s, dOnce_i, onceOf, dIs_n, dIs_b, enumOf_l, enumOf_t, zipOf_t, zipOf_l, zipD_c, zipD_n, dIsNot_n, gTup_t, gs_c, gs_n, range2_i, Option.bind_some, unpack, dRev_l, dRev_t, isInt, isBool, isTuple, isList, isStr, isN, isOwnL, dSumA_l, dSumA_t, dAll, dAny, bools, Option.map_some, List.all_cons, List.all_nil, List.any_cons, List.any_nil, id_eq, Bool.and_true, Bool.true_and, Bool.and_self, Bool.not_true, Bool.not_false, dSlice_l, dSlice_t, asI_i, decide_true, decide_false, Int.reduceLE, Int.reduceLT, Int.reduceToNat, Int.reduceNeg, Int.reduceAdd, Int.reduceSub, Int.reduceMul, Nat.reduceLeDiff, Nat.reduceLT, reduceIte, Int.reducePow, Int.cast_ofNat_Int, Int.toNat_one, Int.toNat_zero, Nat.zero_add, Nat.lt_add_one, Nat.zero_lt_succ, Int.reduceEq, Nat.reduceEqDiff, Int.toNat_natCast]
    refine law_set_spec (by decide) (by decide) h0 (by omega) fun qs a b l0 l1 hq => ?_
    have z : GoodS qs := ⟨l0, by omega, fun q hm => by have := hq q hm; unfold inQ inP at this ⊢; omega⟩
    have sq : ∀ {ρ : Ev} {Q : List PyData → Ev → Prop}, Wp Q (seqOf (SD qs) ρ) = Q (qs.map pcD) ρ := seqOf_t
    simp only [↓Wp_rIf, ↓Wp_seq, ↓Wp_seqN, ↓Wp_seqR, ↓Wp_seqB, ↓Wp_seqC, ↓Wp_next, ↓Wp_brk, ↓Wp_cnt, ↓Wp_set, ↓Wp_asg, ↓Wp_ret, ↓Wp_drop, ↓Wp_kill, ↓Wp_par, ↓Wp_ifs, ↓Wp_for, ↓forK_nx, ↓forK_cnt, ↓forK_brk, ↓forK_ret, ↓Wp_c, ↓Wp_var, ↓WpVar_d, ↓WpVar_o, ↓Wp_view, ↓Wp_andV, ↓Wp_orV, ↓Wp_chain, ↓Wp_bin, ↓Wp_andB, ↓Wp_orB, ↓Wp_yes, ↓Wp_push0, ↓Wp_pushN, ↓Wp_nil, ↓Wp_cons, ↓Wp_move, ↓WpMv_d, ↓WpMv_o, ↓WpMv_s, ↓Wp_cnil, ↓Wp_cval, ↓Wp_cbor, ↓Wp_call, ↓Wp_comp, ↓Wp_comp2, ↓retK_r, ↓retK_n, ↓forJ_nx, ↓forJ_cnt, ↓Wp_asDat, ↓Wp_asDatO, ↓Wp_asB, ↓Wp_tru, ↓Wp_bind, ↓Wp_ok, ↓Wp_lift, ↓Wp_ite, ↓Wp_lite, ↓Wp_aug, ↓WpAug_i, ↓Wp_dnewK, ↓Wp_dnewT, ↓Wp_putH, ↓WpPutH_d, ↓WpPutH_T, ↓Wp_put, ↓Wp_push, ↓Wp_end, ↓Wp_app, ↓WB_b, ↓Wi_true, ↓Wi_false, Wp_rIf, Wp_seq, Wp_seqN, Wp_seqR, Wp_seqB, Wp_seqC, Wp_next, Wp_brk, Wp_cnt, Wp_set, Wp_asg, Wp_ret, Wp_drop, Wp_kill, Wp_par, Wp_ifs, Wp_for, forK_nx, forK_cnt, forK_brk, forK_ret, Wp_c, Wp_var, WpVar_d, WpVar_o, Wp_view, Wp_andV, Wp_orV, Wp_chain, Wp_bin, Wp_andB, Wp_orB, Wp_yes, Wp_push0, Wp_pushN, Wp_nil, Wp_cons, Wp_move, WpMv_d, WpMv_o, WpMv_s, Wp_cnil, Wp_cval, Wp_cbor, Wp_call, Wp_comp, Wp_comp2, retK_r, retK_n, forJ_nx, forJ_cnt, Wp_asDat, Wp_asDatO, Wp_asB, Wp_tru, Wp_bind, Wp_ok, Wp_lift, Wp_ite, Wp_lite, Wp_aug, WpAug_i, Wp_dnewK, Wp_dnewT, Wp_putH, WpPutH_d, WpPutH_T, Wp_put, Wp_push, Wp_end, Wp_app, WB_b, Wi_true, Wi_false, Wq_run, argsOf_v, argsOf_b, argsOf_n, putBack_v, putBack_b, putBack_n, back_o, back_s, back_d, see_d, see_o, see_s, List.getElem?_cons_zero, List.getElem?_cons_succ, List.set_cons_zero, List.set_cons_succ, List.cons_append, List.nil_append, List.take_succ_cons, List.take_zero, List.length_cons, List.length_nil, List.dropLast_cons₂, List.dropLast_singleton, Option.getD_some, wipeE, restoreE, gN, List.replicate_zero, List.replicate_succ, Nat.reduceAdd, Nat.reduceSub, decide_eq_true_eq, Bool.true_eq_false, Bool.false_eq_true, reduceCtorEq, not_false_eq_true, see_d, see_o, see_s, ownS_o, WpAug_l, isS_d, isS_o, mkRg_l, mkRg_t, dMax2_i, dMin2_i, dIx_l, dIx_t, dAdd_i, dSub_i, dNeg_i, dMod_i, dDiv_i, dMul_r, dMul_l, dPow_18, dGtA_i, dLtA_i, dGtI_i, dLtI_i, dGeI_i, dLeI_i, dInt_i, dAbs_i, dLen_l, dLen_t, dTuple_l, dList_l, dList_t, dAdd_l, dAdd_t, tupOf_i, lstOf_i, seqOf_l, seqOf_t, range1_i, WpPut_i, WpPush_i, WpEnd_i, WpApp_i, dEq_i, dNe_i, dNe_bb, dEq_bb, bools_true, allT, isL, dCnt_s, dOnce_i, onceOf, dIs_n, dIs_b, enumOf_l, enumOf_t, zipOf_t, zipOf_l, zipD_c, zipD_n, dIsNot_n, gTup_t, gs_c, gs_n, range2_i, Option.bind_some, unpack, dRev_l, dRev_t, isInt, isBool, isTuple, isList, isStr, isN, isOwnL, dSumA_l, dSumA_t, dAll, dAny, bools, Option.map_some, List.all_cons, List.all_nil, List.any_cons, List.any_nil, id_eq, Bool.and_true, Bool.true_and, Bool.and_self, Bool.not_true, Bool.not_false, dSlice_l, dSlice_t, asI_i, decide_true, decide_false, Int.reduceLE, Int.reduceLT, Int.reduceToNat, Int.reduceNeg, Int.reduceAdd, Int.reduceSub, Int.reduceMul, Nat.reduceLeDiff, Nat.reduceLT, reduceIte, Int.reducePow, Int.cast_ofNat_Int, Int.toNat_one, Int.toNat_zero, Nat.zero_add, Nat.lt_add_one, Nat.zero_lt_succ, Int.reduceEq, Nat.reduceEqDiff, Int.toNat_natCast, sq]
    refine Wp_forU (fun i ρ => ∃ kvs, Dc kvs ((qs.take i).map kS) ∧ ρ = [.scr ns, cup a b, .dat dt, .dat (SD qs), .own (.dict kvs), .emp, .emp, .emp, .emp, .emp, .emp]) ⟨_, Dc_nil, rfl⟩ (fun i dt ρ hd hI => ?_) (fun ρ hI => ?_)
    · obtain ⟨kvs, hD, rfl⟩ := hI
      rw [List.getElem?_map] at hd
      obtain ⟨q, hqi, rfl⟩ := Option.map_eq_some_iff.mp hd
      have zq := z.ok q (List.mem_of_getElem? hqi)
      have zr : inQ 9 (rotQ 1 q) := rotQ_in zq
      have hlen : kvs.length < 16777216 := by
        have h1 := hD.len
        rw [List.length_map, List.length_take] at h1
        have := z.le
        omega
      have hg : dGetO (.dict kvs) (.str (kS q)) = some (lookD keyK kvs (.inr (kS q))) := getK' hD.t rfl
      have ha := hD.at_ (kS q)
      have hp := putK' (v := .int ((((qs.take i).map kS).count (kS q) : Nat) + 1)) (d := .str (kS q)) (k := .inr (kS q)) hD.t rfl hlen
      have tq : ∀ Q, Wm M.m_turned Q [.dat (pcD q), .dat (.int 1)] = Q (.dat (pcD (rotQ 1 q))) [.dat (pcD q), .dat (.int 1)] := fun Q => turned_eq zq 1 (by decide)
      simp only [↓Wp_rIf, ↓Wp_seq, ↓Wp_seqN, ↓Wp_seqR, ↓Wp_seqB, ↓Wp_seqC, ↓Wp_next, ↓Wp_brk, ↓Wp_cnt, ↓Wp_set, ↓Wp_asg, ↓Wp_ret, ↓Wp_drop, ↓Wp_kill, ↓Wp_par, ↓Wp_ifs, ↓Wp_for, ↓forK_nx, ↓forK_cnt, ↓forK_brk, ↓forK_ret, ↓Wp_c, ↓Wp_var, ↓WpVar_d, ↓WpVar_o, ↓Wp_view, ↓Wp_andV, ↓Wp_orV, ↓Wp_chain, ↓Wp_bin, ↓Wp_andB, ↓Wp_orB, ↓Wp_yes, ↓Wp_push0, ↓Wp_pushN, ↓Wp_nil, ↓Wp_cons, ↓Wp_move, ↓WpMv_d, ↓WpMv_o, ↓WpMv_s, ↓Wp_cnil, ↓Wp_cval, ↓Wp_cbor, ↓Wp_call, ↓Wp_comp, ↓Wp_comp2, ↓retK_r, ↓retK_n, ↓forJ_nx, ↓forJ_cnt, ↓Wp_asDat, ↓Wp_asDatO, ↓Wp_asB, ↓Wp_tru, ↓Wp_bind, ↓Wp_ok, ↓Wp_lift, ↓Wp_ite, ↓Wp_lite, ↓Wp_aug, ↓WpAug_i, ↓Wp_dnewK, ↓Wp_dnewT, ↓Wp_putH, ↓WpPutH_d, ↓WpPutH_T, ↓Wp_put, ↓Wp_push, ↓Wp_end, ↓Wp_app, ↓WB_b, ↓Wi_true, ↓Wi_false, Wp_rIf, Wp_seq, Wp_seqN, Wp_seqR, Wp_seqB, Wp_seqC, Wp_next, Wp_brk, Wp_cnt, Wp_set, Wp_asg, Wp_ret, Wp_drop, Wp_kill, Wp_par, Wp_ifs, Wp_for, forK_nx, forK_cnt, forK_brk, forK_ret, Wp_c, Wp_var, WpVar_d, WpVar_o, Wp_view, Wp_andV, Wp_orV, Wp_chain, Wp_bin, Wp_andB, Wp_orB, Wp_yes, Wp_push0, Wp_pushN, Wp_nil, Wp_cons, Wp_move, WpMv_d, WpMv_o, WpMv_s, Wp_cnil, Wp_cval, Wp_cbor, Wp_call, Wp_comp, Wp_comp2, retK_r, retK_n, forJ_nx, forJ_cnt, Wp_asDat, Wp_asDatO, Wp_asB, Wp_tru, Wp_bind, Wp_ok, Wp_lift, Wp_ite, Wp_lite, Wp_aug, WpAug_i, Wp_dnewK, Wp_dnewT, Wp_putH, WpPutH_d, WpPutH_T, Wp_put, Wp_push, Wp_end, Wp_app, WB_b, Wi_true, Wi_false, Wq_run, argsOf_v, argsOf_b, argsOf_n, putBack_v, putBack_b, putBack_n, back_o, back_s, back_d, see_d, see_o, see_s, List.getElem?_cons_zero, List.getElem?_cons_succ, List.set_cons_zero, List.set_cons_succ, List.cons_append, List.nil_append, List.take_succ_cons, List.take_zero, List.length_cons, List.length_nil, List.dropLast_cons₂, List.dropLast_singleton, Option.getD_some, wipeE, restoreE, gN, List.replicate_zero, List.replicate_succ, Nat.reduceAdd, Nat.reduceSub, decide_eq_true_eq, Bool.true_eq_false, Bool.false_eq_true, reduceCtorEq, not_false_eq_true, see_d, see_o, see_s, ownS_o, WpAug_l, isS_d, isS_o, mkRg_l, mkRg_t, dMax2_i, dMin2_i, dIx_l, dIx_t, dAdd_i, dSub_i, dNeg_i, dMod_i, dDiv_i, dMul_r, dMul_l, dPow_18, dGtA_i, dLtA_i, dGtI_i, dLtI_i, dGeI_i, dLeI_i, dInt_i, dAbs_i, dLen_l, dLen_t, dTuple_l, dList_l, dList_t, dAdd_l, dAdd_t, tupOf_i, lstOf_i, seqOf_l, seqOf_t, range1_i, WpPut_i, WpPush_i, WpEnd_i, WpApp_i, dEq_i, dNe_i, dNe_bb, dEq_bb, bools_true, allT, isL, dCnt_s, dOnce_i, onceOf, dIs_n, dIs_b, enumOf_l, enumOf_t, zipOf_t, zipOf_l, zipD_c, zipD_n, dIsNot_n, gTup_t, gs_c, gs_n, range2_i, Option.bind_some, unpack, dRev_l, dRev_t, isInt, isBool, isTuple, isList, isStr, isN, isOwnL, dSumA_l, dSumA_t, dAll, dAny, bools, Option.map_some, List.all_cons, List.all_nil, List.any_cons, List.any_nil, id_eq, Bool.and_true, Bool.true_and, Bool.and_self, Bool.not_true, Bool.not_false, dSlice_l, dSlice_t, asI_i, decide_true, decide_false, Int.reduceLE, Int.reduceLT, Int.reduceToNat, Int.reduceNeg, Int.reduceAdd, Int.reduceSub, Int.reduceMul, Nat.reduceLeDiff, Nat.reduceLT, reduceIte, Int.reducePow, Int.cast_ofNat_Int, Int.toNat_one, Int.toNat_zero, Nat.zero_add, Nat.lt_add_one, Nat.zero_lt_succ, Int.reduceEq, Nat.reduceEqDiff, Int.toNat_natCast, law_kind_eq, rDGet2, hg, ha, hp]
      refine go_auto (hm := rfl) (hL := rfl) (hk := rfl) (p := pF q) (f := id) (hl := by rw [upto4]; decide) (hs := fun e he acc => ?_) (q := ?_)
      · obtain ⟨k, hk, rfl⟩ := upto_mem (n := 4) he
        simp only [↓Wp_rIf, ↓Wp_seq, ↓Wp_seqN, ↓Wp_seqR, ↓Wp_seqB, ↓Wp_seqC, ↓Wp_next, ↓Wp_brk, ↓Wp_cnt, ↓Wp_set, ↓Wp_asg, ↓Wp_ret, ↓Wp_drop, ↓Wp_kill, ↓Wp_par, ↓Wp_ifs, ↓Wp_for, ↓forK_nx, ↓forK_cnt, ↓forK_brk, ↓forK_ret, ↓Wp_c, ↓Wp_var, ↓WpVar_d, ↓WpVar_o, ↓Wp_view, ↓Wp_andV, ↓Wp_orV, ↓Wp_chain, ↓Wp_bin, ↓Wp_andB, ↓Wp_orB, ↓Wp_yes, ↓Wp_push0, ↓Wp_pushN, ↓Wp_nil, ↓Wp_cons, ↓Wp_move, ↓WpMv_d, ↓WpMv_o, ↓WpMv_s, ↓Wp_cnil, ↓Wp_cval, ↓Wp_cbor, ↓Wp_call, ↓Wp_comp, ↓Wp_comp2, ↓retK_r, ↓retK_n, ↓forJ_nx, ↓forJ_cnt, ↓Wp_asDat, ↓Wp_asDatO, ↓Wp_asB, ↓Wp_tru, ↓Wp_bind, ↓Wp_ok, ↓Wp_lift, ↓Wp_ite, ↓Wp_lite, ↓Wp_aug, ↓WpAug_i, ↓Wp_dnewK, ↓Wp_dnewT, ↓Wp_putH, ↓WpPutH_d, ↓WpPutH_T, ↓Wp_put, ↓Wp_push, ↓Wp_end, ↓Wp_app, ↓WB_b, ↓Wi_true, ↓Wi_false, Wp_rIf, Wp_seq, Wp_seqN, Wp_seqR, Wp_seqB, Wp_seqC, Wp_next, Wp_brk, Wp_cnt, Wp_set, Wp_asg, Wp_ret, Wp_drop, Wp_kill, Wp_par, Wp_ifs, Wp_for, forK_nx, forK_cnt, forK_brk, forK_ret, Wp_c, Wp_var, WpVar_d, WpVar_o, Wp_view, Wp_andV, Wp_orV, Wp_chain, Wp_bin, Wp_andB, Wp_orB, Wp_yes, Wp_push0, Wp_pushN, Wp_nil, Wp_cons, Wp_move, WpMv_d, WpMv_o, WpMv_s, Wp_cnil, Wp_cval, Wp_cbor, Wp_call, Wp_comp, Wp_comp2, retK_r, retK_n, forJ_nx, forJ_cnt, Wp_asDat, Wp_asDatO, Wp_asB, Wp_tru, Wp_bind, Wp_ok, Wp_lift, Wp_ite, Wp_lite, Wp_aug, WpAug_i, Wp_dnewK, Wp_dnewT, Wp_putH, WpPutH_d, WpPutH_T, Wp_put, Wp_push, Wp_end, Wp_app, WB_b, Wi_true, Wi_false, Wq_run, argsOf_v, argsOf_b, argsOf_n, putBack_v, putBack_b, putBack_n, back_o, back_s, back_d, see_d, see_o, see_s, List.getElem?_cons_zero, List.getElem?_cons_succ, List.set_cons_zero, List.set_cons_succ, List.cons_append, List.nil_append, List.take_succ_cons, List.take_zero, List.length_cons, List.length_nil, List.dropLast_cons₂, List.dropLast_singleton, Option.getD_some, wipeE, restoreE, gN, List.replicate_zero, List.replicate_succ, Nat.reduceAdd, Nat.reduceSub, decide_eq_true_eq, Bool.true_eq_false, Bool.false_eq_true, reduceCtorEq, not_false_eq_true, see_d, see_o, see_s, ownS_o, WpAug_l, isS_d, isS_o, mkRg_l, mkRg_t, dMax2_i, dMin2_i, dIx_l, dIx_t, dAdd_i, dSub_i, dNeg_i, dMod_i, dDiv_i, dMul_r, dMul_l, dPow_18, dGtA_i, dLtA_i, dGtI_i, dLtI_i, dGeI_i, dLeI_i, dInt_i, dAbs_i, dLen_l, dLen_t, dTuple_l, dList_l, dList_t, dAdd_l, dAdd_t, tupOf_i, lstOf_i, seqOf_l, seqOf_t, range1_i, WpPut_i, WpPush_i, WpEnd_i, WpApp_i, dEq_i, dNe_i, dNe_bb, dEq_bb, bools_true, allT, isL, dCnt_s, dOnce_i, onceOf, dIs_n, dIs_b, enumOf_l, enumOf_t, zipOf_t, zipOf_l, zipD_c, zipD_n, dIsNot_n, gTup_t, gs_c, gs_n, range2_i, Option.bind_some, unpack, dRev_l, dRev_t, isInt, isBool, isTuple, isList, isStr, isN, isOwnL, dSumA_l, dSumA_t, dAll, dAny, bools, Option.map_some, List.all_cons, List.all_nil, List.any_cons, List.any_nil, id_eq, Bool.and_true, Bool.true_and, Bool.and_self, Bool.not_true, Bool.not_false, dSlice_l, dSlice_t, asI_i, decide_true, decide_false, Int.reduceLE, Int.reduceLT, Int.reduceToNat, Int.reduceNeg, Int.reduceAdd, Int.reduceSub, Int.reduceMul, Nat.reduceLeDiff, Nat.reduceLT, reduceIte, Int.reducePow, Int.cast_ofNat_Int, Int.toNat_one, Int.toNat_zero, Nat.zero_add, Nat.lt_add_one, Nat.zero_lt_succ, Int.reduceEq, Nat.reduceEqDiff, Int.toNat_natCast, pcx hk]
        exact ⟨rfl, fun _ => by first | exact rfl | exact trivial, fun _ => ⟨by first | exact rfl | exact trivial, by first | exact rfl | exact trivial, by first | exact rfl | exact trivial⟩⟩
      have sf : ∀ {ρ : Ev} {Q : List PyData → Ev → Prop}, Wp Q (seqOf (tI (fsQ q)) ρ) = Q ((fsQ q).map .int) ρ := seqOf_t
      simp only [↓Wp_rIf, ↓Wp_seq, ↓Wp_seqN, ↓Wp_seqR, ↓Wp_seqB, ↓Wp_seqC, ↓Wp_next, ↓Wp_brk, ↓Wp_cnt, ↓Wp_set, ↓Wp_asg, ↓Wp_ret, ↓Wp_drop, ↓Wp_kill, ↓Wp_par, ↓Wp_ifs, ↓Wp_for, ↓forK_nx, ↓forK_cnt, ↓forK_brk, ↓forK_ret, ↓Wp_c, ↓Wp_var, ↓WpVar_d, ↓WpVar_o, ↓Wp_view, ↓Wp_andV, ↓Wp_orV, ↓Wp_chain, ↓Wp_bin, ↓Wp_andB, ↓Wp_orB, ↓Wp_yes, ↓Wp_push0, ↓Wp_pushN, ↓Wp_nil, ↓Wp_cons, ↓Wp_move, ↓WpMv_d, ↓WpMv_o, ↓WpMv_s, ↓Wp_cnil, ↓Wp_cval, ↓Wp_cbor, ↓Wp_call, ↓Wp_comp, ↓Wp_comp2, ↓retK_r, ↓retK_n, ↓forJ_nx, ↓forJ_cnt, ↓Wp_asDat, ↓Wp_asDatO, ↓Wp_asB, ↓Wp_tru, ↓Wp_bind, ↓Wp_ok, ↓Wp_lift, ↓Wp_ite, ↓Wp_lite, ↓Wp_aug, ↓WpAug_i, ↓Wp_dnewK, ↓Wp_dnewT, ↓Wp_putH, ↓WpPutH_d, ↓WpPutH_T, ↓Wp_put, ↓Wp_push, ↓Wp_end, ↓Wp_app, ↓WB_b, ↓Wi_true, ↓Wi_false, Wp_rIf, Wp_seq, Wp_seqN, Wp_seqR, Wp_seqB, Wp_seqC, Wp_next, Wp_brk, Wp_cnt, Wp_set, Wp_asg, Wp_ret, Wp_drop, Wp_kill, Wp_par, Wp_ifs, Wp_for, forK_nx, forK_cnt, forK_brk, forK_ret, Wp_c, Wp_var, WpVar_d, WpVar_o, Wp_view, Wp_andV, Wp_orV, Wp_chain, Wp_bin, Wp_andB, Wp_orB, Wp_yes, Wp_push0, Wp_pushN, Wp_nil, Wp_cons, Wp_move, WpMv_d, WpMv_o, WpMv_s, Wp_cnil, Wp_cval, Wp_cbor, Wp_call, Wp_comp, Wp_comp2, retK_r, retK_n, forJ_nx, forJ_cnt, Wp_asDat, Wp_asDatO, Wp_asB, Wp_tru, Wp_bind, Wp_ok, Wp_lift, Wp_ite, Wp_lite, Wp_aug, WpAug_i, Wp_dnewK, Wp_dnewT, Wp_putH, WpPutH_d, WpPutH_T, Wp_put, Wp_push, Wp_end, Wp_app, WB_b, Wi_true, Wi_false, Wq_run, argsOf_v, argsOf_b, argsOf_n, putBack_v, putBack_b, putBack_n, back_o, back_s, back_d, see_d, see_o, see_s, List.getElem?_cons_zero, List.getElem?_cons_succ, List.set_cons_zero, List.set_cons_succ, List.cons_append, List.nil_append, List.take_succ_cons, List.take_zero, List.length_cons, List.length_nil, List.dropLast_cons₂, List.dropLast_singleton, Option.getD_some, wipeE, restoreE, gN, List.replicate_zero, List.replicate_succ, Nat.reduceAdd, Nat.reduceSub, decide_eq_true_eq, Bool.true_eq_false, Bool.false_eq_true, reduceCtorEq, not_false_eq_true, see_d, see_o, see_s, ownS_o, WpAug_l, isS_d, isS_o, mkRg_l, mkRg_t, dMax2_i, dMin2_i, dIx_l, dIx_t, dAdd_i, dSub_i, dNeg_i, dMod_i, dDiv_i, dMul_r, dMul_l, dPow_18, dGtA_i, dLtA_i, dGtI_i, dLtI_i, dGeI_i, dLeI_i, dInt_i, dAbs_i, dLen_l, dLen_t, dTuple_l, dList_l, dList_t, dAdd_l, dAdd_t, tupOf_i, lstOf_i, seqOf_l, seqOf_t, range1_i, WpPut_i, WpPush_i, WpEnd_i, WpApp_i, dEq_i, dNe_i, dNe_bb, dEq_bb, bools_true, allT, isL, dCnt_s, dOnce_i, onceOf, dIs_n, dIs_b, enumOf_l, enumOf_t, zipOf_t, zipOf_l, zipD_c, zipD_n, dIsNot_n, gTup_t, gs_c, gs_n, range2_i, Option.bind_some, unpack, dRev_l, dRev_t, isInt, isBool, isTuple, isList, isStr, isN, isOwnL, dSumA_l, dSumA_t, dAll, dAny, bools, Option.map_some, List.all_cons, List.all_nil, List.any_cons, List.any_nil, id_eq, Bool.and_true, Bool.true_and, Bool.and_self, Bool.not_true, Bool.not_false, dSlice_l, dSlice_t, asI_i, decide_true, decide_false, Int.reduceLE, Int.reduceLT, Int.reduceToNat, Int.reduceNeg, Int.reduceAdd, Int.reduceSub, Int.reduceMul, Nat.reduceLeDiff, Nat.reduceLT, reduceIte, Int.reducePow, Int.cast_ofNat_Int, Int.toNat_one, Int.toNat_zero, Nat.zero_add, Nat.lt_add_one, Nat.zero_lt_succ, Int.reduceEq, Nat.reduceEqDiff, Int.toNat_natCast, filtF, tI_fold, kind_of_eq zq, kind_of_eq zr, flat_sides_eq zq, flat_sides_eq zr, tq, kS_rot1, same_trip, sf]
      refine go_auto (hm := rfl) (hL := rfl) (hk := rfl) (p := fun _ => true) (f := fU) (hl := by rw [List.length_map]; exact Nat.le_trans fs_le (by decide)) (hs := fun e he acc => ?_) (q := ?_)
      · obtain ⟨s, hs, rfl⟩ := List.mem_map.mp he
        simp only [↓Wp_rIf, ↓Wp_seq, ↓Wp_seqN, ↓Wp_seqR, ↓Wp_seqB, ↓Wp_seqC, ↓Wp_next, ↓Wp_brk, ↓Wp_cnt, ↓Wp_set, ↓Wp_asg, ↓Wp_ret, ↓Wp_drop, ↓Wp_kill, ↓Wp_par, ↓Wp_ifs, ↓Wp_for, ↓forK_nx, ↓forK_cnt, ↓forK_brk, ↓forK_ret, ↓Wp_c, ↓Wp_var, ↓WpVar_d, ↓WpVar_o, ↓Wp_view, ↓Wp_andV, ↓Wp_orV, ↓Wp_chain, ↓Wp_bin, ↓Wp_andB, ↓Wp_orB, ↓Wp_yes, ↓Wp_push0, ↓Wp_pushN, ↓Wp_nil, ↓Wp_cons, ↓Wp_move, ↓WpMv_d, ↓WpMv_o, ↓WpMv_s, ↓Wp_cnil, ↓Wp_cval, ↓Wp_cbor, ↓Wp_call, ↓Wp_comp, ↓Wp_comp2, ↓retK_r, ↓retK_n, ↓forJ_nx, ↓forJ_cnt, ↓Wp_asDat, ↓Wp_asDatO, ↓Wp_asB, ↓Wp_tru, ↓Wp_bind, ↓Wp_ok, ↓Wp_lift, ↓Wp_ite, ↓Wp_lite, ↓Wp_aug, ↓WpAug_i, ↓Wp_dnewK, ↓Wp_dnewT, ↓Wp_putH, ↓WpPutH_d, ↓WpPutH_T, ↓Wp_put, ↓Wp_push, ↓Wp_end, ↓Wp_app, ↓WB_b, ↓Wi_true, ↓Wi_false, Wp_rIf, Wp_seq, Wp_seqN, Wp_seqR, Wp_seqB, Wp_seqC, Wp_next, Wp_brk, Wp_cnt, Wp_set, Wp_asg, Wp_ret, Wp_drop, Wp_kill, Wp_par, Wp_ifs, Wp_for, forK_nx, forK_cnt, forK_brk, forK_ret, Wp_c, Wp_var, WpVar_d, WpVar_o, Wp_view, Wp_andV, Wp_orV, Wp_chain, Wp_bin, Wp_andB, Wp_orB, Wp_yes, Wp_push0, Wp_pushN, Wp_nil, Wp_cons, Wp_move, WpMv_d, WpMv_o, WpMv_s, Wp_cnil, Wp_cval, Wp_cbor, Wp_call, Wp_comp, Wp_comp2, retK_r, retK_n, forJ_nx, forJ_cnt, Wp_asDat, Wp_asDatO, Wp_asB, Wp_tru, Wp_bind, Wp_ok, Wp_lift, Wp_ite, Wp_lite, Wp_aug, WpAug_i, Wp_dnewK, Wp_dnewT, Wp_putH, WpPutH_d, WpPutH_T, Wp_put, Wp_push, Wp_end, Wp_app, WB_b, Wi_true, Wi_false, Wq_run, argsOf_v, argsOf_b, argsOf_n, putBack_v, putBack_b, putBack_n, back_o, back_s, back_d, see_d, see_o, see_s, List.getElem?_cons_zero, List.getElem?_cons_succ, List.set_cons_zero, List.set_cons_succ, List.cons_append, List.nil_append, List.take_succ_cons, List.take_zero, List.length_cons, List.length_nil, List.dropLast_cons₂, List.dropLast_singleton, Option.getD_some, wipeE, restoreE, gN, List.replicate_zero, List.replicate_succ, Nat.reduceAdd, Nat.reduceSub, decide_eq_true_eq, Bool.true_eq_false, Bool.false_eq_true, reduceCtorEq, not_false_eq_true, see_d, see_o, see_s, ownS_o, WpAug_l, isS_d, isS_o, mkRg_l, mkRg_t, dMax2_i, dMin2_i, dIx_l, dIx_t, dAdd_i, dSub_i, dNeg_i, dMod_i, dDiv_i, dMul_r, dMul_l, dPow_18, dGtA_i, dLtA_i, dGtI_i, dLtI_i, dGeI_i, dLeI_i, dInt_i, dAbs_i, dLen_l, dLen_t, dTuple_l, dList_l, dList_t, dAdd_l, dAdd_t, tupOf_i, lstOf_i, seqOf_l, seqOf_t, range1_i, WpPut_i, WpPush_i, WpEnd_i, WpApp_i, dEq_i, dNe_i, dNe_bb, dEq_bb, bools_true, allT, isL, dCnt_s, dOnce_i, onceOf, dIs_n, dIs_b, enumOf_l, enumOf_t, zipOf_t, zipOf_l, zipD_c, zipD_n, dIsNot_n, gTup_t, gs_c, gs_n, range2_i, Option.bind_some, unpack, dRev_l, dRev_t, isInt, isBool, isTuple, isList, isStr, isN, isOwnL, dSumA_l, dSumA_t, dAll, dAny, bools, Option.map_some, List.all_cons, List.all_nil, List.any_cons, List.any_nil, id_eq, Bool.and_true, Bool.true_and, Bool.and_self, Bool.not_true, Bool.not_false, dSlice_l, dSlice_t, asI_i, decide_true, decide_false, Int.reduceLE, Int.reduceLT, Int.reduceToNat, Int.reduceNeg, Int.reduceAdd, Int.reduceSub, Int.reduceMul, Nat.reduceLeDiff, Nat.reduceLT, reduceIte, Int.reducePow, Int.cast_ofNat_Int, Int.toNat_one, Int.toNat_zero, Nat.zero_add, Nat.lt_add_one, Nat.zero_lt_succ, Int.reduceEq, Nat.reduceEqDiff, Int.toNat_natCast]
        exact ⟨by first | exact trivial | exact rfl, fun _ => by first | exact rfl | exact trivial, fun _ => ⟨by first | exact rfl | exact trivial, by first | exact rfl | exact trivial, by first | exact rfl | exact trivial⟩⟩
      have so : dSorted [.list (((fsQ q).map .int).map fU)] = some (.own (.list ((fsQ (rotQ 1 q)).map .int))) := by
        rw [ints_fU, fs_rot]
        exact fs_sorted
      simp only [↓Wp_rIf, ↓Wp_seq, ↓Wp_seqN, ↓Wp_seqR, ↓Wp_seqB, ↓Wp_seqC, ↓Wp_next, ↓Wp_brk, ↓Wp_cnt, ↓Wp_set, ↓Wp_asg, ↓Wp_ret, ↓Wp_drop, ↓Wp_kill, ↓Wp_par, ↓Wp_ifs, ↓Wp_for, ↓forK_nx, ↓forK_cnt, ↓forK_brk, ↓forK_ret, ↓Wp_c, ↓Wp_var, ↓WpVar_d, ↓WpVar_o, ↓Wp_view, ↓Wp_andV, ↓Wp_orV, ↓Wp_chain, ↓Wp_bin, ↓Wp_andB, ↓Wp_orB, ↓Wp_yes, ↓Wp_push0, ↓Wp_pushN, ↓Wp_nil, ↓Wp_cons, ↓Wp_move, ↓WpMv_d, ↓WpMv_o, ↓WpMv_s, ↓Wp_cnil, ↓Wp_cval, ↓Wp_cbor, ↓Wp_call, ↓Wp_comp, ↓Wp_comp2, ↓retK_r, ↓retK_n, ↓forJ_nx, ↓forJ_cnt, ↓Wp_asDat, ↓Wp_asDatO, ↓Wp_asB, ↓Wp_tru, ↓Wp_bind, ↓Wp_ok, ↓Wp_lift, ↓Wp_ite, ↓Wp_lite, ↓Wp_aug, ↓WpAug_i, ↓Wp_dnewK, ↓Wp_dnewT, ↓Wp_putH, ↓WpPutH_d, ↓WpPutH_T, ↓Wp_put, ↓Wp_push, ↓Wp_end, ↓Wp_app, ↓WB_b, ↓Wi_true, ↓Wi_false, Wp_rIf, Wp_seq, Wp_seqN, Wp_seqR, Wp_seqB, Wp_seqC, Wp_next, Wp_brk, Wp_cnt, Wp_set, Wp_asg, Wp_ret, Wp_drop, Wp_kill, Wp_par, Wp_ifs, Wp_for, forK_nx, forK_cnt, forK_brk, forK_ret, Wp_c, Wp_var, WpVar_d, WpVar_o, Wp_view, Wp_andV, Wp_orV, Wp_chain, Wp_bin, Wp_andB, Wp_orB, Wp_yes, Wp_push0, Wp_pushN, Wp_nil, Wp_cons, Wp_move, WpMv_d, WpMv_o, WpMv_s, Wp_cnil, Wp_cval, Wp_cbor, Wp_call, Wp_comp, Wp_comp2, retK_r, retK_n, forJ_nx, forJ_cnt, Wp_asDat, Wp_asDatO, Wp_asB, Wp_tru, Wp_bind, Wp_ok, Wp_lift, Wp_ite, Wp_lite, Wp_aug, WpAug_i, Wp_dnewK, Wp_dnewT, Wp_putH, WpPutH_d, WpPutH_T, Wp_put, Wp_push, Wp_end, Wp_app, WB_b, Wi_true, Wi_false, Wq_run, argsOf_v, argsOf_b, argsOf_n, putBack_v, putBack_b, putBack_n, back_o, back_s, back_d, see_d, see_o, see_s, List.getElem?_cons_zero, List.getElem?_cons_succ, List.set_cons_zero, List.set_cons_succ, List.cons_append, List.nil_append, List.take_succ_cons, List.take_zero, List.length_cons, List.length_nil, List.dropLast_cons₂, List.dropLast_singleton, Option.getD_some, wipeE, restoreE, gN, List.replicate_zero, List.replicate_succ, Nat.reduceAdd, Nat.reduceSub, decide_eq_true_eq, Bool.true_eq_false, Bool.false_eq_true, reduceCtorEq, not_false_eq_true, see_d, see_o, see_s, ownS_o, WpAug_l, isS_d, isS_o, mkRg_l, mkRg_t, dMax2_i, dMin2_i, dIx_l, dIx_t, dAdd_i, dSub_i, dNeg_i, dMod_i, dDiv_i, dMul_r, dMul_l, dPow_18, dGtA_i, dLtA_i, dGtI_i, dLtI_i, dGeI_i, dLeI_i, dInt_i, dAbs_i, dLen_l, dLen_t, dTuple_l, dList_l, dList_t, dAdd_l, dAdd_t, tupOf_i, lstOf_i, seqOf_l, seqOf_t, range1_i, WpPut_i, WpPush_i, WpEnd_i, WpApp_i, dEq_i, dNe_i, dNe_bb, dEq_bb, bools_true, allT, isL, dCnt_s, dOnce_i, onceOf, dIs_n, dIs_b, enumOf_l, enumOf_t, zipOf_t, zipOf_l, zipD_c, zipD_n, dIsNot_n, gTup_t, gs_c, gs_n, range2_i, Option.bind_some, unpack, dRev_l, dRev_t, isInt, isBool, isTuple, isList, isStr, isN, isOwnL, dSumA_l, dSumA_t, dAll, dAny, bools, Option.map_some, List.all_cons, List.all_nil, List.any_cons, List.any_nil, id_eq, Bool.and_true, Bool.true_and, Bool.and_self, Bool.not_true, Bool.not_false, dSlice_l, dSlice_t, asI_i, decide_true, decide_false, Int.reduceLE, Int.reduceLT, Int.reduceToNat, Int.reduceNeg, Int.reduceAdd, Int.reduceSub, Int.reduceMul, Nat.reduceLeDiff, Nat.reduceLT, reduceIte, Int.reducePow, Int.cast_ofNat_Int, Int.toNat_one, Int.toNat_zero, Nat.zero_add, Nat.lt_add_one, Nat.zero_lt_succ, Int.reduceEq, Nat.reduceEqDiff, Int.toNat_natCast, filter_yes', so, tI_fold, same_fs (l := fsQ (rotQ 1 q)) fs_le]
      refine ⟨_, ?_, rfl⟩
      rw [List.take_succ, hqi]
      simp only [Option.toList_some, List.map_append, List.map_cons, List.map_nil]
      exact Dc_put hD
    obtain ⟨kvs, hD, rfl⟩ := hI
    rw [List.length_map, List.take_length] at hD
    have g0 : ∀ s : Str, dGetO (.dict kvs) (.str s) = some (lookD keyK kvs (.inr s)) := fun s => getK' hD.t rfl
    have a0 : ∀ s : Str, (lookD keyK kvs (.inr s)).getD (.int 0) = .int (cK qs s) := hD.at_
    have f1 := @kind_counts_eq
    have f2 : PyData.tuple [.int (cK qs (Str.ofString "inner")), .int (cK qs (Str.ofString "side")), .int (cK qs (Str.ofString "strip")), .int (cK qs (Str.ofString "corner")), .int (cK qs (Str.ofString "end")), .int (cK qs (Str.ofString "whole"))] = tI (kCs qs) := rfl
    have f3 : dSumA [tI (kCs qs)] = some (.dat (.int qs.length)) := by
      rw [← sum_kCs]
      exact dSumA_t
    have f4 : dNe (.int qs.length) (.int qs.length) = some (.dat (.bool false)) := by
      rw [dNe_i]
      simp
    simp only [↓Wp_rIf, ↓Wp_seq, ↓Wp_seqN, ↓Wp_seqR, ↓Wp_seqB, ↓Wp_seqC, ↓Wp_next, ↓Wp_brk, ↓Wp_cnt, ↓Wp_set, ↓Wp_asg, ↓Wp_ret, ↓Wp_drop, ↓Wp_kill, ↓Wp_par, ↓Wp_ifs, ↓Wp_for, ↓forK_nx, ↓forK_cnt, ↓forK_brk, ↓forK_ret, ↓Wp_c, ↓Wp_var, ↓WpVar_d, ↓WpVar_o, ↓Wp_view, ↓Wp_andV, ↓Wp_orV, ↓Wp_chain, ↓Wp_bin, ↓Wp_andB, ↓Wp_orB, ↓Wp_yes, ↓Wp_push0, ↓Wp_pushN, ↓Wp_nil, ↓Wp_cons, ↓Wp_move, ↓WpMv_d, ↓WpMv_o, ↓WpMv_s, ↓Wp_cnil, ↓Wp_cval, ↓Wp_cbor, ↓Wp_call, ↓Wp_comp, ↓Wp_comp2, ↓retK_r, ↓retK_n, ↓forJ_nx, ↓forJ_cnt, ↓Wp_asDat, ↓Wp_asDatO, ↓Wp_asB, ↓Wp_tru, ↓Wp_bind, ↓Wp_ok, ↓Wp_lift, ↓Wp_ite, ↓Wp_lite, ↓Wp_aug, ↓WpAug_i, ↓Wp_dnewK, ↓Wp_dnewT, ↓Wp_putH, ↓WpPutH_d, ↓WpPutH_T, ↓Wp_put, ↓Wp_push, ↓Wp_end, ↓Wp_app, ↓WB_b, ↓Wi_true, ↓Wi_false, Wp_rIf, Wp_seq, Wp_seqN, Wp_seqR, Wp_seqB, Wp_seqC, Wp_next, Wp_brk, Wp_cnt, Wp_set, Wp_asg, Wp_ret, Wp_drop, Wp_kill, Wp_par, Wp_ifs, Wp_for, forK_nx, forK_cnt, forK_brk, forK_ret, Wp_c, Wp_var, WpVar_d, WpVar_o, Wp_view, Wp_andV, Wp_orV, Wp_chain, Wp_bin, Wp_andB, Wp_orB, Wp_yes, Wp_push0, Wp_pushN, Wp_nil, Wp_cons, Wp_move, WpMv_d, WpMv_o, WpMv_s, Wp_cnil, Wp_cval, Wp_cbor, Wp_call, Wp_comp, Wp_comp2, retK_r, retK_n, forJ_nx, forJ_cnt, Wp_asDat, Wp_asDatO, Wp_asB, Wp_tru, Wp_bind, Wp_ok, Wp_lift, Wp_ite, Wp_lite, Wp_aug, WpAug_i, Wp_dnewK, Wp_dnewT, Wp_putH, WpPutH_d, WpPutH_T, Wp_put, Wp_push, Wp_end, Wp_app, WB_b, Wi_true, Wi_false, Wq_run, argsOf_v, argsOf_b, argsOf_n, putBack_v, putBack_b, putBack_n, back_o, back_s, back_d, see_d, see_o, see_s, List.getElem?_cons_zero, List.getElem?_cons_succ, List.set_cons_zero, List.set_cons_succ, List.cons_append, List.nil_append, List.take_succ_cons, List.take_zero, List.length_cons, List.length_nil, List.dropLast_cons₂, List.dropLast_singleton, Option.getD_some, wipeE, restoreE, gN, List.replicate_zero, List.replicate_succ, Nat.reduceAdd, Nat.reduceSub, decide_eq_true_eq, Bool.true_eq_false, Bool.false_eq_true, reduceCtorEq, not_false_eq_true, see_d, see_o, see_s, ownS_o, WpAug_l, isS_d, isS_o, mkRg_l, mkRg_t, dMax2_i, dMin2_i, dIx_l, dIx_t, dAdd_i, dSub_i, dNeg_i, dMod_i, dDiv_i, dMul_r, dMul_l, dPow_18, dGtA_i, dLtA_i, dGtI_i, dLtI_i, dGeI_i, dLeI_i, dInt_i, dAbs_i, dLen_l, dLen_t, dTuple_l, dList_l, dList_t, dAdd_l, dAdd_t, tupOf_i, lstOf_i, seqOf_l, seqOf_t, range1_i, WpPut_i, WpPush_i, WpEnd_i, WpApp_i, dEq_i, dNe_i, dNe_bb, dEq_bb, bools_true, allT, isL, dCnt_s, dOnce_i, onceOf, dIs_n, dIs_b, enumOf_l, enumOf_t, zipOf_t, zipOf_l, zipD_c, zipD_n, dIsNot_n, gTup_t, gs_c, gs_n, range2_i, Option.bind_some, unpack, dRev_l, dRev_t, isInt, isBool, isTuple, isList, isStr, isN, isOwnL, dSumA_l, dSumA_t, dAll, dAny, bools, Option.map_some, List.all_cons, List.all_nil, List.any_cons, List.any_nil, id_eq, Bool.and_true, Bool.true_and, Bool.and_self, Bool.not_true, Bool.not_false, dSlice_l, dSlice_t, asI_i, decide_true, decide_false, Int.reduceLE, Int.reduceLT, Int.reduceToNat, Int.reduceNeg, Int.reduceAdd, Int.reduceSub, Int.reduceMul, Nat.reduceLeDiff, Nat.reduceLT, reduceIte, Int.reducePow, Int.cast_ofNat_Int, Int.toNat_one, Int.toNat_zero, Nat.zero_add, Nat.lt_add_one, Nat.zero_lt_succ, Int.reduceEq, Nat.reduceEqDiff, Int.toNat_natCast, ↓Wp_forN, ↓Wp_forC, ↓Wp_goN, ↓Wp_goC, ↓Wp_go2N, ↓Wp_go2C, rDGet2, g0, a0, f2, kind_counts_eq z, same_fs (l := kCs qs) (show 6 ≤ 1000000 by decide), f3, SD_len, f4]
    exact ⟨_, _, rfl⟩
  · obtain ⟨a, b, rfl⟩ := hI
    have e1 : PyData.tuple [.int 1, .int 2, .int 3, .int 4] = pcD (1, 2, 3, 4) := rfl
    have e2 : PyData.tuple [.int 0, .int 2, .int 3, .int 4] = pcD (0, 2, 3, 4) := rfl
    have e3 : PyData.tuple [.int 0, .int 2, .int 0, .int 4] = pcD (0, 2, 0, 4) := rfl
    have e4 : PyData.tuple [.int 0, .int 2, .int 3, .int 0] = pcD (0, 2, 3, 0) := rfl
    have e5 : PyData.tuple [.int 0, .int 0, .int 0, .int 4] = pcD (0, 0, 0, 4) := rfl
    have e6 : dMul (.tuple [.int 0]) (.int 4) = some (.dat (pcD (0, 0, 0, 0))) := by kernel_rfl
    have i1 : inQ 9 (1, 2, 3, 4) := by unfold inQ inP; decide
    have i2 : inQ 9 (0, 2, 3, 4) := by unfold inQ inP; decide
    have i3 : inQ 9 (0, 2, 0, 4) := by unfold inQ inP; decide
    have i4 : inQ 9 (0, 2, 3, 0) := by unfold inQ inP; decide
    have i5 : inQ 9 (0, 0, 0, 4) := by unfold inQ inP; decide
    have i6 : inQ 9 (0, 0, 0, 0) := by unfold inQ inP; decide
    have l1 : PyData.tuple [.str (kS (1, 2, 3, 4)), .str (kS (0, 2, 3, 4)), .str (kS (0, 2, 0, 4)), .str (kS (0, 2, 3, 0)), .str (kS (0, 0, 0, 4)), .str (kS (0, 0, 0, 0))] = lastT := rfl
    have l2 : PyData.tuple [.str (Str.ofString "inner"), .str (Str.ofString "side"), .str (Str.ofString "strip"), .str (Str.ofString "corner"), .str (Str.ofString "end"), .str (Str.ofString "whole")] = lastT := rfl
    simp only [↓Wp_rIf, ↓Wp_seq, ↓Wp_seqN, ↓Wp_seqR, ↓Wp_seqB, ↓Wp_seqC, ↓Wp_next, ↓Wp_brk, ↓Wp_cnt, ↓Wp_set, ↓Wp_asg, ↓Wp_ret, ↓Wp_drop, ↓Wp_kill, ↓Wp_par, ↓Wp_ifs, ↓Wp_for, ↓forK_nx, ↓forK_cnt, ↓forK_brk, ↓forK_ret, ↓Wp_c, ↓Wp_var, ↓WpVar_d, ↓WpVar_o, ↓Wp_view, ↓Wp_andV, ↓Wp_orV, ↓Wp_chain, ↓Wp_bin, ↓Wp_andB, ↓Wp_orB, ↓Wp_yes, ↓Wp_push0, ↓Wp_pushN, ↓Wp_nil, ↓Wp_cons, ↓Wp_move, ↓WpMv_d, ↓WpMv_o, ↓WpMv_s, ↓Wp_cnil, ↓Wp_cval, ↓Wp_cbor, ↓Wp_call, ↓Wp_comp, ↓Wp_comp2, ↓retK_r, ↓retK_n, ↓forJ_nx, ↓forJ_cnt, ↓Wp_asDat, ↓Wp_asDatO, ↓Wp_asB, ↓Wp_tru, ↓Wp_bind, ↓Wp_ok, ↓Wp_lift, ↓Wp_ite, ↓Wp_lite, ↓Wp_aug, ↓WpAug_i, ↓Wp_dnewK, ↓Wp_dnewT, ↓Wp_putH, ↓WpPutH_d, ↓WpPutH_T, ↓Wp_put, ↓Wp_push, ↓Wp_end, ↓Wp_app, ↓WB_b, ↓Wi_true, ↓Wi_false, Wp_rIf, Wp_seq, Wp_seqN, Wp_seqR, Wp_seqB, Wp_seqC, Wp_next, Wp_brk, Wp_cnt, Wp_set, Wp_asg, Wp_ret, Wp_drop, Wp_kill, Wp_par, Wp_ifs, Wp_for, forK_nx, forK_cnt, forK_brk, forK_ret, Wp_c, Wp_var, WpVar_d, WpVar_o, Wp_view, Wp_andV, Wp_orV, Wp_chain, Wp_bin, Wp_andB, Wp_orB, Wp_yes, Wp_push0, Wp_pushN, Wp_nil, Wp_cons, Wp_move, WpMv_d, WpMv_o, WpMv_s, Wp_cnil, Wp_cval, Wp_cbor, Wp_call, Wp_comp, Wp_comp2, retK_r, retK_n, forJ_nx, forJ_cnt, Wp_asDat, Wp_asDatO, Wp_asB, Wp_tru, Wp_bind, Wp_ok, Wp_lift, Wp_ite, Wp_lite, Wp_aug, WpAug_i, Wp_dnewK, Wp_dnewT, Wp_putH, WpPutH_d, WpPutH_T, Wp_put, Wp_push, Wp_end, Wp_app, WB_b, Wi_true, Wi_false, Wq_run, argsOf_v, argsOf_b, argsOf_n, putBack_v, putBack_b, putBack_n, back_o, back_s, back_d, see_d, see_o, see_s, List.getElem?_cons_zero, List.getElem?_cons_succ, List.set_cons_zero, List.set_cons_succ, List.cons_append, List.nil_append, List.take_succ_cons, List.take_zero, List.length_cons, List.length_nil, List.dropLast_cons₂, List.dropLast_singleton, Option.getD_some, wipeE, restoreE, gN, List.replicate_zero, List.replicate_succ, Nat.reduceAdd, Nat.reduceSub, decide_eq_true_eq, Bool.true_eq_false, Bool.false_eq_true, reduceCtorEq, not_false_eq_true, see_d, see_o, see_s, ownS_o, WpAug_l, isS_d, isS_o, mkRg_l, mkRg_t, dMax2_i, dMin2_i, dIx_l, dIx_t, dAdd_i, dSub_i, dNeg_i, dMod_i, dDiv_i, dMul_r, dMul_l, dPow_18, dGtA_i, dLtA_i, dGtI_i, dLtI_i, dGeI_i, dLeI_i, dInt_i, dAbs_i, dLen_l, dLen_t, dTuple_l, dList_l, dList_t, dAdd_l, dAdd_t, tupOf_i, lstOf_i, seqOf_l, seqOf_t, range1_i, WpPut_i, WpPush_i, WpEnd_i, WpApp_i, dEq_i, dNe_i, dNe_bb, dEq_bb, bools_true, allT, isL, dCnt_s, dOnce_i, onceOf, dIs_n, dIs_b, enumOf_l, enumOf_t, zipOf_t, zipOf_l, zipD_c, zipD_n, dIsNot_n, gTup_t, gs_c, gs_n, range2_i, Option.bind_some, unpack, dRev_l, dRev_t, isInt, isBool, isTuple, isList, isStr, isN, isOwnL, dSumA_l, dSumA_t, dAll, dAny, bools, Option.map_some, List.all_cons, List.all_nil, List.any_cons, List.any_nil, id_eq, Bool.and_true, Bool.true_and, Bool.and_self, Bool.not_true, Bool.not_false, dSlice_l, dSlice_t, asI_i, decide_true, decide_false, Int.reduceLE, Int.reduceLT, Int.reduceToNat, Int.reduceNeg, Int.reduceAdd, Int.reduceSub, Int.reduceMul, Nat.reduceLeDiff, Nat.reduceLT, reduceIte, Int.reducePow, Int.cast_ofNat_Int, Int.toNat_one, Int.toNat_zero, Nat.zero_add, Nat.lt_add_one, Nat.zero_lt_succ, Int.reduceEq, Nat.reduceEqDiff, Int.toNat_natCast, e1, e2, e3, e4, e5, e6, kind_of_eq i1, kind_of_eq i2, kind_of_eq i3, kind_of_eq i4, kind_of_eq i5, kind_of_eq i6, l1, l2, last_same]
end DL
open PySem DL in
theorem M.law_true : ∀ ns : List Int, ns.length ≤ 63 → ∃ as, M.m_law [.scr ns] = .ok (.dat (.bool true)) as := by
  intro ns hl
  obtain ⟨r, as, e, rfl⟩ := Wp_out (law_at hl)
  exact ⟨as, e⟩
namespace Walk
open PySem PySem.Spec PyProof.Rows L2 DL
def topS (i : Nat) : Stmt := PySem.Challenge.pw_jigsawyard_k02_whole_kinds_of_pieces.main.body.getD i (.Pass ⟨0, 0, 0, 0⟩)
section
variable {P : Program} {w : World} {K : PySem.W.Frag} {mg : Str → Option Value} {base : Heap}
set_option maxHeartbeats 4000000
abbrev s_is_whole : Stmt := topS 10
abbrev N_is_whole : List Str := ["value"]
theorem sc_is_whole : FnScope N_is_whole ["value"] (defScope s_is_whole) := ⟨rfl, rfl, rfl, by decide +kernel, rfl, by decide +kernel, by decide +kernel⟩
theorem cal_is_whole {f : Addr} {fd : FuncData} (F : Fun K "is_whole" "is_whole" s_is_whole f fd) (mgf : mg "is_whole" = some (.ref f)) (z_bool : mg "bool" = none) (z_int : mg "int" = none) (z_isinstance : mg "isinstance" = none) : Cal P w K mg base 1 "is_whole" ["value"] [] M.m_is_whole := by
  refine ⟨f, fd, ?_, mgf, F.kp, F.binds (ps := ["value"]) fun _ _ _ _ _ _ us hl => match us, hl with | [_], _ => rfl⟩
  refine fn_ok (B := []) (N := N_is_whole) (k := 0) (fb := M.fb_is_whole) F sc_is_whole rfl rfl fun cdv A outer s H E hr Ad F0 => ?_
  exact (dss_one (ds_ret (DX.toE (dx_and (dx_isi (dx_var (fun _ => pv 0) rfl rfl) kit_int (fun _ => by rfl) (fun _ => z_isinstance) (fun _ => by rfl) (fun _ => z_int) (by decide +kernel)) (dx_one (dx_not (dx_isi (dx_var (fun _ => pv 0) rfl rfl) kit_bool (fun _ => by rfl) (fun _ => z_isinstance) (fun _ => by rfl) (fun _ => z_bool) (by decide +kernel))))))))
abbrev s_fits_whole : Stmt := topS 11
abbrev N_fits_whole : List Str := ["value", "low", "high"]
theorem sc_fits_whole : FnScope N_fits_whole ["value", "low", "high"] (defScope s_fits_whole) := ⟨rfl, rfl, rfl, by decide +kernel, rfl, by decide +kernel, by decide +kernel⟩
theorem cal_fits_whole {f : Addr} {fd : FuncData} (F : Fun K "fits_whole" "fits_whole" s_fits_whole f fd) (mgf : mg "fits_whole" = some (.ref f)) (c_is_whole : Cal P w K mg base 1 "is_whole" ["value"] [] M.m_is_whole) : Cal P w K mg base 2 "fits_whole" ["value", "low", "high"] [] M.m_fits_whole := by
  refine ⟨f, fd, ?_, mgf, F.kp, F.binds (ps := ["value", "low", "high"]) fun _ _ _ _ _ _ us hl => match us, hl with | [_, _, _], _ => rfl⟩
  refine fn_ok (B := []) (N := N_fits_whole) (k := 1) (fb := M.fb_fits_whole) F sc_fits_whole rfl rfl fun cdv A outer s H E hr Ad F0 => ?_
  exact (dss_one (ds_ret (DX.toE (dx_and (DE.toX (de_call (fun _ => c_is_whole) (fun _ => hr.mono (by decide)) (fun _ => rfl) (dc_val (dx_var (fun _ => pv 0) rfl rfl) dc_nil))) (dx_one (dx_chain ho_le opd_leI ho_le opd_leI (dx_var (fun _ => pv 1) rfl rfl) (dx_var (fun _ => pv 0) rfl rfl) (dx_var (fun _ => pv 2) rfl rfl)))))))
abbrev s_is_tuple_of : Stmt := topS 12
abbrev N_is_tuple_of : List Str := ["value", "least", "most"]
theorem sc_is_tuple_of : FnScope N_is_tuple_of ["value", "least", "most"] (defScope s_is_tuple_of) := ⟨rfl, rfl, rfl, by decide +kernel, rfl, by decide +kernel, by decide +kernel⟩
theorem cal_is_tuple_of {f : Addr} {fd : FuncData} (F : Fun K "is_tuple_of" "is_tuple_of" s_is_tuple_of f fd) (mgf : mg "is_tuple_of" = some (.ref f)) (z_isinstance : mg "isinstance" = none) (z_len : mg "len" = none) (z_tuple : mg "tuple" = none) : Cal P w K mg base 1 "is_tuple_of" ["value", "least", "most"] [] M.m_is_tuple_of := by
  refine ⟨f, fd, ?_, mgf, F.kp, F.binds (ps := ["value", "least", "most"]) fun _ _ _ _ _ _ us hl => match us, hl with | [_, _, _], _ => rfl⟩
  refine fn_ok (B := []) (N := N_is_tuple_of) (k := 0) (fb := M.fb_is_tuple_of) F sc_is_tuple_of rfl rfl fun cdv A outer s H E hr Ad F0 => ?_
  exact (dss_one (ds_ret (DX.toE (dx_and (dx_isi (dx_var (fun _ => pv 0) rfl rfl) kit_tuple (fun _ => by rfl) (fun _ => z_isinstance) (fun _ => by rfl) (fun _ => z_tuple) (by decide +kernel)) (dx_one (dx_chain ho_le opd_leI ho_le opd_leI (dx_var (fun _ => pv 1) rfl rfl) (DE.toX (de_callB hc_len (fun _ => by rfl) (fun _ => z_len) (by decide +kernel) cv_len (dav_one (dv_name (fun _ => pv 0) rfl)))) (dx_var (fun _ => pv 2) rfl rfl)))))))
abbrev s_fits_edge : Stmt := topS 13
abbrev N_fits_edge : List Str := ["value"]
theorem sc_fits_edge : FnScope N_fits_edge ["value"] (defScope s_fits_edge) := ⟨rfl, rfl, rfl, by decide +kernel, rfl, by decide +kernel, by decide +kernel⟩
theorem cal_fits_edge {f : Addr} {fd : FuncData} (F : Fun K "fits_edge" "fits_edge" s_fits_edge f fd) (mgf : mg "fits_edge" = some (.ref f)) (c_fits_whole : Cal P w K mg base 2 "fits_whole" ["value", "low", "high"] [] M.m_fits_whole) {t_EDGE : Tok} (g_EDGE : mg "EDGE" = some (.int 9 t_EDGE)) : Cal P w K mg base 3 "fits_edge" ["value"] [] M.m_fits_edge := by
  refine ⟨f, fd, ?_, mgf, F.kp, F.binds (ps := ["value"]) fun _ _ _ _ _ _ us hl => match us, hl with | [_], _ => rfl⟩
  refine fn_ok (B := []) (N := N_fits_edge) (k := 2) (fb := M.fb_fits_edge) F sc_fits_edge rfl rfl fun cdv A outer s H E hr Ad F0 => ?_
  exact (dss_one (ds_ret (de_call (fun _ => c_fits_whole) (fun _ => hr.mono (by decide)) (fun _ => rfl) (dc_val (dx_var (fun _ => pv 0) rfl rfl) (dc_val (dx_neg (dx_globI (fun _ => by rfl) (fun _ => g_EDGE))) (dc_val (dx_globI (fun _ => by rfl) (fun _ => g_EDGE)) dc_nil))))))
abbrev s_fits_piece : Stmt := topS 14
abbrev N_fits_piece : List Str := ["value", "one"]
theorem sc_fits_piece : FnScope N_fits_piece ["value"] (defScope s_fits_piece) := ⟨rfl, rfl, rfl, by decide +kernel, rfl, by decide +kernel, by decide +kernel⟩
theorem cal_fits_piece {f : Addr} {fd : FuncData} (F : Fun K "fits_piece" "fits_piece" s_fits_piece f fd) (mgf : mg "fits_piece" = some (.ref f)) (c_fits_edge : Cal P w K mg base 3 "fits_edge" ["value"] [] M.m_fits_edge) (c_is_tuple_of : Cal P w K mg base 1 "is_tuple_of" ["value", "least", "most"] [] M.m_is_tuple_of) (z_all : mg "all" = none) {t_SIDES : Tok} (g_SIDES : mg "SIDES" = some (.int 4 t_SIDES)) : Cal P w K mg base 4 "fits_piece" ["value"] [] M.m_fits_piece := by
  refine ⟨f, fd, ?_, mgf, F.kp, F.binds (ps := ["value"]) fun _ _ _ _ _ _ us hl => match us, hl with | [_], _ => rfl⟩
  refine fn_ok (B := []) (N := N_fits_piece) (k := 3) (fb := M.fb_fits_piece) F sc_fits_piece rfl rfl fun cdv A outer s H E hr Ad F0 => ?_
  exact (dss_one (ds_ret (DX.toE (dx_and (DE.toX (de_call (fun _ => c_is_tuple_of) (fun _ => hr.mono (by decide)) (fun _ => rfl) (dc_val (dx_var (fun _ => pv 0) rfl rfl) (dc_val (dx_globI (fun _ => by rfl) (fun _ => g_SIDES)) (dc_val (dx_globI (fun _ => by rfl) (fun _ => g_SIDES)) dc_nil))))) (dx_one (DE.toX (de_callB hc_all (fun _ => by rfl) (fun _ => z_all) (by decide +kernel) cv_all (dav_one (DX.v (DE.toX (de_lc (own := [("one", 1)]) (fun _ => sc_fits_piece.nd) (di_seq (dx_var (fun _ => pv 0) rfl rfl)) (fun _ => blkOk_by (N := N_fits_piece) (sc := defScope s_fits_piece) (by decide +kernel)) (dg_name (fun _ => sc_fits_piece.nd) (fun _ => rfl) (fun _ => Or.inl rfl) (fun _ => Or.inr rfl) rfl rfl) dts_nil (DE.toX (de_call (fun _ => c_fits_edge) (fun _ => hr.mono (by decide)) (fun _ => rfl) (dc_val (dx_var (fun _ => pv 1) rfl rfl) dc_nil))) rfl rfl rfl)))))))))))
abbrev s_fits_set : Stmt := topS 15
abbrev N_fits_set : List Str := ["value", "one"]
theorem sc_fits_set : FnScope N_fits_set ["value"] (defScope s_fits_set) := ⟨rfl, rfl, rfl, by decide +kernel, rfl, by decide +kernel, by decide +kernel⟩
theorem cal_fits_set {f : Addr} {fd : FuncData} (F : Fun K "fits_set" "fits_set" s_fits_set f fd) (mgf : mg "fits_set" = some (.ref f)) (c_fits_piece : Cal P w K mg base 4 "fits_piece" ["value"] [] M.m_fits_piece) (c_is_tuple_of : Cal P w K mg base 1 "is_tuple_of" ["value", "least", "most"] [] M.m_is_tuple_of) (z_all : mg "all" = none) {t_MANY : Tok} (g_MANY : mg "MANY" = some (.int 36 t_MANY)) : Cal P w K mg base 5 "fits_set" ["value"] [] M.m_fits_set := by
  refine ⟨f, fd, ?_, mgf, F.kp, F.binds (ps := ["value"]) fun _ _ _ _ _ _ us hl => match us, hl with | [_], _ => rfl⟩
  refine fn_ok (B := []) (N := N_fits_set) (k := 4) (fb := M.fb_fits_set) F sc_fits_set rfl rfl fun cdv A outer s H E hr Ad F0 => ?_
  exact (dss_one (ds_ret (DX.toE (dx_and (DE.toX (de_call (fun _ => c_is_tuple_of) (fun _ => hr.mono (by decide)) (fun _ => rfl) (dc_val (dx_var (fun _ => pv 0) rfl rfl) (dc_val dx_int (dc_val (dx_globI (fun _ => by rfl) (fun _ => g_MANY)) dc_nil))))) (dx_one (DE.toX (de_callB hc_all (fun _ => by rfl) (fun _ => z_all) (by decide +kernel) cv_all (dav_one (DX.v (DE.toX (de_lc (own := [("one", 1)]) (fun _ => sc_fits_set.nd) (di_seq (dx_var (fun _ => pv 0) rfl rfl)) (fun _ => blkOk_by (N := N_fits_set) (sc := defScope s_fits_set) (by decide +kernel)) (dg_name (fun _ => sc_fits_set.nd) (fun _ => rfl) (fun _ => Or.inl rfl) (fun _ => Or.inr rfl) rfl rfl) dts_nil (DE.toX (de_call (fun _ => c_fits_piece) (fun _ => hr.mono (by decide)) (fun _ => rfl) (dc_val (dx_var (fun _ => pv 1) rfl rfl) dc_nil))) rfl rfl rfl)))))))))))
abbrev s_need_piece : Stmt := topS 16
abbrev N_need_piece : List Str := ["value"]
theorem sc_need_piece : FnScope N_need_piece ["value"] (defScope s_need_piece) := ⟨rfl, rfl, rfl, by decide +kernel, rfl, by decide +kernel, by decide +kernel⟩
theorem cal_need_piece {f : Addr} {fd : FuncData} (F : Fun K "need_piece" "need_piece" s_need_piece f fd) (mgf : mg "need_piece" = some (.ref f)) (c_fits_piece : Cal P w K mg base 4 "fits_piece" ["value"] [] M.m_fits_piece) : Cal P w K mg base 5 "need_piece" ["value"] [] M.m_need_piece := by
  refine ⟨f, fd, ?_, mgf, F.kp, F.binds (ps := ["value"]) fun _ _ _ _ _ _ us hl => match us, hl with | [_], _ => rfl⟩
  refine fn_ok (B := []) (N := N_need_piece) (k := 4) (fb := M.fb_need_piece) F sc_need_piece rfl rfl fun cdv A outer s H E hr Ad F0 => ?_
  exact (dss_one (ds_if (dt_not (dt_tru (DE.toX (de_call (fun _ => c_fits_piece) (fun _ => hr.mono (by decide)) (fun _ => rfl) (dc_val (dx_var (fun _ => pv 0) rfl rfl) dc_nil)))))
      (dss_one ds_never)
      dss_nil))
abbrev s_need_side : Stmt := topS 17
abbrev N_need_side : List Str := ["value"]
theorem sc_need_side : FnScope N_need_side ["value"] (defScope s_need_side) := ⟨rfl, rfl, rfl, by decide +kernel, rfl, by decide +kernel, by decide +kernel⟩
theorem cal_need_side {f : Addr} {fd : FuncData} (F : Fun K "need_side" "need_side" s_need_side f fd) (mgf : mg "need_side" = some (.ref f)) (c_fits_whole : Cal P w K mg base 2 "fits_whole" ["value", "low", "high"] [] M.m_fits_whole) {t_SIDES : Tok} (g_SIDES : mg "SIDES" = some (.int 4 t_SIDES)) : Cal P w K mg base 3 "need_side" ["value"] [] M.m_need_side := by
  refine ⟨f, fd, ?_, mgf, F.kp, F.binds (ps := ["value"]) fun _ _ _ _ _ _ us hl => match us, hl with | [_], _ => rfl⟩
  refine fn_ok (B := []) (N := N_need_side) (k := 2) (fb := M.fb_need_side) F sc_need_side rfl rfl fun cdv A outer s H E hr Ad F0 => ?_
  exact (dss_one (ds_if (dt_not (dt_tru (DE.toX (de_call (fun _ => c_fits_whole) (fun _ => hr.mono (by decide)) (fun _ => rfl) (dc_val (dx_var (fun _ => pv 0) rfl rfl) (dc_val dx_int (dc_val (DE.toX (de_bin ho_sub opd_sub (dx_globI (fun _ => by rfl) (fun _ => g_SIDES)) dx_int)) dc_nil)))))))
      (dss_one ds_never)
      dss_nil))
abbrev s_need_set : Stmt := topS 18
abbrev N_need_set : List Str := ["value"]
theorem sc_need_set : FnScope N_need_set ["value"] (defScope s_need_set) := ⟨rfl, rfl, rfl, by decide +kernel, rfl, by decide +kernel, by decide +kernel⟩
theorem cal_need_set {f : Addr} {fd : FuncData} (F : Fun K "need_set" "need_set" s_need_set f fd) (mgf : mg "need_set" = some (.ref f)) (c_fits_set : Cal P w K mg base 5 "fits_set" ["value"] [] M.m_fits_set) : Cal P w K mg base 6 "need_set" ["value"] [] M.m_need_set := by
  refine ⟨f, fd, ?_, mgf, F.kp, F.binds (ps := ["value"]) fun _ _ _ _ _ _ us hl => match us, hl with | [_], _ => rfl⟩
  refine fn_ok (B := []) (N := N_need_set) (k := 5) (fb := M.fb_need_set) F sc_need_set rfl rfl fun cdv A outer s H E hr Ad F0 => ?_
  exact (dss_one (ds_if (dt_not (dt_tru (DE.toX (de_call (fun _ => c_fits_set) (fun _ => hr.mono (by decide)) (fun _ => rfl) (dc_val (dx_var (fun _ => pv 0) rfl rfl) dc_nil)))))
      (dss_one ds_never)
      dss_nil))
abbrev s_turned_in : Stmt := topS 19
abbrev N_turned_in : List Str := ["piece", "turn"]
theorem sc_turned_in : FnScope N_turned_in ["piece", "turn"] (defScope s_turned_in) := ⟨rfl, rfl, rfl, by decide +kernel, rfl, by decide +kernel, by decide +kernel⟩
theorem cal_turned_in {f : Addr} {fd : FuncData} (F : Fun K "turned_in" "turned_in" s_turned_in f fd) (mgf : mg "turned_in" = some (.ref f)) {t_SIDES : Tok} (g_SIDES : mg "SIDES" = some (.int 4 t_SIDES)) : Cal P w K mg base 1 "turned_in" ["piece", "turn"] [] M.m_turned_in := by
  refine ⟨f, fd, ?_, mgf, F.kp, F.binds (ps := ["piece", "turn"]) fun _ _ _ _ _ _ us hl => match us, hl with | [_, _], _ => rfl⟩
  refine fn_ok (B := []) (N := N_turned_in) (k := 0) (fb := M.fb_turned_in) F sc_turned_in rfl rfl fun cdv A outer s H E hr Ad F0 => ?_
  exact (dss_one (ds_ret (de_bin ho_add opd_add (DE.toX (de_slice (dx_var (fun _ => pv 0) rfl rfl) (do_some (DE.toX (de_bin ho_sub opd_sub (dx_globI (fun _ => by rfl) (fun _ => g_SIDES)) (dx_var (fun _ => pv 1) rfl rfl)))) do_none)) (DE.toX (de_slice (dx_var (fun _ => pv 0) rfl rfl) do_none (do_some (DE.toX (de_bin ho_sub opd_sub (dx_globI (fun _ => by rfl) (fun _ => g_SIDES)) (dx_var (fun _ => pv 1) rfl rfl)))))))))
abbrev s_kind_in : Stmt := topS 20
abbrev N_kind_in : List Str := ["piece", "flat", "side"]
theorem sc_kind_in : FnScope N_kind_in ["piece"] (defScope s_kind_in) := ⟨rfl, rfl, rfl, by decide +kernel, rfl, by decide +kernel, by decide +kernel⟩
theorem cal_kind_in {f : Addr} {fd : FuncData} (F : Fun K "kind_in" "kind_in" s_kind_in f fd) (mgf : mg "kind_in" = some (.ref f)) (z_len : mg "len" = none) (z_range : mg "range" = none) {t_SIDES : Tok} (g_SIDES : mg "SIDES" = some (.int 4 t_SIDES)) : Cal P w K mg base 1 "kind_in" ["piece"] [] M.m_kind_in := by
  refine ⟨f, fd, ?_, mgf, F.kp, F.binds (ps := ["piece"]) fun _ _ _ _ _ _ us hl => match us, hl with | [_], _ => rfl⟩
  refine fn_ok (B := []) (N := N_kind_in) (k := 0) (fb := M.fb_kind_in) F sc_kind_in rfl rfl fun cdv A outer s H E hr Ad F0 => ?_
  exact (dss_cons (ds_setLc (k := 1) (own := [("side", 2)]) (fun _ => sc_kind_in.nd) (di_range1 (fun _ => by rfl) (fun _ => z_range) (dx_globI (fun _ => by rfl) (fun _ => g_SIDES))) (fun _ => blkOk_by (N := N_kind_in) (sc := defScope s_kind_in) (by decide +kernel)) (dg_name (fun _ => sc_kind_in.nd) (fun _ => rfl) (fun _ => Or.inl rfl) (fun _ => Or.inr rfl) rfl rfl) (dts_one (dt_cmp ho_eq opd_eq (dx_ixN (fun _ => pv 0) rfl (dx_var (fun _ => pv 2) rfl rfl)) dx_int (nobehind _ (by decide) (by decide)))) (dx_var (fun _ => pv 2) rfl rfl) rfl rfl rfl (fun _ => rfl) (fun _ => rfl) (fun _ => sw_true rfl rfl rfl (by decide +kernel)) rfl rfl)
      (dss_cons (ds_if (dt_cmp ho_eq opd_eq (DE.toX (de_callB hc_len (fun _ => by rfl) (fun _ => z_len) (by decide +kernel) cv_len (dav_one (dv_name (fun _ => pv 1) rfl)))) dx_int (nobehind _ (by decide) (by decide)))
      (dss_one (ds_ret (de_if (dt_cmp ho_eq opd_eq (DE.toX (de_bin ho_sub opd_sub (dx_ixN (fun _ => pv 1) rfl dx_int) (dx_ixN (fun _ => pv 1) rfl dx_int))) dx_int (nobehind _ (by decide) (by decide))) (DX.toE dx_str) (DX.toE dx_str))))
      dss_nil)
      (dss_one (ds_ret (DX.toE (dx_ix (dx_tup (da_cons dx_str (da_cons dx_str (da_cons dx_str (da_cons dx_str (da_cons dx_str da_nil)))))) (DE.toX (de_callB hc_len (fun _ => by rfl) (fun _ => z_len) (by decide +kernel) cv_len (dav_one (dv_name (fun _ => pv 1) rfl))))))))))
abbrev s_turned : Stmt := topS 21
abbrev N_turned : List Str := ["piece", "turn"]
theorem sc_turned : FnScope N_turned ["piece", "turn"] (defScope s_turned) := ⟨rfl, rfl, rfl, by decide +kernel, rfl, by decide +kernel, by decide +kernel⟩
theorem cal_turned {f : Addr} {fd : FuncData} (F : Fun K "turned" "turned" s_turned f fd) (mgf : mg "turned" = some (.ref f)) (c_need_piece : Cal P w K mg base 5 "need_piece" ["value"] [] M.m_need_piece) (c_need_side : Cal P w K mg base 3 "need_side" ["value"] [] M.m_need_side) (c_turned_in : Cal P w K mg base 1 "turned_in" ["piece", "turn"] [] M.m_turned_in) : Cal P w K mg base 6 "turned" ["piece", "turn"] [] M.m_turned := by
  refine ⟨f, fd, ?_, mgf, F.kp, F.binds (ps := ["piece", "turn"]) fun _ _ _ _ _ _ us hl => match us, hl with | [_, _], _ => rfl⟩
  refine fn_ok (B := []) (N := N_turned) (k := 5) (fb := M.fb_turned) F sc_turned rfl rfl fun cdv A outer s H E hr Ad F0 => ?_
  exact (dss_cons (ds_expr (de_call (fun _ => c_need_piece) (fun _ => hr.mono (by decide)) (fun _ => rfl) (dc_val (dx_var (fun _ => pv 0) rfl rfl) dc_nil)))
      (dss_cons (ds_expr (de_call (fun _ => c_need_side) (fun _ => hr.mono (by decide)) (fun _ => rfl) (dc_val (dx_var (fun _ => pv 1) rfl rfl) dc_nil)))
      (dss_one (ds_ret (de_call (fun _ => c_turned_in) (fun _ => hr.mono (by decide)) (fun _ => rfl) (dc_val (dx_var (fun _ => pv 0) rfl rfl) (dc_val (dx_var (fun _ => pv 1) rfl rfl) dc_nil)))))))
abbrev s_kind_of : Stmt := topS 22
abbrev N_kind_of : List Str := ["piece"]
theorem sc_kind_of : FnScope N_kind_of ["piece"] (defScope s_kind_of) := ⟨rfl, rfl, rfl, by decide +kernel, rfl, by decide +kernel, by decide +kernel⟩
theorem cal_kind_of {f : Addr} {fd : FuncData} (F : Fun K "kind_of" "kind_of" s_kind_of f fd) (mgf : mg "kind_of" = some (.ref f)) (c_kind_in : Cal P w K mg base 1 "kind_in" ["piece"] [] M.m_kind_in) (c_need_piece : Cal P w K mg base 5 "need_piece" ["value"] [] M.m_need_piece) : Cal P w K mg base 6 "kind_of" ["piece"] [] M.m_kind_of := by
  refine ⟨f, fd, ?_, mgf, F.kp, F.binds (ps := ["piece"]) fun _ _ _ _ _ _ us hl => match us, hl with | [_], _ => rfl⟩
  refine fn_ok (B := []) (N := N_kind_of) (k := 5) (fb := M.fb_kind_of) F sc_kind_of rfl rfl fun cdv A outer s H E hr Ad F0 => ?_
  exact (dss_cons (ds_expr (de_call (fun _ => c_need_piece) (fun _ => hr.mono (by decide)) (fun _ => rfl) (dc_val (dx_var (fun _ => pv 0) rfl rfl) dc_nil)))
      (dss_one (ds_ret (de_call (fun _ => c_kind_in) (fun _ => hr.mono (by decide)) (fun _ => rfl) (dc_val (dx_var (fun _ => pv 0) rfl rfl) dc_nil)))))
abbrev s_flat_sides : Stmt := topS 23
abbrev N_flat_sides : List Str := ["piece", "side"]
theorem sc_flat_sides : FnScope N_flat_sides ["piece"] (defScope s_flat_sides) := ⟨rfl, rfl, rfl, by decide +kernel, rfl, by decide +kernel, by decide +kernel⟩
theorem cal_flat_sides {f : Addr} {fd : FuncData} (F : Fun K "flat_sides" "flat_sides" s_flat_sides f fd) (mgf : mg "flat_sides" = some (.ref f)) (c_need_piece : Cal P w K mg base 5 "need_piece" ["value"] [] M.m_need_piece) (z_range : mg "range" = none) (z_tuple : mg "tuple" = none) {t_SIDES : Tok} (g_SIDES : mg "SIDES" = some (.int 4 t_SIDES)) : Cal P w K mg base 6 "flat_sides" ["piece"] [] M.m_flat_sides := by
  refine ⟨f, fd, ?_, mgf, F.kp, F.binds (ps := ["piece"]) fun _ _ _ _ _ _ us hl => match us, hl with | [_], _ => rfl⟩
  refine fn_ok (B := []) (N := N_flat_sides) (k := 5) (fb := M.fb_flat_sides) F sc_flat_sides rfl rfl fun cdv A outer s H E hr Ad F0 => ?_
  exact (dss_cons (ds_expr (de_call (fun _ => c_need_piece) (fun _ => hr.mono (by decide)) (fun _ => rfl) (dc_val (dx_var (fun _ => pv 0) rfl rfl) dc_nil)))
      (dss_one (ds_ret (de_callTy hc_tuple (fun _ => by rfl) (fun _ => z_tuple) (by decide +kernel) cv_tuple (dav_one (DX.v (DE.toX (de_lc (own := [("side", 1)]) (fun _ => sc_flat_sides.nd) (di_range1 (fun _ => by rfl) (fun _ => z_range) (dx_globI (fun _ => by rfl) (fun _ => g_SIDES))) (fun _ => blkOk_by (N := N_flat_sides) (sc := defScope s_flat_sides) (by decide +kernel)) (dg_name (fun _ => sc_flat_sides.nd) (fun _ => rfl) (fun _ => Or.inl rfl) (fun _ => Or.inr rfl) rfl rfl) (dts_one (dt_cmp ho_eq opd_eq (dx_ixN (fun _ => pv 0) rfl (dx_var (fun _ => pv 1) rfl rfl)) dx_int (nobehind _ (by decide) (by decide)))) (dx_var (fun _ => pv 1) rfl rfl) rfl rfl rfl))))))))
abbrev s_kind_counts : Stmt := topS 24
abbrev N_kind_counts : List Str := ["pieces", "kinds", "piece", "kind"]
theorem sc_kind_counts : FnScope N_kind_counts ["pieces"] (defScope s_kind_counts) := ⟨rfl, rfl, rfl, by decide +kernel, rfl, by decide +kernel, by decide +kernel⟩
theorem cal_kind_counts {f : Addr} {fd : FuncData} (F : Fun K "kind_counts" "kind_counts" s_kind_counts f fd) (mgf : mg "kind_counts" = some (.ref f)) (c_kind_in : Cal P w K mg base 1 "kind_in" ["piece"] [] M.m_kind_in) (c_need_set : Cal P w K mg base 6 "need_set" ["value"] [] M.m_need_set) (z_tuple : mg "tuple" = none) {a_KINDS : Addr} (g_KINDS : mg "KINDS" = some (.ref a_KINDS)) (k_KINDS : GTup K a_KINDS (([.str (Str.ofString "inner"), .str (Str.ofString "side"), .str (Str.ofString "strip"), .str (Str.ofString "corner"), .str (Str.ofString "end"), .str (Str.ofString "whole")] : List PyData).map cV)) : Cal P w K mg base 7 "kind_counts" ["pieces"] [] M.m_kind_counts := by
  refine ⟨f, fd, ?_, mgf, F.kp, F.binds (ps := ["pieces"]) fun _ _ _ _ _ _ us hl => match us, hl with | [_], _ => rfl⟩
  refine fn_ok (B := []) (N := N_kind_counts) (k := 6) (fb := M.fb_kind_counts) F sc_kind_counts rfl rfl fun cdv A outer s H E hr Ad F0 => ?_
  exact (dss_cons (ds_expr (de_call (fun _ => c_need_set) (fun _ => hr.mono (by decide)) (fun _ => rfl) (dc_val (dx_var (fun _ => pv 0) rfl rfl) dc_nil)))
      (dss_cons (ds_set (de_lc (own := [("piece", 2)]) (fun _ => sc_kind_counts.nd) (di_seq (dx_var (fun _ => pv 0) rfl rfl)) (fun _ => blkOk_by (N := N_kind_counts) (sc := defScope s_kind_counts) (by decide +kernel)) (dg_name (fun _ => sc_kind_counts.nd) (fun _ => rfl) (fun _ => Or.inl rfl) (fun _ => Or.inr rfl) rfl rfl) dts_nil (DE.toX (de_call (fun _ => c_kind_in) (fun _ => hr.mono (by decide)) (fun _ => rfl) (dc_val (dx_var (fun _ => pv 2) rfl rfl) dc_nil))) rfl rfl rfl) rfl rfl fun _ _ h => ps_set sc_kind_counts.nd rfl (Or.inr rfl) h)
      (dss_one (ds_ret (de_callTy hc_tuple (fun _ => by rfl) (fun _ => z_tuple) (by decide +kernel) cv_tuple (dav_one (DX.v (DE.toX (de_lc (own := [("kind", 3)]) (fun _ => sc_kind_counts.nd) (di_gtup (fun _ => by rfl) (fun _ => g_KINDS) k_KINDS rfl) (fun _ => blkOk_by (N := N_kind_counts) (sc := defScope s_kind_counts) (by decide +kernel)) (dg_name (fun _ => sc_kind_counts.nd) (fun _ => rfl) (fun _ => Or.inl rfl) (fun _ => Or.inr rfl) rfl rfl) dts_nil (dx_lcount (dx_var (fun _ => pv 1) rfl rfl) (dx_var (fun _ => pv 3) rfl rfl)) rfl rfl rfl)))))))))
abbrev s_law_cup : Stmt := topS 26
abbrev N_law_cup : List Str := ["script", "cell"]
theorem sc_law_cup : FnScope N_law_cup ["script"] (defScope s_law_cup) := ⟨rfl, rfl, rfl, by decide +kernel, rfl, by decide +kernel, by decide +kernel⟩
theorem cal_law_cup {f : Addr} {fd : FuncData} (F : Fun K "_law_cup" "_law_cup" s_law_cup f fd) (mgf : mg "_law_cup" = some (.ref f)) (z_abs : mg "abs" = none) (z_int : mg "int" = none) (z_list : mg "list" = none) : Cal P w K mg base 1 "_law_cup" ["script"] [0] M.m_law_cup := by
  refine ⟨f, fd, ?_, mgf, F.kp, F.binds (ps := ["script"]) fun _ _ _ _ _ _ us hl => match us, hl with | [_], _ => rfl⟩
  refine fn_ok (B := [0]) (N := N_law_cup) (k := 0) (fb := M.fb_law_cup) F sc_law_cup rfl rfl fun cdv A outer s H E hr Ad F0 => ?_
  exact (dss_cons (ds_set (de_callB hc_abs (fun _ => by rfl) (fun _ => z_abs) (by decide +kernel) cv_abs (dav_one (DX.v (dx_ix (DE.toX (de_bin ho_add opd_add (DE.toX (de_callTy hc_list (fun _ => by rfl) (fun _ => z_list) (by decide +kernel) cv_list (dav_one (dv_name (fun _ => pv 0) rfl)))) (DE.toX (de_lst (da_cons dx_int da_nil))))) dx_int)))) rfl rfl fun _ _ h => ps_set sc_law_cup.nd rfl (Or.inl rfl) h)
      (dss_one (ds_ret (de_lst (da_cons (DE.toX (de_if (dt_cmp ho_ge opd_geI (dx_var (fun _ => pv 1) rfl rfl) (DE.toX (de_bin ho_pow opd_pow dx_int dx_int)) (nobehind _ (by decide) (by decide))) (de_bin ho_div opd_div (dx_var (fun _ => pv 1) rfl rfl) dx_int) (DX.toE dx_int))) (da_cons (DE.toX (de_bin ho_add opd_add (DE.toX (de_bin ho_mod opd_mod (DE.toX (de_callTy hc_int (fun _ => by rfl) (fun _ => z_int) (by decide +kernel) cv_int (dav_one (DX.v (DE.toX (de_bin ho_add opd_add (DE.toX (de_bin ho_mul opd_mul (dx_var (fun _ => pv 1) rfl rfl) dx_int)) dx_int)))))) dx_int)) dx_int)) da_nil))))))
abbrev s_law_roll : Stmt := topS 27
abbrev N_law_roll : List Str := ["cup", "many", "found", "deep"]
theorem sc_law_roll : FnScope N_law_roll ["cup", "many"] (defScope s_law_roll) := ⟨rfl, rfl, rfl, by decide +kernel, rfl, by decide +kernel, by decide +kernel⟩
theorem cal_law_roll {f : Addr} {fd : FuncData} (F : Fun K "_law_roll" "_law_roll" s_law_roll f fd) (mgf : mg "_law_roll" = some (.ref f)) (z_int : mg "int" = none) : Cal P w K mg base 1 "_law_roll" ["cup", "many"] [0] M.m_law_roll := by
  refine ⟨f, fd, ?_, mgf, F.kp, F.binds (ps := ["cup", "many"]) fun _ _ _ _ _ _ us hl => match us, hl with | [_, _], _ => rfl⟩
  refine fn_ok (B := [0]) (N := N_law_roll) (k := 0) (fb := M.fb_law_roll) F sc_law_roll rfl rfl fun cdv A outer s H E hr Ad F0 => ?_
  exact (dss_cons (ds_if (dt_cmp ho_gtA opd_gtA (dx_ixN (fun _ => pv 0) rfl dx_int) dx_int (nobehind _ (by decide) (by decide)))
      (dss_cons (ds_set (de_bin ho_mod opd_mod (DE.toX (de_callTy hc_int (fun _ => by rfl) (fun _ => z_int) (by decide +kernel) cv_int (dav_one (DX.v (dx_ixN (fun _ => pv 0) rfl dx_int))))) (dx_var (fun _ => pv 1) rfl rfl)) rfl rfl fun _ _ h => ps_set sc_law_roll.nd rfl (Or.inl rfl) h)
      (dss_cons (ds_setIx (DE.toX (de_bin ho_div opd_div (dx_ixN (fun _ => pv 0) rfl dx_int) (dx_var (fun _ => pv 1) rfl rfl))) (fun _ => pv 0) rfl dx_int fun _ _ _ h1 h2 => ps_asg h1 (pg_sub (pv 0) h2 set_list (fun _ => rfl)))
      (dss_one (ds_ret (de_move (fun _ => pv 2) rfl rfl)))))
      dss_nil)
      (dss_cons (ds_setIx (DE.toX (de_bin ho_mod opd_mod (DE.toX (de_callTy hc_int (fun _ => by rfl) (fun _ => z_int) (by decide +kernel) cv_int (dav_one (DX.v (DE.toX (de_bin ho_add opd_add (DE.toX (de_bin ho_mul opd_mul (dx_ixN (fun _ => pv 0) rfl dx_int) dx_int)) dx_int)))))) dx_int)) (fun _ => pv 0) rfl dx_int fun _ _ _ h1 h2 => ps_asg h1 (pg_sub (pv 0) h2 set_list (fun _ => rfl)))
      (dss_cons (ds_set (de_bin ho_mod opd_mod (DE.toX (de_callTy hc_int (fun _ => by rfl) (fun _ => z_int) (by decide +kernel) cv_int (dav_one (DX.v (DE.toX (de_bin ho_mul opd_mul (dx_ixN (fun _ => pv 0) rfl dx_int) (DE.toX (de_bin ho_add opd_add (dx_ixN (fun _ => pv 0) rfl dx_int) dx_int)))))))) dx_int) rfl rfl fun _ _ h => ps_set sc_law_roll.nd rfl (Or.inl rfl) h)
      (dss_one (ds_ret (de_bin ho_mod opd_mod (DE.toX (de_callTy hc_int (fun _ => by rfl) (fun _ => z_int) (by decide +kernel) cv_int (dav_one (DX.v (DE.toX (de_bin ho_div opd_div (dx_var (fun _ => pv 3) rfl rfl) dx_int)))))) (dx_var (fun _ => pv 1) rfl rfl)))))))
abbrev s_law_some : Stmt := topS 28
abbrev N_law_some : List Str := ["cup", "things"]
theorem sc_law_some : FnScope N_law_some ["cup", "things"] (defScope s_law_some) := ⟨rfl, rfl, rfl, by decide +kernel, rfl, by decide +kernel, by decide +kernel⟩
theorem cal_law_some {f : Addr} {fd : FuncData} (F : Fun K "_law_some" "_law_some" s_law_some f fd) (mgf : mg "_law_some" = some (.ref f)) (c_law_roll : Cal P w K mg base 1 "_law_roll" ["cup", "many"] [0] M.m_law_roll) (z_len : mg "len" = none) : Cal P w K mg base 2 "_law_some" ["cup", "things"] [0] M.m_law_some := by
  refine ⟨f, fd, ?_, mgf, F.kp, F.binds (ps := ["cup", "things"]) fun _ _ _ _ _ _ us hl => match us, hl with | [_, _], _ => rfl⟩
  refine fn_ok (B := [0]) (N := N_law_some) (k := 1) (fb := M.fb_law_some) F sc_law_some rfl rfl fun cdv A outer s H E hr Ad F0 => ?_
  exact (dss_one (ds_ret (DX.toE (dx_ixN (fun _ => pv 1) rfl (DE.toX (de_call (fun _ => c_law_roll) (fun _ => hr.mono (by decide)) (fun _ => rfl) (dc_bor (fun _ => pv 0) rfl (dc_val (DE.toX (de_callB hc_len (fun _ => by rfl) (fun _ => z_len) (by decide +kernel) cv_len (dav_one (dv_name (fun _ => pv 1) rfl)))) dc_nil))))))))
abbrev s_law_same : Stmt := topS 29
abbrev N_law_same : List Str := ["told", "due", "at"]
theorem sc_law_same : FnScope N_law_same ["told", "due"] (defScope s_law_same) := ⟨rfl, rfl, rfl, by decide +kernel, rfl, by decide +kernel, by decide +kernel⟩
theorem cal_law_same {f : Addr} {fd : FuncData} (F : Fun K "_law_same" "_law_same" s_law_same f fd) (mgf : mg "_law_same" = some (.ref f)) (z_all : mg "all" = none) (z_bool : mg "bool" = none) (z_int : mg "int" = none) (z_isinstance : mg "isinstance" = none) (z_len : mg "len" = none) (z_range : mg "range" = none) (z_str : mg "str" = none) (z_tuple : mg "tuple" = none) : ∀ n : Nat, Cal P w K mg base (0 + n) "_law_same" ["told", "due"] [] (M.m_law_same n)
  | 0 => cal_bad mgf F.kp (F.binds (ps := ["told", "due"]) fun _ _ _ _ _ _ us hl => match us, hl with | [_, _], _ => rfl)
  | n + 1 => by
    have c_law_same := cal_law_same F mgf z_all z_bool z_int z_isinstance z_len z_range z_str z_tuple n
    refine ⟨f, fd, ?_, mgf, F.kp, F.binds (ps := ["told", "due"]) fun _ _ _ _ _ _ us hl => match us, hl with | [_, _], _ => rfl⟩
    refine fn_ok (B := []) (N := N_law_same) (k := 0 + n) (fb := M.fb_law_same (M.m_law_same n)) F sc_law_same rfl rfl fun cdv A outer s H E hr Ad F0 => ?_
    exact (dss_cons (ds_if (dt_tru (dx_isi (dx_var (fun _ => pv 1) rfl rfl) kit_tuple (fun _ => by rfl) (fun _ => z_isinstance) (fun _ => by rfl) (fun _ => z_tuple) (by decide +kernel)))
      (dss_cons (ds_if (DW.t (dw_or (dt_not (dt_tru (dx_isi (dx_var (fun _ => pv 0) rfl rfl) kit_tuple (fun _ => by rfl) (fun _ => z_isinstance) (fun _ => by rfl) (fun _ => z_tuple) (by decide +kernel)))) (dw_or1 (dt_cmp ho_ne opd_ne (DE.toX (de_callB hc_len (fun _ => by rfl) (fun _ => z_len) (by decide +kernel) cv_len (dav_one (dv_name (fun _ => pv 0) rfl)))) (DE.toX (de_callB hc_len (fun _ => by rfl) (fun _ => z_len) (by decide +kernel) cv_len (dav_one (dv_name (fun _ => pv 1) rfl)))) (nobehind _ (by decide) (by decide))))))
      (dss_one (ds_ret (DX.toE dx_bl)))
      dss_nil)
      (dss_one (ds_ret (de_callB hc_all (fun _ => by rfl) (fun _ => z_all) (by decide +kernel) cv_all (dav_one (DX.v (DE.toX (de_lc (own := [("at", 2)]) (fun _ => sc_law_same.nd) (di_range1 (fun _ => by rfl) (fun _ => z_range) (DE.toX (de_callB hc_len (fun _ => by rfl) (fun _ => z_len) (by decide +kernel) cv_len (dav_one (dv_name (fun _ => pv 1) rfl))))) (fun _ => blkOk_by (N := N_law_same) (sc := defScope s_law_same) (by decide +kernel)) (dg_name (fun _ => sc_law_same.nd) (fun _ => rfl) (fun _ => Or.inl rfl) (fun _ => Or.inr rfl) rfl rfl) dts_nil (DE.toX (de_call (fun _ => c_law_same) (fun _ => hr.mono (by omega)) (fun _ => rfl) (dc_val (dx_ixN (fun _ => pv 0) rfl (dx_var (fun _ => pv 2) rfl rfl)) (dc_val (dx_ixN (fun _ => pv 1) rfl (dx_var (fun _ => pv 2) rfl rfl)) dc_nil)))) rfl rfl rfl))))))))
      dss_nil)
      (dss_cons (ds_if (dt_cmp ho_is opd_is (dx_var (fun _ => pv 1) rfl rfl) dx_non (nobehind _ (by decide) (by decide)))
      (dss_one (ds_ret (de_cmp ho_is opd_is (dx_var (fun _ => pv 0) rfl rfl) dx_non (nobehind _ (by decide) (by decide)))))
      dss_nil)
      (dss_cons (ds_if (dt_tru (dx_isi (dx_var (fun _ => pv 1) rfl rfl) kit_bool (fun _ => by rfl) (fun _ => z_isinstance) (fun _ => by rfl) (fun _ => z_bool) (by decide +kernel)))
      (dss_one (ds_ret (de_if (dt_tru (dx_var (fun _ => pv 1) rfl rfl)) (de_cmp ho_is opd_is (dx_var (fun _ => pv 0) rfl rfl) dx_bl (nobehind _ (by decide) (by decide))) (de_cmp ho_is opd_is (dx_var (fun _ => pv 0) rfl rfl) dx_bl (nobehind _ (by decide) (by decide))))))
      dss_nil)
      (dss_cons (ds_if (dt_tru (dx_isi (dx_var (fun _ => pv 1) rfl rfl) kit_int (fun _ => by rfl) (fun _ => z_isinstance) (fun _ => by rfl) (fun _ => z_int) (by decide +kernel)))
      (dss_one (ds_ret (DX.toE (dx_and (dx_isi (dx_var (fun _ => pv 0) rfl rfl) kit_int (fun _ => by rfl) (fun _ => z_isinstance) (fun _ => by rfl) (fun _ => z_int) (by decide +kernel)) (dx_and (dx_not (dx_isi (dx_var (fun _ => pv 0) rfl rfl) kit_bool (fun _ => by rfl) (fun _ => z_isinstance) (fun _ => by rfl) (fun _ => z_bool) (by decide +kernel))) (dx_one (DE.toX (de_cmp ho_eq opd_eq (DE.toX (de_callTy hc_int (fun _ => by rfl) (fun _ => z_int) (by decide +kernel) cv_int (dav_one (dv_name (fun _ => pv 0) rfl)))) (dx_var (fun _ => pv 1) rfl rfl) (nobehind _ (by decide) (by decide))))))))))
      dss_nil)
      (dss_one (ds_ret (DX.toE (dx_and (dx_isi (dx_var (fun _ => pv 0) rfl rfl) kit_str (fun _ => by rfl) (fun _ => z_isinstance) (fun _ => by rfl) (fun _ => z_str) (by decide +kernel)) (dx_one (DE.toX (de_cmp ho_eq opd_eq (DE.toX (de_callTy hc_str (fun _ => by rfl) (fun _ => z_str) (by decide +kernel) cv_str (dav_one (dv_name (fun _ => pv 0) rfl)))) (dx_var (fun _ => pv 1) rfl rfl) (nobehind _ (by decide) (by decide)))))))))))))
abbrev s_law_piece : Stmt := topS 30
abbrev N_law_piece : List Str := ["cup", "high", "side"]
theorem sc_law_piece : FnScope N_law_piece ["cup", "high"] (defScope s_law_piece) := ⟨rfl, rfl, rfl, by decide +kernel, rfl, by decide +kernel, by decide +kernel⟩
theorem cal_law_piece {f : Addr} {fd : FuncData} (F : Fun K "_law_piece" "_law_piece" s_law_piece f fd) (mgf : mg "_law_piece" = some (.ref f)) (c_law_roll : Cal P w K mg base 1 "_law_roll" ["cup", "many"] [0] M.m_law_roll) (z_range : mg "range" = none) (z_tuple : mg "tuple" = none) : Cal P w K mg base 2 "_law_piece" ["cup", "high"] [0] M.m_law_piece := by
  refine ⟨f, fd, ?_, mgf, F.kp, F.binds (ps := ["cup", "high"]) fun _ _ _ _ _ _ us hl => match us, hl with | [_, _], _ => rfl⟩
  refine fn_ok (B := [0]) (N := N_law_piece) (k := 1) (fb := M.fb_law_piece) F sc_law_piece rfl rfl fun cdv A outer s H E hr Ad F0 => ?_
  exact (dss_one (ds_ret (de_callTy hc_tuple (fun _ => by rfl) (fun _ => z_tuple) (by decide +kernel) cv_tuple (dav_one (DX.v (DE.toX (de_lc (own := [("side", 2)]) (fun _ => sc_law_piece.nd) (di_range1 (fun _ => by rfl) (fun _ => z_range) dx_int) (fun _ => blkOk_by (N := N_law_piece) (sc := defScope s_law_piece) (by decide +kernel)) (dg_name (fun _ => sc_law_piece.nd) (fun _ => rfl) (fun _ => Or.inl rfl) (fun _ => Or.inr rfl) rfl rfl) dts_nil (DE.toX (de_bin ho_sub opd_sub (DE.toX (de_call (fun _ => c_law_roll) (fun _ => hr.mono (by decide)) (fun _ => rfl) (dc_bor (fun _ => pv 0) rfl (dc_val (DE.toX (de_bin ho_add opd_add (DE.toX (de_bin ho_mul opd_mul dx_int (dx_var (fun _ => pv 1) rfl rfl))) dx_int)) dc_nil)))) (dx_var (fun _ => pv 1) rfl rfl))) rfl rfl rfl)))))))
abbrev s_law_set : Stmt := topS 31
abbrev N_law_set : List Str := ["cup", "many", "high", "piece"]
theorem sc_law_set : FnScope N_law_set ["cup", "many", "high"] (defScope s_law_set) := ⟨rfl, rfl, rfl, by decide +kernel, rfl, by decide +kernel, by decide +kernel⟩
theorem cal_law_set {f : Addr} {fd : FuncData} (F : Fun K "_law_set" "_law_set" s_law_set f fd) (mgf : mg "_law_set" = some (.ref f)) (c_law_piece : Cal P w K mg base 2 "_law_piece" ["cup", "high"] [0] M.m_law_piece) (c_law_roll : Cal P w K mg base 1 "_law_roll" ["cup", "many"] [0] M.m_law_roll) (z_range : mg "range" = none) (z_tuple : mg "tuple" = none) : Cal P w K mg base 3 "_law_set" ["cup", "many", "high"] [0] M.m_law_set := by
  refine ⟨f, fd, ?_, mgf, F.kp, F.binds (ps := ["cup", "many", "high"]) fun _ _ _ _ _ _ us hl => match us, hl with | [_, _, _], _ => rfl⟩
  refine fn_ok (B := [0]) (N := N_law_set) (k := 2) (fb := M.fb_law_set) F sc_law_set rfl rfl fun cdv A outer s H E hr Ad F0 => ?_
  exact (dss_one (ds_ret (de_callTy hc_tuple (fun _ => by rfl) (fun _ => z_tuple) (by decide +kernel) cv_tuple (dav_one (DX.v (DE.toX (de_lc (own := [("piece", 3)]) (fun _ => sc_law_set.nd) (di_range1 (fun _ => by rfl) (fun _ => z_range) (DE.toX (de_bin ho_add opd_add dx_int (DE.toX (de_call (fun _ => c_law_roll) (fun _ => hr.mono (by decide)) (fun _ => rfl) (dc_bor (fun _ => pv 0) rfl (dc_val (dx_var (fun _ => pv 1) rfl rfl) dc_nil))))))) (fun _ => blkOk_by (N := N_law_set) (sc := defScope s_law_set) (by decide +kernel)) (dg_name (fun _ => sc_law_set.nd) (fun _ => rfl) (fun _ => Or.inl rfl) (fun _ => Or.inr rfl) rfl rfl) dts_nil (DE.toX (de_call (fun _ => c_law_piece) (fun _ => hr.mono (by decide)) (fun _ => rfl) (dc_bor (fun _ => pv 0) rfl (dc_val (dx_var (fun _ => pv 2) rfl rfl) dc_nil)))) rfl rfl rfl)))))))
abbrev s_law_kind : Stmt := topS 33
abbrev N_law_kind : List Str := ["piece", "flat", "edge", "pairs", "side"]
theorem sc_law_kind : FnScope N_law_kind ["piece"] (defScope s_law_kind) := ⟨rfl, rfl, rfl, by decide +kernel, rfl, by decide +kernel, by decide +kernel⟩
theorem cal_law_kind {f : Addr} {fd : FuncData} (F : Fun K "_law_kind" "_law_kind" s_law_kind f fd) (mgf : mg "_law_kind" = some (.ref f)) (z_range : mg "range" = none) : Cal P w K mg base 1 "_law_kind" ["piece"] [] M.m_law_kind := by
  refine ⟨f, fd, ?_, mgf, F.kp, F.binds (ps := ["piece"]) fun _ _ _ _ _ _ us hl => match us, hl with | [_], _ => rfl⟩
  refine fn_ok (B := []) (N := N_law_kind) (k := 0) (fb := M.fb_law_kind) F sc_law_kind rfl rfl fun cdv A outer s H E hr Ad F0 => ?_
  exact (dss_cons (ds_set (de_lc (own := [("edge", 2)]) (fun _ => sc_law_kind.nd) (di_seq (dx_var (fun _ => pv 0) rfl rfl)) (fun _ => blkOk_by (N := N_law_kind) (sc := defScope s_law_kind) (by decide +kernel)) (dg_name (fun _ => sc_law_kind.nd) (fun _ => rfl) (fun _ => Or.inl rfl) (fun _ => Or.inr rfl) rfl rfl) dts_nil (DE.toX (de_cmp ho_eq opd_eq (dx_var (fun _ => pv 2) rfl rfl) dx_int (nobehind _ (by decide) (by decide)))) rfl rfl rfl) rfl rfl fun _ _ h => ps_set sc_law_kind.nd rfl (Or.inr rfl) h)
      (dss_cons (ds_setLc (k := 3) (own := [("side", 4)]) (fun _ => sc_law_kind.nd) (di_range1 (fun _ => by rfl) (fun _ => z_range) dx_int) (fun _ => blkOk_by (N := N_law_kind) (sc := defScope s_law_kind) (by decide +kernel)) (dg_name (fun _ => sc_law_kind.nd) (fun _ => rfl) (fun _ => Or.inl rfl) (fun _ => Or.inr rfl) rfl rfl) dts_nil (dx_and (dx_ixN (fun _ => pv 1) rfl (dx_var (fun _ => pv 4) rfl rfl)) (dx_one (dx_ixN (fun _ => pv 1) rfl (DE.toX (de_bin ho_mod opd_mod (DE.toX (de_bin ho_add opd_add (dx_var (fun _ => pv 4) rfl rfl) dx_int)) dx_int))))) rfl rfl rfl (fun _ => rfl) (fun _ => rfl) (fun _ => sw_true rfl rfl rfl (by decide +kernel)) rfl rfl)
      (dss_cons (ds_if (dt_cmp ho_eq opd_eq (dx_lcount (dx_var (fun _ => pv 1) rfl rfl) dx_bl) dx_int (nobehind _ (by decide) (by decide)))
      (dss_one (ds_ret (de_if (dt_cmp ho_in opd_in dx_bl (dx_var (fun _ => pv 3) rfl rfl) rfl) (DX.toE dx_str) (DX.toE dx_str))))
      dss_nil)
      (dss_one (ds_ret (DX.toE (dx_dgetE (de_disp [(.inl (0), .str (Str.ofString "inner")), (.inl (1), .str (Str.ofString "side")), (.inl (3), .str (Str.ofString "end")), (.inl (4), .str (Str.ofString "whole"))] (fun _ => (pps_cons pe_int pe_str (pps_cons pe_int pe_str (pps_cons pe_int pe_str (pps_cons pe_int pe_str pps_nil))))) rfl rfl (List.cons_ne_nil _ _) (by decide) (by decide) rfl (by kernel_rfl)) (dx_lcount (dx_var (fun _ => pv 1) rfl rfl) dx_bl) rfl)))))))
abbrev s_law : Stmt := topS 34
abbrev N_law : List Str := ["script", "cup", "turn", "pieces", "counts", "piece", "kind", "sides", "side", "due", "told"]
theorem sc_law : FnScope N_law ["script"] (defScope s_law) := ⟨rfl, rfl, rfl, by decide +kernel, rfl, by decide +kernel, by decide +kernel⟩
theorem law_ok {f : Addr} {fd : FuncData} (F : Fun K "law" "law" s_law f fd) (c_law_cup : Cal P w K mg base 1 "_law_cup" ["script"] [0] M.m_law_cup) (c_law_kind : Cal P w K mg base 1 "_law_kind" ["piece"] [] M.m_law_kind) (c_law_same : Cal P w K mg base 12 "_law_same" ["told", "due"] [] (M.m_law_same 12)) (c_law_set : Cal P w K mg base 3 "_law_set" ["cup", "many", "high"] [0] M.m_law_set) (c_law_some : Cal P w K mg base 2 "_law_some" ["cup", "things"] [0] M.m_law_some) (c_flat_sides : Cal P w K mg base 6 "flat_sides" ["piece"] [] M.m_flat_sides) (c_kind_counts : Cal P w K mg base 7 "kind_counts" ["pieces"] [] M.m_kind_counts) (c_kind_of : Cal P w K mg base 6 "kind_of" ["piece"] [] M.m_kind_of) (c_turned : Cal P w K mg base 6 "turned" ["piece", "turn"] [] M.m_turned) (z_len : mg "len" = none) (z_range : mg "range" = none) (z_sorted : mg "sorted" = none) (z_sum : mg "sum" = none) (z_tuple : mg "tuple" = none) : FnOk P w K mg base CX0 13 f fd ["script"] (spD K [] M.m_law) := by
  refine fn_ok (B := []) (N := N_law) (k := 12) (fb := M.fb_law) F sc_law rfl rfl fun cdv A outer s H E hr Ad F0 => ?_
  exact (dss_cons (ds_set (de_call (fun _ => c_law_cup) (fun _ => hr.mono (by decide)) (fun _ => rfl) (dc_bor (fun _ => pv 0) rfl dc_nil)) rfl rfl fun _ _ h => ps_set sc_law.nd rfl (Or.inl rfl) h)
      (dss_cons (ds_for [2, 3, 4, 5, 6, 7, 9] rfl (di_range1 (fun _ => by rfl) (fun _ => z_range) dx_int) (dg_name (fun _ => sc_law.nd) (fun _ => rfl) (fun _ => Or.inl rfl) (fun _ => Or.inl rfl) rfl rfl) (dss_cons (ds_set (de_call (fun _ => c_law_set) (fun _ => hr.mono (by decide)) (fun _ => rfl) (dc_bor (fun _ => pv 1) rfl (dc_val dx_int (dc_val (DE.toX (de_call (fun _ => c_law_some) (fun _ => hr.mono (by decide)) (fun _ => rfl) (dc_bor (fun _ => pv 1) rfl (dc_val (DE.toX (de_lst (da_cons dx_int (da_cons dx_int (da_cons dx_int (da_cons dx_int da_nil)))))) dc_nil)))) dc_nil)))) rfl rfl fun _ _ h => ps_set sc_law.nd rfl (Or.inl rfl) h)
      (dss_cons (ds_set de_dnewK rfl rfl fun _ _ h => ps_set sc_law.nd rfl (Or.inr rfl) h)
      (dss_cons (ds_for [5, 6, 7] rfl (di_seq (dx_var (fun _ => pv 3) rfl rfl)) (dg_name (fun _ => sc_law.nd) (fun _ => rfl) (fun _ => Or.inr rfl) (fun _ => Or.inl rfl) rfl rfl) (dss_cons (ds_set (de_call (fun _ => c_law_kind) (fun _ => hr.mono (by decide)) (fun _ => rfl) (dc_val (dx_var (fun _ => pv 5) rfl rfl) dc_nil)) rfl rfl fun _ _ h => ps_set sc_law.nd rfl (Or.inl rfl) h)
      (dss_cons (ds_dput (DE.toX (de_bin ho_add opd_add (dx_dget2 (fun _ => pv 4) rfl (dx_var (fun _ => pv 6) rfl rfl) dx_int (fun _ => ⟨rfl, rfl, rfl, rfl⟩)) dx_int)) (fun _ => pv 4) (dx_var (fun _ => pv 6) rfl rfl))
      (dss_cons (ds_set (de_callTy hc_tuple (fun _ => by rfl) (fun _ => z_tuple) (by decide +kernel) cv_tuple (dav_one (DX.v (DE.toX (de_lc (own := [("side", 8)]) (fun _ => sc_law.nd) (di_range1 (fun _ => by rfl) (fun _ => z_range) dx_int) (fun _ => blkOk_by (N := N_law) (sc := defScope s_law) (by decide +kernel)) (dg_name (fun _ => sc_law.nd) (fun _ => rfl) (fun _ => Or.inl rfl) (fun _ => Or.inr rfl) rfl rfl) (dts_one (dt_cmp ho_eq opd_eq (dx_ixN (fun _ => pv 5) rfl (dx_var (fun _ => pv 8) rfl rfl)) dx_int (nobehind _ (by decide) (by decide)))) (dx_var (fun _ => pv 8) rfl rfl) rfl rfl rfl))))) rfl rfl fun _ _ h => ps_set sc_law.nd rfl (Or.inl rfl) h)
      (dss_cons (ds_if (dt_not (dt_tru (DE.toX (de_call (fun _ => c_law_same) (fun _ => hr.mono (by decide)) (fun _ => rfl) (dc_val (dx_tup (da_cons (DE.toX (de_call (fun _ => c_kind_of) (fun _ => hr.mono (by decide)) (fun _ => rfl) (dc_val (dx_var (fun _ => pv 5) rfl rfl) dc_nil))) (da_cons (DE.toX (de_call (fun _ => c_flat_sides) (fun _ => hr.mono (by decide)) (fun _ => rfl) (dc_val (dx_var (fun _ => pv 5) rfl rfl) dc_nil))) (da_cons (DE.toX (de_call (fun _ => c_kind_of) (fun _ => hr.mono (by decide)) (fun _ => rfl) (dc_val (DE.toX (de_call (fun _ => c_turned) (fun _ => hr.mono (by decide)) (fun _ => rfl) (dc_val (dx_var (fun _ => pv 5) rfl rfl) (dc_val dx_int dc_nil)))) dc_nil))) da_nil)))) (dc_val (dx_tup (da_cons (dx_var (fun _ => pv 6) rfl rfl) (da_cons (dx_var (fun _ => pv 7) rfl rfl) (da_cons (dx_var (fun _ => pv 6) rfl rfl) da_nil)))) dc_nil))))))
      (dss_one (ds_ret (DX.toE dx_bl)))
      dss_nil)
      (dss_one (ds_if (dt_not (dt_tru (DE.toX (de_call (fun _ => c_law_same) (fun _ => hr.mono (by decide)) (fun _ => rfl) (dc_val (DE.toX (de_call (fun _ => c_flat_sides) (fun _ => hr.mono (by decide)) (fun _ => rfl) (dc_val (DE.toX (de_call (fun _ => c_turned) (fun _ => hr.mono (by decide)) (fun _ => rfl) (dc_val (dx_var (fun _ => pv 5) rfl rfl) (dc_val dx_int dc_nil)))) dc_nil))) (dc_val (DE.toX (de_callTy hc_tuple (fun _ => by rfl) (fun _ => z_tuple) (by decide +kernel) cv_tuple (dav_one (DX.v (DE.toX (de_callB hc_sorted (fun _ => by rfl) (fun _ => z_sorted) (by decide +kernel) cv_sorted (dav_one (DX.v (DE.toX (de_lc (own := [("side", 8)]) (fun _ => sc_law.nd) (di_seq (dx_var (fun _ => pv 7) rfl rfl)) (fun _ => blkOk_by (N := N_law) (sc := defScope s_law) (by decide +kernel)) (dg_name (fun _ => sc_law.nd) (fun _ => rfl) (fun _ => Or.inl rfl) (fun _ => Or.inr rfl) rfl rfl) dts_nil (DE.toX (de_bin ho_mod opd_mod (DE.toX (de_bin ho_add opd_add (dx_var (fun _ => pv 8) rfl rfl) dx_int)) dx_int)) rfl rfl rfl)))))))))) dc_nil))))))
      (dss_one (ds_ret (DX.toE dx_bl)))
      dss_nil)))))) (fun _ => PassesOwn.never))
      (dss_cons (ds_set (de_callTy hc_tuple (fun _ => by rfl) (fun _ => z_tuple) (by decide +kernel) cv_tuple (dav_one (DX.v (DE.toX (de_lc (own := [("kind", 6)]) (fun _ => sc_law.nd) (di_seq (dx_tup (da_cons dx_str (da_cons dx_str (da_cons dx_str (da_cons dx_str (da_cons dx_str (da_cons dx_str da_nil)))))))) (fun _ => blkOk_by (N := N_law) (sc := defScope s_law) (by decide +kernel)) (dg_name (fun _ => sc_law.nd) (fun _ => rfl) (fun _ => Or.inl rfl) (fun _ => Or.inr rfl) rfl rfl) dts_nil (dx_dget2 (fun _ => pv 4) rfl (dx_var (fun _ => pv 6) rfl rfl) dx_int (fun _ => ⟨rfl, rfl, rfl, rfl⟩)) rfl rfl rfl))))) rfl rfl fun _ _ h => ps_set sc_law.nd rfl (Or.inl rfl) h)
      (dss_one (ds_if (DW.t (dw_or (dt_not (dt_tru (DE.toX (de_call (fun _ => c_law_same) (fun _ => hr.mono (by decide)) (fun _ => rfl) (dc_val (DE.toX (de_call (fun _ => c_kind_counts) (fun _ => hr.mono (by decide)) (fun _ => rfl) (dc_val (dx_var (fun _ => pv 3) rfl rfl) dc_nil))) (dc_val (dx_var (fun _ => pv 9) rfl rfl) dc_nil)))))) (dw_or1 (dt_cmp ho_ne opd_ne (DE.toX (de_callB hc_sumA (fun _ => by rfl) (fun _ => z_sum) (by decide +kernel) cv_sumA (dav_one (DX.v (DE.toX (de_call (fun _ => c_kind_counts) (fun _ => hr.mono (by decide)) (fun _ => rfl) (dc_val (dx_var (fun _ => pv 3) rfl rfl) dc_nil))))))) (DE.toX (de_callB hc_len (fun _ => by rfl) (fun _ => z_len) (by decide +kernel) cv_len (dav_one (dv_name (fun _ => pv 3) rfl)))) (nobehind _ (by decide) (by decide))))))
      (dss_one (ds_ret (DX.toE dx_bl)))
      dss_nil)))))) (fun _ => PassesOwn.never))
      (dss_cons (ds_set (DX.toE (dx_tup (da_cons (DE.toX (de_call (fun _ => c_kind_of) (fun _ => hr.mono (by decide)) (fun _ => rfl) (dc_val (dx_tup (da_cons dx_int (da_cons dx_int (da_cons dx_int (da_cons dx_int da_nil))))) dc_nil))) (da_cons (DE.toX (de_call (fun _ => c_kind_of) (fun _ => hr.mono (by decide)) (fun _ => rfl) (dc_val (dx_tup (da_cons dx_int (da_cons dx_int (da_cons dx_int (da_cons dx_int da_nil))))) dc_nil))) (da_cons (DE.toX (de_call (fun _ => c_kind_of) (fun _ => hr.mono (by decide)) (fun _ => rfl) (dc_val (dx_tup (da_cons dx_int (da_cons dx_int (da_cons dx_int (da_cons dx_int da_nil))))) dc_nil))) (da_cons (DE.toX (de_call (fun _ => c_kind_of) (fun _ => hr.mono (by decide)) (fun _ => rfl) (dc_val (dx_tup (da_cons dx_int (da_cons dx_int (da_cons dx_int (da_cons dx_int da_nil))))) dc_nil))) (da_cons (DE.toX (de_call (fun _ => c_kind_of) (fun _ => hr.mono (by decide)) (fun _ => rfl) (dc_val (dx_tup (da_cons dx_int (da_cons dx_int (da_cons dx_int (da_cons dx_int da_nil))))) dc_nil))) (da_cons (DE.toX (de_call (fun _ => c_kind_of) (fun _ => hr.mono (by decide)) (fun _ => rfl) (dc_val (DE.toX (de_bin ho_mul opd_mul (dx_tup (da_cons dx_int da_nil)) dx_int)) dc_nil))) da_nil)))))))) rfl rfl fun _ _ h => ps_set sc_law.nd rfl (Or.inl rfl) h)
      (dss_one (ds_ret (de_call (fun _ => c_law_same) (fun _ => hr.mono (by decide)) (fun _ => rfl) (dc_val (dx_var (fun _ => pv 10) rfl rfl) (dc_val (dx_tup (da_cons dx_str (da_cons dx_str (da_cons dx_str (da_cons dx_str (da_cons dx_str (da_cons dx_str da_nil))))))) dc_nil))))))))
end
theorem all_mk {l : PySem.W.OpenLaw} {w : World} {K : PySem.W.Frag} {h : Heap} {mg : Str → Option Value} {fa : Addr} (X : K.In h) (G : h.Ns mainGlobals mg) (hfa : mg "law" = some (.ref fa))
    {f0 : Addr} {od0 an0 : Option Addr} {sl0 : Array (Option Value)} {oc0 kV0 dc0 pm0 cd0 ct0 : Value}
    {f1 : Addr} {od1 an1 : Option Addr} {sl1 : Array (Option Value)} {oc1 kV1 dc1 pm1 cd1 ct1 : Value}
    {f2 : Addr} {od2 an2 : Option Addr} {sl2 : Array (Option Value)} {oc2 kV2 dc2 pm2 cd2 ct2 : Value}
    {f3 : Addr} {od3 an3 : Option Addr} {sl3 : Array (Option Value)} {oc3 kV3 dc3 pm3 cd3 ct3 : Value}
    {f4 : Addr} {od4 an4 : Option Addr} {sl4 : Array (Option Value)} {oc4 kV4 dc4 pm4 cd4 ct4 : Value}
    {f5 : Addr} {od5 an5 : Option Addr} {sl5 : Array (Option Value)} {oc5 kV5 dc5 pm5 cd5 ct5 : Value}
    {f6 : Addr} {od6 an6 : Option Addr} {sl6 : Array (Option Value)} {oc6 kV6 dc6 pm6 cd6 ct6 : Value}
    {f7 : Addr} {od7 an7 : Option Addr} {sl7 : Array (Option Value)} {oc7 kV7 dc7 pm7 cd7 ct7 : Value}
    {f8 : Addr} {od8 an8 : Option Addr} {sl8 : Array (Option Value)} {oc8 kV8 dc8 pm8 cd8 ct8 : Value}
    {f9 : Addr} {od9 an9 : Option Addr} {sl9 : Array (Option Value)} {oc9 kV9 dc9 pm9 cd9 ct9 : Value}
    {f10 : Addr} {od10 an10 : Option Addr} {sl10 : Array (Option Value)} {oc10 kV10 dc10 pm10 cd10 ct10 : Value}
    {f11 : Addr} {od11 an11 : Option Addr} {sl11 : Array (Option Value)} {oc11 kV11 dc11 pm11 cd11 ct11 : Value}
    {f12 : Addr} {od12 an12 : Option Addr} {sl12 : Array (Option Value)} {oc12 kV12 dc12 pm12 cd12 ct12 : Value}
    {f13 : Addr} {od13 an13 : Option Addr} {sl13 : Array (Option Value)} {oc13 kV13 dc13 pm13 cd13 ct13 : Value}
    {f14 : Addr} {od14 an14 : Option Addr} {sl14 : Array (Option Value)} {oc14 kV14 dc14 pm14 cd14 ct14 : Value}
    {f15 : Addr} {od15 an15 : Option Addr} {sl15 : Array (Option Value)} {oc15 kV15 dc15 pm15 cd15 ct15 : Value}
    {f16 : Addr} {od16 an16 : Option Addr} {sl16 : Array (Option Value)} {oc16 kV16 dc16 pm16 cd16 ct16 : Value}
    {f17 : Addr} {od17 an17 : Option Addr} {sl17 : Array (Option Value)} {oc17 kV17 dc17 pm17 cd17 ct17 : Value}
    {f18 : Addr} {od18 an18 : Option Addr} {sl18 : Array (Option Value)} {oc18 kV18 dc18 pm18 cd18 ct18 : Value}
    {f19 : Addr} {od19 an19 : Option Addr} {sl19 : Array (Option Value)} {oc19 kV19 dc19 pm19 cd19 ct19 : Value}
    {f20 : Addr} {od20 an20 : Option Addr} {sl20 : Array (Option Value)} {oc20 kV20 dc20 pm20 cd20 ct20 : Value}
    {f21 : Addr} {od21 an21 : Option Addr} {sl21 : Array (Option Value)} {oc21 kV21 dc21 pm21 cd21 ct21 : Value}
    {f22 : Addr} {od22 an22 : Option Addr} {sl22 : Array (Option Value)} {oc22 kV22 dc22 pm22 cd22 ct22 : Value}
    {t_EDGE : Tok}
    {a_KINDS : Addr}
    {t_MANY : Tok}
    {t_SIDES : Tok}
    (a0 : PySem.W.nsIn K mainGlobals "is_whole" = some (some (.ref f0))) (l0 : K.lookup f0 = some ⟨oc0, od0, .func (PySem.W.fnOf "is_whole" "is_whole" (defArgs s_is_whole) (defBody s_is_whole) (defScope s_is_whole) .none kV0 dc0 pm0 an0 cd0 ct0), sl0⟩) (c0 : PySem.W.codeIn K cd0 "is_whole" = true) (k0 : PySem.W.keepIn K (.ref f0) = true)
    (a1 : PySem.W.nsIn K mainGlobals "fits_whole" = some (some (.ref f1))) (l1 : K.lookup f1 = some ⟨oc1, od1, .func (PySem.W.fnOf "fits_whole" "fits_whole" (defArgs s_fits_whole) (defBody s_fits_whole) (defScope s_fits_whole) .none kV1 dc1 pm1 an1 cd1 ct1), sl1⟩) (c1 : PySem.W.codeIn K cd1 "fits_whole" = true) (k1 : PySem.W.keepIn K (.ref f1) = true)
    (a2 : PySem.W.nsIn K mainGlobals "is_tuple_of" = some (some (.ref f2))) (l2 : K.lookup f2 = some ⟨oc2, od2, .func (PySem.W.fnOf "is_tuple_of" "is_tuple_of" (defArgs s_is_tuple_of) (defBody s_is_tuple_of) (defScope s_is_tuple_of) .none kV2 dc2 pm2 an2 cd2 ct2), sl2⟩) (c2 : PySem.W.codeIn K cd2 "is_tuple_of" = true) (k2 : PySem.W.keepIn K (.ref f2) = true)
    (a3 : PySem.W.nsIn K mainGlobals "fits_edge" = some (some (.ref f3))) (l3 : K.lookup f3 = some ⟨oc3, od3, .func (PySem.W.fnOf "fits_edge" "fits_edge" (defArgs s_fits_edge) (defBody s_fits_edge) (defScope s_fits_edge) .none kV3 dc3 pm3 an3 cd3 ct3), sl3⟩) (c3 : PySem.W.codeIn K cd3 "fits_edge" = true) (k3 : PySem.W.keepIn K (.ref f3) = true)
    (a4 : PySem.W.nsIn K mainGlobals "fits_piece" = some (some (.ref f4))) (l4 : K.lookup f4 = some ⟨oc4, od4, .func (PySem.W.fnOf "fits_piece" "fits_piece" (defArgs s_fits_piece) (defBody s_fits_piece) (defScope s_fits_piece) .none kV4 dc4 pm4 an4 cd4 ct4), sl4⟩) (c4 : PySem.W.codeIn K cd4 "fits_piece" = true) (k4 : PySem.W.keepIn K (.ref f4) = true)
    (a5 : PySem.W.nsIn K mainGlobals "fits_set" = some (some (.ref f5))) (l5 : K.lookup f5 = some ⟨oc5, od5, .func (PySem.W.fnOf "fits_set" "fits_set" (defArgs s_fits_set) (defBody s_fits_set) (defScope s_fits_set) .none kV5 dc5 pm5 an5 cd5 ct5), sl5⟩) (c5 : PySem.W.codeIn K cd5 "fits_set" = true) (k5 : PySem.W.keepIn K (.ref f5) = true)
    (a6 : PySem.W.nsIn K mainGlobals "need_piece" = some (some (.ref f6))) (l6 : K.lookup f6 = some ⟨oc6, od6, .func (PySem.W.fnOf "need_piece" "need_piece" (defArgs s_need_piece) (defBody s_need_piece) (defScope s_need_piece) .none kV6 dc6 pm6 an6 cd6 ct6), sl6⟩) (c6 : PySem.W.codeIn K cd6 "need_piece" = true) (k6 : PySem.W.keepIn K (.ref f6) = true)
    (a7 : PySem.W.nsIn K mainGlobals "need_side" = some (some (.ref f7))) (l7 : K.lookup f7 = some ⟨oc7, od7, .func (PySem.W.fnOf "need_side" "need_side" (defArgs s_need_side) (defBody s_need_side) (defScope s_need_side) .none kV7 dc7 pm7 an7 cd7 ct7), sl7⟩) (c7 : PySem.W.codeIn K cd7 "need_side" = true) (k7 : PySem.W.keepIn K (.ref f7) = true)
    (a8 : PySem.W.nsIn K mainGlobals "need_set" = some (some (.ref f8))) (l8 : K.lookup f8 = some ⟨oc8, od8, .func (PySem.W.fnOf "need_set" "need_set" (defArgs s_need_set) (defBody s_need_set) (defScope s_need_set) .none kV8 dc8 pm8 an8 cd8 ct8), sl8⟩) (c8 : PySem.W.codeIn K cd8 "need_set" = true) (k8 : PySem.W.keepIn K (.ref f8) = true)
    (a9 : PySem.W.nsIn K mainGlobals "turned_in" = some (some (.ref f9))) (l9 : K.lookup f9 = some ⟨oc9, od9, .func (PySem.W.fnOf "turned_in" "turned_in" (defArgs s_turned_in) (defBody s_turned_in) (defScope s_turned_in) .none kV9 dc9 pm9 an9 cd9 ct9), sl9⟩) (c9 : PySem.W.codeIn K cd9 "turned_in" = true) (k9 : PySem.W.keepIn K (.ref f9) = true)
    (a10 : PySem.W.nsIn K mainGlobals "kind_in" = some (some (.ref f10))) (l10 : K.lookup f10 = some ⟨oc10, od10, .func (PySem.W.fnOf "kind_in" "kind_in" (defArgs s_kind_in) (defBody s_kind_in) (defScope s_kind_in) .none kV10 dc10 pm10 an10 cd10 ct10), sl10⟩) (c10 : PySem.W.codeIn K cd10 "kind_in" = true) (k10 : PySem.W.keepIn K (.ref f10) = true)
    (a11 : PySem.W.nsIn K mainGlobals "turned" = some (some (.ref f11))) (l11 : K.lookup f11 = some ⟨oc11, od11, .func (PySem.W.fnOf "turned" "turned" (defArgs s_turned) (defBody s_turned) (defScope s_turned) .none kV11 dc11 pm11 an11 cd11 ct11), sl11⟩) (c11 : PySem.W.codeIn K cd11 "turned" = true) (k11 : PySem.W.keepIn K (.ref f11) = true)
    (a12 : PySem.W.nsIn K mainGlobals "kind_of" = some (some (.ref f12))) (l12 : K.lookup f12 = some ⟨oc12, od12, .func (PySem.W.fnOf "kind_of" "kind_of" (defArgs s_kind_of) (defBody s_kind_of) (defScope s_kind_of) .none kV12 dc12 pm12 an12 cd12 ct12), sl12⟩) (c12 : PySem.W.codeIn K cd12 "kind_of" = true) (k12 : PySem.W.keepIn K (.ref f12) = true)
    (a13 : PySem.W.nsIn K mainGlobals "flat_sides" = some (some (.ref f13))) (l13 : K.lookup f13 = some ⟨oc13, od13, .func (PySem.W.fnOf "flat_sides" "flat_sides" (defArgs s_flat_sides) (defBody s_flat_sides) (defScope s_flat_sides) .none kV13 dc13 pm13 an13 cd13 ct13), sl13⟩) (c13 : PySem.W.codeIn K cd13 "flat_sides" = true) (k13 : PySem.W.keepIn K (.ref f13) = true)
    (a14 : PySem.W.nsIn K mainGlobals "kind_counts" = some (some (.ref f14))) (l14 : K.lookup f14 = some ⟨oc14, od14, .func (PySem.W.fnOf "kind_counts" "kind_counts" (defArgs s_kind_counts) (defBody s_kind_counts) (defScope s_kind_counts) .none kV14 dc14 pm14 an14 cd14 ct14), sl14⟩) (c14 : PySem.W.codeIn K cd14 "kind_counts" = true) (k14 : PySem.W.keepIn K (.ref f14) = true)
    (a15 : PySem.W.nsIn K mainGlobals "_law_cup" = some (some (.ref f15))) (l15 : K.lookup f15 = some ⟨oc15, od15, .func (PySem.W.fnOf "_law_cup" "_law_cup" (defArgs s_law_cup) (defBody s_law_cup) (defScope s_law_cup) .none kV15 dc15 pm15 an15 cd15 ct15), sl15⟩) (c15 : PySem.W.codeIn K cd15 "_law_cup" = true) (k15 : PySem.W.keepIn K (.ref f15) = true)
    (a16 : PySem.W.nsIn K mainGlobals "_law_roll" = some (some (.ref f16))) (l16 : K.lookup f16 = some ⟨oc16, od16, .func (PySem.W.fnOf "_law_roll" "_law_roll" (defArgs s_law_roll) (defBody s_law_roll) (defScope s_law_roll) .none kV16 dc16 pm16 an16 cd16 ct16), sl16⟩) (c16 : PySem.W.codeIn K cd16 "_law_roll" = true) (k16 : PySem.W.keepIn K (.ref f16) = true)
    (a17 : PySem.W.nsIn K mainGlobals "_law_some" = some (some (.ref f17))) (l17 : K.lookup f17 = some ⟨oc17, od17, .func (PySem.W.fnOf "_law_some" "_law_some" (defArgs s_law_some) (defBody s_law_some) (defScope s_law_some) .none kV17 dc17 pm17 an17 cd17 ct17), sl17⟩) (c17 : PySem.W.codeIn K cd17 "_law_some" = true) (k17 : PySem.W.keepIn K (.ref f17) = true)
    (a18 : PySem.W.nsIn K mainGlobals "_law_same" = some (some (.ref f18))) (l18 : K.lookup f18 = some ⟨oc18, od18, .func (PySem.W.fnOf "_law_same" "_law_same" (defArgs s_law_same) (defBody s_law_same) (defScope s_law_same) .none kV18 dc18 pm18 an18 cd18 ct18), sl18⟩) (c18 : PySem.W.codeIn K cd18 "_law_same" = true) (k18 : PySem.W.keepIn K (.ref f18) = true)
    (a19 : PySem.W.nsIn K mainGlobals "_law_piece" = some (some (.ref f19))) (l19 : K.lookup f19 = some ⟨oc19, od19, .func (PySem.W.fnOf "_law_piece" "_law_piece" (defArgs s_law_piece) (defBody s_law_piece) (defScope s_law_piece) .none kV19 dc19 pm19 an19 cd19 ct19), sl19⟩) (c19 : PySem.W.codeIn K cd19 "_law_piece" = true) (k19 : PySem.W.keepIn K (.ref f19) = true)
    (a20 : PySem.W.nsIn K mainGlobals "_law_set" = some (some (.ref f20))) (l20 : K.lookup f20 = some ⟨oc20, od20, .func (PySem.W.fnOf "_law_set" "_law_set" (defArgs s_law_set) (defBody s_law_set) (defScope s_law_set) .none kV20 dc20 pm20 an20 cd20 ct20), sl20⟩) (c20 : PySem.W.codeIn K cd20 "_law_set" = true) (k20 : PySem.W.keepIn K (.ref f20) = true)
    (a21 : PySem.W.nsIn K mainGlobals "_law_kind" = some (some (.ref f21))) (l21 : K.lookup f21 = some ⟨oc21, od21, .func (PySem.W.fnOf "_law_kind" "_law_kind" (defArgs s_law_kind) (defBody s_law_kind) (defScope s_law_kind) .none kV21 dc21 pm21 an21 cd21 ct21), sl21⟩) (c21 : PySem.W.codeIn K cd21 "_law_kind" = true) (k21 : PySem.W.keepIn K (.ref f21) = true)
    (a22 : PySem.W.nsIn K mainGlobals "law" = some (some (.ref f22))) (l22 : K.lookup f22 = some ⟨oc22, od22, .func (PySem.W.fnOf "law" "law" (defArgs s_law) (defBody s_law) (defScope s_law) .none kV22 dc22 pm22 an22 cd22 ct22), sl22⟩) (c22 : PySem.W.codeIn K cd22 "law" = true) (k22 : PySem.W.keepIn K (.ref f22) = true)
    (z_abs : PySem.W.nsIn K mainGlobals "abs" = some none)
    (z_all : PySem.W.nsIn K mainGlobals "all" = some none)
    (z_bool : PySem.W.nsIn K mainGlobals "bool" = some none)
    (z_int : PySem.W.nsIn K mainGlobals "int" = some none)
    (z_isinstance : PySem.W.nsIn K mainGlobals "isinstance" = some none)
    (z_len : PySem.W.nsIn K mainGlobals "len" = some none)
    (z_list : PySem.W.nsIn K mainGlobals "list" = some none)
    (z_range : PySem.W.nsIn K mainGlobals "range" = some none)
    (z_sorted : PySem.W.nsIn K mainGlobals "sorted" = some none)
    (z_str : PySem.W.nsIn K mainGlobals "str" = some none)
    (z_sum : PySem.W.nsIn K mainGlobals "sum" = some none)
    (z_tuple : PySem.W.nsIn K mainGlobals "tuple" = some none)
    (g_EDGE : PySem.W.nsIn K mainGlobals "EDGE" = some (some (.int 9 t_EDGE)))
    (g_KINDS : PySem.W.nsIn K mainGlobals "KINDS" = some (some (.ref a_KINDS))) (k_KINDS : GTup K a_KINDS (([.str (Str.ofString "inner"), .str (Str.ofString "side"), .str (Str.ofString "strip"), .str (Str.ofString "corner"), .str (Str.ofString "end"), .str (Str.ofString "whole")] : List PyData).map cV))
    (g_MANY : PySem.W.nsIn K mainGlobals "MANY" = some (some (.int 36 t_MANY)))
    (g_SIDES : PySem.W.nsIn K mainGlobals "SIDES" = some (some (.int 4 t_SIDES))) :
    ∃ fd : FuncData, (∀ (s : Shared) (v : Value), BindsTo s fd ⟨[v], []⟩ [("script", v)]) ∧ ∀ base : Heap, K.In base → base.Ns mainGlobals mg → FnOk l.prog w K mg base CX0 13 fa fd ["script"] (spD K [] M.m_law) := by
  have e := hfa.symm.trans (PySem.W.mg_of X G a22)
  cases e
  have y_abs := PySem.W.mg_none_of X G z_abs
  have y_all := PySem.W.mg_none_of X G z_all
  have y_bool := PySem.W.mg_none_of X G z_bool
  have y_int := PySem.W.mg_none_of X G z_int
  have y_isinstance := PySem.W.mg_none_of X G z_isinstance
  have y_len := PySem.W.mg_none_of X G z_len
  have y_list := PySem.W.mg_none_of X G z_list
  have y_range := PySem.W.mg_none_of X G z_range
  have y_sorted := PySem.W.mg_none_of X G z_sorted
  have y_str := PySem.W.mg_none_of X G z_str
  have y_sum := PySem.W.mg_none_of X G z_sum
  have y_tuple := PySem.W.mg_none_of X G z_tuple
  have h_EDGE := PySem.W.mg_of X G g_EDGE
  have h_KINDS := PySem.W.mg_of X G g_KINDS
  have h_MANY := PySem.W.mg_of X G g_MANY
  have h_SIDES := PySem.W.mg_of X G g_SIDES
  refine ⟨PySem.W.fnOf "law" "law" (defArgs s_law) (defBody s_law) (defScope s_law) .none kV22 dc22 pm22 an22 cd22 ct22, fun s v => .of_eq rfl, fun base _ _ => ?_⟩
  have c_is_whole := cal_is_whole (P := l.prog) (w := w) (base := base) (fun_mk (st := s_is_whole) l0 c0 k0) (PySem.W.mg_of X G a0) y_bool y_int y_isinstance
  have c_fits_whole := cal_fits_whole (P := l.prog) (w := w) (base := base) (fun_mk (st := s_fits_whole) l1 c1 k1) (PySem.W.mg_of X G a1) c_is_whole
  have c_is_tuple_of := cal_is_tuple_of (P := l.prog) (w := w) (base := base) (fun_mk (st := s_is_tuple_of) l2 c2 k2) (PySem.W.mg_of X G a2) y_isinstance y_len y_tuple
  have c_fits_edge := cal_fits_edge (P := l.prog) (w := w) (base := base) (fun_mk (st := s_fits_edge) l3 c3 k3) (PySem.W.mg_of X G a3) c_fits_whole h_EDGE
  have c_fits_piece := cal_fits_piece (P := l.prog) (w := w) (base := base) (fun_mk (st := s_fits_piece) l4 c4 k4) (PySem.W.mg_of X G a4) c_fits_edge c_is_tuple_of y_all h_SIDES
  have c_fits_set := cal_fits_set (P := l.prog) (w := w) (base := base) (fun_mk (st := s_fits_set) l5 c5 k5) (PySem.W.mg_of X G a5) c_fits_piece c_is_tuple_of y_all h_MANY
  have c_need_piece := cal_need_piece (P := l.prog) (w := w) (base := base) (fun_mk (st := s_need_piece) l6 c6 k6) (PySem.W.mg_of X G a6) c_fits_piece
  have c_need_side := cal_need_side (P := l.prog) (w := w) (base := base) (fun_mk (st := s_need_side) l7 c7 k7) (PySem.W.mg_of X G a7) c_fits_whole h_SIDES
  have c_need_set := cal_need_set (P := l.prog) (w := w) (base := base) (fun_mk (st := s_need_set) l8 c8 k8) (PySem.W.mg_of X G a8) c_fits_set
  have c_turned_in := cal_turned_in (P := l.prog) (w := w) (base := base) (fun_mk (st := s_turned_in) l9 c9 k9) (PySem.W.mg_of X G a9) h_SIDES
  have c_kind_in := cal_kind_in (P := l.prog) (w := w) (base := base) (fun_mk (st := s_kind_in) l10 c10 k10) (PySem.W.mg_of X G a10) y_len y_range h_SIDES
  have c_turned := cal_turned (P := l.prog) (w := w) (base := base) (fun_mk (st := s_turned) l11 c11 k11) (PySem.W.mg_of X G a11) c_need_piece c_need_side c_turned_in
  have c_kind_of := cal_kind_of (P := l.prog) (w := w) (base := base) (fun_mk (st := s_kind_of) l12 c12 k12) (PySem.W.mg_of X G a12) c_kind_in c_need_piece
  have c_flat_sides := cal_flat_sides (P := l.prog) (w := w) (base := base) (fun_mk (st := s_flat_sides) l13 c13 k13) (PySem.W.mg_of X G a13) c_need_piece y_range y_tuple h_SIDES
  have c_kind_counts := cal_kind_counts (P := l.prog) (w := w) (base := base) (fun_mk (st := s_kind_counts) l14 c14 k14) (PySem.W.mg_of X G a14) c_kind_in c_need_set y_tuple h_KINDS k_KINDS
  have c_law_cup := cal_law_cup (P := l.prog) (w := w) (base := base) (fun_mk (st := s_law_cup) l15 c15 k15) (PySem.W.mg_of X G a15) y_abs y_int y_list
  have c_law_roll := cal_law_roll (P := l.prog) (w := w) (base := base) (fun_mk (st := s_law_roll) l16 c16 k16) (PySem.W.mg_of X G a16) y_int
  have c_law_some := cal_law_some (P := l.prog) (w := w) (base := base) (fun_mk (st := s_law_some) l17 c17 k17) (PySem.W.mg_of X G a17) c_law_roll y_len
  have c_law_same := cal_law_same (P := l.prog) (w := w) (base := base) (fun_mk (st := s_law_same) l18 c18 k18) (PySem.W.mg_of X G a18) y_all y_bool y_int y_isinstance y_len y_range y_str y_tuple 12
  have c_law_piece := cal_law_piece (P := l.prog) (w := w) (base := base) (fun_mk (st := s_law_piece) l19 c19 k19) (PySem.W.mg_of X G a19) c_law_roll y_range y_tuple
  have c_law_set := cal_law_set (P := l.prog) (w := w) (base := base) (fun_mk (st := s_law_set) l20 c20 k20) (PySem.W.mg_of X G a20) c_law_piece c_law_roll y_range y_tuple
  have c_law_kind := cal_law_kind (P := l.prog) (w := w) (base := base) (fun_mk (st := s_law_kind) l21 c21 k21) (PySem.W.mg_of X G a21) y_range
  exact (law_ok (P := l.prog) (w := w) (base := base) (fun_mk (st := s_law) l22 c22 k22) c_law_cup c_law_kind c_law_same c_law_set c_law_some c_flat_sides c_kind_counts c_kind_of c_turned y_len y_range y_sorted y_sum y_tuple)
end Walk
open PySem PySem.W PyProof.Rows in
set_option maxRecDepth 100000 in
set_option maxHeartbeats 0 in
theorem PySem.Challenge.cw_jigsawyard_k02_whole_kinds_of_pieces_holds : PySem.Challenge.rw_jigsawyard_k02_whole_kinds_of_pieces.Holds := by
  w_on; o_law; k_head; (case hw => w_witness2)
  k_fill
  refine L2.walk_of (l := PySem.Challenge.rw_jigsawyard_k02_whole_kinds_of_pieces) (n := 63) (k := 13) (x := "script") (CX := fun _ => L2.CX0) (sp := fun w => DL.spD _ [] M.m_law) rfl (by decide) rfl ⟨rfl, by decide, by decide⟩ (fun w h Y => PySem.W.kIn_of Y) ?F (fun _ _ a ns hl _ hS => (let ⟨_, h⟩ := M.law_true ns hl; DL.law_sp hS h)) (fun _ _ _ _ _ h => h)
  case F =>
    intro w mg fa h KX G hmg
    refine' Walk.all_mk KX G hmg ?a0 ?l0 ?c0 ?k0 ?a1 ?l1 ?c1 ?k1 ?a2 ?l2 ?c2 ?k2 ?a3 ?l3 ?c3 ?k3 ?a4 ?l4 ?c4 ?k4 ?a5 ?l5 ?c5 ?k5 ?a6 ?l6 ?c6 ?k6 ?a7 ?l7 ?c7 ?k7 ?a8 ?l8 ?c8 ?k8 ?a9 ?l9 ?c9 ?k9 ?a10 ?l10 ?c10 ?k10 ?a11 ?l11 ?c11 ?k11 ?a12 ?l12 ?c12 ?k12 ?a13 ?l13 ?c13 ?k13 ?a14 ?l14 ?c14 ?k14 ?a15 ?l15 ?c15 ?k15 ?a16 ?l16 ?c16 ?k16 ?a17 ?l17 ?c17 ?k17 ?a18 ?l18 ?c18 ?k18 ?a19 ?l19 ?c19 ?k19 ?a20 ?l20 ?c20 ?k20 ?a21 ?l21 ?c21 ?k21 ?a22 ?l22 ?c22 ?k22 ?z_abs ?z_all ?z_bool ?z_int ?z_isinstance ?z_len ?z_list ?z_range ?z_sorted ?z_str ?z_sum ?z_tuple ?g_EDGE ?g_KINDS ?k_KINDS ?g_MANY ?g_SIDES
    (case a0 => k_is)
    (case l0 => k_is)
    (case c0 => k_is)
    (case k0 => k_is)
    (case a1 => k_is)
    (case l1 => k_is)
    (case c1 => k_is)
    (case k1 => k_is)
    (case a2 => k_is)
    (case l2 => k_is)
    (case c2 => k_is)
    (case k2 => k_is)
    (case a3 => k_is)
    (case l3 => k_is)
    (case c3 => k_is)
    (case k3 => k_is)
    (case a4 => k_is)
    (case l4 => k_is)
    (case c4 => k_is)
    (case k4 => k_is)
    (case a5 => k_is)
    (case l5 => k_is)
    (case c5 => k_is)
    (case k5 => k_is)
    (case a6 => k_is)
    (case l6 => k_is)
    (case c6 => k_is)
    (case k6 => k_is)
    (case a7 => k_is)
    (case l7 => k_is)
    (case c7 => k_is)
    (case k7 => k_is)
    (case a8 => k_is)
    (case l8 => k_is)
    (case c8 => k_is)
    (case k8 => k_is)
    (case a9 => k_is)
    (case l9 => k_is)
    (case c9 => k_is)
    (case k9 => k_is)
    (case a10 => k_is)
    (case l10 => k_is)
    (case c10 => k_is)
    (case k10 => k_is)
    (case a11 => k_is)
    (case l11 => k_is)
    (case c11 => k_is)
    (case k11 => k_is)
    (case a12 => k_is)
    (case l12 => k_is)
    (case c12 => k_is)
    (case k12 => k_is)
    (case a13 => k_is)
    (case l13 => k_is)
    (case c13 => k_is)
    (case k13 => k_is)
    (case a14 => k_is)
    (case l14 => k_is)
    (case c14 => k_is)
    (case k14 => k_is)
    (case a15 => k_is)
    (case l15 => k_is)
    (case c15 => k_is)
    (case k15 => k_is)
    (case a16 => k_is)
    (case l16 => k_is)
    (case c16 => k_is)
    (case k16 => k_is)
    (case a17 => k_is)
    (case l17 => k_is)
    (case c17 => k_is)
    (case k17 => k_is)
    (case a18 => k_is)
    (case l18 => k_is)
    (case c18 => k_is)
    (case k18 => k_is)
    (case a19 => k_is)
    (case l19 => k_is)
    (case c19 => k_is)
    (case k19 => k_is)
    (case a20 => k_is)
    (case l20 => k_is)
    (case c20 => k_is)
    (case k20 => k_is)
    (case a21 => k_is)
    (case l21 => k_is)
    (case c21 => k_is)
    (case k21 => k_is)
    (case a22 => k_is)
    (case l22 => k_is)
    (case c22 => k_is)
    (case k22 => k_is)
    (case z_abs => k_is)
    (case z_all => k_is)
    (case z_bool => k_is)
    (case z_int => k_is)
    (case z_isinstance => k_is)
    (case z_len => k_is)
    (case z_list => k_is)
    (case z_range => k_is)
    (case z_sorted => k_is)
    (case z_str => k_is)
    (case z_sum => k_is)
    (case z_tuple => k_is)
    (case g_EDGE => k_is)
    (case g_KINDS => k_is)
    (case k_KINDS => exact ⟨_, _, _, by k_is, rfl, rfl, by first | decide | exact Nat.le_of_ble_eq_true rfl, .cons ⟨_, rfl⟩ (.cons ⟨_, rfl⟩ (.cons ⟨_, rfl⟩ (.cons ⟨_, rfl⟩ (.cons ⟨_, rfl⟩ (.cons ⟨_, rfl⟩ (.nil))))))⟩)
    (case g_MANY => k_is)
    (case g_SIDES => k_is)
