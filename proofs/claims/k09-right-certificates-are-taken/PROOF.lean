import PyProof.Rows.All
import Wide.All
import OpenK.AllK
import Wide.FinOn
import HandS.ForMost
import HandS.AnyAll
import HandS.Exc
import HandS.TryOnly
import HandS.WordsExc
import HandS.Wide
import HandS.WideMore
import HandS.Style
import HandS.TupAny
import HandS.IsInst
import HandS.TupLe
import HandS.Codes
import HandS.Zip
import HandS.Rev
import HandS.EndTab
import HandS.More
import HandS.SortOrd
import HandS.Keys
import KE.GoesZip
import KE.GoesMore
import HandS.GenList
import HandS.Text
import HandS.List
import KE.SortData
import HandS.Call
import HandS.RaiseMore
import HandS.Iter
import HandS.ClsMeth
import HandS.TupMul
import KE.LtData
import PyProof.SumAny
import HandS.Deep
import HandS.Set
import HandS.TupSets
import HandS.Strs
import HandS.ExcOwn
import KE.KSuper
import HandS.ExcInit
import HandS.FStr
import KE.KExcSuper
import HandS.ExcField
import PySem.Challenge.RW_rightrows_k09_right_certificates_are_tak
set_option Elab.async false
set_option linter.all false
set_option maxRecDepth 100000
set_option autoImplicit false
/-! DL1: data without addresses, and the relation to the abstract heap -/
namespace DL
open PySem PySem.Spec PyProof.Rows L2

inductive Ty where
  | non | bool | int | str | tuple | list | dict
def Ty.name : Ty → String
  | .non => "NoneType"
  | .bool => "bool"
  | .int => "int"
  | .str => "str"
  | .tuple => "tuple"
  | .list => "list"
  | .dict => "dict"
/-- pure data -/
inductive D where
  | non | bl (b : Bool) | int (i : Int) | str (x : Str) | tup (ds : List D) | lst (ds : List D) | obj (C : Addr) (fs : List (Str × D)) | scr (ns : List Int) | ty (n : Ty)
/-- a value: pure data, a handle of an object that may change, a tuple that holds such -/
inductive W where
  | fz (d : D) | hd (n : Nat) | tp (ws : List W) | xo (a d : Addr) (fs : List (Str × D))
/-- an object that may change -/
inductive OD where
  | lst (ws : List W) | dic (kvs : List (Key × W)) | ins (C : Addr) (fs : List (Str × W)) | gone

abbrev En := List (Option W)
abbrev Sto := List OD

/-! ### data in a heap -/
mutual
inductive Rp (K : PySem.W.Frag) (B : Hp) : D → V → Prop
  | non : Rp K B .non .non
  | bl {b : Bool} : Rp K B (.bl b) (.bl b)
  | int {i : Int} : Rp K B (.int i) (.int i)
  | str {x : Str} : Rp K B (.str x) (.str x)
  | tup {a : Addr} {vs : List V} {ds : List D} : SqT K B a vs → RpL K B ds vs → Rp K B (.tup ds) (.ref a)
  | lst {a : Addr} {vs : List V} {ds : List D} : B a = some (.lst vs) → RpL K B ds vs → Rp K B (.lst ds) (.ref a)
  | scr {a : Addr} {ns : List Int} : SqL K B a (ns.map V.int) → Rp K B (.scr ns) (.ref a)
  | ty {n : Ty} : Rp K B (.ty n) (.ty n.name)
  | obj {a C dx : Addr} {fvs : List (Str × V)} {fs : List (Str × D)} : B a = some (.ins C dx fvs) → RpF K B fs fvs → Rp K B (.obj C fs) (.ref a)
inductive RpL (K : PySem.W.Frag) (B : Hp) : List D → List V → Prop
  | nil : RpL K B [] []
  | cons {d : D} {v : V} {ds : List D} {vs : List V} : Rp K B d v → RpL K B ds vs → RpL K B (d :: ds) (v :: vs)
inductive RpF (K : PySem.W.Frag) (B : Hp) : List (Str × D) → List (Str × V) → Prop
  | nil : RpF K B [] []
  | cons {f : Str} {d : D} {v : V} {ds : List (Str × D)} {vs : List (Str × V)} : Rp K B d v → RpF K B ds vs → RpF K B ((f, d) :: ds) ((f, v) :: vs)
end
mutual
inductive RW (K : PySem.W.Frag) (B : Hp) (m : List Addr) : W → V → Prop
  | fz {d : D} {v : V} : Rp K B d v → RW K B m (.fz d) v
  | hd {n : Nat} {a : Addr} : m[n]? = some a → RW K B m (.hd n) (.ref a)
  | tp {a : Addr} {vs : List V} {ws : List W} : SqT K B a vs → RWL K B m ws vs → RW K B m (.tp ws) (.ref a)
  | xo {a d : Addr} {fs : List (Str × D)} {fvs : List (Str × V)} : B d = some (.xd fvs) → RpF K B fs fvs → RW K B m (.xo a d fs) (.ref a)
inductive RWL (K : PySem.W.Frag) (B : Hp) (m : List Addr) : List W → List V → Prop
  | nil : RWL K B m [] []
  | cons {w : W} {v : V} {ws : List W} {vs : List V} : RW K B m w v → RWL K B m ws vs → RWL K B m (w :: ws) (v :: vs)
end

def Sub (B B' : Hp) : Prop := ∀ (a : Addr) (o : HO), B a = some o → B' a = some o
theorem Sub.refl {B : Hp} : Sub B B := fun _ _ h => h
theorem Sub.trans {A B C : Hp} (h : Sub A B) (g : Sub B C) : Sub A C := fun a o e => g a o (h a o e)
theorem Sub.rd {B B' : Hp} (h : Sub B B') {a : Addr} {u : HO} (r : Rd B a u) : Rd B' a u := by
  rcases r with r | ⟨o, r⟩
  · exact .inl (h _ _ r)
  · exact .inr ⟨o, h _ _ r⟩
theorem Sub.seqL {K : PySem.W.Frag} {B B' : Hp} (h : Sub B B') {a : Addr} {xs : List V} (r : SqL K B a xs) : SqL K B' a xs := by
  rcases r with r | r
  · exact .inl (h.rd r)
  · exact .inr r
theorem Sub.seqT {K : PySem.W.Frag} {B B' : Hp} (h : Sub B B') {a : Addr} {xs : List V} (r : SqT K B a xs) : SqT K B' a xs := by
  rcases r with r | r
  · exact .inl (h.rd r)
  · exact .inr r

section
variable {K : PySem.W.Frag} {B B' : Hp} {m m' : List Addr}
mutual
theorem Rp.mono (h : Sub B B') : ∀ {d : D} {v : V}, Rp K B d v → Rp K B' d v
  | _, _, .non => .non
  | _, _, .bl => .bl
  | _, _, .int => .int
  | _, _, .str => .str
  | _, _, .tup s r => .tup (h.seqT s) (RpL.mono h r)
  | _, _, .lst s r => .lst (h _ _ s) (RpL.mono h r)
  | _, _, .scr s => .scr (h.seqL s)
  | _, _, .ty => .ty
  | _, _, .obj s r => .obj (h _ _ s) (RpF.mono h r)
theorem RpL.mono (h : Sub B B') : ∀ {ds : List D} {vs : List V}, RpL K B ds vs → RpL K B' ds vs
  | _, _, .nil => .nil
  | _, _, .cons r t => .cons (Rp.mono h r) (RpL.mono h t)
theorem RpF.mono (h : Sub B B') : ∀ {ds : List (Str × D)} {vs : List (Str × V)}, RpF K B ds vs → RpF K B' ds vs
  | _, _, .nil => .nil
  | _, _, .cons r t => .cons (Rp.mono h r) (RpF.mono h t)
end
/-- every handle keeps its address -/
def Pre (m m' : List Addr) : Prop := ∀ (n : Nat) (a : Addr), m[n]? = some a → m'[n]? = some a
theorem Pre.refl : Pre m m := fun _ _ h => h
theorem Pre.trans {a b c : List Addr} (h : Pre a b) (g : Pre b c) : Pre a c := fun n x e => g n x (h n x e)
theorem Pre.app {xs : List Addr} : Pre m (m ++ xs) := fun n a e => by
  rw [List.getElem?_append_left (List.getElem?_eq_some_iff.mp e).1]
  exact e
mutual
theorem RW.mono (h : Sub B B') (p : Pre m m') : ∀ {w : W} {v : V}, RW K B m w v → RW K B' m' w v
  | _, _, .fz r => .fz (r.mono h)
  | _, _, .hd e => .hd (p _ _ e)
  | _, _, .tp s r => .tp (h.seqT s) (RWL.mono h p r)
  | _, _, .xo e r => .xo (h _ _ e) (r.mono h)
theorem RWL.mono (h : Sub B B') (p : Pre m m') : ∀ {ws : List W} {vs : List V}, RWL K B m ws vs → RWL K B' m' ws vs
  | _, _, .nil => .nil
  | _, _, .cons r t => .cons (RW.mono h p r) (RWL.mono h p t)
end
theorem RWL.length : ∀ {ws : List W} {vs : List V}, RWL K B m ws vs → ws.length = vs.length
  | _, _, .nil => rfl
  | _, _, .cons _ t => congrArg (· + 1) (RWL.length t)
theorem RWL.get : ∀ {ws : List W} {vs : List V} {i : Nat} {w : W}, RWL K B m ws vs → ws[i]? = some w → ∃ v, vs[i]? = some v ∧ RW K B m w v
  | _, _, _, _, .nil, e => by simp at e
  | _, _, 0, _, .cons r _, e => by simp at e; subst e; exact ⟨_, rfl, r⟩
  | _, _, i + 1, _, .cons _ t, e => by
    obtain ⟨v, h1, h2⟩ := RWL.get (i := i) t (by simpa using e)
    exact ⟨v, by simpa using h1, h2⟩
theorem RWL.set : ∀ {ws : List W} {vs : List V} {i : Nat} {w : W} {v : V}, RWL K B m ws vs → RW K B m w v → RWL K B m (ws.set i w) (vs.set i v)
  | _, _, _, _, _, .nil, _ => .nil
  | _, _, 0, _, _, .cons _ t, q => .cons q t
  | _, _, i + 1, _, _, .cons r t, q => .cons r (RWL.set t q)
theorem RWL.append : ∀ {ws ws' : List W} {vs vs' : List V}, RWL K B m ws vs → RWL K B m ws' vs' → RWL K B m (ws ++ ws') (vs ++ vs')
  | _, _, _, _, .nil, q => q
  | _, _, _, _, .cons r t, q => .cons r (RWL.append t q)
theorem RWL.take : ∀ {ws : List W} {vs : List V} (n : Nat), RWL K B m ws vs → RWL K B m (ws.take n) (vs.take n)
  | _, _, 0, _ => by simp; exact .nil
  | _, _, n + 1, .nil => .nil
  | _, _, n + 1, .cons r t => .cons r (RWL.take n t)
theorem RWL.drop : ∀ {ws : List W} {vs : List V} (n : Nat), RWL K B m ws vs → RWL K B m (ws.drop n) (vs.drop n)
  | _, _, 0, r => r
  | _, _, n + 1, .nil => .nil
  | _, _, n + 1, .cons r t => RWL.drop n t
theorem RWL.reverse {ws : List W} {vs : List V} (r : RWL K B m ws vs) : RWL K B m ws.reverse vs.reverse := by
  induction ws generalizing vs with
  | nil => cases r; exact .nil
  | cons w ws ih =>
    cases r with
    | cons r t =>
      rw [List.reverse_cons, List.reverse_cons]
      exact (ih t).append (.cons r .nil)
theorem RpL.fz : ∀ {ds : List D} {vs : List V}, RpL K B ds vs → RWL K B m (ds.map W.fz) vs
  | _, _, .nil => .nil
  | _, _, .cons r t => .cons (.fz r) (RpL.fz t)
theorem RWL.fz : ∀ {ds : List D} {vs : List V}, RWL K B m (ds.map W.fz) vs → RpL K B ds vs
  | [], _, .nil => .nil
  | _ :: _, _, .cons r t => by
    cases r with
    | fz r => exact .cons r (RWL.fz t)
theorem RpL.get {ds : List D} {vs : List V} {i : Nat} {d : D} (r : RpL K B ds vs) (e : ds[i]? = some d) : ∃ v, vs[i]? = some v ∧ Rp K B d v := by
  obtain ⟨v, h1, h2⟩ := (r.fz (m := [])).get (i := i) (w := .fz d) (by rw [List.getElem?_map, e]; rfl)
  cases h2 with
  | fz h2 => exact ⟨v, h1, h2⟩
theorem RpL.length {ds : List D} {vs : List V} (r : RpL K B ds vs) : ds.length = vs.length := by
  have := (r.fz (m := [])).length
  simpa using this
end

/-! ### what is known of the heap at a point of a body -/
/-- the entry of the body: what stood frozen, the whole heap, the addresses lent -/
structure Fx where
  B : Hp
  H : Hp
  L : List Addr
  /-- the tables of code objects -/
  T : Addr → Prop
def FF (K : PySem.W.Frag) (B : Hp) (m : List Addr) (fs : List (Str × W)) (fvs : List (Str × V)) : Prop := Paired (fun (p : Str × W) (q : Str × V) => p.1 = q.1 ∧ RW K B m p.2 q.2) fs fvs
def FK (K : PySem.W.Frag) (B : Hp) (m : List Addr) (fs : List (Key × W)) (fvs : List (Key × V)) : Prop := Paired (fun (p : Key × W) (q : Key × V) => p.1 = q.1 ∧ RW K B m p.2 q.2) fs fvs
def RO (K : PySem.W.Frag) (B : Hp) (m : List Addr) : OD → HO → Prop
  | .lst ws, o => ∃ vs, o = .lst vs ∧ RWL K B m ws vs
  | .dic kvs, o => ∃ vs, o = .dK vs ∧ FK K B m kvs vs
  | .ins C fs, o => ∃ dx vs, o = .ins C dx vs ∧ FF K B m fs vs
  | .gone, _ => True
structure Cf (K : PySem.W.Frag) (F : Fx) (B : Hp) (m : List Addr) (S : Sto) (H : Hp) : Prop where
  b0 : Sub F.B B
  sub : Sub B H
  bnew : ∀ (a : Addr) (o : HO), B a = some o → F.B a = some o ∨ F.H a = none
  fr : ∀ (a : Addr) (o : HO), F.H a = some o → a ∉ F.L → ¬ F.T a → H a = some o
  dom : ∀ a : Addr, H a = none → F.H a = none
  len : m.length = S.length
  pre : ∀ (n : Nat) (a : Addr), F.L[n]? = some a → m[n]? = some a
  new : ∀ (n : Nat) (a : Addr), m[n]? = some a → F.L[n]? = some a ∨ F.H a = none
  nd : ∀ (i j : Nat) (a : Addr), m[i]? = some a → m[j]? = some a → i = j
  own : ∀ (n : Nat) (a : Addr) (od : OD), m[n]? = some a → S[n]? = some od → ∃ o, H a = some o ∧ RO K B m od o ∧ (od ≠ .gone → B a = none)
  tab : ∀ p : Addr, F.T p → GxR.TabG H p ∧ B p = none ∧ ∀ n : Nat, m[n]? ≠ some p
/-- from one point to a later one -/
structure Nx (K : PySem.W.Frag) (F : Fx) (B : Hp) (m : List Addr) (H : Hp) (B' : Hp) (m' : List Addr) (S' : Sto) (H' : Hp) : Prop where
  cf : Cf K F B' m' S' H'
  sb : Sub B B'
  pr : Pre m m'
  kp : ∀ (a : Addr) (o : HO), H a = some o → (∀ n : Nat, m[n]? ≠ some a) → ¬ F.T a → H' a = some o
  nw : ∀ (n : Nat) (a : Addr), m'[n]? = some a → m[n]? = some a ∨ H a = none
  dm : ∀ a : Addr, H' a = none → H a = none
  bn : ∀ (a : Addr) (o : HO), B' a = some o → B a = some o ∨ H a = none ∨ ∃ n : Nat, m[n]? = some a
theorem Paired.len {α β : Type} {R : α → β → Prop} : ∀ {xs : List α} {ys : List β}, Paired R xs ys → xs.length = ys.length := fun r => Paired.length r

theorem tabG_keep {H H' : Hp} {p : Addr} (g : GxR.TabG H p) (k : ∀ o : HO, H p = some o → H' p = some o) : GxR.TabG H' p := let ⟨ps, e, t⟩ := g; ⟨ps, k _ e, t⟩
theorem tab_ne {H : Hp} {p q : Addr} (g : GxR.TabG H p) (h : H q = none) : p ≠ q := fun z => by
  obtain ⟨ps, e, _⟩ := g
  rw [z, h] at e; cases e
theorem tabG_upd {H : Hp} {p q : Addr} {o : HO} (g : GxR.TabG H p) (h : p ≠ q) : GxR.TabG (upd H q o) p := tabG_keep g fun u e => by rw [upd_ne h]; exact e
section
variable {K : PySem.W.Frag} {F : Fx} {B B' B'' : Hp} {m m' m'' : List Addr} {S S' S'' : Sto} {H H' H'' : Hp}
theorem FF.mono (h : Sub B B') (p : Pre m m') {fs : List (Str × W)} {vs : List (Str × V)} (r : FF K B m fs vs) : FF K B' m' fs vs := Paired.mapP r fun _ _ q => ⟨q.1, q.2.mono h p⟩
theorem FK.mono (h : Sub B B') (p : Pre m m') {fs : List (Key × W)} {vs : List (Key × V)} (r : FK K B m fs vs) : FK K B' m' fs vs := Paired.mapP r fun _ _ q => ⟨q.1, q.2.mono h p⟩
theorem RO.mono (h : Sub B B') (p : Pre m m') : ∀ {od : OD} {o : HO}, RO K B m od o → RO K B' m' od o
  | .lst _, _, ⟨vs, e, r⟩ => ⟨vs, e, r.mono h p⟩
  | .dic _, _, ⟨vs, e, r⟩ => ⟨vs, e, r.mono h p⟩
  | .ins _ _, _, ⟨dx, vs, e, r⟩ => ⟨dx, vs, e, r.mono h p⟩
  | .gone, _, _ => trivial
theorem Cf.nx (c : Cf K F B m S H) : Nx K F B m H B m S H := ⟨c, .refl, .refl, fun _ _ h _ _ => h, fun _ _ h => .inl h, fun _ h => h, fun _ _ h => .inl h⟩
theorem Nx.trans (a : Nx K F B m H B' m' S' H') (b : Nx K F B' m' H' B'' m'' S'' H'') : Nx K F B m H B'' m'' S'' H'' := by
  refine ⟨b.cf, a.sb.trans b.sb, a.pr.trans b.pr, fun x o h n nt => b.kp x o (a.kp x o h n nt) (fun k e => ?_) nt, fun n x e => ?_, fun x h => a.dm x (b.dm x h), fun x o e => ?_⟩
  · rcases a.nw k x e with z | z
    · exact n k z
    · rw [h] at z; cases z
  · rcases b.nw n x e with z | z
    · exact a.nw n x z
    · exact .inr (a.dm x z)
  · rcases b.bn x o e with z | z | ⟨n, z⟩
    · exact a.bn x o z
    · exact .inr (.inl (a.dm x z))
    · rcases a.nw n x z with z | z
      · exact .inr (.inr ⟨n, z⟩)
      · exact .inr (.inl z)
theorem Cf.lt (c : Cf K F B m S H) {n : Nat} {od : OD} (e : S[n]? = some od) : ∃ a, m[n]? = some a := by
  have h1 := (List.getElem?_eq_some_iff.mp e).1
  rw [← c.len] at h1
  exact ⟨_, List.getElem?_eq_getElem h1⟩
theorem Cf.there (c : Cf K F B m S H) {n : Nat} {a : Addr} (e : m[n]? = some a) : ∃ o, H a = some o := by
  have h1 := (List.getElem?_eq_some_iff.mp e).1
  rw [c.len] at h1
  obtain ⟨o, h, _⟩ := c.own n a _ e (List.getElem?_eq_getElem h1)
  exact ⟨o, h⟩
theorem Cf.notIn (c : Cf K F B m S H) {p : Addr} (hp : H p = none) (n : Nat) : m[n]? ≠ some p := fun e => by
  obtain ⟨o, h⟩ := c.there e
  rw [hp] at h
  cases h
/-- a new object that stays as it is -/
theorem Cf.alloc (c : Cf K F B m S H) {p : Addr} {o : HO} (hp : H p = none) : Nx K F B m H (upd B p o) m S (upd H p o) := by
  have nB : B p = none := by
    cases q : B p with
    | none => rfl
    | some u => rw [c.sub _ _ q] at hp; cases hp
  have sb : Sub B (upd B p o) := fun a u e => by rw [upd_ne (ne_of_none e nB)]; exact e
  have sh : Sub H (upd H p o) := fun a u e => by rw [upd_ne (ne_of_none e hp)]; exact e
  refine ⟨⟨c.b0.trans sb, fun a u e => ?_, fun a u e => ?_, fun a u e n nt => sh _ _ (c.fr a u e n nt), fun a e => ?_, c.len, c.pre, c.new, c.nd, fun n a od h1 h2 => ?_, fun q tq => let ⟨g1, g2, g3⟩ := c.tab q tq; ⟨tabG_keep g1 fun o e => sh _ _ e, by rw [upd_ne (tab_ne g1 hp)]; exact g2, g3⟩⟩, sb, .refl, fun _ _ e _ _ => sh _ _ e, fun _ _ h => .inl h, fun a e => by
    by_cases h : a = p
    · subst h; exact hp
    · rw [upd_ne h] at e; exact e, fun a u e => by
    by_cases h : a = p
    · subst h; exact .inr (.inl hp)
    · rw [upd_ne h] at e; exact .inl e⟩
  · by_cases h : a = p
    · subst h; rw [upd_same] at e ⊢; exact e
    · rw [upd_ne h] at e ⊢; exact c.sub _ _ e
  · by_cases h : a = p
    · subst h; exact .inr (c.dom _ hp)
    · rw [upd_ne h] at e; exact c.bnew _ _ e
  · by_cases h : a = p
    · subst h; exact c.dom _ hp
    · rw [upd_ne h] at e; exact c.dom _ e
  · obtain ⟨u, e, r, g⟩ := c.own n a od h1 h2
    have ne : a ≠ p := fun z => c.notIn hp n (z ▸ h1)
    exact ⟨u, sh _ _ e, r.mono sb .refl, fun z => by rw [upd_ne ne]; exact g z⟩
/-- a new object that may change -/
theorem Cf.allocO (c : Cf K F B m S H) {p : Addr} {o : HO} {od : OD} (hp : H p = none) (r : RO K B m od o) : Nx K F B m H B (m ++ [p]) (S ++ [od]) (upd H p o) := by
  have sh : Sub H (upd H p o) := fun a u e => by rw [upd_ne (ne_of_none e hp)]; exact e
  have nB : B p = none := by
    cases q : B p with
    | none => rfl
    | some u => rw [c.sub _ _ q] at hp; cases hp
  have cases_ : ∀ (n : Nat) (a : Addr), (m ++ [p])[n]? = some a → m[n]? = some a ∨ (n = m.length ∧ a = p) := fun n a e => by
    by_cases h : n < m.length
    · rw [List.getElem?_append_left h] at e; exact .inl e
    · rw [List.getElem?_append_right (by omega)] at e
      have h2 : n - m.length = 0 := by
        cases q : n - m.length with
        | zero => rfl
        | succ k => rw [q] at e; simp at e
      rw [h2] at e
      simp at e
      exact .inr ⟨by omega, e.symm⟩
  refine ⟨⟨c.b0, c.sub.trans sh, c.bnew, fun a u e n nt => sh _ _ (c.fr a u e n nt), fun a e => ?_, by simp [c.len], fun n a e => Pre.app _ _ (c.pre n a e), fun n a e => ?_, fun i j a h1 h2 => ?_, fun n a od' h1 h2 => ?_, fun q tq => let ⟨g1, g2, g3⟩ := c.tab q tq; ⟨tabG_keep g1 fun o e => sh _ _ e, g2, fun n e => (cases_ n q e).elim (g3 n) fun z => tab_ne g1 hp z.2⟩⟩, .refl, .app, fun _ _ e _ _ => sh _ _ e, fun n a e => (cases_ n a e).imp_right fun z => by rw [z.2]; exact hp, fun a e => by
    by_cases h : a = p
    · subst h; exact hp
    · rw [upd_ne h] at e; exact e, fun _ _ h => .inl h⟩
  · by_cases h : a = p
    · subst h; exact c.dom _ hp
    · rw [upd_ne h] at e; exact c.dom _ e
  · rcases cases_ n a e with e | ⟨_, e⟩
    · exact c.new n a e
    · subst e; exact .inr (c.dom _ hp)
  · rcases cases_ i a h1 with e1 | ⟨e1, f1⟩ <;> rcases cases_ j a h2 with e2 | ⟨e2, f2⟩
    · exact c.nd i j a e1 e2
    · subst f2; exact absurd e1 (c.notIn hp i)
    · subst f1; exact absurd e2 (c.notIn hp j)
    · omega
  · rcases cases_ n a h1 with e | ⟨e, f⟩
    · rw [List.getElem?_append_left (by have := (List.getElem?_eq_some_iff.mp e).1; rw [← c.len]; exact this)] at h2
      obtain ⟨u, e', r', g⟩ := c.own n a od' e h2
      exact ⟨u, sh _ _ e', r'.mono .refl .app, g⟩
    · subst f
      rw [List.getElem?_append_right (by rw [← c.len, e]; exact Nat.le_refl _), e, c.len, Nat.sub_self] at h2
      simp at h2
      subst h2
      exact ⟨o, upd_same, r.mono .refl .app, fun _ => nB⟩
/-- an object changes -/
theorem Cf.write (c : Cf K F B m S H) {n : Nat} {a : Addr} {o : HO} {od od0 : OD} (e : m[n]? = some a) (e0 : S[n]? = some od0) (ng : od0 ≠ .gone) (r : RO K B m od o) : Nx K F B m H B m (S.set n od) (upd H a o) := by
  obtain ⟨u, hu, _, g⟩ := c.own n a od0 e e0
  have nB := g ng
  refine ⟨⟨c.b0, fun b v q => ?_, c.bnew, fun b v q nl nt => ?_, fun b q => ?_, by simp [c.len], c.pre, c.new, c.nd, fun k b od' h1 h2 => ?_, fun q tq => let ⟨g1, g2, g3⟩ := c.tab q tq; ⟨tabG_upd g1 fun z => g3 n (by rw [z]; exact e), g2, g3⟩⟩, .refl, .refl, fun b v q h _ => ?_, fun _ _ h => .inl h, fun b q => ?_, fun _ _ h => .inl h⟩
  · rw [upd_ne (ne_of_none q nB)]; exact c.sub _ _ q
  · have ne : b ≠ a := fun z => by
      subst z
      rcases c.new n b e with h | h
      · exact nl (List.mem_of_getElem? h)
      · rw [h] at q; cases q
    rw [upd_ne ne]; exact c.fr b v q nl nt
  · by_cases h : b = a
    · subst h; rw [upd_same] at q; cases q
    · rw [upd_ne h] at q; exact c.dom _ q
  · by_cases hk : k = n
    · subst hk
      rw [e] at h1
      cases h1
      rw [List.getElem?_set_self (List.getElem?_eq_some_iff.mp e0).1] at h2
      cases h2
      exact ⟨o, upd_same, r, fun _ => nB⟩
    · rw [List.getElem?_set_ne (Ne.symm hk)] at h2
      obtain ⟨v, h3, h4, h5⟩ := c.own k b od' h1 h2
      have ne : b ≠ a := fun z => hk (c.nd k n b h1 (z ▸ e))
      exact ⟨v, by rw [upd_ne ne]; exact h3, h4, h5⟩
  · have ne : b ≠ a := fun z => h n (by rw [z]; exact e)
    rw [upd_ne ne]; exact q
  · by_cases h : b = a
    · subst h; rw [upd_same] at q; cases q
    · rw [upd_ne h] at q; exact q
/-- a table has grown -/
theorem Cf.tabbed (c : Cf K F B m S H) {p : Addr} (tp : F.T p) {H' : Hp} (h : GxR.Tabbed p H H') : Nx K F B m H B m S H' := by
  obtain ⟨g, e⟩ := h
  obtain ⟨t1, t2, t3⟩ := c.tab p tp
  have same : ∀ a : Addr, H' a = none → H a = none := fun a q => by
    by_cases z : a = p
    · subst z
      obtain ⟨ps, h, _⟩ := g
      rw [h] at q; cases q
    · rw [e a z] at q; exact q
  refine ⟨⟨c.b0, fun a o q => ?_, c.bnew, fun a o q nl nt => ?_, fun a q => c.dom a (same a q), c.len, c.pre, c.new, c.nd, fun n a od h1 h2 => ?_, fun q tq => ?_⟩, .refl, .refl, fun a o q _ nt => ?_, fun _ _ h => .inl h, same, fun _ _ h => .inl h⟩
  · rw [e a fun z => by rw [z, t2] at q; cases q]; exact c.sub a o q
  · rw [e a fun z => nt (z ▸ tp)]; exact c.fr a o q nl nt
  · obtain ⟨o, h3, h4⟩ := c.own n a od h1 h2
    exact ⟨o, by rw [e a fun z => t3 n (z ▸ h1)]; exact h3, h4⟩
  · obtain ⟨g1, g2, g3⟩ := c.tab q tq
    refine ⟨?_, g2, g3⟩
    by_cases z : q = p
    · rw [z]; exact g
    · exact tabG_keep g1 fun o w => by rw [e q z]; exact w
  · rw [e a fun z => nt (z ▸ tp)]; exact q
/-- all is lent -/
theorem Cf.lendAll (c : Cf K F B m S H) : Cf K ⟨B, H, m, F.T⟩ B m S H :=
  ⟨.refl, c.sub, fun _ _ h => .inl h, fun _ _ h _ _ => h, fun _ h => h, c.len, fun _ _ h => h, fun _ _ h => .inl h, c.nd, c.own, c.tab⟩
theorem Cf.backAll (c : Cf K F B m S H) (c' : Cf K ⟨B, H, m, F.T⟩ B' m' S' H') : Nx K F B m H B' m' S' H' := by
  refine ⟨⟨c.b0.trans c'.b0, c'.sub, fun a o q => ?_, fun a o q nl nt => ?_, fun a q => c.dom a (c'.dom a q), c'.len, fun n a q => c'.pre n a (c.pre n a q), fun n a q => ?_, c'.nd, c'.own, c'.tab⟩, c'.b0, fun n a q => c'.pre n a q, fun a o q nm nt => ?_, fun n a q => c'.new n a q, c'.dom, fun a o q => (c'.bnew a o q).imp id .inl⟩
  · rcases c'.bnew a o q with z | z
    · exact c.bnew a o z
    · exact .inr (c.dom a z)
  · have q1 := c.fr a o q nl nt
    refine c'.fr a o q1 (fun z => ?_) nt
    obtain ⟨n, hn⟩ := List.getElem?_of_mem z
    rcases c.new n a hn with y | y
    · exact nl (List.mem_of_getElem? y)
    · rw [q] at y; cases y
  · rcases c'.new n a q with z | z
    · exact c.new n a z
    · exact .inr (c.dom a z)
  · refine c'.fr a o q (fun z => ?_) nt
    obtain ⟨n, hn⟩ := List.getElem?_of_mem z
    exact nm n hn
/-- from the entry -/
theorem Cf.entry (c : Cf K F B m S H) : Nx K F F.B F.L F.H B m S H :=
  ⟨c, c.b0, c.pre, fun a o q nm nt => c.fr a o q (fun z => by
    obtain ⟨n, hn⟩ := List.getElem?_of_mem z
    exact nm n hn) nt, c.new, c.dom, fun a o q => (c.bnew a o q).imp id .inl⟩
end
end DL
/-! DL2: the data layer's readings and its rules for values -/
namespace DL
open PySem PySem.Spec PyProof.Rows L2

/-- what holds of an option's content, of a bool's -/
def onO {α : Type} : Option α → (α → Prop) → Prop
  | some a, k => k a
  | none, _ => False
def onB : W → (Bool → Prop) → Prop
  | .fz (.bl b), k => k b
  | _, _ => False
def ifB (b : Bool) (A B : Prop) : Prop := match b with
  | true => A
  | false => B
theorem onO_ex {α : Type} {o : Option α} {k : α → Prop} (h : onO o k) : ∃ a, o = some a ∧ k a := by
  cases o with
  | none => exact h.elim
  | some a => exact ⟨a, rfl, h⟩
theorem onB_ex {w : W} {k : Bool → Prop} (h : onB w k) : ∃ b, w = .fz (.bl b) ∧ k b := by
  unfold onB at h
  split at h
  · exact ⟨_, rfl, h⟩
  · exact h.elim
theorem ifB_if {b : Bool} {A B : Prop} (h : ifB b A B) : if b = true then A else B := by
  cases b with
  | true => rw [if_pos rfl]; exact h
  | false => rw [if_neg Bool.false_ne_true]; exact h
theorem ifB_of {b : Bool} {A B : Prop} (h1 : b = true → A) (h2 : b = false → B) : ifB b A B := by
  cases b with
  | true => exact h1 rfl
  | false => exact h2 rfl
theorem ifB_d {p A B : Prop} [Decidable p] (h1 : p → A) (h2 : ¬ p → B) : ifB (decide p) A B := ifB_of (fun h => h1 (of_decide_eq_true h)) fun h => h2 (of_decide_eq_false h)
theorem ifB_nd {p A B : Prop} [Decidable p] (h1 : ¬ p → A) (h2 : p → B) : ifB (!decide p) A B := by
  by_cases h : p
  · rw [decide_eq_true h]; exact h2 h
  · rw [decide_eq_false h]; exact h1 h
/-- a slot -/
def onV (env : List (Option W)) (i : Nat) (k : W → Prop) : Prop := match env[i]? with
  | some (some w) => k w
  | _ => False
theorem onV_ex {env : List (Option W)} {i : Nat} {k : W → Prop} (h : onV env i k) : ∃ w, env[i]? = some (some w) ∧ k w := by
  unfold onV at h
  split at h
  · exact ⟨_, by assumption, h⟩
  · exact h.elim
abbrev WK := W → Sto → Prop
abbrev DE := En → Sto → WK → Prop
abbrev DA := En → Sto → (List W → Sto → Prop) → Prop
abbrev DT := En → Sto → (Bool → Sto → Prop) → Prop
structure DEnds where
  nx : En → Sto → Prop
  rt : WK
  bk : En → Sto → Prop := fun _ _ => False
  ct : En → Sto → Prop := fun _ _ => False
abbrev DS := DEnds → En → Sto → Prop
abbrev DG := W → En → Sto → (En → Sto → Prop) → Prop
abbrev DGs := List W → En → Sto → (En → Sto → Prop) → Prop

section
variable (K : PySem.W.Frag) (F : Fx)
/-- the slots -/
def ER (B : Hp) (m : List Addr) (env : En) (σ : L2.St) : Prop := env.length = σ.length ∧ ∀ (i : Nat) (w : W), env[i]? = some (some w) → ∃ v, σ[i]? = some (some v) ∧ RW K B m w v
/-- what is wanted of a value -/
def KW (Kp : WK) (B : Hp) (m : List Addr) (H : Hp) (Q : VK) : Prop := ∀ (w : W) (S' : Sto), Kp w S' → ∀ (v : V) (H' B' : Hp) (m' : List Addr), Nx K F B m H B' m' S' H' → RW K B' m' w v → Q v H'
def lE (dt : DE) : TE := fun σ H Q => ∃ (B : Hp) (m : List Addr) (S : Sto) (env : En) (Kp : WK), Cf K F B m S H ∧ ER K B m env σ ∧ dt env S Kp ∧ KW K F Kp B m H Q
def lA (dt : DA) : TA := fun σ H Q => ∃ (B : Hp) (m : List Addr) (S : Sto) (env : En) (Kp : List W → Sto → Prop), Cf K F B m S H ∧ ER K B m env σ ∧ dt env S Kp ∧
  ∀ (ws : List W) (S' : Sto), Kp ws S' → ∀ (vs : List V) (H' B' : Hp) (m' : List Addr), Nx K F B m H B' m' S' H' → RWL K B' m' ws vs → Q vs H'
def lT (dt : DT) : TT := fun σ H Q => ∃ (B : Hp) (m : List Addr) (S : Sto) (env : En) (Kp : Bool → Sto → Prop), Cf K F B m S H ∧ ER K B m env σ ∧ dt env S Kp ∧
  ∀ (b : Bool) (S' : Sto), Kp b S' → ∀ (H' B' : Hp) (m' : List Addr), Nx K F B m H B' m' S' H' → Q b H'
def KE (Kp : En → Sto → Prop) (B : Hp) (m : List Addr) (H : Hp) (Q : L2.St → Hp → Prop) : Prop := ∀ (env : En) (S' : Sto), Kp env S' → ∀ (σ' : L2.St) (H' B' : Hp) (m' : List Addr), Nx K F B m H B' m' S' H' → ER K B' m' env σ' → Q σ' H'
def lS (ds : DS) : TS := fun D σ H => ∃ (B : Hp) (m : List Addr) (S : Sto) (env : En) (E : DEnds), Cf K F B m S H ∧ ER K B m env σ ∧ ds E env S ∧
  KE K F E.nx B m H D.nx ∧ KW K F E.rt B m H D.rt ∧ KE K F E.bk B m H D.bk ∧ KE K F E.ct B m H D.ct
def lG (dg : DG) : TG := fun v σ H Q => ∃ (B : Hp) (m : List Addr) (S : Sto) (env : En) (w : W) (Kp : En → Sto → Prop), Cf K F B m S H ∧ ER K B m env σ ∧ RW K B m w v ∧ dg w env S Kp ∧ KE K F Kp B m H Q
def lGs (dg : DGs) : TGs := fun vs σ H Q => ∃ (B : Hp) (m : List Addr) (S : Sto) (env : En) (ws : List W) (Kp : En → Sto → Prop), Cf K F B m S H ∧ ER K B m env σ ∧ RWL K B m ws vs ∧ dg ws env S Kp ∧ KE K F Kp B m H Q
/-- operations on values -/
abbrev DR2 := W → W → Sto → WK → Prop
abbrev DR1 := W → Sto → WK → Prop
abbrev DRL := List W → Sto → WK → Prop
def lR2 (dr : DR2) : R2 := fun x y H Q => ∃ (B : Hp) (m : List Addr) (S : Sto) (wx wy : W) (Kp : WK), Cf K F B m S H ∧ RW K B m wx x ∧ RW K B m wy y ∧ dr wx wy S Kp ∧ KW K F Kp B m H Q
def lR1 (dr : DR1) : V → Hp → VK → Prop := fun x H Q => ∃ (B : Hp) (m : List Addr) (S : Sto) (wx : W) (Kp : WK), Cf K F B m S H ∧ RW K B m wx x ∧ dr wx S Kp ∧ KW K F Kp B m H Q
def lRL (dr : DRL) : List V → Hp → VK → Prop := fun xs H Q => ∃ (B : Hp) (m : List Addr) (S : Sto) (ws : List W) (Kp : WK), Cf K F B m S H ∧ RWL K B m ws xs ∧ dr ws S Kp ∧ KW K F Kp B m H Q
def lRM (dr : W → DRL) : V → List V → Hp → VK → Prop := fun x xs H Q => ∃ (B : Hp) (m : List Addr) (S : Sto) (wx : W) (ws : List W) (Kp : WK), Cf K F B m S H ∧ RW K B m wx x ∧ RWL K B m ws xs ∧ dr wx ws S Kp ∧ KW K F Kp B m H Q
end

/-! ### what is raised -/
/-- an exception: its class, the fields of its dict -/
structure XD where
  cls : Value
  fs : List (Str × D)
/-- the fields of an exception: in a dict of its own, or none -/
inductive RX (K : PySem.W.Frag) (B : Hp) (fs : List (Str × D)) : Option Addr → Prop
  | none : fs = [] → RX K B fs none
  | some {d : Addr} {fvs : List (Str × V)} : B d = some (.xd fvs) → RpF K B fs fvs → RX K B fs (some d)
abbrev XWK := XD → Sto → Prop
/-- what a body stands in: the tables of code objects, what is wished of exceptions -/
structure Xt where
  T : Addr → Prop
  xw : XWK
  lo : Option Nat
abbrev Xt.of (T : Addr → Prop) : Xt := ⟨T, fun _ _ => False, some 1⟩
abbrev Xt.any (T : Addr → Prop) : Xt := ⟨T, fun _ _ => False, none⟩
abbrev Xt.nox (Ξ : Xt) : Xt := ⟨Ξ.T, fun _ _ => False, Ξ.lo⟩
/-- what is raised here is taken by the body's wish -/
def TakesD (X : Cx) (F : Fx) (xw : XWK) : Prop := ∃ W : WX, Takes X W ∧ ∀ (x : XD) (S' : Sto), xw x S' → ∀ (σ' : L2.St) (H' B' : Hp) (m' : List Addr) (d : Option Addr), Cf X.K F B' m' S' H' → RX X.K B' x.fs d → W x.cls d σ' H'
theorem takes_none {X : Cx} : Takes X (fun _ _ _ _ => False) := fun _ _ ⟨_, _, _, _, _, _, _, _, _, _, _, _, _, _, _, _, z⟩ => z.elim
structure Okf (X : Cx) (Ξ : Xt) (F : Fx) : Prop where
  t : F.T = Ξ.T
  x : TakesD X F Ξ.xw
  l : ∀ n : Nat, Ξ.lo = some n → F.L.length ≤ n
theorem Okf.of {X : Cx} {T : Addr → Prop} {F : Fx} (h : F.T = T) (hl : F.L.length ≤ 1 := by exact Nat.zero_le _) : Okf X (Xt.of T) F := ⟨h, ⟨_, takes_none, fun _ _ z => z.elim⟩, fun n e => by cases e; exact hl⟩
theorem Okf.any {X : Cx} {T : Addr → Prop} {F : Fx} (h : F.T = T) : Okf X (Xt.any T) F := ⟨h, ⟨_, takes_none, fun _ _ z => z.elim⟩, fun n e => by cases e⟩
theorem Okf.nox {X X' : Cx} {Ξ : Xt} {F : Fx} (ok : Okf X Ξ F) : Okf X' Ξ.nox F := ⟨ok.t, ⟨_, takes_none, fun _ _ z => z.elim⟩, ok.l⟩
structure DPE (X : Cx) (Ξ : Xt) (e : Expr) (dt : DE) : Prop where
  run : ∀ F : Fx, Okf X Ξ F → PE X e (lE X.K F dt)
structure DPA (X : Cx) (Ξ : Xt) (es : List Expr) (dt : DA) : Prop where
  run : ∀ F : Fx, Okf X Ξ F → PA X es (lA X.K F dt)
structure DPT (X : Cx) (Ξ : Xt) (e : Expr) (dt : DT) : Prop where
  run : ∀ F : Fx, Okf X Ξ F → PT X e (lT X.K F dt)
structure DPW (X : Cx) (Ξ : Xt) (e : Expr) (dt : DT) : Prop where
  run : ∀ F : Fx, Okf X Ξ F → PW X e (lT X.K F dt)
structure DPS (X : Cx) (Ξ : Xt) (st : Stmt) (ds : DS) : Prop where
  run : ∀ F : Fx, Okf X Ξ F → PS X st (lS X.K F ds)
structure DPSs (X : Cx) (Ξ : Xt) (st : List Stmt) (ds : DS) : Prop where
  run : ∀ F : Fx, Okf X Ξ F → PSs X st (lS X.K F ds)
structure DPG (X : Cx) (Ξ : Xt) (tg : Expr) (dg : DG) : Prop where
  run : ∀ F : Fx, Okf X Ξ F → PG X tg (lG X.K F dg)
structure DPGs (X : Cx) (Ξ : Xt) (tg : List Expr) (dg : DGs) : Prop where
  run : ∀ F : Fx, Okf X Ξ F → PGs X tg (lGs X.K F dg)
def OpD (X : Cx) (f : Value → Value → Sem Value) (dr : DR2) : Prop := ∀ F : Fx, OpR X f (lR2 X.K F dr)
def CallD (X : Cx) (f : Value) (dr : DRL) : Prop := ∀ F : Fx, CallR X f (lRL X.K F dr)
def MtD (X : Cx) (id : String) (dr : W → DRL) : Prop := ∀ F : Fx, MtR X id (lRM X.K F dr)
def IxD (X : Cx) (dr : DR2) : Prop := ∀ F : Fx, IxR X (lR2 X.K F dr)

theorem PE.imp {X : Cx} {e : Expr} {t t' : TE} (h : PE X e t) (g : ∀ σ H Q, t' σ H Q → t σ H Q) : PE X e t' := ⟨fun pins s σ H Q I q => h.run pins s σ H Q I (g _ _ _ q)⟩
theorem PA.imp {X : Cx} {e : List Expr} {t t' : TA} (h : PA X e t) (g : ∀ σ H Q, t' σ H Q → t σ H Q) : PA X e t' := ⟨fun p pins s σ H Q I q => h.run p pins s σ H Q I (g _ _ _ q)⟩
theorem PT.imp {X : Cx} {e : Expr} {t t' : TT} (h : PT X e t) (g : ∀ σ H Q, t' σ H Q → t σ H Q) : PT X e t' := ⟨fun pins s σ H Q I q => h.run pins s σ H Q I (g _ _ _ q)⟩
theorem PW.imp {X : Cx} {e : Expr} {t t' : TT} (h : PW X e t) (g : ∀ σ H Q, t' σ H Q → t σ H Q) : PW X e t' := ⟨fun w pins s σ H Q I q => h.run w pins s σ H Q I (g _ _ _ q)⟩
theorem PS.imp {X : Cx} {e : Stmt} {t t' : TS} (h : PS X e t) (g : ∀ D σ H, t' D σ H → t D σ H) : PS X e t' := ⟨fun pins s σ H D I q => h.run pins s σ H D I (g _ _ _ q)⟩
theorem PSs.imp {X : Cx} {e : List Stmt} {t t' : TS} (h : PSs X e t) (g : ∀ D σ H, t' D σ H → t D σ H) : PSs X e t' := ⟨fun pins s σ H D I q => h.run pins s σ H D I (g _ _ _ q)⟩
theorem PG.imp {X : Cx} {e : Expr} {t t' : TG} (h : PG X e t) (g : ∀ v σ H Q, t' v σ H Q → t v σ H Q) : PG X e t' := ⟨fun pins s σ H v u Q I r q => h.run pins s σ H v u Q I r (g _ _ _ _ q)⟩
theorem PGs.imp {X : Cx} {e : List Expr} {t t' : TGs} (h : PGs X e t) (g : ∀ v σ H Q, t' v σ H Q → t v σ H Q) : PGs X e t' := ⟨fun pins s σ H v u Q I r q => h.run pins s σ H v u Q I r (g _ _ _ _ q)⟩
theorem OpR.imp {X : Cx} {f : Value → Value → Sem Value} {r r' : R2} (h : OpR X f r) (g : ∀ x y H Q, r' x y H Q → r x y H Q) : OpR X f r' := fun pins s σ H x y v u Q I rx ry q => h pins s σ H x y v u Q I rx ry (g _ _ _ _ q)
theorem CallR.imp {X : Cx} {f : Value} {r r' : List V → Hp → VK → Prop} (h : CallR X f r) (g : ∀ xs H Q, r' xs H Q → r xs H Q) : CallR X f r' := fun pins s σ H xs us Q I rx q => h pins s σ H xs us Q I rx (g _ _ _ q)
theorem MtR.imp {X : Cx} {id : String} {r r' : V → List V → Hp → VK → Prop} (h : MtR X id r) (g : ∀ x xs H Q, r' x xs H Q → r x xs H Q) : MtR X id r' := fun pins s σ H x xs v us Q I rx rs q => h pins s σ H x xs v us Q I rx rs (g _ _ _ _ q)
theorem IxR.imp {X : Cx} {r r' : R2} (h : IxR X r) (g : ∀ x y H Q, r' x y H Q → r x y H Q) : IxR X r' := fun a b pins s σ H x y v u Q I rx ry q hs => h a b pins s σ H x y v u Q I rx ry (g _ _ _ _ q) hs

section
variable {K : PySem.W.Frag} {F : Fx} {B B' : Hp} {m m' : List Addr} {S S' : Sto} {H H' : Hp} {env : En} {σ : L2.St}
theorem ER.mono (e : ER K B m env σ) (h : Sub B B') (p : Pre m m') : ER K B' m' env σ := ⟨e.1, fun i w q => let ⟨v, a, b⟩ := e.2 i w q; ⟨v, a, b.mono h p⟩⟩
theorem ER.nx (e : ER K B m env σ) (n : Nx K F B m H B' m' S' H') : ER K B' m' env σ := e.mono n.sb n.pr
theorem ER.set {w : W} {v : V} (e : ER K B m env σ) (i : Nat) (r : RW K B m w v) : ER K B m (env.set i (some w)) (σ.set i (some v)) := by
  refine ⟨by simp [e.1], fun j u q => ?_⟩
  by_cases h : j = i
  · subst h
    have hl := (List.getElem?_eq_some_iff.mp q).1
    rw [List.length_set] at hl
    rw [List.getElem?_set_self hl] at q
    cases q
    exact ⟨v, List.getElem?_set_self (by rw [← e.1]; exact hl), r⟩
  · rw [List.getElem?_set_ne (Ne.symm h)] at q ⊢
    exact e.2 j u q
theorem RW.nx {w : W} {v : V} (r : RW K B m w v) (n : Nx K F B m H B' m' S' H') : RW K B' m' w v := r.mono n.sb n.pr
theorem RWL.nx {w : List W} {v : List V} (r : RWL K B m w v) (n : Nx K F B m H B' m' S' H') : RWL K B' m' w v := r.mono n.sb n.pr
theorem KW.nx {Kp : WK} {Q : VK} (k : KW K F Kp B m H Q) (n : Nx K F B m H B' m' S' H') : KW K F Kp B' m' H' Q := fun w S2 h v H2 B2 m2 n2 r => k w S2 h v H2 B2 m2 (n.trans n2) r
theorem KE.nx {Kp : En → Sto → Prop} {Q : L2.St → Hp → Prop} (k : KE K F Kp B m H Q) (n : Nx K F B m H B' m' S' H') : KE K F Kp B' m' H' Q := fun w S2 h v H2 B2 m2 n2 r => k w S2 h v H2 B2 m2 (n.trans n2) r
theorem Cf.nxSelf (c : Cf K F B m S H) : Nx K F B m H B m S H := c.nx
end

/-! ### expressions -/
section
variable {X : Cx} {Ξ : Xt} {a b c e : Expr} {es : List Expr} {da db dc de : DE} {das : DA} {pos : Pos}
def dVar (i : Nat) : DE := fun env S Kp => onV env i fun w => Kp w S
def dC (d : D) : DE := fun _ S Kp => Kp (.fz d) S
theorem dpe_of_tVar {i : Nat} (h : PE X e (tVar i)) : DPE X Ξ e (dVar i) := ⟨fun F ok => PE.imp h fun σ H Q ⟨B, m, S, env, Kp, cf, er, h, k⟩ => by
  obtain ⟨w, h1, h2⟩ := onV_ex h
  obtain ⟨v, hv, r⟩ := er.2 i w h1
  exact ⟨v, hv, k w S h2 v H B m cf.nx r⟩⟩
theorem dpe_of_tC {d : D} {v : V} (h : PE X e (tC v)) (r : ∀ K B, Rp K B d v) : DPE X Ξ e (dC d) := ⟨fun F ok => PE.imp h fun σ H Q ⟨B, m, S, env, Kp, cf, er, h2, k⟩ =>
  k _ S h2 v H B m cf.nx (.fz (r _ _))⟩
theorem dpv (i : Nat) {x : Str} {pos : Pos} (hN : X.N[i]? = some x := by rfl) (hv : Vis X.env.scope x := by first | exact Or.inl rfl | exact Or.inr (Or.inl rfl) | exact Or.inr (Or.inr rfl)) (hd : (x == ("__debug__" : Str)) = false := by decide)
    (hcd : (x == ("__classdict__" : Str)) = false := by decide) : DPE X Ξ (.Name x pos) (dVar i) := dpe_of_tVar (pe_var hN hv hd hcd)
theorem dpe_int {i : Int} {j : Nat} : DPE X Ξ (.Constant (.int i) j pos) (dC (.int i)) := dpe_of_tC pe_int fun _ _ => .int
theorem dpe_bl {i : Bool} {j : Nat} : DPE X Ξ (.Constant (.bool i) j pos) (dC (.bl i)) := dpe_of_tC pe_bl fun _ _ => .bl
theorem dpe_non {j : Nat} : DPE X Ξ (.Constant .none j pos) (dC .non) := dpe_of_tC pe_non fun _ _ => .non
theorem dpe_str {x : Str} {j : Nat} : DPE X Ξ (.Constant (.str x) j pos) (dC (.str x)) := dpe_of_tC pe_str fun _ _ => .str

/-- a step behind an expression -/
theorem lE_step {K : PySem.W.Frag} {F : Fx} {σ : L2.St} {H : Hp} {de : DE} {B : Hp} {m : List Addr} {S : Sto} {env : En} {Kp : WK} {Q : VK} (cf : Cf K F B m S H) (er : ER K B m env σ) (h : de env S Kp)
    (k : ∀ w S', Kp w S' → ∀ v H' B' m', Nx K F B m H B' m' S' H' → RW K B' m' w v → Q v H') : lE K F de σ H Q := ⟨B, m, S, env, Kp, cf, er, h, k⟩

def dOp (dr : DR2) (da db : DE) : DE := fun env S Kp => da env S fun x S1 => db env S1 fun y S2 => dr x y S2 Kp
theorem imp_op {K : PySem.W.Frag} {F : Fx} {dr : DR2} {da db : DE} (σ : L2.St) (H : Hp) (Q : VK) (h : lE K F (dOp dr da db) σ H Q) : tOp (lR2 K F dr) (lE K F da) (lE K F db) σ H Q := by
  obtain ⟨B, m, S, env, Kp, cf, er, h, k⟩ := h
  refine ⟨B, m, S, env, _, cf, er, h, fun x S1 h1 vx H1 B1 m1 n1 rx => ?_⟩
  refine ⟨B1, m1, S1, env, _, n1.cf, er.nx n1, h1, fun y S2 h2 vy H2 B2 m2 n2 ry => ?_⟩
  exact ⟨B2, m2, S2, x, y, Kp, n2.cf, rx.nx n2, ry, h2, k.nx (n1.trans n2)⟩
theorem dpe_op {op : Operator} {dr : DR2} (ho : OpD X (binaryOp op) dr) (ha : DPE X Ξ a da) (hb : DPE X Ξ b db) : DPE X Ξ (.BinOp a op b pos) (dOp dr da db) := ⟨fun F ok => PE.imp (pe_op (ho F) (ha.run F ok) (hb.run F ok)) imp_op⟩
theorem dpe_cmp {op : CmpOp} {dr : DR2} (ho : OpD X (compareOp op) dr) (ha : DPE X Ξ a da) (hb : DPE X Ξ b db) (hm : behindInMarks op b = false) : DPE X Ξ (.Compare a [op] [b] pos) (dOp dr da db) := ⟨fun F ok => PE.imp (pe_cmpR (ho F) (ha.run F ok) (hb.run F ok) hm) imp_op⟩
theorem dpe_ix {dr : DR2} (hr : IxD X dr) (ha : DPE X Ξ a da) (hb : DPE X Ξ b db) (hs : PlainIx b) : DPE X Ξ (.Subscript a b pos) (dOp dr da db) := ⟨fun F ok => PE.imp (pe_ix (hr F) (ha.run F ok) (hb.run F ok) hs) imp_op⟩

/-! tests -/
def dTst (de : DE) : DT := fun env S Kp => de env S fun w S1 => onB w fun b => Kp b S1
theorem RW.bl_of {K : PySem.W.Frag} {B : Hp} {m : List Addr} {k : Bool} {v : V} (r : RW K B m (.fz (.bl k)) v) : v = .bl k := by
  cases r with
  | fz r => cases r; rfl
theorem RW.int_of {K : PySem.W.Frag} {B : Hp} {m : List Addr} {k : Int} {v : V} (r : RW K B m (.fz (.int k)) v) : v = .int k := by
  cases r with
  | fz r => cases r; rfl
theorem RW.str_of {K : PySem.W.Frag} {B : Hp} {m : List Addr} {k : Str} {v : V} (r : RW K B m (.fz (.str k)) v) : v = .str k := by
  cases r with
  | fz r => cases r; rfl
theorem dpt_val (ha : DPE X Ξ a da) (he : ∀ whole, isTrue a X.env whole = (do let v ← whole; standAt a.pos; holding [v] (truthy v)) := by intro _; rfl) : DPT X Ξ a (dTst da) := ⟨fun F ok => PT.imp (pt_val (ha.run F ok) he) fun σ H Q ⟨B, m, S, env, Kp, cf, er, h, k⟩ => by
  refine ⟨B, m, S, env, _, cf, er, h, fun w S1 h0 v H1 B1 m1 n1 r => ?_⟩
  obtain ⟨b, e1, h1⟩ := onB_ex h0
  subst e1
  exact ⟨b, r.bl_of, k b S1 h1 H1 B1 m1 n1⟩⟩
theorem dpt_cmp {op : CmpOp} {dr : DR2} (ho : OpD X (compareOp op) dr) (ha : DPE X Ξ a da) (hb : DPE X Ξ b db) (hm : behindInMarks op b = false) : DPT X Ξ (.Compare a [op] [b] pos) (dTst (dOp dr da db)) := ⟨fun F ok => PT.imp (pt_cmpR (ho F) (ha.run F ok) (hb.run F ok) hm) fun σ H Q ⟨B, m, S, env, Kp, cf, er, h, k⟩ => by
  refine imp_op σ H _ ⟨B, m, S, env, _, cf, er, h, fun w S1 h0 v H1 B1 m1 n1 r => ?_⟩
  obtain ⟨b, e1, h1⟩ := onB_ex h0
  subst e1
  exact ⟨b, r.bl_of, k b S1 h1 H1 B1 m1 n1⟩⟩
def dChain (r r' : DR2) (da db dc : DE) : DE := fun env S Kp => da env S fun x S1 => db env S1 fun y S2 => r x y S2 fun z S3 => onB z fun k => ifB k (dc env S3 fun w S4 => r' y w S4 Kp) (Kp (.fz (.bl false)) S3)
end
end DL
/-! DL3: and, or, not, displays, statements, loops -/
namespace DL
open PySem PySem.Spec PyProof.Rows L2

/-! ### views -/
def fzL : List W → Option (List D)
  | [] => some []
  | .fz d :: r => (fzL r).map (d :: ·)
  | .hd _ :: _ => none
  | .tp _ :: _ => none
  | .xo _ _ _ :: _ => none
theorem fzL_map (ds : List D) : fzL (ds.map W.fz) = some ds := by
  induction ds with
  | nil => rfl
  | cons d ds ih => show (fzL (ds.map W.fz)).map (d :: ·) = _; rw [ih]; rfl
theorem fzL_eq : ∀ {ws : List W} {ds : List D}, fzL ws = some ds → ws = ds.map W.fz
  | [], ds, h => by cases h; rfl
  | .fz d :: r, ds, h => by
    unfold fzL at h
    cases e : fzL r with
    | none => rw [e] at h; cases h
    | some ds' =>
      rw [e] at h
      cases h
      rw [List.map_cons, ← fzL_eq e]
  | .hd _ :: _, _, h => by cases h
  | .tp _ :: _, _, h => by cases h
  | .xo _ _ _ :: _, _, h => by cases h
def mkT (ws : List W) : W := match fzL ws with
  | some ds => .fz (.tup ds)
  | none => .tp ws
theorem mkT_fz (ds : List D) : mkT (ds.map W.fz) = .fz (.tup ds) := by unfold mkT; rw [fzL_map]
/-- a tuple's items -/
def vT : W → Option (List W)
  | .fz (.tup ds) => some (ds.map .fz)
  | .tp ws => some ws
  | _ => none
/-- a list's items -/
def vL (S : Sto) : W → Option (List W)
  | .fz (.lst ds) => some (ds.map .fz)
  | .hd n => match S[n]? with
    | some (.lst ws) => some ws
    | _ => none
  | _ => none
def vS (S : Sto) (w : W) : Option (List W) := match vT w with
  | some ws => some ws
  | none => vL S w
/-- a value's truth -/
def truW (S : Sto) : W → Option Bool
  | .fz .non => some false
  | .fz (.bl b) => some b
  | .fz (.int i) => some (i != 0)
  | .fz (.str y) => if y.length ≤ sizeLine then some ((y.length : Int) != 0) else none
  | .fz (.tup ds) => some (!ds.isEmpty)
  | .fz (.lst ds) => some (!ds.isEmpty)
  | .fz (.obj _ _) => none
  | .fz (.scr _) => none
  | .fz (.ty _) => none
  | .tp ws => some (!ws.isEmpty)
  | .xo _ _ _ => none
  | .hd n => match S[n]? with
    | some (.lst ws) => some (!ws.isEmpty)
    | some (.dic ws) => some (!ws.isEmpty)
    | _ => none
section
variable {K : PySem.W.Frag} {F : Fx} {B B' : Hp} {m m' : List Addr} {S S' : Sto} {H H' : Hp} {env : En} {σ : L2.St}
theorem mkT_ok {ws : List W} {vs : List V} {p : Addr} (r : RWL K B m ws vs) (h : SqT K B p vs) : RW K B m (mkT ws) (.ref p) := by
  unfold mkT
  split
  · rename_i ds e
    rw [fzL_eq e] at r
    exact .fz (.tup h r.fz)
  · exact .tp h r
theorem vT_ok {w : W} {x : V} {ws : List W} (r : RW K B m w x) (h : vT w = some ws) : ∃ a vs, x = .ref a ∧ SqT K B a vs ∧ RWL K B m ws vs := by
  unfold vT at h
  split at h
  · cases h
    cases r with
    | fz r => cases r with
      | tup s t => exact ⟨_, _, rfl, s, t.fz⟩
  · cases h
    cases r with
    | tp s t => exact ⟨_, _, rfl, s, t⟩
  · cases h
theorem vL_ok (c : Cf K F B m S H) {w : W} {x : V} {ws : List W} (r : RW K B m w x) (h : vL S w = some ws) : ∃ a vs, x = .ref a ∧ H a = some (.lst vs) ∧ RWL K B m ws vs := by
  unfold vL at h
  split at h
  · cases h
    cases r with
    | fz r => cases r with
      | lst s t => exact ⟨_, _, rfl, c.sub _ _ s, t.fz⟩
  · rename_i n
    cases r with
    | hd e =>
      split at h
      · rename_i ws' e2
        cases h
        obtain ⟨o, h1, ⟨vs, h2, h3⟩, _⟩ := c.own _ _ _ e e2
        subst h2
        exact ⟨_, _, rfl, h1, h3⟩
      · cases h
  · cases h
theorem vS_ok (c : Cf K F B m S H) {w : W} {x : V} {ws : List W} (r : RW K B m w x) (h : vS S w = some ws) : ∃ a vs, x = .ref a ∧ (SqL K H a vs ∨ SqT K H a vs) ∧ RWL K B m ws vs := by
  unfold vS at h
  split at h
  · rename_i ws' e
    cases h
    obtain ⟨a, vs, h1, h2, h3⟩ := vT_ok r e
    exact ⟨a, vs, h1, .inr (c.sub.seqT h2), h3⟩
  · obtain ⟨a, vs, h1, h2, h3⟩ := vL_ok c r h
    exact ⟨a, vs, h1, .inl (.of h2), h3⟩
theorem Cf.lst (c : Cf K F B m S H) {n : Nat} {ws : List W} {x : V} (r : RW K B m (.hd n) x) (h : S[n]? = some (.lst ws)) : ∃ a vs, x = .ref a ∧ m[n]? = some a ∧ H a = some (.lst vs) ∧ RWL K B m ws vs := by
  cases r with
  | hd e =>
    obtain ⟨o, h1, ⟨vs, h2, h3⟩, _⟩ := c.own _ _ _ e h
    subst h2
    exact ⟨_, _, rfl, e, h1, h3⟩
theorem truW_ok (c : Cf K F B m S H) {w : W} {x : V} {k : Bool} (r : RW K B m w x) (h : truW S w = some k) : TruV K x H k := by
  unfold truW at h
  split at h
  · cases h; cases r with | fz r => cases r; rfl
  · cases h; cases r with | fz r => cases r; rfl
  · cases h; cases r with | fz r => cases r; rfl
  · split at h
    · cases h; cases r with | fz r => cases r; exact ⟨by assumption, rfl⟩
    · cases h
  · cases h
    cases r with | fz r => cases r with | tup s t =>
      refine .inr (.inl ⟨_, c.sub.seqT s, ?_⟩)
      have e := t.length
      rename_i ds _ vs
      cases ds <;> cases vs <;> first | rfl | (simp at e)
  · cases h
    cases r with | fz r => cases r with | lst s t =>
      refine .inl ⟨_, .of (c.sub _ _ s), ?_⟩
      have e := t.length
      rename_i ds _ vs
      cases ds <;> cases vs <;> first | rfl | (simp at e)
  · cases h
  · cases h
  · cases h
  · cases h
    cases r with | tp s t =>
      refine .inr (.inl ⟨_, c.sub.seqT s, ?_⟩)
      have e := t.length
      rename_i ds _ vs
      cases ds <;> cases vs <;> first | rfl | (simp at e)
  · cases h
  · split at h
    · rename_i ws e
      cases h
      obtain ⟨a, vs, e1, _, h1, h2⟩ := c.lst r e
      subst e1
      refine .inl ⟨_, .of h1, ?_⟩
      have e := h2.length
      cases ws <;> cases vs <;> first | rfl | (simp at e)
    · rename_i ws e
      cases h
      cases r with
      | hd e1 =>
        obtain ⟨o, h1, ⟨vs, h2, h3⟩, _⟩ := c.own _ _ _ e1 e
        subst h2
        refine .inr (.inr ⟨_, h1, ?_⟩)
        have e := Paired.length h3
        cases ws <;> cases vs <;> first | rfl | (simp at e)
    · cases h
end

/-! ### tests -/
section
variable {X : Cx} {Ξ : Xt} {a b c e : Expr} {es rest : List Expr} {da db dc de : DE} {ta tb tc : DT} {das : DA} {pos : Pos}
theorem imp_chain {K : PySem.W.Frag} {F : Fx} {r r' : DR2} {da db dc : DE} (σ : L2.St) (H : Hp) (Q : VK) (h : lE K F (dChain r r' da db dc) σ H Q) : tChain (lR2 K F r) (lR2 K F r') (lE K F da) (lE K F db) (lE K F dc) σ H Q := by
  obtain ⟨B, m, S, env, Kp, cf, er, h, k⟩ := h
  refine ⟨B, m, S, env, _, cf, er, h, fun x S1 h1 vx H1 B1 m1 n1 rx => ?_⟩
  refine ⟨B1, m1, S1, env, _, n1.cf, er.nx n1, h1, fun y S2 h2 vy H2 B2 m2 n2 ry => ?_⟩
  refine ⟨B2, m2, S2, x, y, _, n2.cf, rx.nx n2, ry, h2, fun z S3 h0 vz H3 B3 m3 n3 rz => ?_⟩
  obtain ⟨q, e3, h3⟩ := onB_ex h0
  subst e3
  replace h3 := ifB_if h3
  refine ⟨q, rz.bl_of, ?_⟩
  cases q with
  | false =>
    rw [if_neg Bool.false_ne_true] at h3 ⊢
    exact k _ _ h3 _ _ _ _ (n1.trans (n2.trans n3)) (.fz .bl)
  | true =>
    rw [if_pos rfl] at h3 ⊢
    refine ⟨B3, m3, S3, env, _, n3.cf, er.nx (n1.trans (n2.trans n3)), h3, fun w S4 h4 vw H4 B4 m4 n4 rw' => ?_⟩
    exact ⟨B4, m4, S4, y, w, Kp, n4.cf, (ry.nx n3).nx n4, rw', h4, k.nx (n1.trans (n2.trans (n3.trans n4)))⟩
theorem dpe_chain {op op' : CmpOp} {r r' : DR2} (ho : OpD X (compareOp op) r) (ho' : OpD X (compareOp op') r') (ha : DPE X Ξ a da) (hb : DPE X Ξ b db) (hc : DPE X Ξ c dc)
    (hm : lastMarks [op, op'] [b, c] = false := by with_unfolding_all rfl) : DPE X Ξ (.Compare a [op, op'] [b, c] pos) (dChain r r' da db dc) := ⟨fun F ok => PE.imp (pe_chain (ho F) (ho' F) (ha.run F ok) (hb.run F ok) (hc.run F ok) hm) imp_chain⟩
theorem imp_tst {K : PySem.W.Frag} {F : Fx} {de : DE} {te : TE} (g : ∀ σ H Q, lE K F de σ H Q → te σ H Q) (σ : L2.St) (H : Hp) (Q : Bool → Hp → Prop) (h : lT K F (dTst de) σ H Q) : tTest te σ H Q := by
  obtain ⟨B, m, S, env, Kp, cf, er, h, k⟩ := h
  refine g σ H _ ⟨B, m, S, env, _, cf, er, h, fun w S1 h0 v H1 B1 m1 n1 r => ?_⟩
  obtain ⟨b, e1, h1⟩ := onB_ex h0
  subst e1
  exact ⟨b, r.bl_of, k b S1 h1 H1 B1 m1 n1⟩
theorem dpt_chain {op op' : CmpOp} {r r' : DR2} (ho : OpD X (compareOp op) r) (ho' : OpD X (compareOp op') r') (ha : DPE X Ξ a da) (hb : DPE X Ξ b db) (hc : DPE X Ξ c dc)
    (hm : lastMarks [op, op'] [b, c] = false := by with_unfolding_all rfl) : DPT X Ξ (.Compare a [op, op'] [b, c] pos) (dTst (dChain r r' da db dc)) := ⟨fun F ok => PT.imp (pt_chain (ho F) (ho' F) (ha.run F ok) (hb.run F ok) (hc.run F ok) hm) (imp_tst imp_chain)⟩
def dTru (de : DE) : DT := fun env S Kp => de env S fun w S1 => onO (truW S1 w) fun k => Kp k S1
theorem dpt_tru (ha : DPE X Ξ a da) (he : ∀ whole, isTrue a X.env whole = (do let v ← whole; standAt a.pos; holding [v] (truthy v)) := by intro _; rfl) : DPT X Ξ a (dTru da) := ⟨fun F ok => PT.imp (pt_truth (ha.run F ok) he) fun σ H Q ⟨B, m, S, env, Kp, cf, er, h, k⟩ => by
  refine ⟨B, m, S, env, _, cf, er, h, fun w S1 h0 v H1 B1 m1 n1 r => ?_⟩
  obtain ⟨b, e1, h1⟩ := onO_ex h0
  exact ⟨b, truW_ok n1.cf r e1, k b S1 h1 H1 B1 m1 n1⟩⟩
def dAnd (t u : DT) : DT := fun env S Kp => t env S fun c S1 => ifB c (u env S1 Kp) (Kp false S1)
def dOr (t u : DT) : DT := fun env S Kp => t env S fun c S1 => ifB c (Kp true S1) (u env S1 Kp)
def dNot (t : DT) : DT := fun env S Kp => t env S fun c S1 => Kp (!c) S1
theorem DPW.pt (h : DPW X Ξ e ta) : DPT X Ξ e ta := ⟨fun F ok => (h.run F ok).pt⟩
theorem dpw_and1 (ha : DPT X Ξ a ta) : DPW X Ξ (.BoolOp .And [a] pos) ta := ⟨fun F ok => pw_and1 (ha.run F ok)⟩
theorem dpw_or1 (ha : DPT X Ξ a ta) : DPW X Ξ (.BoolOp .Or [a] pos) ta := ⟨fun F ok => pw_or1 (ha.run F ok)⟩
theorem dpw_and (ha : DPT X Ξ a ta) (hb : DPW X Ξ (.BoolOp .And (b :: rest) pos) tb) : DPW X Ξ (.BoolOp .And (a :: b :: rest) pos) (dAnd ta tb) := ⟨fun F ok => PW.imp (pw_and (ha.run F ok) (hb.run F ok)) fun σ H Q ⟨B, m, S, env, Kp, cf, er, h, k⟩ => by
  refine ⟨B, m, S, env, _, cf, er, h, fun c S1 h1 H1 B1 m1 n1 => ?_⟩
  cases c with
  | false => replace h1 := ifB_if h1; rw [if_neg Bool.false_ne_true] at h1 ⊢; exact k _ _ h1 _ _ _ n1
  | true =>
    replace h1 := ifB_if h1
    rw [if_pos rfl] at h1 ⊢
    exact ⟨B1, m1, S1, env, Kp, n1.cf, er.nx n1, h1, fun c S2 h2 H2 B2 m2 n2 => k c S2 h2 H2 B2 m2 (n1.trans n2)⟩⟩
theorem dpw_or (ha : DPT X Ξ a ta) (hb : DPW X Ξ (.BoolOp .Or (b :: rest) pos) tb) : DPW X Ξ (.BoolOp .Or (a :: b :: rest) pos) (dOr ta tb) := ⟨fun F ok => PW.imp (pw_or (ha.run F ok) (hb.run F ok)) fun σ H Q ⟨B, m, S, env, Kp, cf, er, h, k⟩ => by
  refine ⟨B, m, S, env, _, cf, er, h, fun c S1 h1 H1 B1 m1 n1 => ?_⟩
  cases c with
  | true => replace h1 := ifB_if h1; rw [if_pos rfl] at h1 ⊢; exact k _ _ h1 _ _ _ n1
  | false =>
    replace h1 := ifB_if h1
    rw [if_neg Bool.false_ne_true] at h1 ⊢
    exact ⟨B1, m1, S1, env, Kp, n1.cf, er.nx n1, h1, fun c S2 h2 H2 B2 m2 n2 => k c S2 h2 H2 B2 m2 (n1.trans n2)⟩⟩
theorem dpt_not (ha : DPT X Ξ a ta) : DPT X Ξ (.UnaryOp .Not a pos) (dNot ta) := ⟨fun F ok => PT.imp (pt_not (ha.run F ok)) fun σ H Q ⟨B, m, S, env, Kp, cf, er, h, k⟩ =>
  ⟨B, m, S, env, _, cf, er, h, fun c S1 h1 H1 B1 m1 n1 => k _ _ h1 _ _ _ n1⟩⟩
/-! as values, of bools -/
def dAndV (ta tb : DE) : DE := fun env S Kp => ta env S fun x S1 => onB x fun c => ifB c (tb env S1 Kp) (Kp (.fz (.bl false)) S1)
def dOrV (ta tb : DE) : DE := fun env S Kp => ta env S fun x S1 => onB x fun c => ifB c (Kp (.fz (.bl true)) S1) (tb env S1 Kp)
def dNotV (ta : DE) : DE := fun env S Kp => ta env S fun x S1 => onB x fun c => Kp (.fz (.bl (!c))) S1
def dNotT (ta : DE) : DE := fun env S Kp => ta env S fun x S1 => onO (truW S1 x) fun c => Kp (.fz (.bl (!c))) S1
theorem dpe_one {op : BoolOp} (h : DPE X Ξ a da) : DPE X Ξ (.BoolOp op [a] pos) da := ⟨fun F ok => pe_one (h.run F ok)⟩
theorem dpe_and (ha : DPE X Ξ a da) (hb : DPE X Ξ (.BoolOp .And (b :: rest) pos) db) : DPE X Ξ (.BoolOp .And (a :: b :: rest) pos) (dAndV da db) := ⟨fun F ok => PE.imp (pe_and (ha.run F ok) (hb.run F ok)) fun σ H Q ⟨B, m, S, env, Kp, cf, er, h, k⟩ => by
  refine ⟨B, m, S, env, _, cf, er, h, fun x S1 h0 v H1 B1 m1 n1 r => ?_⟩
  obtain ⟨c, e1, h1⟩ := onB_ex h0
  subst e1
  refine ⟨c, r.bl_of, ?_⟩
  cases c with
  | false => replace h1 := ifB_if h1; rw [if_neg Bool.false_ne_true] at h1 ⊢; exact k _ _ h1 _ _ _ _ n1 (.fz .bl)
  | true =>
    replace h1 := ifB_if h1
    rw [if_pos rfl] at h1 ⊢
    exact ⟨B1, m1, S1, env, Kp, n1.cf, er.nx n1, h1, k.nx n1⟩⟩
theorem dpe_or (ha : DPE X Ξ a da) (hb : DPE X Ξ (.BoolOp .Or (b :: rest) pos) db) : DPE X Ξ (.BoolOp .Or (a :: b :: rest) pos) (dOrV da db) := ⟨fun F ok => PE.imp (pe_or (ha.run F ok) (hb.run F ok)) fun σ H Q ⟨B, m, S, env, Kp, cf, er, h, k⟩ => by
  refine ⟨B, m, S, env, _, cf, er, h, fun x S1 h0 v H1 B1 m1 n1 r => ?_⟩
  obtain ⟨c, e1, h1⟩ := onB_ex h0
  subst e1
  refine ⟨c, r.bl_of, ?_⟩
  cases c with
  | true => replace h1 := ifB_if h1; rw [if_pos rfl] at h1 ⊢; exact k _ _ h1 _ _ _ _ n1 (.fz .bl)
  | false =>
    replace h1 := ifB_if h1
    rw [if_neg Bool.false_ne_true] at h1 ⊢
    exact ⟨B1, m1, S1, env, Kp, n1.cf, er.nx n1, h1, k.nx n1⟩⟩
theorem dpe_not (ha : DPE X Ξ a da) : DPE X Ξ (.UnaryOp .Not a pos) (dNotV da) := ⟨fun F ok => PE.imp (pe_not (ha.run F ok)) fun σ H Q ⟨B, m, S, env, Kp, cf, er, h, k⟩ => by
  refine ⟨B, m, S, env, _, cf, er, h, fun x S1 h0 v H1 B1 m1 n1 r => ?_⟩
  obtain ⟨c, e1, h1⟩ := onB_ex h0
  subst e1
  exact ⟨c, r.bl_of, k _ _ h1 _ _ _ _ n1 (.fz .bl)⟩⟩
def dIf (t : DT) (ta tb : DE) : DE := fun env S Kp => t env S fun c S1 => ifB c (ta env S1 Kp) (tb env S1 Kp)
theorem dpe_if (hc : DPT X Ξ c tc) (ha : DPE X Ξ a da) (hb : DPE X Ξ b db) : DPE X Ξ (.IfExp c a b pos) (dIf tc da db) := ⟨fun F ok => PE.imp (pe_ifExp (hc.run F ok) (ha.run F ok) (hb.run F ok)) fun σ H Q ⟨B, m, S, env, Kp, cf, er, h, k⟩ => by
  refine ⟨B, m, S, env, _, cf, er, h, fun c S1 h1 H1 B1 m1 n1 => ?_⟩
  cases c with
  | true => replace h1 := ifB_if h1; rw [if_pos rfl] at h1 ⊢; exact ⟨B1, m1, S1, env, Kp, n1.cf, er.nx n1, h1, k.nx n1⟩
  | false => replace h1 := ifB_if h1; rw [if_neg Bool.false_ne_true] at h1 ⊢; exact ⟨B1, m1, S1, env, Kp, n1.cf, er.nx n1, h1, k.nx n1⟩⟩

/-! ### argument lists, displays -/
def dNil : DA := fun _ S Kp => Kp [] S
def dCons (ta : DE) (tr : DA) : DA := fun env S Kp => ta env S fun x S1 => tr env S1 fun xs S2 => Kp (x :: xs) S2
theorem dpa_nil : DPA X Ξ [] dNil := ⟨fun F ok => PA.imp pa_nil fun σ H Q ⟨B, m, S, env, Kp, cf, er, h, k⟩ => k _ _ h _ _ _ _ cf.nx .nil⟩
theorem dpa_cons (ha : DPE X Ξ e de) (hr : DPA X Ξ es das) (hs : starEach (e :: es) X.env = (false, eval e X.env) :: starEach es X.env := by rfl) : DPA X Ξ (e :: es) (dCons de das) := ⟨fun F ok => PA.imp (pa_cons (ha.run F ok) (hr.run F ok) hs) fun σ H Q ⟨B, m, S, env, Kp, cf, er, h, k⟩ =>
  ⟨B, m, S, env, _, cf, er, h, fun x S1 h1 v H1 B1 m1 n1 r => ⟨B1, m1, S1, env, _, n1.cf, er.nx n1, h1, fun xs S2 h2 vs H2 B2 m2 n2 r2 => k _ _ h2 _ _ _ _ (n1.trans n2) (.cons (r.nx n2) r2)⟩⟩⟩
def dTup (t : DA) : DE := fun env S Kp => t env S fun ws S1 => ws.length ≤ sizeLine ∧ Kp (mkT ws) S1
theorem dpe_tup {x1 : Nat} (h : DPA X Ξ es das) : DPE X Ξ (.Tuple es x1 pos) (dTup das) := ⟨fun F ok => PE.imp (pe_tup (h.run F ok)) fun σ H Q ⟨B, m, S, env, Kp, cf, er, h, k⟩ =>
  ⟨B, m, S, env, _, cf, er, h, fun ws S1 ⟨hz, h1⟩ vs H1 B1 m1 n1 r => ⟨by rw [← r.length]; exact hz, fun p hp => by
    have n2 := n1.cf.alloc (o := .tup vs) hp
    exact k _ _ h1 _ _ _ _ (n1.trans n2) (mkT_ok (r.nx n2) (.of upd_same))⟩⟩⟩
/-- what a new list is: own: one that may change -/
def newL (own : Bool) (ws : List W) (S : Sto) (Kp : WK) : Prop := match own with
  | true => Kp (.hd S.length) (S ++ [.lst ws])
  | false => onO (fzL ws) fun ds => Kp (.fz (.lst ds)) S
theorem newL_ok {K : PySem.W.Frag} {F : Fx} {B : Hp} {m : List Addr} {S : Sto} {H : Hp} {own : Bool} {ws : List W} {vs : List V} {Kp : WK} {Q : VK} {p : Addr} (cf : Cf K F B m S H) (r : RWL K B m ws vs) (h : newL own ws S Kp) (k : KW K F Kp B m H Q) (hp : H p = none) :
    Q (.ref p) (upd H p (.lst vs)) := by
  unfold newL at h
  split at h
  · have n2 := cf.allocO (od := .lst ws) (o := .lst vs) hp ⟨vs, rfl, r⟩
    refine k _ _ h _ _ _ _ n2 (.hd ?_)
    rw [← cf.len, List.getElem?_append_right (Nat.le_refl _), Nat.sub_self]
    rfl
  · obtain ⟨ds, e, h⟩ := onO_ex h
    have n2 := cf.alloc (o := .lst vs) hp
    have r2 := r.nx n2
    rw [fzL_eq e] at r2
    exact k _ _ h _ _ _ _ n2 (.fz (.lst upd_same r2.fz))
def dLst (own : Bool) (t : DA) : DE := fun env S Kp => t env S fun ws S1 => ws.length ≤ sizeLine ∧ newL own ws S1 Kp
theorem dpe_lst (own : Bool) (h : DPA X Ξ es das) : DPE X Ξ (.List es pos) (dLst own das) := ⟨fun F ok => PE.imp (pe_lst (h.run F ok)) fun σ H Q ⟨B, m, S, env, Kp, cf, er, h, k⟩ =>
  ⟨B, m, S, env, _, cf, er, h, fun ws S1 ⟨hz, h1⟩ vs H1 B1 m1 n1 r => ⟨by rw [← r.length]; exact hz, fun p hp => newL_ok n1.cf r h1 (k.nx n1) hp⟩⟩⟩
end

/-! ### statements -/
section
variable {X : Cx} {Ξ : Xt} {st : Stmt} {rest : List Stmt} {t u : DS} {e c : Expr} {de : DE} {pos : Pos} {a b : List Stmt} {tc : DT}
def dNext : DS := fun D env S => D.nx env S
def dSeq (t u : DS) : DS := fun D env S => t { D with nx := u D } env S
theorem dpss_nil : DPSs X Ξ [] dNext := ⟨fun F ok => PSs.imp pss_nil fun D σ H ⟨B, m, S, env, E, cf, er, h, k1, k2, k3, k4⟩ => k1 _ _ h _ _ _ _ cf.nx er⟩
theorem dpss_cons (h1 : DPS X Ξ st t) (h2 : DPSs X Ξ rest u) : DPSs X Ξ (st :: rest) (dSeq t u) := ⟨fun F ok => PSs.imp (pss_cons (h1.run F ok) (h2.run F ok)) fun D σ H ⟨B, m, S, env, E, cf, er, h, k1, k2, k3, k4⟩ =>
  ⟨B, m, S, env, _, cf, er, h, fun env' S1 q σ1 H1 B1 m1 n1 er1 => ⟨B1, m1, S1, env', E, n1.cf, er1, q, k1.nx n1, k2.nx n1, k3.nx n1, k4.nx n1⟩, k2, k3, k4⟩⟩
/-- a statement, a word, the rest from that word -/
def dCut (t u : DS) : DS := fun D env S => ∃ Mid : En → Sto → Prop, t { D with nx := Mid } env S ∧ ∀ env' S', Mid env' S' → u D env' S'
theorem dpss_cut (h1 : DPS X Ξ st t) (h2 : DPSs X Ξ rest u) : DPSs X Ξ (st :: rest) (dCut t u) := ⟨fun F ok => PSs.imp (pss_cons (h1.run F ok) (h2.run F ok)) fun D σ H ⟨B, m, S, env, E, cf, er, ⟨Mid, h, hu⟩, k1, k2, k3, k4⟩ =>
  ⟨B, m, S, env, _, cf, er, h, fun env' S1 q σ1 H1 B1 m1 n1 er1 => ⟨B1, m1, S1, env', E, n1.cf, er1, hu _ _ q, k1.nx n1, k2.nx n1, k3.nx n1, k4.nx n1⟩, k2, k3, k4⟩⟩
theorem dpss_one (h1 : DPS X Ξ st t) : DPSs X Ξ [st] t := ⟨fun F ok => pss_one (h1.run F ok)⟩
def dBreak : DS := fun D env S => D.bk env S
def dPass : DS := fun D env S => D.nx env S
theorem dps_break : DPS X Ξ (.Break pos) dBreak := ⟨fun F ok => PS.imp ps_break fun D σ H ⟨B, m, S, env, E, cf, er, h, k1, k2, k3, k4⟩ => k3 _ _ h _ _ _ _ cf.nx er⟩
theorem dps_pass : DPS X Ξ (.Pass pos) dPass := ⟨fun F ok => PS.imp ps_pass fun D σ H ⟨B, m, S, env, E, cf, er, h, k1, k2, k3, k4⟩ => k1 _ _ h _ _ _ _ cf.nx er⟩
def dDrop (de : DE) : DS := fun D env S => de env S fun _ S1 => D.nx env S1
theorem dps_expr (he : DPE X Ξ e de) (hs : swapsWith e none pos.line X.env = pure false := by rfl) : DPS X Ξ (.Expr e pos) (dDrop de) := ⟨fun F ok => PS.imp (ps_expr (he.run F ok) hs) fun D σ H ⟨B, m, S, env, E, cf, er, h, k1, k2, k3, k4⟩ =>
  ⟨B, m, S, env, _, cf, er, h, fun w S1 h1 v H1 B1 m1 n1 r => k1 _ _ h1 _ _ _ _ n1 (er.nx n1)⟩⟩
def dRet (de : DE) : DS := fun D env S => de env S D.rt
theorem dps_ret (he : DPE X Ξ e de) : DPS X Ξ (.Return (some e) pos) (dRet de) := ⟨fun F ok => PS.imp (ps_ret (he.run F ok)) fun D σ H ⟨B, m, S, env, E, cf, er, h, k1, k2, k3, k4⟩ =>
  ⟨B, m, S, env, _, cf, er, h, k2⟩⟩
def dRetN : DS := fun D _ S => D.rt (.fz .non) S
theorem dps_retN : DPS X Ξ (.Return none pos) dRetN := ⟨fun F ok => PS.imp ps_retN fun D σ H ⟨B, m, S, env, E, cf, er, h, k1, k2, k3, k4⟩ => k2 _ _ h _ _ _ _ cf.nx (.fz .non)⟩
def dIfS (c : DT) (t u : DS) : DS := fun D env S => c env S fun b S1 => ifB b (t D env S1) (u D env S1)
theorem dps_if (hc : DPT X Ξ c tc) (ha : DPSs X Ξ a t) (hb : DPSs X Ξ b u) : DPS X Ξ (.If c a b pos) (dIfS tc t u) := ⟨fun F ok => PS.imp (ps_if (hc.run F ok) (ha.run F ok) (hb.run F ok)) fun D σ H ⟨B, m, S, env, E, cf, er, h, k1, k2, k3, k4⟩ =>
  ⟨B, m, S, env, _, cf, er, h, fun c S1 h1 H1 B1 m1 n1 => by
    cases c with
    | true => replace h1 := ifB_if h1; rw [if_pos rfl] at h1 ⊢; exact ⟨B1, m1, S1, env, E, n1.cf, er.nx n1, h1, k1.nx n1, k2.nx n1, k3.nx n1, k4.nx n1⟩
    | false => replace h1 := ifB_if h1; rw [if_neg Bool.false_ne_true] at h1 ⊢; exact ⟨B1, m1, S1, env, E, n1.cf, er.nx n1, h1, k1.nx n1, k2.nx n1, k3.nx n1, k4.nx n1⟩⟩⟩
/-! targets -/
def dgName (i : Nat) : DG := fun w env S Kp => Kp (env.set i (some w)) S
theorem dpg_name {i : Nat} {x : Str} (hN : X.N.Nodup) (hi : X.N[i]? = some x) (hx : Loc X.env.scope x) (hf : X.fn x = true ∨ X.env.scope.names.lookup x = some .local := by first | exact .inl rfl | exact .inr rfl | assumption) : DPG X Ξ (.Name x pos) (dgName i) :=
  ⟨fun F ok => PG.imp (pg_name hN hi hx hf) fun v σ H Q ⟨B, m, S, env, w, Kp, cf, er, r, h, k⟩ => k _ _ h _ _ _ _ cf.nx (er.set i r)⟩
def dgNil : DGs := fun ws env S Kp => match ws with
  | [] => Kp env S
  | _ :: _ => False
def dgCons (t : DG) (u : DGs) : DGs := fun ws env S Kp => match ws with
  | w :: r => t w env S fun env' S' => u r env' S' Kp
  | [] => False
theorem dpgs_nil : DPGs X Ξ [] dgNil := ⟨fun F ok => PGs.imp pgs_nil fun v σ H Q ⟨B, m, S, env, w, Kp, cf, er, r, h, k⟩ => by
  cases w with
  | cons _ _ => exact h.elim
  | nil =>
  cases r
  exact ⟨rfl, k _ _ h _ _ _ _ cf.nx er⟩⟩
theorem dpgs_cons {es : List Expr} {t : DG} {u : DGs} (h1 : DPG X Ξ e t) (h2 : DPGs X Ξ es u)
    (hs : (assignEach (e :: es) X.env).map (·.2) = assign e X.env :: (assignEach es X.env).map (·.2) := by rfl) : DPGs X Ξ (e :: es) (dgCons t u) := ⟨fun F ok => PGs.imp (pgs_cons (h1.run F ok) (h2.run F ok) hs) fun v σ H Q ⟨B, m, S, env, w, Kp, cf, er, r, h, k⟩ => by
  cases w with
  | nil => exact h.elim
  | cons w1 wr =>
  cases r with
  | cons r rr =>
    exact ⟨_, _, rfl, B, m, S, env, w1, _, cf, er, r, h, fun env' S1 h1 σ1 H1 B1 m1 n1 er1 => ⟨B1, m1, S1, env', wr, Kp, n1.cf, er1, rr.nx n1, h1, k.nx n1⟩⟩⟩
def dgTup (n : Nat) (t : DGs) : DG := fun w env S Kp => onO (vT w) fun ws => ws.length = n ∧ t ws env S Kp
theorem dpg_tup {es : List Expr} {k : Nat} {t : DGs} {n : Nat} (hc : X.calm = true) (h : DPGs X Ξ es t)
    (hn : (assignEach es X.env).length = n := by rfl) (hst : (assignEach es X.env).findIdx? (·.1) = none := by rfl) : DPG X Ξ (.Tuple es k pos) (dgTup n t) := ⟨fun F ok => PG.imp (pg_tup hc (h.run F ok) hn hst) fun v σ H Q ⟨B, m, S, env, w, Kp, cf, er, r, h, k⟩ => by
  obtain ⟨ws, h0, hl, h⟩ := onO_ex h
  obtain ⟨a, vs, e1, h2, h3⟩ := vT_ok r h0
  exact ⟨a, vs, e1, cf.sub.seqT h2, by rw [← h3.length, hl], B, m, S, env, ws, Kp, cf, er, h3, h, k⟩⟩
def dAsg (de : DE) (g : DG) : DS := fun D env S => de env S fun w S1 => g w env S1 D.nx
theorem imp_asg {K : PySem.W.Frag} {F : Fx} {de : DE} {g : DG} (D : Ends) (σ : L2.St) (H : Hp) (h : lS K F (dAsg de g) D σ H) : tAsg (lE K F de) (lG K F g) D σ H := by
  obtain ⟨B, m, S, env, E, cf, er, h, k1, k2, k3, k4⟩ := h
  exact ⟨B, m, S, env, _, cf, er, h, fun w S1 h1 v H1 B1 m1 n1 r => ⟨B1, m1, S1, env, w, E.nx, n1.cf, er.nx n1, r, h1, k1.nx n1⟩⟩
theorem dps_asg {tg : Expr} {g : DG} (he : DPE X Ξ e de) (hg : DPG X Ξ tg g) (hs : swapsWithSole [tg] e pos.line X.env = pure false := by rfl) (hw : swappedStores [tg] e X.env = pure none := by rfl)
    (h1 : (assignEach [tg] X.env).map (·.2) = [assign tg X.env] := by rfl) : DPS X Ξ (.Assign [tg] e pos) (dAsg de g) := ⟨fun F ok => PS.imp (ps_asg (he.run F ok) (hg.run F ok) hs hw h1) imp_asg⟩
theorem dps_set {i : Nat} {x : Str} {pos' : Pos} (hN : X.N.Nodup) (hi : X.N[i]? = some x) (hx : Loc X.env.scope x) (he : DPE X Ξ e de) (hs : swapsWith e (some (.Name x pos')) pos.line X.env = pure false := by rfl) (hf : X.fn x = true ∨ X.env.scope.names.lookup x = some .local := by first | exact .inl rfl | exact .inr rfl | assumption) :
    DPS X Ξ (.Assign [.Name x pos'] e pos) (dAsg de (dgName i)) := ⟨fun F ok => PS.imp (ps_set hN hi hx (he.run F ok) hs hf) fun D σ H ⟨B, m, S, env, E, cf, er, h, k1, k2, k3, k4⟩ =>
  ⟨B, m, S, env, _, cf, er, h, fun w S1 h1 v H1 B1 m1 n1 r => k1.nx n1 _ _ h1 _ _ _ _ n1.cf.nx ((er.nx n1).set i r)⟩⟩
def dAug (i : Nat) (de : DE) (dr : DR2) : DS := fun D env S => onV env i fun x => de env S fun y S1 => dr x y S1 fun z S2 => D.nx (env.set i (some z)) S2
theorem dps_aug {i : Nat} {x : Str} {op : Operator} {dr : DR2} {pos' : Pos} (hN : X.N.Nodup) (hi : X.N[i]? = some x) (hx : Loc X.env.scope x) (he : DPE X Ξ e de) (ho : OpD X (inplaceOp op) dr) (hf : X.fn x = true ∨ X.env.scope.names.lookup x = some .local := by first | exact .inl rfl | exact .inr rfl | assumption) :
    DPS X Ξ (.AugAssign (.Name x pos') op e pos) (dAug i de dr) := ⟨fun F ok => PS.imp (ps_aug hN hi hx (he.run F ok) (ho F) hf) fun D σ H ⟨B, m, S, env, E, cf, er, h, k1, k2, k3, k4⟩ => by
  obtain ⟨w, e0, h⟩ := onV_ex h
  obtain ⟨v, hv, r⟩ := er.2 i w e0
  refine ⟨v, hv, B, m, S, env, _, cf, er, h, fun y S1 h1 vy H1 B1 m1 n1 ry => ?_⟩
  exact ⟨B1, m1, S1, w, y, _, n1.cf, r.nx n1, ry, h1, fun z S2 h2 vz H2 B2 m2 n2 rz => k1 _ _ h2 _ _ _ _ (n1.trans n2) ((er.nx (n1.trans n2)).set i rz)⟩⟩
/-! while: by the number of its turns -/
def wh (c : DT) (tb : DS) (D : DEnds) : Nat → En → Sto → Prop
  | 0 => fun _ _ => False
  | n + 1 => fun env S => c env S fun b S1 => ifB b (tb { D with nx := wh c tb D n, ct := wh c tb D n, bk := D.nx } env S1) (D.nx env S1)
def dWhile (c : DT) (tb : DS) : DS := fun D env S => ∃ n, wh c tb D n env S
theorem dps_while {body : List Stmt} (hp : PassesOwn (model X.prog X.w) X.A X.env X.xe) (hc : DPT X Ξ c tc) (hb : DPSs X Ξ body t) : DPS X Ξ (.While c body [] pos) (dWhile tc t) := ⟨fun F ok => PS.imp (ps_while hp (hc.run F ok) (hb.run F ok)) fun D σ H ⟨B, m, S, env, E, cf, er, ⟨n, h⟩, k1, k2, k3, k4⟩ => by
  refine ⟨fun n σ G => ∃ B1 m1 S1 env1, Nx X.K F B m H B1 m1 S1 G ∧ ER X.K B1 m1 env1 σ ∧ wh tc t E n env1 S1, ⟨n, B, m, S, env, cf.nx, er, h⟩, fun n σ H1 ⟨B1, m1, S1, env1, n1, er1, h1⟩ => ?_⟩
  cases n with
  | zero => exact h1.elim
  | succ n =>
    refine ⟨B1, m1, S1, env1, _, n1.cf, er1, h1, fun b S2 h2 H2 B2 m2 n2 => ?_⟩
    cases b with
    | false => replace h2 := ifB_if h2; rw [if_neg Bool.false_ne_true] at h2 ⊢; exact k1 _ _ h2 _ _ _ _ (n1.trans n2) (er1.nx n2)
    | true =>
      replace h2 := ifB_if h2
      rw [if_pos rfl] at h2 ⊢
      have ag : KE X.K F (wh tc t E n) B2 m2 H2 fun σ G => ∃ B3 m3 S3 env3, Nx X.K F B m H B3 m3 S3 G ∧ ER X.K B3 m3 env3 σ ∧ wh tc t E n env3 S3 := fun env3 S3 h3 σ3 H3 B3 m3 n3 er3 => ⟨B3, m3, S3, env3, (n1.trans n2).trans n3, er3, h3⟩
      exact ⟨fun σ G => ∃ B3 m3 S3 env3, Nx X.K F B m H B3 m3 S3 G ∧ ER X.K B3 m3 env3 σ ∧ wh tc t E n env3 S3, fun σ' H' q => ⟨n, Nat.lt_succ_self _, q⟩,
        B2, m2, S2, env1, { E with nx := wh tc t E n, ct := wh tc t E n, bk := E.nx }, n2.cf, er1.nx n2, h2, ag, k2.nx (n1.trans n2), k1.nx (n1.trans n2), ag⟩⟩
end
end DL
/-! DL4: operations on values -/
namespace DL
open PySem PySem.Spec PyProof.Rows L2

/-! ### data for == -/
mutual
def toPy : D → PyData
  | .non => .none
  | .bl b => .bool b
  | .int i => .int i
  | .str x => .str x
  | .tup ds => .tuple (toPyL ds)
  | .lst ds => .list (toPyL ds)
  | .obj _ _ => .none
  | .scr _ => .none
  | .ty _ => .none
def toPyL : List D → List PyData
  | [] => []
  | d :: ds => toPy d :: toPyL ds
end
mutual
/-- plain data of depth at most n, its texts right -/
def okD : Nat → D → Bool
  | _, .non => true
  | _, .bl _ => true
  | _, .int _ => true
  | _, .str x => PyData.strOk x
  | 0, .tup _ => false
  | 0, .lst _ => false
  | n + 1, .tup ds => okDL n ds
  | n + 1, .lst ds => okDL n ds
  | _, .obj _ _ => false
  | _, .scr _ => false
  | _, .ty _ => false
def okDL : Nat → List D → Bool
  | _, [] => true
  | n, d :: ds => okD n d && okDL n ds
end
mutual
theorem okD_lay : ∀ (d : D) (n : Nat), okD n d = true → (toPy d).canLay0 = true ∧ (toPy d).depth ≤ n
  | .non, n, _ => ⟨rfl, Nat.zero_le _⟩
  | .bl _, n, _ => ⟨rfl, Nat.zero_le _⟩
  | .int _, n, _ => ⟨rfl, Nat.zero_le _⟩
  | .str x, n, h => ⟨by cases n <;> exact h, Nat.zero_le _⟩
  | .tup ds, 0, h => by cases h
  | .lst ds, 0, h => by cases h
  | .tup ds, n + 1, h => by
    obtain ⟨h1, h2⟩ := okDL_lay ds n h
    exact ⟨h1, Nat.succ_le_succ h2⟩
  | .lst ds, n + 1, h => by
    obtain ⟨h1, h2⟩ := okDL_lay ds n h
    exact ⟨h1, Nat.succ_le_succ h2⟩
  | .obj _ _, n, h => by cases n <;> cases h
  | .scr _, n, h => by cases n <;> cases h
  | .ty _, n, h => by cases n <;> cases h
theorem okDL_lay : ∀ (ds : List D) (n : Nat), okDL n ds = true → PyData.canLayAll0 (toPyL ds) = true ∧ PyData.depthAll (toPyL ds) ≤ n
  | [], n, _ => ⟨rfl, Nat.zero_le _⟩
  | d :: ds, n, h => by
    unfold okDL at h
    rw [Bool.and_eq_true] at h
    obtain ⟨h1, h2⟩ := okD_lay d n h.1
    obtain ⟨h3, h4⟩ := okDL_lay ds n h.2
    refine ⟨?_, ?_⟩
    · show ((toPy d).canLay0 && PyData.canLayAll0 (toPyL ds)) = true
      rw [h1, h3]
      rfl
    · show max (toPy d).depth (PyData.depthAll (toPyL ds)) ≤ n
      exact Nat.max_le.mpr ⟨h2, h4⟩
end
mutual
theorem okD_mono : ∀ (d : D) (n k : Nat), n ≤ k → okD n d = true → okD k d = true
  | .non, n, k, _, _ => by cases k <;> rfl
  | .bl _, n, k, _, _ => by cases k <;> rfl
  | .int _, n, k, _, _ => by cases k <;> rfl
  | .str x, n, k, _, h => by cases n <;> cases k <;> exact h
  | .tup ds, 0, k, _, h => by cases h
  | .lst ds, 0, k, _, h => by cases h
  | .tup ds, n + 1, 0, hk, h => by omega
  | .lst ds, n + 1, 0, hk, h => by omega
  | .tup ds, n + 1, k + 1, hk, h => okDL_mono ds n k (by omega) h
  | .lst ds, n + 1, k + 1, hk, h => okDL_mono ds n k (by omega) h
  | .obj _ _, n, k, _, h => by cases n <;> cases h
  | .scr _, n, k, _, h => by cases n <;> cases h
  | .ty _, n, k, _, h => by cases n <;> cases h
theorem okDL_mono : ∀ (ds : List D) (n k : Nat), n ≤ k → okDL n ds = true → okDL k ds = true
  | [], _, _, _, _ => rfl
  | d :: ds, n, k, hk, h => by
    unfold okDL at h ⊢
    rw [Bool.and_eq_true] at h ⊢
    exact ⟨okD_mono d n k hk h.1, okDL_mono ds n k hk h.2⟩
end
theorem okD_shaped {d : D} {n : Nat} (h : okD n d = true) (hn : n ≤ 64) : SeqAt.shaped (toPy d) = true := by
  obtain ⟨h1, h2⟩ := okD_lay d n h
  unfold SeqAt.shaped
  rw [h1, decide_eq_true (Nat.le_trans h2 hn)]
  rfl
mutual
theorem Rp.dp {K : PySem.W.Frag} {B : Hp} : ∀ {d : D} {v : V} (n : Nat), okD n d = true → Rp K B d v → Dp K B v (toPy d)
  | _, _, _, _, .non => .non
  | _, _, _, _, .bl => .bl _
  | _, _, _, _, .int => .int _
  | _, _, _, _, .str => .str _
  | _, _, n + 1, h, .tup s r => .tup s (RpL.dp n h r)
  | _, _, n + 1, h, .lst s r => .lst (.of s) (RpL.dp n h r)
  | _, _, 0, h, .tup s r => by cases h
  | _, _, 0, h, .lst s r => by cases h
  | _, _, n, h, .obj _ _ => by cases n <;> cases h
  | _, _, n, h, .scr _ => by cases n <;> cases h
  | _, _, n, h, .ty => by cases n <;> cases h
theorem RpL.dp {K : PySem.W.Frag} {B : Hp} : ∀ {ds : List D} {vs : List V} (n : Nat), okDL n ds = true → RpL K B ds vs → DpAll K B vs (toPyL ds)
  | _, _, _, _, .nil => .nil
  | d :: ds, _, n, h, .cons r t => by
    unfold okDL at h
    rw [Bool.and_eq_true] at h
    exact .cons (Rp.dp n h.1 r) (RpL.dp n h.2 t)
end
def eqD (a b : D) : Bool := PyData.eqv (toPy a) (toPy b)
/-- the data that a value is -/
def dW (S : Sto) : W → Option D
  | .fz d => some d
  | .hd n => match S[n]? with
    | some (.lst ws) => (fzL ws).map D.lst
    | _ => none
  | .tp _ => none
  | .xo _ _ _ => none
theorem Dp.mono {K : PySem.W.Frag} {H H' : Hp} (s : Sub H H') : ∀ {v : V} {d : PyData}, Dp K H v d → Dp K H' v d := by
  intro v d h
  refine Dp.rec (motive_1 := fun v d _ => Dp K H' v d) (motive_2 := fun v d _ => DpAll K H' v d) .non .bl .int .str (fun h _ ih => .lst (s.seqL h) ih) (fun h _ ih => .tup (s.seqT h) ih) .nil (fun _ _ a b => .cons a b) h
section
variable {K : PySem.W.Frag} {F : Fx} {B B' : Hp} {m m' : List Addr} {S S' : Sto} {H H' : Hp} {env : En} {σ : L2.St}
theorem dW_ok (c : Cf K F B m S H) {w : W} {x : V} {d : D} (r : RW K B m w x) (h : dW S w = some d) : Rp K H d x := by
  unfold dW at h
  split at h
  · cases h
    cases r with
    | fz r => exact r.mono c.sub
  · split at h
    · rename_i ws e
      cases q : fzL ws with
      | none => rw [q] at h; cases h
      | some ds =>
        rw [q] at h
        cases h
        obtain ⟨a, vs, e1, _, h1, h2⟩ := c.lst r e
        subst e1
        rw [fzL_eq q] at h2
        exact .lst h1 (h2.fz.mono c.sub)
    · cases h
  · cases h
  · cases h
end

/-! ### the operations -/
def strLt (a b : Str) : Bool := decide (a.cps.toList < b.cps.toList)
def addW (own : Bool) : DR2 := fun x y S Kp => match x, y with
  | .fz (.int i), .fz (.int j) => Kp (.fz (.int (i + j))) S
  | .fz (.str a), .fz (.str b) => a.length + b.length ≤ sizeLine ∧ Kp (.fz (.str (a ++ b))) S
  | x, y => match vT x with
    | some xs => onO (vT y) fun ys => xs.length + ys.length ≤ sizeLine ∧ Kp (mkT (xs ++ ys)) S
    | none => onO (vL S x) fun xs => onO (vL S y) fun ys => xs.length + ys.length ≤ sizeLine ∧ newL own (xs ++ ys) S Kp
def intW (C : Int → Int → Prop) (f : Int → Int → Int) : DR2 := fun x y S Kp => match x, y with
  | .fz (.int i), .fz (.int j) => C i j ∧ Kp (.fz (.int (f i j))) S
  | _, _ => False
theorem intW_ex {C : Int → Int → Prop} {f : Int → Int → Int} {x y : W} {S : Sto} {Kp : WK} (h : intW C f x y S Kp) : ∃ i j, x = .fz (.int i) ∧ y = .fz (.int j) ∧ C i j ∧ Kp (.fz (.int (f i j))) S := by
  unfold intW at h
  split at h
  · exact ⟨_, _, rfl, rfl, h⟩
  · exact h.elim
abbrev subW : DR2 := intW (fun _ _ => True) (fun i j => i - j)
def CMulX (i j : Int) : Prop := CMul i j ∨ CMulW i j
abbrev mulW : DR2 := intW CMulX (fun i j => i * j)
abbrev modW : DR2 := intW (fun _ j => 0 < j) (fun i j => i % j)
abbrev fdivW : DR2 := intW CDivW (fun i j => i / j)
abbrev powW : DR2 := intW CPow (fun i j => i ^ j.toNat)
def cmpW (pi : Int → Int → Bool) (ps : Str → Str → Bool) : DR2 := fun x y S Kp => match x, y with
  | .fz (.int i), .fz (.int j) => Kp (.fz (.bl (pi i j))) S
  | .fz (.str a), .fz (.str b) => Kp (.fz (.bl (ps a b))) S
  | _, _ => False
abbrev ltW : DR2 := cmpW (fun i j => decide (i < j)) strLt
abbrev leW : DR2 := cmpW (fun i j => decide (i ≤ j)) (fun a b => !strLt b a)
abbrev gtW : DR2 := cmpW (fun i j => decide (j < i)) (fun a b => strLt b a)
abbrev geW : DR2 := cmpW (fun i j => decide (j ≤ i)) (fun a b => !strLt a b)
def eqW : DR2 := fun x y S Kp => onO (dW S x) fun a => onO (dW S y) fun b => (okD 64 a = true ∧ okD 64 b = true) ∧ Kp (.fz (.bl (eqD a b))) S
def neW : DR2 := fun x y S Kp => onO (dW S x) fun a => onO (dW S y) fun b => (okD 64 a = true ∧ okD 64 b = true) ∧ Kp (.fz (.bl (!eqD a b))) S
def isNoneW : W → Bool
  | .fz .non => true
  | _ => false
def isNW : DR2 := fun x y S Kp => match y with
  | .fz .non => Kp (.fz (.bl (isNoneW x))) S
  | _ => False
def notNW : DR2 := fun x y S Kp => match y with
  | .fz .non => Kp (.fz (.bl (!isNoneW x))) S
  | _ => False
def isBW : DR2 := fun x y S Kp => onB x fun a => onB y fun b => Kp (.fz (.bl (decide (a = b)))) S
def notBW : DR2 := fun x y S Kp => onB x fun a => onB y fun b => Kp (.fz (.bl (!decide (a = b)))) S
def ixW : DR2 := fun x y S Kp => match y with
  | .fz (.int i) => match x with
    | .fz (.str z) => z.length ≤ sizeLine ∧ onO (atI z.cps.toList i) fun c => Kp (.fz (.str ⟨#[c]⟩)) S
    | x => onO (vS S x) fun ws => onO (atI ws i) fun w => Kp w S
  | _ => False
section
variable {X : Cx} {Ξ : Xt}
theorem KW.here {K : PySem.W.Frag} {F : Fx} {B : Hp} {m : List Addr} {S : Sto} {H : Hp} {Kp : WK} {Q : VK} {w : W} {v : V} (k : KW K F Kp B m H Q) (c : Cf K F B m S H) (h : Kp w S) (r : RW K B m w v) : Q v H := k _ _ h _ _ _ _ c.nx r
theorem od_int {f : Value → Value → Sem Value} {C : Int → Int → Prop} {g : Int → Int → Int} (h : OpR X f (rI C fun i j => .int (g i j))) : OpD X f (intW C g) := fun F => OpR.imp h fun x y H Q ⟨B, m, S, wx, wy, Kp, cf, rx, ry, h0, k⟩ => by
  obtain ⟨i, j, e1, e2, hc, hk⟩ := intW_ex h0
  subst e1; subst e2
  exact ⟨i, j, rx.int_of, ry.int_of, hc, k.here cf hk (.fz .int)⟩
theorem OpR.t {f : Value → Value → Sem Value} {g : Int → Int → V} (h : OpR X f (rI0 g)) : OpR X f (rI (fun _ _ => True) g) := OpR.imp h fun x y H Q ⟨i, j, a, b, _, q⟩ => ⟨i, j, a, b, q⟩
theorem od_sub : OpD X (binaryOp .Sub) subW := od_int (OpR.t op_sub)
theorem od_mul : OpD X (binaryOp .Mult) mulW := od_int (OpR.imp (OpR.or op_mul op_mulW) fun x y H Q ⟨i, j, a, b, h, q⟩ => h.elim (fun h => .inl ⟨i, j, a, b, h, q⟩) fun h => .inr ⟨i, j, a, b, h, q⟩)
theorem od_mod : OpD X (binaryOp .Mod) modW := od_int op_mod
theorem od_fdiv : OpD X (binaryOp .FloorDiv) fdivW := od_int op_fdivW
theorem od_pow : OpD X (binaryOp .Pow) powW := od_int op_pow
theorem od_isub : OpD X (inplaceOp .Sub) subW := od_int (OpR.t iop_sub)
theorem od_ifdiv : OpD X (inplaceOp .FloorDiv) fdivW := od_int iop_fdivW
theorem imp_add {F : Fx} {own : Bool} (x y : V) (H : Hp) (Q : VK) (h : lR2 X.K F (addW own) x y H Q) : (rI0 (fun i j => .int (i + j)) x y H Q) ∨ ((∃ i j, x = .str i ∧ y = .str j ∧ i.length + j.length ≤ sizeLine ∧ Q (.str (i ++ j)) H) ∨ (rCatA X.K x y H Q ∨ rCat x y H Q)) := by
  obtain ⟨B, m, S, wx, wy, Kp, cf, rx, ry, h, k⟩ := h
  unfold addW at h
  split at h
  · exact .inl ⟨_, _, rx.int_of, ry.int_of, k.here cf h (.fz .int)⟩
  · exact .inr (.inl ⟨_, _, rx.str_of, ry.str_of, h.1, k.here cf h.2 (.fz .str)⟩)
  · split at h
    · rename_i xs e
      obtain ⟨ys, e2, hz, h⟩ := onO_ex h
      obtain ⟨a, vs, ea, sa, ra⟩ := vT_ok rx e
      obtain ⟨b, us, eb, sb, rb⟩ := vT_ok ry e2
      have sa' := cf.sub.seqT sa
      have sb' := cf.sub.seqT sb
      refine .inr (.inr (.inl ⟨a, b, vs, us, ea, eb, sa', sb', by rw [← ra.length, ← rb.length]; exact hz, fun e0 => ?_, fun _ e0 => ?_, fun _ _ p hp => ?_⟩))
      · subst e0
        cases ra
        exact k.here cf h (mkT_ok rb sb)
      · subst e0
        cases rb
        rw [List.append_nil] at h
        exact k.here cf h (mkT_ok ra sa)
      · have n2 := cf.alloc (o := .tup (vs ++ us)) hp
        exact k _ _ h _ _ _ _ n2 (mkT_ok ((ra.nx n2).append (rb.nx n2)) (.of upd_same))
    · obtain ⟨xs, e1, h⟩ := onO_ex h
      obtain ⟨ys, e2, hz, h⟩ := onO_ex h
      obtain ⟨a, vs, ea, sa, ra⟩ := vL_ok cf rx e1
      obtain ⟨b, us, eb, sb, rb⟩ := vL_ok cf ry e2
      exact .inr (.inr (.inr ⟨a, b, vs, us, ea, eb, sa, sb, by rw [← ra.length, ← rb.length]; exact hz, fun p hp => newL_ok cf (ra.append rb) h k hp⟩))
theorem od_add (own : Bool) : OpD X (binaryOp .Add) (addW own) := fun F => OpR.imp (OpR.or op_add (OpR.or op_add_str (OpR.or op_catA op_cat))) imp_add
/-- += at a name: ints, texts, a tuple and a tuple; a list that may change grows -/
def iaddW : DR2 := fun x y S Kp => match x, y with
  | .fz (.int i), .fz (.int j) => Kp (.fz (.int (i + j))) S
  | .fz (.str a), .fz (.str b) => a.length + b.length ≤ sizeLine ∧ Kp (.fz (.str (a ++ b))) S
  | .hd n, y => match S[n]? with
    | some (.lst xs) => onO (vL S y) fun ys => xs.length + ys.length ≤ sizeLine ∧ Kp (.hd n) (S.set n (.lst (xs ++ ys)))
    | _ => False
  | _, _ => False
theorem od_iadd : OpD X (inplaceOp .Add) iaddW := fun F => OpR.imp (OpR.or iop_add (OpR.or iop_add_str iop_ext)) fun x y H Q ⟨B, m, S, wx, wy, Kp, cf, rx, ry, h, k⟩ => by
  unfold iaddW at h
  split at h
  · exact .inl ⟨_, _, rx.int_of, ry.int_of, k.here cf h (.fz .int)⟩
  · exact .inr (.inl ⟨_, _, rx.str_of, ry.str_of, h.1, k.here cf h.2 (.fz .str)⟩)
  · rename_i n _
    split at h
    rotate_left
    · exact h.elim
    rename_i xs e1
    obtain ⟨ys, e2, hz, h⟩ := onO_ex h
    obtain ⟨a, vs, ea, em, sa, ra⟩ := cf.lst rx e1
    obtain ⟨b, us, eb, sb, rb⟩ := vL_ok cf ry e2
    have n2 := cf.write (o := .lst (vs ++ us)) (od := .lst (xs ++ ys)) em e1 (fun z => nomatch z) ⟨_, rfl, ra.append rb⟩
    subst ea
    exact .inr (.inr ⟨a, b, vs, us, rfl, eb, sa, sb, by rw [← ra.length, ← rb.length]; exact hz, k _ _ h _ _ _ _ n2 (.hd em)⟩)
  · cases h
theorem op_le_str : OpR X (compareOp .LtE) (fun x y H Q => ∃ i j, x = .str i ∧ y = .str j ∧ Q (.bl (!strLt j i)) H) := by
  intro pins s σ H x y v u Q I rx ry ⟨i, j, e1, e2, q⟩
  subst e1; subst e2
  obtain ⟨t, rfl⟩ := rx
  obtain ⟨t', rfl⟩ := ry
  exact PySem.P.le_str ⟨_, H, I, by unfold strLt; first | rfl | simp, q⟩
theorem op_gt_str : OpR X (compareOp .Gt) (fun x y H Q => ∃ i j, x = .str i ∧ y = .str j ∧ Q (.bl (strLt j i)) H) := by
  intro pins s σ H x y v u Q I rx ry ⟨i, j, e1, e2, q⟩
  subst e1; subst e2
  obtain ⟨t, rfl⟩ := rx
  obtain ⟨t', rfl⟩ := ry
  exact PySem.P.gt_str ⟨_, H, I, by unfold strLt; first | rfl | simp, q⟩
theorem op_ge_str : OpR X (compareOp .GtE) (fun x y H Q => ∃ i j, x = .str i ∧ y = .str j ∧ Q (.bl (!strLt i j)) H) := by
  intro pins s σ H x y v u Q I rx ry ⟨i, j, e1, e2, q⟩
  subst e1; subst e2
  obtain ⟨t, rfl⟩ := rx
  obtain ⟨t', rfl⟩ := ry
  exact PySem.P.ge_str ⟨_, H, I, by unfold strLt; first | rfl | simp, q⟩
theorem od_cmp {op : CmpOp} {pi : Int → Int → Bool} {ps : Str → Str → Bool} (h1 : OpR X (compareOp op) (rI0 fun i j => .bl (pi i j))) (h2 : OpR X (compareOp op) (fun x y H Q => ∃ i j, x = .str i ∧ y = .str j ∧ Q (.bl (ps i j)) H)) :
    OpD X (compareOp op) (cmpW pi ps) := fun F => OpR.imp (OpR.or h1 h2) fun x y H Q ⟨B, m, S, wx, wy, Kp, cf, rx, ry, h, k⟩ => by
  unfold cmpW at h
  split at h
  · exact .inl ⟨_, _, rx.int_of, ry.int_of, k.here cf h (.fz .bl)⟩
  · exact .inr ⟨_, _, rx.str_of, ry.str_of, k.here cf h (.fz .bl)⟩
  · cases h
theorem od_lt : OpD X (compareOp .Lt) ltW := od_cmp op_lt op_lt_str
theorem od_le : OpD X (compareOp .LtE) leW := od_cmp op_le op_le_str
theorem od_gt : OpD X (compareOp .Gt) gtW := od_cmp op_gt op_gt_str
theorem od_ge : OpD X (compareOp .GtE) geW := od_cmp op_ge op_ge_str
theorem od_eq (hu : X.A.units + 64 < cLine) : OpD X (compareOp .Eq) eqW := fun F => OpR.imp (op_eqD hu) fun x y H Q ⟨B, m, S, wx, wy, Kp, cf, rx, ry, h0, k⟩ => by
  obtain ⟨a, h1, h0⟩ := onO_ex h0
  obtain ⟨b, h2, ⟨h3, h4⟩, h⟩ := onO_ex h0
  exact ⟨toPy a, toPy b, (dW_ok cf rx h1).dp _ h3, (dW_ok cf ry h2).dp _ h4, okD_shaped h3 (Nat.le_refl _), okD_shaped h4 (Nat.le_refl _), k.here cf h (.fz .bl)⟩
theorem od_ne (hu : X.A.units + 64 < cLine) : OpD X (compareOp .NotEq) neW := fun F => OpR.imp (op_neD hu) fun x y H Q ⟨B, m, S, wx, wy, Kp, cf, rx, ry, h0, k⟩ => by
  obtain ⟨a, h1, h0⟩ := onO_ex h0
  obtain ⟨b, h2, ⟨h3, h4⟩, h⟩ := onO_ex h0
  exact ⟨toPy a, toPy b, (dW_ok cf rx h1).dp _ h3, (dW_ok cf ry h2).dp _ h4, okD_shaped h3 (Nat.le_refl _), okD_shaped h4 (Nat.le_refl _), k.here cf h (.fz .bl)⟩
theorem isNone_ok {K : PySem.W.Frag} {B : Hp} {m : List Addr} {w : W} {x : V} (r : RW K B m w x) : decide (x = .non) = isNoneW w := by
  cases r with
  | fz r => cases r <;> rfl
  | hd e => rfl
  | tp _ _ => rfl
  | xo _ _ => rfl
theorem od_isN : OpD X (compareOp .Is) isNW := fun F => OpR.imp op_isN fun x y H Q ⟨B, m, S, wx, wy, Kp, cf, rx, ry, h, k⟩ => by
  unfold isNW at h
  split at h
  rotate_left
  · exact h.elim
  cases ry with | fz ry => cases ry; exact ⟨rfl, by rw [isNone_ok rx]; exact k.here cf h (.fz .bl)⟩
theorem od_notN : OpD X (compareOp .IsNot) notNW := fun F => OpR.imp op_notN fun x y H Q ⟨B, m, S, wx, wy, Kp, cf, rx, ry, h, k⟩ => by
  unfold notNW at h
  split at h
  rotate_left
  · exact h.elim
  cases ry with | fz ry => cases ry; exact ⟨rfl, by rw [isNone_ok rx]; exact k.here cf h (.fz .bl)⟩
theorem od_isB : OpD X (compareOp .Is) isBW := fun F => OpR.imp op_isBl fun x y H Q ⟨B, m, S, wx, wy, Kp, cf, rx, ry, h, k⟩ => by
  obtain ⟨a, e1, h⟩ := onB_ex h
  obtain ⟨b, e2, h⟩ := onB_ex h
  subst e1; subst e2
  exact ⟨a, b, rx.bl_of, ry.bl_of, k.here cf h (.fz .bl)⟩
theorem od_notB : OpD X (compareOp .IsNot) notBW := fun F => OpR.imp op_notBl fun x y H Q ⟨B, m, S, wx, wy, Kp, cf, rx, ry, h, k⟩ => by
  obtain ⟨a, e1, h⟩ := onB_ex h
  obtain ⟨b, e2, h⟩ := onB_ex h
  subst e1; subst e2
  exact ⟨a, b, rx.bl_of, ry.bl_of, k.here cf h (.fz .bl)⟩
theorem RWL.at {K : PySem.W.Frag} {B : Hp} {m : List Addr} {ws : List W} {vs : List V} (r : RWL K B m ws vs) {i : Int} {w : W} (h : atI ws i = some w) : ∃ v, atI vs i = some v ∧ RW K B m w v := by
  unfold atI at h ⊢
  rw [← r.length]
  cases e : ixN ws.length i with
  | none => rw [e] at h; cases h
  | some j =>
    rw [e] at h
    exact r.get h
theorem ixd : IxD X ixW := fun F => IxR.imp ix_seq fun x y H Q ⟨B, m, S, wx, wy, Kp, cf, rx, ry, h, k⟩ => by
  unfold ixW at h
  split at h
  rotate_left
  · exact h.elim
  split at h
  · obtain ⟨hz, h⟩ := h
    obtain ⟨c, ha, h⟩ := onO_ex h
    exact .inr (.inr ⟨_, _, c, rx.str_of, ry.int_of, hz, ha, k.here cf h (.fz .str)⟩)
  · obtain ⟨ws, hv, h⟩ := onO_ex h
    obtain ⟨w, ha, h⟩ := onO_ex h
    obtain ⟨a, vs, ea, hs, rr⟩ := vS_ok cf rx hv
    obtain ⟨v, hv', rv⟩ := rr.at ha
    rcases hs with hs | hs
    · exact .inl ⟨a, vs, _, v, ea, ry.int_of, hs, hv', k.here cf h rv⟩
    · exact .inr (.inl ⟨a, vs, _, v, ea, ry.int_of, hs, hv', k.here cf h rv⟩)
end
end DL
/-! DL5: calls: a prefix of the store is lent -/
namespace DL
open PySem PySem.Spec PyProof.Rows L2

/-! ### handles of a callee, by the caller's numbers: k are lent, the caller has n -/
mutual
def ren (k n : Nat) : W → W
  | .fz d => .fz d
  | .hd j => .hd (if j < k then j else n + (j - k))
  | .tp ws => .tp (renL k n ws)
  | .xo a d fs => .xo a d fs
def renL (k n : Nat) : List W → List W
  | [] => []
  | w :: ws => ren k n w :: renL k n ws
end
theorem renL_eq (k n : Nat) (ws : List W) : renL k n ws = ws.map (ren k n) := by
  induction ws with
  | nil => rfl
  | cons w ws ih => show ren k n w :: renL k n ws = _; rw [ih]; rfl
def renOD (k n : Nat) : OD → OD
  | .lst ws => .lst (renL k n ws)
  | .dic kvs => .dic (kvs.map fun p => (p.1, ren k n p.2))
  | .ins C fs => .ins C (fs.map fun p => (p.1, ren k n p.2))
  | .gone => .gone
def mrg (k : Nat) (S S' : Sto) : Sto := (S'.take k).map (renOD k S.length) ++ S.drop k ++ (S'.drop k).map (renOD k S.length)

section
variable {K : PySem.W.Frag} {F : Fx} {B B' : Hp} {m m' : List Addr} {S S' : Sto} {H H' : Hp} {k : Nat}
mutual
theorem RW.unren (hn : m.length = S.length) : ∀ {w : W} {v : V}, RW K B m (ren k S.length w) v → RW K B (m.take k) w v
  | .fz d, _, .fz r => .fz r
  | .hd j, _, h => by
    unfold ren at h
    cases h with
    | hd e =>
      by_cases hj : j < k
      · rw [if_pos hj] at e
        exact .hd (by rw [List.getElem?_take_of_lt hj]; exact e)
      · rw [if_neg hj] at e
        have h1 := (List.getElem?_eq_some_iff.mp e).1
        omega
  | .tp ws, _, .tp s r => .tp s (RWL.unren hn r)
  | .xo _ _ _, _, .xo e r => .xo e r
theorem RWL.unren (hn : m.length = S.length) : ∀ {ws : List W} {vs : List V}, RWL K B m (renL k S.length ws) vs → RWL K B (m.take k) ws vs
  | [], _, .nil => .nil
  | _ :: _, _, .cons r t => .cons (RW.unren hn r) (RWL.unren hn t)
end
mutual
theorem RW.ren (hk : k ≤ m.length) (hn : m.length = S.length) (pr : ∀ (n : Nat) (a : Addr), (m.take k)[n]? = some a → m'[n]? = some a) : ∀ {w : W} {v : V}, RW K B m' w v → RW K B (m ++ m'.drop k) (DL.ren k S.length w) v
  | .fz d, _, .fz r => .fz r
  | .hd j, _, .hd e => by
    unfold DL.ren
    refine .hd ?_
    by_cases hj : j < k
    · rw [if_pos hj, List.getElem?_append_left (by omega)]
      have h1 : m[j]? = some m[j] := List.getElem?_eq_getElem (by omega)
      have h2 := pr j _ (by rw [List.getElem?_take_of_lt hj]; exact h1)
      rw [e] at h2
      rw [h1, h2]
    · rw [if_neg hj, List.getElem?_append_right (by omega), List.getElem?_drop]
      have h3 : k + (S.length + (j - k) - m.length) = j := by omega
      rw [h3]
      exact e
  | .tp ws, _, .tp s r => .tp s (RWL.ren hk hn pr r)
  | .xo _ _ _, _, .xo e r => .xo e r
theorem RWL.ren (hk : k ≤ m.length) (hn : m.length = S.length) (pr : ∀ (n : Nat) (a : Addr), (m.take k)[n]? = some a → m'[n]? = some a) : ∀ {ws : List W} {vs : List V}, RWL K B m' ws vs → RWL K B (m ++ m'.drop k) (renL k S.length ws) vs
  | [], _, .nil => .nil
  | _ :: _, _, .cons r t => .cons (RW.ren hk hn pr r) (RWL.ren hk hn pr t)
end
theorem Paired.mapL {α α' β : Type} {f : α' → α} {R : α → β → Prop} {R' : α' → β → Prop} (h : ∀ a b, R (f a) b → R' a b) : ∀ {xs : List α'} {ys : List β}, Paired R (xs.map f) ys → Paired R' xs ys
  | [], _, .nil => .nil
  | _ :: _, _, .cons r t => .cons (h _ _ r) (Paired.mapL h t)
theorem Paired.mapR {α α' β : Type} {f : α' → α} {R : α → β → Prop} {R' : α' → β → Prop} (h : ∀ a b, R' a b → R (f a) b) : ∀ {xs : List α'} {ys : List β}, Paired R' xs ys → Paired R (xs.map f) ys
  | [], _, .nil => .nil
  | _ :: _, _, .cons r t => .cons (h _ _ r) (Paired.mapR h t)
theorem RO.unren (hn : m.length = S.length) : ∀ {od : OD} {o : HO}, RO K B m (renOD k S.length od) o → RO K B (m.take k) od o
  | .lst _, _, ⟨vs, e, r⟩ => ⟨vs, e, r.unren hn⟩
  | .dic _, _, ⟨vs, e, r⟩ => ⟨vs, e, Paired.mapL (fun _ _ q => ⟨q.1, q.2.unren hn⟩) r⟩
  | .ins _ _, _, ⟨dx, vs, e, r⟩ => ⟨dx, vs, e, Paired.mapL (fun _ _ q => ⟨q.1, q.2.unren hn⟩) r⟩
  | .gone, _, _ => trivial
theorem RO.ren (hk : k ≤ m.length) (hn : m.length = S.length) (pr : ∀ (n : Nat) (a : Addr), (m.take k)[n]? = some a → m'[n]? = some a) : ∀ {od : OD} {o : HO}, RO K B m' od o → RO K B (m ++ m'.drop k) (renOD k S.length od) o
  | .lst _, _, ⟨vs, e, r⟩ => ⟨vs, e, r.ren hk hn pr⟩
  | .dic _, _, ⟨vs, e, r⟩ => ⟨vs, e, Paired.mapR (fun _ _ q => ⟨q.1, q.2.ren hk hn pr⟩) r⟩
  | .ins _ _, _, ⟨dx, vs, e, r⟩ => ⟨dx, vs, e, Paired.mapR (fun _ _ q => ⟨q.1, q.2.ren hk hn pr⟩) r⟩
  | .gone, _, _ => trivial
theorem renOD_gone {n : Nat} {od : OD} (h : od ≠ .gone) : renOD k n od ≠ .gone := by cases od <;> first | exact absurd rfl h | (intro z; cases z)
theorem Cf.lend (c : Cf K F B m S H) {lent : Sto} (hk : k ≤ S.length) (e : S.take k = lent.map (renOD k S.length)) : Cf K ⟨B, H, m.take k, F.T⟩ B (m.take k) lent H := by
  have hl : lent.length = k := by
    have := congrArg List.length e
    rw [List.length_take, List.length_map] at this
    omega
  refine ⟨.refl, c.sub, fun _ _ h => .inl h, fun _ _ h _ _ => h, fun _ h => h, by rw [List.length_take, c.len, hl]; omega, fun _ _ h => h, fun _ _ h => .inl h, fun i j a h1 h2 => ?_, fun n a od h1 h2 => ?_, fun q tq => let ⟨g1, g2, g3⟩ := c.tab q tq; ⟨g1, g2, fun n e => g3 n (by
    have := (List.getElem?_eq_some_iff.mp e).1
    rw [List.length_take] at this
    rw [List.getElem?_take_of_lt (by omega)] at e
    exact e)⟩⟩
  · have g : ∀ i : Nat, (m.take k)[i]? = some a → m[i]? = some a := fun i h => by
      have := (List.getElem?_eq_some_iff.mp h).1
      rw [List.length_take] at this
      rw [List.getElem?_take_of_lt (by omega)] at h
      exact h
    exact c.nd i j a (g i h1) (g j h2)
  · have hn := (List.getElem?_eq_some_iff.mp h2).1
    rw [List.getElem?_take_of_lt (by omega)] at h1
    have h3 : S[n]? = some (renOD k S.length od) := by
      have h4 : (S.take k)[n]? = some (renOD k S.length od) := by rw [e, List.getElem?_map, h2]; rfl
      rw [List.getElem?_take_of_lt (by omega)] at h4
      exact h4
    obtain ⟨o, a1, a2, a3⟩ := c.own n a _ h1 h3
    exact ⟨o, a1, a2.unren c.len, fun z => a3 (renOD_gone z)⟩
theorem Cf.back (c : Cf K F B m S H) (hk : k ≤ S.length) (x : Nx K ⟨B, H, m.take k, F.T⟩ B (m.take k) H B' m' S' H') : Nx K F B m H B' (m ++ m'.drop k) (mrg k S S') H' := by
  obtain ⟨c', sb, pr⟩ := x
  have hkm : k ≤ m.length := by rw [c.len]; exact hk
  have tk : ∀ (n : Nat) (a : Addr), n < k → (m[n]? = some a ↔ (m.take k)[n]? = some a) := fun n a h => by rw [List.getElem?_take_of_lt h]
  have hkm' : k ≤ m'.length := by
    cases k with
    | zero => exact Nat.zero_le _
    | succ j =>
      have h1 : m[j]? = some m[j] := List.getElem?_eq_getElem (by omega)
      have := (List.getElem?_eq_some_iff.mp (pr j _ ((tk j _ (Nat.lt_succ_self _)).mp h1))).1
      omega
  have l1 : (m ++ m'.drop k).length = (mrg k S S').length := by
    unfold mrg
    simp only [List.length_append, List.length_map, List.length_drop, List.length_take]
    have := c.len
    have := c'.len
    omega
  -- the addresses, by place
  have low : ∀ (n : Nat) (a : Addr), n < m.length → (m ++ m'.drop k)[n]? = some a → m[n]? = some a := fun n a h e => by rw [List.getElem?_append_left h] at e; exact e
  have high : ∀ (n : Nat) (a : Addr), ¬ n < m.length → (m ++ m'.drop k)[n]? = some a → m'[k + (n - m.length)]? = some a := fun n a h e => by
    rw [List.getElem?_append_right (by omega), List.getElem?_drop] at e
    exact e
  have newH : ∀ (j : Nat) (a : Addr), k ≤ j → m'[j]? = some a → H a = none := fun j a h e => by
    rcases c'.new j a e with z | z
    · have := (List.getElem?_eq_some_iff.mp z).1
      rw [List.length_take] at this
      omega
    · exact z
  refine ⟨⟨c.b0.trans sb, c'.sub, fun a o e => ?_, fun a o e nl nt => ?_, fun a e => c.dom a (c'.dom a e), l1, fun n a e => Pre.app n a (c.pre n a e), fun n a e => ?_, fun i j a e1 e2 => ?_, fun n a od e1 e2 => ?_, fun q tq => let ⟨g1, g2, g3⟩ := c'.tab q tq; ⟨g1, g2, fun n e => (by
    by_cases h : n < m.length
    · exact (c.tab q tq).2.2 n (low n q h e)
    · exact g3 _ (high n q h e))⟩⟩, sb, .app, fun a o e nm nt => c'.fr a o e (by
    intro z
    obtain ⟨n, hn⟩ := List.getElem?_of_mem z
    exact nm n (by
      have hlt := (List.getElem?_eq_some_iff.mp hn).1
      rw [List.length_take] at hlt
      exact (tk n a (by omega)).mpr hn)) nt, fun n a e => (by
    by_cases h : n < m.length
    · exact .inl (low n a h e)
    · exact .inr (newH _ a (by omega) (high n a h e))), c'.dom, fun a o e => (c'.bnew a o e).imp id .inl⟩
  · rcases c'.bnew a o e with z | z
    · exact c.bnew a o z
    · exact .inr (c.dom a z)
  · have h1 := c.fr a o e nl nt
    refine c'.fr a o h1 (fun z => ?_) nt
    obtain ⟨n, hn⟩ := List.getElem?_of_mem z
    have hlt := (List.getElem?_eq_some_iff.mp hn).1
    rw [List.length_take] at hlt
    have hn' := (tk n a (by omega)).mpr hn
    rcases c.new n a hn' with q | q
    · exact nl (List.mem_of_getElem? q)
    · rw [q] at e; cases e
  · by_cases h : n < m.length
    · exact c.new n a (low n a h e)
    · exact .inr (c.dom a (newH _ a (by omega) (high n a h e)))
  · by_cases h1 : i < m.length <;> by_cases h2 : j < m.length
    · exact c.nd i j a (low i a h1 e1) (low j a h2 e2)
    · have z := newH _ a (by omega) (high j a h2 e2)
      obtain ⟨o, q⟩ := c.there (low i a h1 e1)
      rw [z] at q; cases q
    · have z := newH _ a (by omega) (high i a h1 e1)
      obtain ⟨o, q⟩ := c.there (low j a h2 e2)
      rw [z] at q; cases q
    · have z := c'.nd _ _ a (high i a h1 e1) (high j a h2 e2)
      omega
  · have hSl := c.len
    have hSl' := c'.len
    have t1 : ((S'.take k).map (renOD k S.length)).length = k := by rw [List.length_map, List.length_take]; omega
    have t2 : ((S'.take k).map (renOD k S.length) ++ S.drop k).length = S.length := by rw [List.length_append, t1, List.length_drop]; omega
    by_cases h : n < m.length
    · have e1' := low n a h e1
      by_cases hnk : n < k
      · unfold mrg at e2
        rw [List.getElem?_append_left (by omega), List.getElem?_append_left (by omega), List.getElem?_map, List.getElem?_take_of_lt hnk] at e2
        cases q : S'[n]? with
        | none => rw [q] at e2; cases e2
        | some od' =>
          rw [q] at e2
          cases e2
          obtain ⟨o, a1, a2, a3⟩ := c'.own n a od' (pr n a ((tk n a hnk).mp e1')) q
          exact ⟨o, a1, a2.ren hkm hSl pr, fun z => a3 fun y => z (by rw [y]; rfl)⟩
      · unfold mrg at e2
        rw [List.getElem?_append_left (by omega), List.getElem?_append_right (by omega), t1, List.getElem?_drop] at e2
        have h3 : k + (n - k) = n := by omega
        rw [h3] at e2
        obtain ⟨o, a1, a2, a3⟩ := c.own n a od e1' e2
        refine ⟨o, c'.fr a o a1 (fun z => ?_) (fun tq => (c.tab a tq).2.2 n e1'), a2.mono sb .app, fun z => ?_⟩
        · obtain ⟨i, hi⟩ := List.getElem?_of_mem z
          have hlt := (List.getElem?_eq_some_iff.mp hi).1
          rw [List.length_take] at hlt
          have := c.nd i n a ((tk i a (by omega)).mpr hi) e1'
          omega
        · have nB := a3 z
          cases q : B' a with
          | none => rfl
          | some u =>
            rcases c'.bnew a u q with y | y
            · have y' : B a = some u := y
              rw [nB] at y'; cases y'
            · have y' : H a = none := y
              rw [a1] at y'; cases y'
    · have e1' := high n a h e1
      unfold mrg at e2
      rw [List.getElem?_append_right (by omega), t2, List.getElem?_map, List.getElem?_drop] at e2
      have h3 : k + (n - S.length) = k + (n - m.length) := by omega
      rw [h3] at e2
      cases q : S'[k + (n - m.length)]? with
      | none => rw [q] at e2; cases e2
      | some od' =>
        rw [q] at e2
        cases e2
        obtain ⟨o, a1, a2, a3⟩ := c'.own _ a od' e1' q
        exact ⟨o, a1, a2.ren hkm hSl pr, fun z => a3 fun y => z (by rw [y]; rfl)⟩
end

/-! ### the promise of a def -/
/-- a def's promise over data: the arguments, what is lent, the wish -/
abbrev DSp := List W → Sto → WK → Prop
def spD (K : PySem.W.Frag) (T : Addr → Prop) (dsp : DSp) : Sp := fun vs H Q _ => ∃ (B : Hp) (L : List Addr) (ws : List W) (lent : Sto) (Kp : WK), Cf K ⟨B, H, L, T⟩ B L lent H ∧ RWL K B L ws vs ∧ dsp ws lent Kp ∧ KW K ⟨B, H, L, T⟩ Kp B L H Q
def dCall (k : Nat) (dsp : DSp) (da : DA) : DE := fun env S Kp => da env S fun ws S1 => k ≤ S1.length ∧ ∃ (ws' : List W) (lent : Sto), ws = renL k S1.length ws' ∧ S1.take k = lent.map (renOD k S1.length) ∧
  dsp ws' lent fun w S2 => Kp (ren k S1.length w) (mrg k S1 S2)
theorem imp_call {K : PySem.W.Frag} {F : Fx} {T : Addr → Prop} {k : Nat} {dsp : DSp} {da : DA} {E : XK} (hT : F.T = T) (σ : L2.St) (H : Hp) (Q : VK) (h : lE K F (dCall k dsp da) σ H Q) : tCall (spD K T dsp) [] E (lA K F da) σ H Q := by
  subst hT
  obtain ⟨B, m, S, env, Kp, cf, er, h, kw⟩ := h
  refine ⟨B, m, S, env, _, cf, er, h, fun ws S1 ⟨hk, ws', lent, e1, e2, h1⟩ vs H1 B1 m1 n1 r => ?_⟩
  show spD K F.T dsp (vs ++ []) H1 Q E
  rw [List.append_nil]
  subst e1
  refine ⟨B1, m1.take k, ws', lent, _, n1.cf.lend hk e2, r.unren n1.cf.len, h1, fun w S2 h2 v H2 B2 m2 n2 r2 => ?_⟩
  have n3 := n1.cf.back hk n2
  exact kw _ _ h2 _ _ _ _ (n1.trans n3) (r2.ren (by rw [n1.cf.len]; exact hk) n1.cf.len n2.pr)
/-- nothing is lent, data in and data out -/
abbrev PSp := List D → (D → Prop) → Prop
def psp (P : PSp) : DSp := fun ws S Kp => ∃ ds, ws = ds.map W.fz ∧ S = [] ∧ P ds fun d => Kp (.fz d) []
theorem renL_fz (k n : Nat) (ds : List D) : renL k n (ds.map W.fz) = ds.map W.fz := by
  induction ds with
  | nil => rfl
  | cons d ds ih => show ren k n (.fz d) :: renL k n (ds.map W.fz) = _; rw [ih]; rfl
def dCallP (P : PSp) (da : DA) : DE := fun env S Kp => da env S fun ws S1 => onO (fzL ws) fun ds => P ds fun d => Kp (.fz d) S1
/-- the wish of a call that lends nothing -/
def PK (Kp : WK) (S : Sto) : WK := fun w S2 => match w, S2 with
  | .fz d, [] => Kp (.fz d) S
  | _, _ => False
theorem PK_ok {Kp : WK} {S : Sto} {w : W} {S2 : Sto} (h : PK Kp S w S2) : ∃ d, w = .fz d ∧ S2 = [] ∧ Kp (.fz d) S := by
  unfold PK at h
  split at h
  · exact ⟨_, rfl, rfl, h⟩
  · cases h
theorem lE.weak {K : PySem.W.Frag} {F : Fx} {d d' : DE} {σ : L2.St} {H : Hp} {Q : VK} (h : lE K F d' σ H Q) (g : ∀ env S Kp, d' env S Kp → ∃ Kp', d env S Kp' ∧ ∀ w S', Kp' w S' → Kp w S') : lE K F d σ H Q := by
  obtain ⟨B, m, S, env, Kp, cf, er, h, kw⟩ := h
  obtain ⟨Kp', h', i⟩ := g env S Kp h
  exact ⟨B, m, S, env, Kp', cf, er, h', fun w S' hk => kw w S' (i w S' hk)⟩
section
variable {X : Cx} {Ξ : Xt} {k j : Nat} {x : Str} {dsp : DSp} {P : PSp} {p pos : Pos} {e : Expr} {es : List Expr} {da : DA}
/-- a def of the module, called by its name -/
abbrev CalD (P : Program) (w : World) (K : PySem.W.Frag) (T : Addr → Prop) (mg : Str → Option Value) (base : Heap) (k : Nat) (x : Str) (dsp : DSp) : Prop := C8.Cal P w K mg base k x (spD K T dsp) []
abbrev CalP (P : Program) (w : World) (K : PySem.W.Frag) (T : Addr → Prop) (mg : Str → Option Value) (base : Heap) (k : Nat) (x : Str) (ps : PSp) : Prop := CalD P w K T mg base k x (psp ps)
theorem dpe_call (l : Nat) (c : CalD X.prog X.w X.K Ξ.T X.mg X.base k x dsp) (hr : Room j X.A) (hk : k ≤ j) (hg : Gl X x) (ha : DPA X Ξ (e :: es) da)
    (hdb : (x == ("__debug__" : Str)) = false := by decide) (he : starEach (e :: es) X.env = (false, eval e X.env) :: starEach es X.env := by rfl) (hpl : (backTo pos (starEach es X.env)).any (·.1) = false := by rfl) :
    DPE X Ξ (.Call (.Name x p) (e :: es) [] pos) (dCall l dsp da) := ⟨fun F ok => PE.imp (C8.pe_c c hr hk hg (ha.run F ok) hdb he hpl) (imp_call ok.t)⟩
/-- the arguments stand; the callee lends nothing -/
theorem dpe_callP (c : CalP X.prog X.w X.K Ξ.T X.mg X.base k x P) (hr : Room j X.A) (hk : k ≤ j) (hg : Gl X x) (ha : DPA X Ξ (e :: es) da)
    (hdb : (x == ("__debug__" : Str)) = false := by decide) (he : starEach (e :: es) X.env = (false, eval e X.env) :: starEach es X.env := by rfl) (hpl : (backTo pos (starEach es X.env)).any (·.1) = false := by rfl) :
    DPE X Ξ (.Call (.Name x p) (e :: es) [] pos) (dCallP P da) := ⟨fun F ok => PE.imp (C8.pe_c c hr hk hg (ha.run F ok) hdb he hpl) fun σ H Q h => by
  obtain ⟨B, m, S, env, Kp, cf, er, h, kw⟩ := h
  refine ⟨B, m, S, env, _, cf, er, h, fun ws S1 h0 vs H1 B1 m1 n1 r => ?_⟩
  obtain ⟨ds, e1, h1⟩ := onO_ex h0
  replace e1 := fzL_eq e1
  show spD X.K Ξ.T (psp P) (vs ++ []) H1 Q E0
  rw [← ok.t]
  rw [List.append_nil]
  subst e1
  have c0 := n1.cf.lend (k := 0) (lent := []) (Nat.zero_le _) rfl
  refine ⟨B1, m1.take 0, ds.map W.fz, [], PK Kp S1, c0, (r.fz).fz, ⟨ds, rfl, rfl, h1⟩, fun w S2 h2 v H2 B2 m2 n2 r2 => ?_⟩
  · obtain ⟨d, ew, eS, h2⟩ := PK_ok h2
    subst eS; subst ew
    have n3 := n1.cf.back (Nat.zero_le _) n2
    have e3 : mrg 0 S1 [] = S1 := by unfold mrg; simp
    rw [e3] at n3
    cases r2 with
    | fz r2 => exact kw _ _ h2 _ _ _ _ (n1.trans n3) (.fz r2)⟩
end
end DL
/-! DL6: the rule for a def; built-ins; slices -/
namespace DL
open PySem PySem.Spec PyProof.Rows L2

def startD (N : List Str) (ws : List W) : En := ws.map some ++ List.replicate (N.length - ws.length) none
section
variable {K : PySem.W.Frag} {F : Fx} {B B' : Hp} {m m' : List Addr} {S S' : Sto} {H H' : Hp}
theorem ER.start {N : List Str} {ws : List W} {vs : List V} (r : RWL K B m ws vs) : ER K B m (startD N ws) (L2.start N vs) := by
  have hl := r.length
  refine ⟨by simp [startD, L2.start, hl], fun i w e => ?_⟩
  unfold startD at e
  by_cases h : i < ws.length
  · rw [List.getElem?_append_left (by simpa using h), List.getElem?_map] at e
    cases q : ws[i]? with
    | none => rw [q] at e; cases e
    | some w' =>
      rw [q] at e
      cases e
      obtain ⟨v, h1, h2⟩ := r.get q
      refine ⟨v, ?_, h2⟩
      unfold L2.start
      rw [List.getElem?_append_left (by rw [List.length_map, ← hl]; exact h), List.getElem?_map, h1]
      rfl
  · rw [List.getElem?_append_right (by simpa using h), List.getElem?_replicate] at e
    split at e <;> cases e
mutual
/-- handles below n alone -/
def bdW (n : Nat) : W → Bool
  | .fz _ => true
  | .hd j => decide (j < n)
  | .tp ws => bdL n ws
  | .xo _ _ _ => true
def bdL (n : Nat) : List W → Bool
  | [] => true
  | w :: ws => bdW n w && bdL n ws
end
def bdO (n : Nat) : OD → Bool
  | .lst ws => bdL n ws
  | .dic kvs => kvs.all fun p => bdW n p.2
  | .ins _ fs => fs.all fun p => bdW n p.2
  | .gone => true
mutual
theorem RW.cut {n : Nat} : ∀ {w : W} {v : V}, bdW n w = true → RW K B m w v → RW K B (m.take n) w v
  | .fz d, _, _, .fz r => .fz r
  | .hd j, _, h, .hd e => .hd (by rw [List.getElem?_take_of_lt (of_decide_eq_true h)]; exact e)
  | .tp ws, _, h, .tp s r => .tp s (RWL.cut h r)
  | .xo _ _ _, _, _, .xo e r => .xo e r
theorem RWL.cut {n : Nat} : ∀ {ws : List W} {vs : List V}, bdL n ws = true → RWL K B m ws vs → RWL K B (m.take n) ws vs
  | [], _, _, .nil => .nil
  | w :: ws, _, h, .cons r t => by
    unfold bdL at h
    rw [Bool.and_eq_true] at h
    exact .cons (RW.cut h.1 r) (RWL.cut h.2 t)
end
theorem Paired.mapA {α β : Type} {R R' : α → β → Prop} : ∀ {xs : List α} {ys : List β}, (∀ a ∈ xs, ∀ b, R a b → R' a b) → Paired R xs ys → Paired R' xs ys
  | _, _, _, .nil => .nil
  | _, _, h, .cons r t => .cons (h _ List.mem_cons_self _ r) (Paired.mapA (fun a ha => h a (List.mem_cons_of_mem _ ha)) t)
theorem RO.cut {n : Nat} : ∀ {od : OD} {o : HO}, bdO n od = true → RO K B m od o → RO K B (m.take n) od o
  | .lst _, _, h, ⟨vs, e, r⟩ => ⟨vs, e, r.cut h⟩
  | .dic _, _, h, ⟨vs, e, r⟩ => ⟨vs, e, Paired.mapA (fun a ha _ q => ⟨q.1, q.2.cut (List.all_eq_true.mp h a ha)⟩) r⟩
  | .ins _ _, _, h, ⟨dx, vs, e, r⟩ => ⟨dx, vs, e, Paired.mapA (fun a ha _ q => ⟨q.1, q.2.cut (List.all_eq_true.mp h a ha)⟩) r⟩
  | .gone, _, _, _ => trivial
theorem take_sub {n i : Nat} {a : Addr} (h : (m.take n)[i]? = some a) : m[i]? = some a ∧ i < n := by
  have := (List.getElem?_eq_some_iff.mp h).1
  rw [List.length_take] at this
  rw [List.getElem?_take_of_lt (by omega)] at h
  exact ⟨h, by omega⟩
/-- what is no longer needed is forgotten -/
theorem Cf.cut {S1 S2 : Sto} (c : Cf K F B m (S1 ++ S2) H) (hl : F.L.length ≤ S1.length) (hb : S1.all (bdO S1.length) = true) : Cf K F B (m.take S1.length) S1 H := by
  have hm := c.len
  rw [List.length_append] at hm
  refine ⟨c.b0, c.sub, c.bnew, c.fr, c.dom, by rw [List.length_take]; omega, fun n a e => ?_, fun n a e => c.new n a (take_sub e).1, fun i j a e1 e2 => c.nd i j a (take_sub e1).1 (take_sub e2).1, fun n a od e1 e2 => ?_, fun q tq => let ⟨g1, g2, g3⟩ := c.tab q tq; ⟨g1, g2, fun n e => g3 n (take_sub e).1⟩⟩
  · have := (List.getElem?_eq_some_iff.mp e).1
    rw [List.getElem?_take_of_lt (by omega)]
    exact c.pre n a e
  · obtain ⟨e1, hn⟩ := take_sub e1
    obtain ⟨o, h1, h2, h3⟩ := c.own n a od e1 (by rw [List.getElem?_append_left hn]; exact e2)
    exact ⟨o, h1, h2.cut (List.all_eq_true.mp hb od (List.mem_of_getElem? e2)), h3⟩
end
theorem Nx.cut {K : PySem.W.Frag} {F : Fx} {B B' : Hp} {m m' : List Addr} {H H' : Hp} {S1 S2 : Sto} (n : Nx K F B m H B' m' (S1 ++ S2) H') (hl : F.L.length ≤ S1.length) (hb : S1.all (bdO S1.length) = true) (hm : m.length ≤ S1.length) :
    Nx K F B m H B' (m'.take S1.length) S1 H' :=
  ⟨n.cf.cut hl hb, n.sb, fun i a q => by
    rw [List.getElem?_take_of_lt (by have := (List.getElem?_eq_some_iff.mp q).1; omega)]; exact n.pr i a q, n.kp, fun i a q => n.nw i a (take_sub q).1, n.dm, n.bn⟩
/-- what is wanted where a def returns: the lent objects, and what is new, as the promise says; the rest is forgotten -/
def fin (l : Nat) (Kp : WK) : WK := fun w S' => ∃ S1 S2, S' = S1 ++ S2 ∧ l ≤ S1.length ∧ bdW S1.length w = true ∧ S1.all (bdO S1.length) = true ∧ Kp w S1
section
variable {P : Program} {w : World} {K : PySem.W.Frag} {T : Addr → Prop} {mg : Str → Option Value} {base : Heap}
/-- THE RULE for a def -/
theorem cald {x : Str} {st : Stmt} {f : Addr} {fd : FuncData} {N ps : List Str} {k : Nat} {dsp : DSp} {ds : DS} (F : C8.Def K mg x st f fd) (b : Binds K fd ps []) (S : FnScope N ps (C8.fnScope st))
    (len : ∀ ws lent Kp, dsp ws lent Kp → ws.length = ps.length)
    (hbody : ∀ (cdv : Value) (A : Around) (outer : List Env) (s : Shared) (H : Hp) (E : XK), Room k (A.deeper (envOfC x (C8.fnScope st) s.heap.objs.size f cdv)) → DPSs (cxOf CX0 P w K mg base N x (C8.fnScope st) f cdv A outer s H E).nox (Xt.any T) (C8.fnBody st) ds)
    (hread : ∀ ws lent Kp, dsp ws lent Kp → ds ⟨fun _ S' => fin lent.length Kp (.fz .non) S', fin lent.length Kp, fun _ _ => False, fun _ _ => False⟩ (startD N ws) lent) : CalD P w K T mg base (k + 1) x dsp := by
  refine C8.cal0 F b .nil S (fun vs H Q E ⟨B, L, ws, lent, Kp, _, r, h, _⟩ => by rw [← r.length]; exact len _ _ _ h) fun cdv A outer s H vs Q E hr ⟨B, L, ws, lent, Kp, c, r, h, kw⟩ => ?_
  refine ⟨_, (hbody cdv A outer s H E hr).run ⟨B, H, L, T⟩ (.any rfl), B, L, lent, _, _, c, ER.start r, hread ws lent Kp h, ?_, ?_, fun _ _ z => z.elim, fun _ _ z => z.elim⟩
  all_goals have hL : L.length = lent.length := c.len
  · rintro env S' ⟨S1, S2, e, hl, hb, hc, hk⟩ σ' H' B' m' n er
    subst e
    exact kw _ _ hk _ _ _ _ (n.cut (by show L.length ≤ _; omega) hc (by omega)) (.fz .non)
  · rintro u S' ⟨S1, S2, e, hl, hb, hc, hk⟩ v H' B' m' n r'
    subst e
    exact kw _ _ hk _ _ _ _ (n.cut (by show L.length ≤ _; omega) hc (by omega)) (r'.cut hb)
/-- a list that may change is frozen for good -/
theorem Cf.freeze {F : Fx} {B : Hp} {m : List Addr} {S : Sto} {H : Hp} (c : Cf K F B m S H) (hL : F.L = []) {w : W} {v : V} {d : D} (r : RW K B m w v) (h : dW S w = some d) : ∃ B', Cf K F B' [] [] H ∧ Sub B B' ∧ Rp K B' d v := by
  have c0 : Cf K F B (m.take 0) [] H := Cf.cut (S1 := []) (S2 := S) c (by rw [hL]; exact Nat.le_refl _) rfl
  rw [List.take_zero] at c0
  unfold dW at h
  split at h
  · cases h
    cases r with
    | fz r => exact ⟨B, c0, .refl, r⟩
  · split at h
    · rename_i n _ ws e
      cases q : fzL ws with
      | none => rw [q] at h; cases h
      | some ds =>
        rw [q] at h
        cases h
        obtain ⟨a, vs, e1, em, h1, h2⟩ := c.lst r e
        subst e1
        have nB : B a = none := by
          obtain ⟨_, _, _, g⟩ := c.own n a _ em e
          exact g fun z => nomatch z
        have sb : Sub B (upd B a (.lst vs)) := fun x u y => by rw [upd_ne (ne_of_none y nB)]; exact y
        have nH : F.H a = none := by
          rcases c.new n a em with z | z
          · rw [hL] at z; simp at z
          · exact z
        refine ⟨upd B a (.lst vs), ⟨c.b0.trans sb, fun x u y => ?_, fun x u y => ?_, c.fr, c.dom, rfl, c0.pre, c0.new, c0.nd, c0_own, fun q tq => let ⟨g1, g2, g3⟩ := c.tab q tq; ⟨g1, by rw [upd_ne (fun z => g3 n (by rw [z]; exact em))]; exact g2, fun i e => by simp at e⟩⟩, sb, ?_⟩
        · by_cases z : x = a
          · subst z; rw [upd_same] at y; cases y; exact h1
          · rw [upd_ne z] at y; exact c.sub _ _ y
        · by_cases z : x = a
          · subst z; exact .inr nH
          · rw [upd_ne z] at y; exact c.bnew _ _ y
        · rw [fzL_eq q] at h2
          exact .lst upd_same ((h2.mono sb .refl).fz)
    · cases h
  · cases h
  · cases h
where c0_own {B : Hp} {H : Hp} : ∀ (n : Nat) (a : Addr) (od : OD), ([] : List Addr)[n]? = some a → ([] : Sto)[n]? = some od → ∃ o, H a = some o ∧ RO K B [] od o ∧ (od ≠ .gone → B a = none) := fun n a od h => by simp at h
/-- THE RULE for a def to which nothing is lent -/
theorem calp {x : Str} {st : Stmt} {f : Addr} {fd : FuncData} {N ps : List Str} {k : Nat} {Q : PSp} {ds : DS} (F : C8.Def K mg x st f fd) (b : Binds K fd ps []) (S : FnScope N ps (C8.fnScope st))
    (len : ∀ xs Kp, Q xs Kp → xs.length = ps.length)
    (hbody : ∀ (cdv : Value) (A : Around) (outer : List Env) (s : Shared) (H : Hp) (E : XK), Room k (A.deeper (envOfC x (C8.fnScope st) s.heap.objs.size f cdv)) → DPSs (cxOf CX0 P w K mg base N x (C8.fnScope st) f cdv A outer s H E).nox (Xt.of T) (C8.fnBody st) ds)
    (hread : ∀ xs Kp, Q xs Kp → ds ⟨fun _ _ => Kp .non, fun u S' => onO (dW S' u) fun d => Kp d, fun _ _ => False, fun _ _ => False⟩ (startD N (xs.map W.fz)) []) : CalP P w K T mg base (k + 1) x Q := by
  refine C8.cal0 F b .nil S (fun vs H Q' E ⟨B, L, ws, lent, Kp, _, r, ⟨xs, e, _, h⟩, _⟩ => by rw [← r.length, e, List.length_map]; exact len _ _ h) fun cdv A outer s H vs Q' E hr ⟨B, L, ws, lent, Kp, c, r, ⟨xs, e, e2, h⟩, kw⟩ => ?_
  subst e; subst e2
  have hL : L = [] := List.eq_nil_of_length_eq_zero c.len
  subst hL
  refine ⟨_, (hbody cdv A outer s H E hr).run ⟨B, H, [], T⟩ (.of rfl), B, [], [], _, _, c, ER.start r, hread xs _ h, ?_, ?_, fun _ _ z => z.elim, fun _ _ z => z.elim⟩
  · rintro env S' hk σ' H' B' m' n er
    have n2 := Nx.cut (S1 := []) (S2 := S') n (Nat.le_refl _) rfl (Nat.le_refl _)
    rw [List.length_nil, List.take_zero] at n2
    exact kw _ _ hk _ _ _ _ n2 (.fz .non)
  · rintro u S' hk v H' B' m' n r'
    obtain ⟨d, hd, hk⟩ := onO_ex hk
    obtain ⟨B2, c2, sb2, r2⟩ := n.cf.freeze rfl r' hd
    exact kw _ _ hk _ _ _ _ ⟨c2, n.sb.trans sb2, .refl, n.kp, fun _ _ h => .inl h, n.dm, fun a o e => (c2.bnew a o e).imp id .inl⟩ (.fz r2)
/-- a weaker promise -/
theorem CalP.imp {k : Nat} {x : Str} {Q Q' : PSp} (c : CalP P w K T mg base k x Q) (h : ∀ xs Kp, Q' xs Kp → Q xs Kp) : CalP P w K T mg base k x Q' := by
  obtain ⟨f, fd, ps, ds, F, r⟩ := c.ex
  exact ⟨f, fd, ps, ds, F.imp fun vs H Q E ⟨B, L, ws, lent, Kp, c, rr, ⟨xs, e, e2, hq⟩, kw⟩ => ⟨B, L, ws, lent, Kp, c, rr, ⟨xs, e, e2, h _ _ hq⟩, kw⟩, r⟩
theorem CalP.mono {j k : Nat} {x : Str} {Q : PSp} (c : CalP P w K T mg base k x Q) (h : k ≤ j) : CalP P w K T mg base j x Q := by
  obtain ⟨f, fd, ps, ds, F, r⟩ := c.ex
  exact ⟨f, fd, ps, ds, F.mono h, r⟩
theorem CalD.imp {k : Nat} {x : Str} {Q Q' : DSp} (c : CalD P w K T mg base k x Q) (h : ∀ xs S Kp, Q' xs S Kp → Q xs S Kp) : CalD P w K T mg base k x Q' := by
  obtain ⟨f, fd, ps, ds, F, r⟩ := c.ex
  exact ⟨f, fd, ps, ds, F.imp fun vs H Q E ⟨B, L, ws, lent, Kp, c, rr, hq, kw⟩ => ⟨B, L, ws, lent, Kp, c, rr, h _ _ _ hq, kw⟩, r⟩
theorem CalD.mono {j k : Nat} {x : Str} {Q : DSp} (c : CalD P w K T mg base k x Q) (h : k ≤ j) : CalD P w K T mg base j x Q := by
  obtain ⟨f, fd, ps, ds, F, r⟩ := c.ex
  exact ⟨f, fd, ps, ds, F.mono h, r⟩
end

/-! ### built-ins -/
def dCB (dr : DRL) (da : DA) : DE := fun env S Kp => da env S fun ws S1 => dr ws S1 Kp
def lenW : DRL := fun ws S Kp => match ws with
  | [.fz (.str z)] => z.length ≤ sizeLine ∧ Kp (.fz (.int (z.length : Int))) S
  | [x] => onO (vS S x) fun ws => Kp (.fz (.int (ws.length : Int))) S
  | _ => False
def ordW : DRL := fun ws S Kp => match ws with
  | [.fz (.str x)] => x.length = 1 ∧ Kp (.fz (.int (x.cps.getD 0 0 : Nat))) S
  | _ => False
def intW1 : DRL := fun ws S Kp => match ws with
  | [.fz (.int i)] => Kp (.fz (.int i)) S
  | [.fz (.bl b)] => Kp (.fz (.int (if b then 1 else 0))) S
  | _ => False
def vSq (S : Sto) (w : W) : Option (List W) := match w with
  | .fz (.scr ns) => some (ns.map fun n => .fz (.int n))
  | w => vS S w
def listW (own : Bool) : DRL := fun ws S Kp => match ws with
  | [x] => onO (vSq S x) fun xs => newL own xs S Kp
  | _ => False
def tupleW : DRL := fun ws S Kp => match ws with
  | [x] => onO (vS S x) fun xs => Kp (mkT xs) S
  | _ => False
def tyW (S : Sto) : W → Option Ty
  | .fz .non => some .non
  | .fz (.bl _) => some .bool
  | .fz (.int _) => some .int
  | .fz (.str _) => some .str
  | .fz (.tup _) => some .tuple
  | .fz (.lst _) => some .list
  | .fz (.obj _ _) => none
  | .fz (.scr _) => none
  | .fz (.ty _) => none
  | .tp _ => some .tuple
  | .xo _ _ _ => none
  | .hd n => match S[n]? with
    | some (.lst _) => some .list
    | some (.dic _) => some .dict
    | _ => none
def isTy : Ty → Ty → Bool
  | .non, .non => true
  | .bool, .bool => true
  | .bool, .int => true
  | .int, .int => true
  | .str, .str => true
  | .tuple, .tuple => true
  | .list, .list => true
  | .dict, .dict => true
  | _, _ => false
theorem kitB_isTy (t T : Ty) (h : T ≠ .non) : kitB t.name T.name = some (isTy t T) := by
  cases T with
  | non => exact absurd rfl h
  | bool => cases t <;> decide +kernel
  | int => cases t <;> decide +kernel
  | str => cases t <;> decide +kernel
  | tuple => cases t <;> decide +kernel
  | list => cases t <;> decide +kernel
  | dict => cases t <;> decide +kernel
def isiW : DRL := fun ws S Kp => match ws with
  | [_, .fz (.ty .non)] => False
  | [x, .fz (.ty T)] => onO (tyW S x) fun t => Kp (.fz (.bl (isTy t T))) S
  | _ => False
def sumW : DRL := fun ws S Kp => ∃ (x : W) (ns : List Int), ws = [x] ∧ vL S x = some (ns.map fun n => .fz (.int n)) ∧ Kp (.fz (.int ns.sum)) S
def allW : DRL := fun ws S Kp => ∃ (x : W) (bs : List Bool), ws = [x] ∧ vL S x = some (bs.map fun n => .fz (.bl n)) ∧ Kp (.fz (.bl (bs.all id))) S
section
variable {X : Cx} {Ξ : Xt} {x : Str} {p pos : Pos} {e : Expr} {es : List Expr} {da : DA} {id T : String} {dr : DRL}
theorem imp_CB {K : PySem.W.Frag} {F : Fx} (σ : L2.St) (H : Hp) (Q : VK) (h : lE K F (dCB dr da) σ H Q) : tCB (lRL K F dr) (lA K F da) σ H Q := by
  obtain ⟨B, m, S, env, Kp, cf, er, h, kw⟩ := h
  exact ⟨B, m, S, env, _, cf, er, h, fun ws S1 h1 vs H1 B1 m1 n1 r => ⟨B1, m1, S1, ws, Kp, n1.cf, r, h1, kw.nx n1⟩⟩
theorem dpe_callB (hc : CallD X (.builtin id) dr) (hg : Gl X x) (hm : X.mg x = none) (hv : bootBuiltins x = some (.builtin id)) (ha : DPA X Ξ (e :: es) da) (hn : x ≠ "__name__" := by decide) (hdb : (x == ("__debug__" : Str)) = false := by decide)
    (he : starEach (e :: es) X.env = (false, eval e X.env) :: starEach es X.env := by rfl) (hpl : (backTo pos (starEach es X.env)).any (·.1) = false := by rfl) : DPE X Ξ (.Call (.Name x p) (e :: es) [] pos) (dCB dr da) :=
  ⟨fun F ok => PE.imp (pe_callB (hc F) hg hm hv (ha.run F ok) hn hdb he hpl) imp_CB⟩
theorem dpe_callTy (hc : CallD X (.type T) dr) (hg : Gl X x) (hm : X.mg x = none) (hv : bootBuiltins x = some (.type T)) (ha : DPA X Ξ (e :: es) da) (hn : x ≠ "__name__" := by decide) (hdb : (x == ("__debug__" : Str)) = false := by decide)
    (he : starEach (e :: es) X.env = (false, eval e X.env) :: starEach es X.env := by rfl) (hpl : (backTo pos (starEach es X.env)).any (·.1) = false := by rfl) : DPE X Ξ (.Call (.Name x p) (e :: es) [] pos) (dCB dr da) :=
  ⟨fun F ok => PE.imp (pe_callTy (hc F) hg hm hv (ha.run F ok) hn hdb he hpl) imp_CB⟩
theorem RWL.one {K : PySem.W.Frag} {B : Hp} {m : List Addr} {w : W} {vs : List V} (r : RWL K B m [w] vs) : ∃ v, vs = [v] ∧ RW K B m w v := by
  cases r with
  | cons r t => cases t; exact ⟨_, rfl, r⟩
theorem RWL.two {K : PySem.W.Frag} {B : Hp} {m : List Addr} {w u : W} {vs : List V} (r : RWL K B m [w, u] vs) : ∃ v y, vs = [v, y] ∧ RW K B m w v ∧ RW K B m u y := by
  cases r with
  | cons r t => cases t with | cons r2 t => cases t; exact ⟨_, _, rfl, r, r2⟩
theorem cd_len : CallD X (.builtin "len") lenW := fun F => CallR.imp call_len fun xs H Q ⟨B, m, S, ws, Kp, cf, r, h, k⟩ => by
  unfold lenW at h
  split at h
  · obtain ⟨v, e, rv⟩ := r.one
    subst e
    rw [rv.str_of]
    exact ⟨_, _, rfl, ⟨h.1, rfl⟩, k.here cf h.2 (.fz .int)⟩
  · obtain ⟨v, e, rv⟩ := r.one
    subst e
    obtain ⟨ws, q, h⟩ := onO_ex h
    obtain ⟨a, vs, ea, hs, rr⟩ := vS_ok cf rv q
    subst ea
    refine ⟨.ref a, ws.length, rfl, ?_, k.here cf h (.fz .int)⟩
    rcases hs with hs | hs
    · exact .inl ⟨vs, hs, rr.length⟩
    · exact .inr ⟨vs, hs, rr.length⟩
  · exact h.elim
theorem cd_ord : CallD X (.builtin "ord") ordW := fun F => CallR.imp call_ord fun xs H Q ⟨B, m, S, ws, Kp, cf, r, h, k⟩ => by
  unfold ordW at h
  split at h
  · obtain ⟨v, e, rv⟩ := r.one
    subst e
    rw [rv.str_of]
    exact ⟨_, rfl, h.1, k.here cf h.2 (.fz .int)⟩
  · exact h.elim
theorem cd_int : CallD X (.type "int") intW1 := fun F => CallR.imp call_int1 fun xs H Q ⟨B, m, S, ws, Kp, cf, r, h, k⟩ => by
  unfold intW1 at h
  split at h
  · obtain ⟨v, e, rv⟩ := r.one
    subst e
    rw [rv.int_of]
    exact .inl ⟨_, rfl, k.here cf h (.fz .int)⟩
  · obtain ⟨v, e, rv⟩ := r.one
    subst e
    rw [rv.bl_of]
    exact .inr ⟨_, rfl, k.here cf h (.fz .int)⟩
  · exact h.elim
theorem rwl_ints {K : PySem.W.Frag} {B : Hp} {m : List Addr} : ∀ ns : List Int, RWL K B m (ns.map fun n => .fz (.int n)) (ns.map V.int)
  | [] => .nil
  | _ :: ns => .cons (.fz .int) (rwl_ints ns)
theorem rwl_ints_of {K : PySem.W.Frag} {B : Hp} {m : List Addr} : ∀ {ns : List Int} {vs : List V}, RWL K B m (ns.map fun n => .fz (.int n)) vs → vs = ns.map V.int
  | [], _, .nil => rfl
  | _ :: ns, _, .cons r t => by rw [r.int_of, rwl_ints_of t]; rfl
theorem rwl_bls_of {K : PySem.W.Frag} {B : Hp} {m : List Addr} : ∀ {ns : List Bool} {vs : List V}, RWL K B m (ns.map fun n => .fz (.bl n)) vs → vs = ns.map V.bl
  | [], _, .nil => rfl
  | _ :: ns, _, .cons r t => by rw [r.bl_of, rwl_bls_of t]; rfl
theorem cd_list (own : Bool) : CallD X (.type "list") (listW own) := fun F => CallR.imp call_list_of fun xs H Q ⟨B, m, S, ws, Kp, cf, r, h, k⟩ => by
  unfold listW at h
  split at h
  rotate_left
  · exact h.elim
  obtain ⟨zs, hv, h⟩ := onO_ex h
  obtain ⟨v, e, rv⟩ := r.one
  subst e
  unfold vSq at hv
  split at hv
  · rename_i ns
    cases hv
    cases rv with | fz rv => cases rv with | scr hs =>
      exact ⟨_, _, rfl, .inl (cf.sub.seqL hs), fun l hl => newL_ok cf (rwl_ints ns) h k hl⟩
  · obtain ⟨a, vs, ea, hs, rr⟩ := vS_ok cf rv hv
    subst ea
    exact ⟨a, vs, rfl, hs, fun l hl => newL_ok cf rr h k hl⟩
theorem cd_tuple : CallD X (.type "tuple") tupleW := fun F => CallR.imp call_tuple_of fun xs H Q ⟨B, m, S, ws, Kp, cf, r, h, k⟩ => by
  unfold tupleW at h
  split at h
  rotate_left
  · exact h.elim
  obtain ⟨zs, hv, h⟩ := onO_ex h
  obtain ⟨v, e, rv⟩ := r.one
  subst e
  unfold vS at hv
  split at hv
  · rename_i ws' e2
    cases hv
    obtain ⟨a, vs, ea, hs, rr⟩ := vT_ok rv e2
    subst ea
    exact ⟨a, vs, rfl, .inr ⟨cf.sub.seqT hs, k.here cf h (mkT_ok rr hs)⟩⟩
  · obtain ⟨a, vs, ea, hs, rr⟩ := vL_ok cf rv hv
    subst ea
    refine ⟨a, vs, rfl, .inl ⟨.of hs, fun l hl => ?_⟩⟩
    have n2 := cf.alloc (o := .tup vs) hl
    exact k _ _ h _ _ _ _ n2 (mkT_ok (rr.nx n2) (.of upd_same))
theorem Rd.tyT {K : PySem.W.Frag} {H : Hp} {a : Addr} {vs : List V} (h : SqT K H a vs) : TyX K H (.ref a) (.type "tuple") := by
  rcases h with (h | ⟨o, h⟩) | ⟨o, its, n, h, c, _⟩
  · exact .base (.tup h)
  · exact .fTuple h
  · exact .kTuple h c
theorem tyW_ok {K : PySem.W.Frag} {F : Fx} {B : Hp} {m : List Addr} {S : Sto} {H : Hp} (c : Cf K F B m S H) {w : W} {v : V} {t : Ty} (r : RW K B m w v) (h : tyW S w = some t) : TyX K H v (.type t.name) := by
  unfold tyW at h
  split at h
  · cases h; cases r with | fz r => cases r; exact .base .non
  · cases h; cases r with | fz r => cases r; exact .base (.bl _)
  · cases h; cases r with | fz r => cases r; exact .base (.int _)
  · cases h; cases r with | fz r => cases r; exact .base (.str _)
  · cases h; cases r with | fz r => cases r with | tup s _ => exact Rd.tyT (c.sub.seqT s)
  · cases h; cases r with | fz r => cases r with | lst s _ => exact .base (.lst (c.sub _ _ s))
  · cases h
  · cases h
  · cases h
  · cases h; cases r with | tp s _ => exact Rd.tyT (c.sub.seqT s)
  · cases h
  · split at h
    · rename_i e
      cases h
      obtain ⟨a, vs, ea, _, hs, _⟩ := c.lst r e
      subst ea
      exact .base (.lst hs)
    · rename_i e
      cases h
      cases r with
      | hd e1 =>
        obtain ⟨o, h1, ⟨vs, h2, h3⟩, _⟩ := c.own _ _ _ e1 e
        subst h2
        exact .base (.dK h1)
    · cases h
theorem cd_isi : CallD X (.builtin "isinstance") isiW := fun F => CallR.imp call_isi fun xs H Q ⟨B, m, S, ws, Kp, cf, r, h, k⟩ => by
  unfold isiW at h
  split at h
  · exact h.elim
  · rename_i x T hn
    obtain ⟨t, ht, h⟩ := onO_ex h
    obtain ⟨v, c, e, rv, rc⟩ := r.two
    subst e
    cases rc with | fz rc => cases rc with | ty =>
      exact ⟨v, _, _, _, _, rfl, .ty T.name, tyW_ok cf rv ht, kit_ty (kitB_isTy t T fun z => hn z), k.here cf h (.fz .bl)⟩
  · exact h.elim
theorem cd_sum (hc : X.calm = true) : CallD X (.builtin "sum") sumW := fun F => CallR.imp (cr_sum hc) fun xs H Q ⟨B, m, S, ws, Kp, cf, r, ⟨x, ns, e, hv, h⟩, k⟩ => by
  subst e
  obtain ⟨v, e, rv⟩ := r.one
  subst e
  obtain ⟨a, vs, ea, hs, rr⟩ := vL_ok cf rv hv
  subst ea
  rw [rwl_ints_of rr] at hs
  exact ⟨a, ns, rfl, .of hs, k.here cf h (.fz .int)⟩
theorem cd_all (hc : X.calm = true) : CallD X (.builtin "all") allW := fun F => CallR.imp (cr_all hc) fun xs H Q ⟨B, m, S, ws, Kp, cf, r, ⟨x, ns, e, hv, h⟩, k⟩ => by
  subst e
  obtain ⟨v, e, rv⟩ := r.one
  subst e
  obtain ⟨a, vs, ea, hs, rr⟩ := vL_ok cf rv hv
  subst ea
  rw [rwl_bls_of rr] at hs
  exact ⟨a, ns, rfl, .of hs, k.here cf h (.fz .bl)⟩
/-- a built-in type as a value; a constant of the module -/
theorem dpe_ty {n : Ty} (hg : Gl X x) (hm : X.mg x = none) (hv : bootBuiltins x = some (.type n.name)) (hn : x ≠ "__name__" := by decide) (hd : (x == ("__debug__" : Str)) = false := by decide) : DPE X Ξ (.Name x pos) (dC (.ty n)) :=
  dpe_of_tC (v := .ty n.name) (pe_bltn hg hm hv rfl hn hd) fun _ _ => .ty
theorem dpe_gint {i : Int} (hg : Gl X x) (h : ∃ t, X.mg x = some (.int i t)) (hd : (x == ("__debug__" : Str)) = false := by decide) : DPE X Ξ (.Name x pos) (dC (.int i)) := by
  obtain ⟨t, hm⟩ := h
  exact dpe_of_tC (v := .int i) (pe_glob hg hm ⟨_, rfl⟩ hd) fun _ _ => .int
theorem dpe_gstr {i : Str} (hg : Gl X x) (h : ∃ t, X.mg x = some (.str i t)) (hd : (x == ("__debug__" : Str)) = false := by decide) : DPE X Ξ (.Name x pos) (dC (.str i)) := by
  obtain ⟨t, hm⟩ := h
  exact dpe_of_tC (v := .str i) (pe_glob hg hm ⟨_, rfl⟩ hd) fun _ _ => .str
end
end DL
/-! DL7: methods, slices, loops, comprehensions -/
namespace DL
open PySem PySem.Spec PyProof.Rows L2

/-! ### a list's append; a list's and a dict's items stored -/
def dMt (T : String) (dr : W → DRL) (de : DE) (da : DA) : DE := fun env S Kp => de env S fun x S1 => da env S1 fun ws S2 => dr x ws S2 Kp
/-- x.append(e) of a list that may change -/
def lstAt (S : Sto) (n : Nat) : Option (List W) := match S[n]? with
  | some (.lst xs) => some xs
  | _ => none
theorem lstAt_eq {S : Sto} {n : Nat} {xs : List W} (h : lstAt S n = some xs) : S[n]? = some (.lst xs) := by
  unfold lstAt at h
  split at h
  · cases h; assumption
  · cases h
def dApp (de : DE) (da : DA) : DE := fun env S Kp => de env S fun x S1 => match x with
  | .hd n => onO (lstAt S1 n) fun _ => da env S1 fun ws S2 => match ws with
    | [w] => onO (lstAt S2 n) fun ys => ys.length < sizeLine ∧ Kp (.fz .non) (S2.set n (.lst (ys ++ [w])))
    | _ => False
  | _ => False
section
variable {X : Cx} {Ξ : Xt} {o e : Expr} {es : List Expr} {de dl dh : DE} {da : DA} {pos apos p2 : Pos}
theorem dpe_append {name : Str} (hname : name = "append") (ho : DPE X Ξ o de) (ha : DPA X Ξ [e] da)
    (hbase : attributeBase o name X.env (eval o X.env) = eval o X.env := by rfl)
    (hfew : ((backTo pos (starEach [e] X.env)).all (fun x => !x.1) && (backToKw pos (keywordEach [] X.env)).all (fun x => x.1.isSome)
      && decide (([e] : List Expr).length + ([] : List Keyword).length + (if ([] : List Keyword).isEmpty then 0 else 1) < 30)) = true := by rfl)
    (hline : (apos.endLine == pos.line) = true := by rfl) (hs : starEach [e] X.env = (false, eval e X.env) :: starEach [] X.env := by rfl) (hplain : (backTo pos (starEach [] X.env)).any (·.1) = false := by rfl) :
    DPE X Ξ (.Call (.Attribute o name apos) [e] [] pos) (dApp de da) := by
  subst hname
  refine ⟨fun F ok => PE.imp (pe_bm PySem.F.plainAttrs_list PySem.F.slot_list_append PySem.F.type_list_append mt_append (ho.run F ok) (ha.run F ok) hbase hfew hline hs hplain) fun σ H Q ⟨B, m, S, env, Kp, cf, er, h, k⟩ => ?_⟩
  refine ⟨B, m, S, env, _, cf, er, h, fun x S1 h1 v H1 B1 m1 n1 r => ?_⟩
  split at h1
  rotate_left
  · exact h1.elim
  obtain ⟨xs, e2, h1⟩ := onO_ex h1
  replace e2 := lstAt_eq e2
  obtain ⟨a, vs, ea, em, hs1, _⟩ := n1.cf.lst r e2
  subst ea
  refine ⟨.inl ⟨rfl, vs, .of hs1⟩, B1, m1, S1, env, _, n1.cf, er.nx n1, h1, fun ws S2 h2 us H2 B2 m2 n2 r2 => ?_⟩
  split at h2
  rotate_left
  · exact h2.elim
  rename_i w
  obtain ⟨ys, e4, hz, h2⟩ := onO_ex h2
  replace e4 := lstAt_eq e4
  obtain ⟨u, eu, ru⟩ := r2.one
  subst eu
  obtain ⟨a', vs2, ea2, em2, hs2, rr⟩ := n2.cf.lst (r.nx n2) e4
  cases ea2
  have n3 := n2.cf.write (o := .lst (vs2 ++ [u])) (od := .lst (ys ++ [w])) em2 e4 (fun z => nomatch z) ⟨_, rfl, rr.append (.cons ru .nil)⟩
  exact ⟨a, vs2, u, rfl, rfl, hs2, by rw [← rr.length]; exact hz, k _ _ h2 _ _ _ _ (n1.trans (n2.trans n3)) (.fz .non)⟩
/-! ### slices -/
structure DPO (X : Cx) (Ξ : Xt) (e : Option Expr) (dt : En → Sto → (Option Int → Sto → Prop) → Prop) : Prop where
  run : ∀ F : Fx, Okf X Ξ F → PO X e fun σ H Q => ∃ (B : Hp) (m : List Addr) (S : Sto) (env : En) (Kp : Option Int → Sto → Prop), Cf X.K F B m S H ∧ ER X.K B m env σ ∧ dt env S Kp ∧
    ∀ (i : Option Int) (S' : Sto), Kp i S' → ∀ (H' B' : Hp) (m' : List Addr), Nx X.K F B m H B' m' S' H' → Q i H'
abbrev DO := En → Sto → (Option Int → Sto → Prop) → Prop
def dNoP : DO := fun _ S Kp => Kp none S
def dPrt (de : DE) : DO := fun env S Kp => de env S fun w S1 => match w with
  | .fz (.int i) => Kp (some i) S1
  | _ => False
theorem PO.imp {e : Option Expr} {t t' : TO} (h : PO X e t) (g : ∀ σ H Q, t' σ H Q → t σ H Q) : PO X e t' := ⟨fun pins s σ H Q I q => h.run pins s σ H Q I (g _ _ _ q)⟩
theorem dpo_none : DPO X Ξ none dNoP := ⟨fun F ok => PO.imp po_none fun σ H Q ⟨B, m, S, env, Kp, cf, er, h, k⟩ => k _ _ h _ _ _ cf.nx⟩
theorem dpo_some (h : DPE X Ξ e de) : DPO X Ξ (some e) (dPrt de) := ⟨fun F ok => PO.imp (po_some (h.run F ok)) fun σ H Q ⟨B, m, S, env, Kp, cf, er, h, k⟩ =>
  ⟨B, m, S, env, _, cf, er, h, fun w S1 h1 v H1 B1 m1 n1 r => by
    split at h1
    · exact ⟨_, r.int_of, k _ _ h1 _ _ _ n1⟩
    · exact h1.elim⟩⟩
/-- xs[lo:hi] -/
def cutL {α : Type} (xs : List α) (lo hi : Option Int) : List α := (xs.drop (HT.sIx xs.length 0 lo)).take (HT.sIx xs.length xs.length hi - HT.sIx xs.length 0 lo)
theorem RWL.cutL {K : PySem.W.Frag} {B : Hp} {m : List Addr} {ws : List W} {vs : List V} (r : RWL K B m ws vs) (lo hi : Option Int) : RWL K B m (DL.cutL ws lo hi) (cutV vs lo hi) := by
  unfold DL.cutL cutV
  rw [← r.length]
  exact (r.drop _).take _
def slW (own : Bool) (x : W) (lo hi : Option Int) (S : Sto) (Kp : WK) : Prop := match x with
  | .fz (.str z) => z.length ≤ sizeLine ∧ Kp (.fz (.str (Txt.slice z lo hi))) S
  | x => match vT x with
    | some ws => Kp (mkT (cutL ws lo hi)) S
    | none => onO (vL S x) fun ws => newL own (cutL ws lo hi) S Kp
def dSl (own : Bool) (de : DE) (dl dh : DO) : DE := fun env S Kp => de env S fun x S1 => dl env S1 fun lo S2 => dh env S2 fun hi S3 => slW own x lo hi S3 Kp
theorem cut_whole {α : Type} {xs : List α} {lo hi : Option Int} (h : HT.sIx xs.length 0 lo = 0 ∧ HT.sIx xs.length xs.length hi = xs.length) : cutL xs lo hi = xs := by
  unfold cutL
  rw [h.1, h.2]
  simp
theorem dpe_slice (own : Bool) {lo hi : Option Expr} {tl th : DO} (he : DPE X Ξ e de) (hl : DPO X Ξ lo tl) (hu : DPO X Ξ hi th) : DPE X Ξ (.Subscript e (.Slice lo hi none p2) pos) (dSl own de tl th) := ⟨fun F ok => PE.imp (pe_slice (SlR.or C8.sl_txt (SlR.or sl_tupA sl_list)) (he.run F ok) (hl.run F ok) (hu.run F ok)) fun σ H Q ⟨B, m, S, env, Kp, cf, er, h, k⟩ => by
  refine ⟨B, m, S, env, _, cf, er, h, fun x S1 h1 v H1 B1 m1 n1 r => ⟨B1, m1, S1, env, _, n1.cf, er.nx n1, h1, fun i S2 h2 H2 B2 m2 n2 => ⟨B2, m2, S2, env, _, n2.cf, er.nx (n1.trans n2), h2, fun j S3 h3 H3 B3 m3 n3 => ?_⟩⟩⟩
  have nn := n1.trans (n2.trans n3)
  have r3 := (r.nx n2).nx n3
  unfold slW at h3
  split at h3
  · exact .inl ⟨_, r3.str_of, h3.1, k _ _ h3.2 _ _ _ _ nn (.fz .str)⟩
  · split at h3
    · rename_i ws e1
      obtain ⟨a, vs, ea, ha, rr⟩ := vT_ok r3 e1
      have hl := rr.length
      refine .inr (.inl ⟨a, vs, ea, nn.cf.sub.seqT ha, fun hw => ?_, fun hw p hp => ?_⟩)
      · rw [cut_whole (by rw [hl]; exact hw)] at h3
        exact k _ _ h3 _ _ _ _ nn (mkT_ok rr ha)
      · have n4 := nn.cf.alloc (o := .tup (cutV vs i j)) hp
        exact k _ _ h3 _ _ _ _ (nn.trans n4) (mkT_ok ((rr.nx n4).cutL i j) (.of upd_same))
    · obtain ⟨ws, e1, h3⟩ := onO_ex h3
      obtain ⟨a, vs, ea, ha, rr⟩ := vL_ok nn.cf r3 e1
      exact .inr (.inr ⟨a, vs, ea, .of ha, fun p hp => newL_ok nn.cf (rr.cutL i j) h3 (k.nx nn) hp⟩)⟩
end

/-! ### what is walked -/
abbrev DI := En → Sto → (List W → Sto → Prop) → Prop
structure DIt (K : PySem.W.Frag) (F : Fx) (J : It) (ws : List W) (B : Hp) (m : List Addr) : Prop where
  stop : ∀ (B1 : Hp) (m1 : List Addr) (S1 : Sto) (H1 : Hp), Cf K F B1 m1 S1 H1 → Sub B B1 → Pre m m1 → J.stop ws.length H1
  go : ∀ (B1 : Hp) (m1 : List Addr) (S1 : Sto) (H1 : Hp), Cf K F B1 m1 S1 H1 → Sub B B1 → Pre m m1 → ∀ (i : Nat) (w : W), ws[i]? = some w → J.go i H1 ∧ ∀ x H', J.yld i H1 x H' → ∃ B', Nx K F B1 m1 H1 B' m1 S1 H' ∧ RW K B' m1 w x
def lI (K : PySem.W.Frag) (F : Fx) (di : DI) : TI := fun σ H R => ∃ (B : Hp) (m : List Addr) (S : Sto) (env : En) (Kp : List W → Sto → Prop), Cf K F B m S H ∧ ER K B m env σ ∧ di env S Kp ∧
  ∀ (ws : List W) (S' : Sto), Kp ws S' → ∀ (J : It) (H' B' : Hp) (m' : List Addr), Nx K F B m H B' m' S' H' → DIt K F J ws B' m' → R J H'
structure DPI (X : Cx) (Ξ : Xt) (tg e : Expr) (di : DI) : Prop where
  run : ∀ F : Fx, Okf X Ξ F → PI X tg e (lI X.K F di)
theorem PI.imp {X : Cx} {tg e : Expr} {t t' : TI} (h : PI X tg e t) (g : ∀ σ H Q, t' σ H Q → t σ H Q) : PI X tg e t' := ⟨fun pins s σ H Q I q => h.run pins s σ H Q I (g _ _ _ q)⟩
def iAny (K : PySem.W.Frag) (tl : TE) : TI := fun σ H R => tl σ H fun x H1 => (∃ a, x = .ref a ∧ (∃ xs, SqL K H1 a xs) ∧ R (Itl K a) H1) ∨ (∃ a, x = .ref a ∧ (∃ xs, SqT K H1 a xs) ∧ R (Itt K a) H1) ∨ ∃ z, x = .str z ∧ R (Its z) H1
theorem pi_any {X : Cx} {tg l : Expr} {tl : TE} (hl : PE X l tl) : PI X tg l (iAny X.K tl) := by
  refine ⟨fun pins s σ H R I h => ?_⟩
  refine thn (hl.run pins s σ H _ I h) fun v s1 ⟨x, H1, I1, r1, q1⟩ => ?_
  rcases q1 with ⟨a, e, ⟨xs, hq⟩, q⟩ | ⟨a, e, ⟨xs, hq⟩, q⟩ | ⟨z, e, q⟩
  · subst e
    cases r1
    obtain ⟨its, rv, p, hz⟩ := I1.list hq
    refine wpAny_pyIter_list p.isList ?_
    refine ⟨s1.heap.objs.size, [s1.heap.objs.size], _, _, H1, rfl, I1.kept (t' := s1.toks) fun b o e => Heap.get?_push_of_some _ e, turn_list a _, ⟨_, Heap.get?_push_size _ rfl, rfl, rfl⟩, fun b hb => ?_, q⟩
    have e : b = s1.heap.objs.size := by simpa using hb
    subst e
    exact I1.fpOk (Nat.le_refl _) (I1.hok.fresh (Nat.le_refl _))
  · subst e
    cases r1
    obtain ⟨its, rv, p, hz⟩ := I1.tuple hq
    refine wpAny_pyIter_tuple (show s1.heap.IsTuple a its.toArray from p) ?_
    refine ⟨s1.heap.objs.size, [s1.heap.objs.size], _, _, H1, rfl, I1.kept (t' := s1.toks) fun b o e => Heap.get?_push_of_some _ e, turn_tuple a _, ⟨_, Heap.get?_push_size _ rfl, rfl, rfl⟩, fun b hb => ?_, q⟩
    have e : b = s1.heap.objs.size := by simpa using hb
    subst e
    exact I1.fpOk (Nat.le_refl _) (I1.hok.fresh (Nat.le_refl _))
  · subst e
    obtain ⟨t, rfl⟩ := r1
    cases ha : z.cps.all (· < 128)
    · exact wpAny_pyIter_wide ha (pi_one (tk := s1.toks) I1 _ (turn_str _ z t "str_iterator" (.inr rfl)) ⟨_, Heap.get?_push_size _ rfl, rfl, rfl⟩ q)
    · exact wpAny_pyIter_ascii ha (pi_one (tk := s1.toks) I1 _ (turn_str _ z t "str_ascii_iterator" (.inl rfl)) ⟨_, Heap.get?_push_size _ rfl, rfl, rfl⟩ q)
/-- the items of what does not change -/
def itW : W → Option (List W)
  | .fz (.lst ds) => some (ds.map .fz)
  | .fz (.tup ds) => some (ds.map .fz)
  | .fz (.str z) => some (z.cps.toList.map fun c => .fz (.str ⟨#[c]⟩))
  | .tp ws => some ws
  | _ => none
section
variable {K : PySem.W.Frag} {F : Fx} {B : Hp} {m : List Addr} {S : Sto} {H : Hp}
theorem dit_lst {a : Addr} {vs : List V} {ws : List W} (h : B a = some (.lst vs)) (r : RWL K B m ws vs) : DIt K F (Itl K a) ws B m := by
  refine ⟨fun B1 m1 S1 H1 c sb pr => ⟨vs, .of (c.sub _ _ (sb _ _ h)), by rw [r.length]; exact Nat.le_refl _⟩, fun B1 m1 S1 H1 c sb pr i w e => ?_⟩
  have h1 : SqL K H1 a vs := .of (c.sub _ _ (sb _ _ h))
  obtain ⟨v, e1, r1⟩ := r.get e
  refine ⟨⟨vs, v, h1, e1⟩, fun x H' ⟨e2, y⟩ => ?_⟩
  subst e2
  have e3 := y vs h1
  rw [e1] at e3
  cases e3
  exact ⟨B1, c.nx, r1.mono sb pr⟩
theorem dit_tup {a : Addr} {vs : List V} {ws : List W} (h : SqT K B a vs) (r : RWL K B m ws vs) : DIt K F (Itt K a) ws B m := by
  refine ⟨fun B1 m1 S1 H1 c sb pr => ⟨vs, c.sub.seqT (sb.seqT h), by rw [r.length]; exact Nat.le_refl _⟩, fun B1 m1 S1 H1 c sb pr i w e => ?_⟩
  have h1 : SqT K H1 a vs := c.sub.seqT (sb.seqT h)
  obtain ⟨v, e1, r1⟩ := r.get e
  refine ⟨⟨vs, v, h1, e1⟩, fun x H' ⟨e2, y⟩ => ?_⟩
  subst e2
  have e3 := y vs h1
  rw [e1] at e3
  cases e3
  exact ⟨B1, c.nx, r1.mono sb pr⟩
theorem dit_str {z : Str} : DIt K F (Its z) (z.cps.toList.map fun c => .fz (.str ⟨#[c]⟩)) B m := by
  refine ⟨fun B1 m1 S1 H1 c sb pr => ?_, fun B1 m1 S1 H1 c sb pr i w e => ?_⟩
  · show z.cps.size ≤ _
    rw [List.length_map, Array.length_toList]
    exact Nat.le_refl _
  · rw [List.getElem?_map] at e
    cases q : z.cps.toList[i]? with
    | none => rw [q] at e; cases e
    | some c =>
      rw [q] at e
      cases e
      rw [Array.getElem?_toList] at q
      refine ⟨(Array.getElem?_eq_some_iff.mp q).1, fun x H' ⟨e2, c', e3, e4⟩ => ?_⟩
      subst e2; subst e4
      rw [q] at e3
      cases e3
      exact ⟨B1, by assumption |> fun (h : Cf K F B1 m1 S1 _) => h.nx, .fz .str⟩
theorem dit_rng {lo : Int} {n : Nat} : DIt K F (Itr lo n) ((List.range n).map fun i => .fz (.int (lo + (i : Nat)))) B m := by
  refine ⟨fun B1 m1 S1 H1 c sb pr => ?_, fun B1 m1 S1 H1 c sb pr i w e => ?_⟩
  · show n ≤ _
    rw [List.length_map, List.length_range]
    exact Nat.le_refl _
  · rw [List.getElem?_map] at e
    cases q : (List.range n)[i]? with
    | none => rw [q] at e; cases e
    | some j =>
      rw [q] at e
      cases e
      obtain ⟨h1, h2⟩ := List.getElem?_eq_some_iff.mp q
      rw [List.length_range] at h1
      rw [List.getElem_range] at h2
      subst h2
      refine ⟨h1, fun x H' ⟨e2, e3⟩ => ?_⟩
      subst e2; subst e3
      exact ⟨B1, c.nx, .fz .int⟩
end
def dIter (de : DE) : DI := fun env S Kp => de env S fun w S1 => onO (itW w) fun ws => Kp ws S1
def dRng1 (da : DA) : DI := fun env S Kp => da env S fun ws S1 => match ws with
  | [.fz (.int j)] => (-(2 ^ 62) ≤ j ∧ j < 2 ^ 62) ∧ Kp ((List.range j.toNat).map fun i => .fz (.int (0 + (i : Nat)))) S1
  | _ => False
def dRng2 (da : DA) : DI := fun env S Kp => da env S fun ws S1 => match ws with
  | [.fz (.int i), .fz (.int j)] => (-(2 ^ 62) ≤ i ∧ i < 2 ^ 62 ∧ -(2 ^ 62) ≤ j ∧ j < 2 ^ 62) ∧ Kp ((List.range (j - i).toNat).map fun k => .fz (.int (i + (k : Nat)))) S1
  | _ => False
section
variable {X : Cx} {Ξ : Xt} {tg e a b : Expr} {de : DE} {da : DA} {p pos : Pos}
theorem dpi_any (he : DPE X Ξ e de) : DPI X Ξ tg e (dIter de) := ⟨fun F ok => PI.imp (pi_any (he.run F ok)) fun σ H R ⟨B, m, S, env, Kp, cf, er, h, k⟩ => by
  refine ⟨B, m, S, env, _, cf, er, h, fun w S1 h0 v H1 B1 m1 n1 r => ?_⟩
  obtain ⟨ws, e1, h1⟩ := onO_ex h0
  unfold itW at e1
  split at e1
  · cases e1
    cases r with | fz r => cases r with | lst s t => exact .inl ⟨_, rfl, ⟨_, .of (n1.cf.sub _ _ s)⟩, k _ _ h1 _ _ _ _ n1 (dit_lst s t.fz)⟩
  · cases e1
    cases r with | fz r => cases r with | tup s t => exact .inr (.inl ⟨_, rfl, ⟨_, n1.cf.sub.seqT s⟩, k _ _ h1 _ _ _ _ n1 (dit_tup s t.fz)⟩)
  · cases e1
    exact .inr (.inr ⟨_, r.str_of, k _ _ h1 _ _ _ _ n1 dit_str⟩)
  · cases e1
    cases r with | tp s t => exact .inr (.inl ⟨_, rfl, ⟨_, n1.cf.sub.seqT s⟩, k _ _ h1 _ _ _ _ n1 (dit_tup s t)⟩)
  · cases e1⟩
/-- what is walked may be a list of one's own, which then stands still for good -/
def dIterO (de : DE) : DI := fun env S Kp => de env S fun w S1 => match w with
  | .hd n => 1 ≤ n ∧ onO (lstAt S1 n) fun ws => onO (fzL ws) fun ds => Kp (ds.map .fz) (S1.set n .gone)
  | w => onO (itW w) fun ws => Kp ws S1
theorem Cf.freezeIn {K : PySem.W.Frag} {F : Fx} {B : Hp} {m : List Addr} {S : Sto} {H : Hp} (c : Cf K F B m S H) {n : Nat} {a : Addr} {vs : List V} {ws : List W} (hl : F.L.length ≤ n) (em : m[n]? = some a) (e : S[n]? = some (.lst ws)) (h1 : H a = some (.lst vs)) :
    Nx K F B m H (upd B a (.lst vs)) m (S.set n .gone) H := by
  have nB : B a = none := by
    obtain ⟨_, _, _, g⟩ := c.own n a _ em e
    exact g fun z => nomatch z
  have sb : Sub B (upd B a (.lst vs)) := fun x u y => by rw [upd_ne (ne_of_none y nB)]; exact y
  have nH : F.H a = none := by
    rcases c.new n a em with z | z
    · have := (List.getElem?_eq_some_iff.mp z).1
      omega
    · exact z
  refine ⟨⟨c.b0.trans sb, fun x u y => ?_, fun x u y => ?_, c.fr, c.dom, by simp [c.len], c.pre, c.new, c.nd, fun i x od z1 z2 => ?_, fun q tq => let ⟨g1, g2, g3⟩ := c.tab q tq; ⟨g1, by rw [upd_ne (fun z => g3 n (by rw [z]; exact em))]; exact g2, g3⟩⟩, sb, .refl, fun _ _ h _ _ => h, fun _ _ h => .inl h, fun _ h => h, fun x u y => ?_⟩
  · by_cases z : x = a
    · subst z; rw [upd_same] at y; cases y; exact h1
    · rw [upd_ne z] at y; exact c.sub _ _ y
  · by_cases z : x = a
    · subst z; exact .inr nH
    · rw [upd_ne z] at y; exact c.bnew _ _ y
  · by_cases hk : i = n
    · subst hk
      have hlt : i < S.length := (List.getElem?_eq_some_iff.mp e).1
      rw [List.getElem?_set_self hlt] at z2
      cases z2
      rw [em] at z1
      cases z1
      exact ⟨_, h1, trivial, fun z => absurd rfl z⟩
    · rw [List.getElem?_set_ne (fun z => hk z.symm)] at z2
      obtain ⟨o, q1, q2, q3⟩ := c.own i x od z1 z2
      refine ⟨o, q1, q2.mono sb .refl, fun g => ?_⟩
      rw [upd_ne (fun z => hk (c.nd i n a (by rw [← z]; exact z1) em))]
      exact q3 g
  · by_cases z : x = a
    · subst z; exact .inr (.inr ⟨n, em⟩)
    · rw [upd_ne z] at y; exact .inl y
theorem dpi_own (hlo : Ξ.lo = some 1) (he : DPE X Ξ e de) : DPI X Ξ tg e (dIterO de) := ⟨fun F ok => PI.imp (pi_any (he.run F ok)) fun σ H R ⟨B, m, S, env, Kp, cf, er, h, k⟩ => by
  refine ⟨B, m, S, env, _, cf, er, h, fun w S1 h0 v H1 B1 m1 n1 r => ?_⟩
  split at h0
  · rename_i n
    obtain ⟨hn, h0⟩ := h0
    obtain ⟨ws, e1, h0⟩ := onO_ex h0
    obtain ⟨ds, e2, h1⟩ := onO_ex h0
    have eS := lstAt_eq e1
    obtain ⟨a, vs, ea, em, hs, rr⟩ := n1.cf.lst r eS
    subst ea
    have n2 := n1.cf.freezeIn (Nat.le_trans (ok.l 1 hlo) hn) em eS hs
    rw [fzL_eq e2] at rr
    exact .inl ⟨_, rfl, ⟨_, .of hs⟩, k _ _ h1 _ _ _ _ (n1.trans n2) (dit_lst upd_same (rr.mono n2.sb .refl))⟩
  · obtain ⟨ws, e1, h1⟩ := onO_ex h0
    unfold itW at e1
    split at e1
    · cases e1
      cases r with | fz r => cases r with | lst s t => exact .inl ⟨_, rfl, ⟨_, .of (n1.cf.sub _ _ s)⟩, k _ _ h1 _ _ _ _ n1 (dit_lst s t.fz)⟩
    · cases e1
      cases r with | fz r => cases r with | tup s t => exact .inr (.inl ⟨_, rfl, ⟨_, n1.cf.sub.seqT s⟩, k _ _ h1 _ _ _ _ n1 (dit_tup s t.fz)⟩)
    · cases e1
      exact .inr (.inr ⟨_, r.str_of, k _ _ h1 _ _ _ _ n1 dit_str⟩)
    · cases e1
      cases r with | tp s t => exact .inr (.inl ⟨_, rfl, ⟨_, n1.cf.sub.seqT s⟩, k _ _ h1 _ _ _ _ n1 (dit_tup s t)⟩)
    · cases e1⟩
theorem dpi_range1 (hg : Gl X "range") (hm : X.mg "range" = none) (ha : DPA X Ξ [a] da) (hs : starEach [a] X.env = [(false, eval a X.env)] := by rfl) : DPI X Ξ tg (.Call (.Name "range" p) [a] [] pos) (dRng1 da) := ⟨fun F ok => PI.imp (pi_range1 hg hm (ha.run F ok) hs) fun σ H R ⟨B, m, S, env, Kp, cf, er, h, k⟩ => by
  refine ⟨B, m, S, env, _, cf, er, h, fun ws S1 h1 vs H1 B1 m1 n1 r => ?_⟩
  split at h1
  rotate_left
  · exact h1.elim
  obtain ⟨⟨l1, l2⟩, h1⟩ := h1
  obtain ⟨v, ev, rv⟩ := r.one
  subst ev
  exact ⟨_, by rw [rv.int_of], l1, l2, k _ _ h1 _ _ _ _ n1 dit_rng⟩⟩
theorem dpi_range2 (hg : Gl X "range") (hm : X.mg "range" = none) (ha : DPA X Ξ [a, b] da) (hs : starEach [a, b] X.env = [(false, eval a X.env), (false, eval b X.env)] := by rfl) (hs2 : starEach [b] X.env = [(false, eval b X.env)] := by rfl) :
    DPI X Ξ tg (.Call (.Name "range" p) [a, b] [] pos) (dRng2 da) := ⟨fun F ok => PI.imp (pi_range2 hg hm (ha.run F ok) hs hs2) fun σ H R ⟨B, m, S, env, Kp, cf, er, h, k⟩ => by
  refine ⟨B, m, S, env, _, cf, er, h, fun ws S1 h1 vs H1 B1 m1 n1 r => ?_⟩
  split at h1
  rotate_left
  · exact h1.elim
  obtain ⟨l1, h1⟩ := h1
  obtain ⟨v, u, ev, rv, ru⟩ := r.two
  subst ev
  exact ⟨_, _, by rw [rv.int_of, ru.int_of], l1, k _ _ h1 _ _ _ _ n1 dit_rng⟩⟩
end
/-! ### for -/
def loop (g : DG) (tb : DS) (D : DEnds) : List W → En → Sto → Prop
  | [] => fun env S => D.nx env S
  | w :: ws => fun env S => g w env S fun env1 S1 => tb { D with nx := loop g tb D ws, ct := loop g tb D ws, bk := D.nx } env1 S1
def dFor (di : DI) (g : DG) (tb : DS) : DS := fun D env S => di env S fun ws S1 => loop g tb D ws env S1
theorem dps_for {X : Cx} {Ξ : Xt} {tg iter : Expr} {body : List Stmt} {di : DI} {g : DG} {tb : DS} {pos : Pos} (hp : PassesOwn (model X.prog X.w) X.A X.env X.xe) (hc : X.calm = true) (hi : DPI X Ξ tg iter di) (hg : DPG X Ξ tg g) (hb : DPSs X Ξ body tb)
    (hs : ∀ x, foldedSetIterable iter X.env x = pure x := by intro _; rfl) : DPS X Ξ (.For tg iter body [] pos) (dFor di g tb) := ⟨fun F ok => PS.imp (ps_for hp hc (hi.run F ok) (hg.run F ok) (hb.run F ok) hs) fun D σ H ⟨B, m, S, env, E, cf, er, h, k1, k2, k3, k4⟩ => by
  refine ⟨B, m, S, env, _, cf, er, h, fun ws S1 h1 J H1 B1 m1 n1 J1 => ?_⟩
  refine ⟨fun i n σ G => n = ws.length - i ∧ i ≤ ws.length ∧ ∃ B2 m2 S2 env2, Nx X.K F B m H B2 m2 S2 G ∧ Sub B1 B2 ∧ Pre m1 m2 ∧ ER X.K B2 m2 env2 σ ∧ loop g tb E (ws.drop i) env2 S2, ⟨_, rfl, Nat.zero_le _, B1, m1, S1, env, n1, .refl, .refl, er.nx n1, by rw [List.drop_zero]; exact h1⟩, ?_⟩
  rintro i n σ2 H2 ⟨en, hi2, B2, m2, S2, env2, n2, sb, pr, er2, h2⟩
  by_cases hlt : i < ws.length
  · obtain ⟨hgo, hy⟩ := J1.go B2 m2 S2 H2 n2.cf sb pr i ws[i] (List.getElem?_eq_getElem hlt)
    rw [List.drop_eq_getElem_cons hlt] at h2
    refine .inr ⟨hgo, fun σ' G => ∃ B3 m3 S3 env3, Nx X.K F B m H B3 m3 S3 G ∧ Sub B1 B3 ∧ Pre m1 m3 ∧ ER X.K B3 m3 env3 σ' ∧ loop g tb E (ws.drop (i + 1)) env3 S3, fun σ' H' q => ⟨_, ?_, rfl, hlt, q⟩, fun x H3 y => ?_⟩
    · omega
    · obtain ⟨B3, n3, r3⟩ := hy x H3 y
      have nn := n2.trans n3
      refine ⟨B3, m2, S2, env2, ws[i], _, n3.cf, er2.nx n3, r3, h2, fun env4 S4 h4 σ4 H4 B4 m4 n4 er4 => ?_⟩
      have ag : KE X.K F (loop g tb E (ws.drop (i + 1))) B4 m4 H4 fun σ' G => ∃ B3 m3 S3 env3, Nx X.K F B m H B3 m3 S3 G ∧ Sub B1 B3 ∧ Pre m1 m3 ∧ ER X.K B3 m3 env3 σ' ∧ loop g tb E (ws.drop (i + 1)) env3 S3 :=
        fun env5 S5 h5 σ5 H5 B5 m5 n5 er5 => ⟨B5, m5, S5, env5, nn.trans (n4.trans n5), sb.trans (n3.sb.trans (n4.sb.trans n5.sb)), pr.trans (n3.pr.trans (n4.pr.trans n5.pr)), er5, h5⟩
      exact ⟨B4, m4, S4, env4, { E with nx := loop g tb E (ws.drop (i + 1)), ct := loop g tb E (ws.drop (i + 1)), bk := E.nx }, n4.cf, er4, h4, ag, k2.nx (nn.trans n4), k1.nx (nn.trans n4), ag⟩
  · have e : i = ws.length := by omega
    subst e
    rw [List.drop_length] at h2
    exact .inl ⟨J1.stop B2 m2 S2 H2 n2.cf sb pr, k1 _ _ h2 _ _ _ _ n2 er2⟩⟩
/-! ### comprehensions -/
structure DPTs (X : Cx) (Ξ : Xt) (ifs : List Expr) (dt : DT) : Prop where
  run : ∀ F : Fx, Okf X Ξ F → PTs X ifs (lT X.K F dt)
def dYes : DT := fun _ S Kp => Kp true S
theorem PTs.imp {X : Cx} {e : List Expr} {t t' : TT} (h : PTs X e t) (g : ∀ σ H Q, t' σ H Q → t σ H Q) : PTs X e t' := ⟨fun pins s σ H Q I q => h.run pins s σ H Q I (g _ _ _ q)⟩
theorem dpts_nil {X : Cx} {Ξ : Xt} : DPTs X Ξ [] dYes := ⟨fun F ok => PTs.imp pts_nil fun σ H Q ⟨B, m, S, env, Kp, cf, er, h, k⟩ => k _ _ h _ _ _ cf.nx⟩
theorem dpts_one {X : Cx} {Ξ : Xt} {c : Expr} {dt : DT} (h : DPT X Ξ c dt) : DPTs X Ξ [c] dt := ⟨fun F ok => pts_one (h.run F ok)⟩
/-- the items that come, in order; env0: the slots at each turn's beginning -/
def lcW (g : DG) (tt : DT) (te : DE) (env0 : En) : List W → Sto → (List W → Sto → Prop) → Prop
  | [], S, Kp => Kp [] S
  | w :: ws, S, Kp => g w env0 S fun env1 S1 => tt env1 S1 fun b S2 => ifB b (te env1 S2 fun y S3 => lcW g tt te env0 ws S3 fun ys S4 => Kp (y :: ys) S4) (lcW g tt te env0 ws S2 Kp)
def wipeD (env : En) : List Nat → En
  | [] => env
  | v :: vs => (wipeD env vs).set v none
/-- a target that stores in the block's own slots alone -/
def own (vs : List Nat) (g : DG) : Prop := ∀ (w : W) (env : En) (S : Sto) (Kp : En → Sto → Prop), g w (wipeD env vs) S Kp → g w (wipeD env vs) S fun env' S' => wipeD env' vs = wipeD env vs ∧ Kp env' S'
def dLc (o : Bool) (di : DI) (g : DG) (tt : DT) (te : DE) (vs : List Nat) : DE := fun env S Kp => di env S fun ws S1 => ws.length ≤ sizeLine ∧ lcW g tt te (wipeD env vs) ws S1 fun ys S2 => newL o ys S2 Kp
section
variable {K : PySem.W.Frag} {F : Fx} {B : Hp} {m : List Addr} {S : Sto} {H : Hp}
theorem ER.unset {env : En} {σ : L2.St} (e : ER K B m env σ) (i : Nat) : ER K B m (env.set i none) (σ.set i none) := by
  refine ⟨by simp [e.1], fun j u q => ?_⟩
  by_cases h : j = i
  · subst h
    have hl := (List.getElem?_eq_some_iff.mp q).1
    rw [List.length_set] at hl
    rw [List.getElem?_set_self hl] at q
    cases q
  · rw [List.getElem?_set_ne (Ne.symm h)] at q ⊢
    exact e.2 j u q
theorem ER.wipe {env : En} {σ : L2.St} (e : ER K B m env σ) : ∀ vs : List Nat, ER K B m (wipeD env vs) (L2.wipe σ vs)
  | [] => e
  | v :: vs => (ER.wipe e vs).unset v
/-- an object that the store does not know is laid or changed -/
theorem Nx.side {B' : Hp} {m' : List Addr} {S' : Sto} {H' : Hp} {D : Addr} {o : HO} (n : Nx K F B m H B' m' S' H') (f0 : F.H D = none) (nT : ¬ F.T D) (h0 : H D = none) (hb : B' D = none) (hm : ∀ i : Nat, m'[i]? ≠ some D) : Nx K F B m H B' m' S' (upd H' D o) := by
  have ne : ∀ (a : Addr) (u : HO), H a = some u → a ≠ D := fun a u e z => by rw [z, h0] at e; cases e
  have dm : ∀ a : Addr, upd H' D o a = none → H' a = none := fun a e => by
    by_cases h : a = D
    · subst h; rw [upd_same] at e; cases e
    · rw [upd_ne h] at e; exact e
  refine ⟨⟨n.cf.b0, fun a u e => ?_, n.cf.bnew, fun a u e nl nt => ?_, fun a e => n.cf.dom a (dm a e), n.cf.len, n.cf.pre, n.cf.new, n.cf.nd, fun i a od e1 e2 => ?_, fun q tq => let ⟨g1, g2, g3⟩ := n.cf.tab q tq; ⟨tabG_upd g1 fun z => nT (z ▸ tq), g2, g3⟩⟩, n.sb, n.pr, fun a u e nm nt => ?_, n.nw, fun a e => n.dm a (dm a e), n.bn⟩
  · rw [upd_ne (ne_of_none e hb)]; exact n.cf.sub a u e
  · rw [upd_ne (ne_of_none e f0)]; exact n.cf.fr a u e nl nt
  · obtain ⟨u, h1, h2, h3⟩ := n.cf.own i a od e1 e2
    have na : a ≠ D := fun z => hm i (by rw [← z]; exact e1)
    exact ⟨u, by rw [upd_ne na]; exact h1, h2, h3⟩
  · rw [upd_ne (ne a u e)]; exact n.kp a u e nm nt
/-- .. is known from now on -/
theorem Nx.adopt {B' : Hp} {m' : List Addr} {S' : Sto} {H' : Hp} {D : Addr} {o : HO} {od : OD} (n : Nx K F B m H B' m' S' H') (f0 : F.H D = none) (nT : ¬ F.T D) (h0 : H D = none) (hb : B' D = none) (hm : ∀ i : Nat, m'[i]? ≠ some D) (e : H' D = some o) (r : RO K B' m' od o) :
    Nx K F B m H B' (m' ++ [D]) (S' ++ [od]) H' := by
  have c := n.cf
  have cases_ : ∀ (k : Nat) (a : Addr), (m' ++ [D])[k]? = some a → m'[k]? = some a ∨ (k = m'.length ∧ a = D) := fun n a e => by
    by_cases h : n < m'.length
    · rw [List.getElem?_append_left h] at e; exact .inl e
    · rw [List.getElem?_append_right (by omega)] at e
      have h2 : n - m'.length = 0 := by
        cases q : n - m'.length with
        | zero => rfl
        | succ k => rw [q] at e; simp at e
      rw [h2] at e
      simp at e
      exact .inr ⟨by omega, e.symm⟩
  refine ⟨⟨c.b0, c.sub, c.bnew, c.fr, c.dom, by simp [c.len], fun k a e => Pre.app _ _ (c.pre k a e), fun k a e => ?_, fun i j a h1 h2 => ?_, fun k a od' h1 h2 => ?_, fun q tq => let ⟨g1, g2, g3⟩ := c.tab q tq; ⟨g1, g2, fun i e => (cases_ i q e).elim (g3 i) fun z => nT (z.2 ▸ tq)⟩⟩, n.sb, n.pr.trans .app, n.kp, fun k a e => ?_, n.dm, n.bn⟩
  · rcases cases_ k a e with e | ⟨_, e⟩
    · exact c.new k a e
    · subst e; exact .inr f0
  · rcases cases_ i a h1 with e1 | ⟨e1, f1⟩ <;> rcases cases_ j a h2 with e2 | ⟨e2, f2⟩
    · exact c.nd i j a e1 e2
    · subst f2; exact absurd e1 (hm i)
    · subst f1; exact absurd e2 (hm j)
    · omega
  · rcases cases_ k a h1 with e1 | ⟨e1, f1⟩
    · rw [List.getElem?_append_left (by have := (List.getElem?_eq_some_iff.mp e1).1; rw [← c.len]; exact this)] at h2
      obtain ⟨u, e', r', g⟩ := c.own k a od' e1 h2
      exact ⟨u, e', r'.mono .refl .app, g⟩
    · subst f1
      rw [List.getElem?_append_right (by rw [← c.len, e1]; exact Nat.le_refl _), e1, c.len, Nat.sub_self] at h2
      simp at h2
      subst h2
      exact ⟨o, e, r.mono .refl .app, fun _ => hb⟩
  · rcases cases_ k a e with e | ⟨_, e⟩
    · exact n.nw k a e
    · subst e; exact .inr h0
theorem Nx.adoptF {B' : Hp} {m' : List Addr} {S' : Sto} {H' : Hp} {D : Addr} {o : HO} (n : Nx K F B m H B' m' S' H') (f0 : F.H D = none) (nT : ¬ F.T D) (h0 : H D = none) (hb : B' D = none) (hm : ∀ i : Nat, m'[i]? ≠ some D) (e : H' D = some o) :
    Nx K F B m H (upd B' D o) m' S' H' := by
  have c := n.cf
  have sb : Sub B' (upd B' D o) := fun a u e => by rw [upd_ne (ne_of_none e hb)]; exact e
  refine ⟨⟨c.b0.trans sb, fun a u q => ?_, fun a u q => ?_, c.fr, c.dom, c.len, c.pre, c.new, c.nd, fun k a od' h1 h2 => ?_, fun q tq => let ⟨g1, g2, g3⟩ := c.tab q tq; ⟨g1, by rw [upd_ne (fun z : q = D => nT (z ▸ tq))]; exact g2, g3⟩⟩, n.sb.trans sb, n.pr, n.kp, n.nw, n.dm, fun a u q => ?_⟩
  · by_cases h : a = D
    · subst h; rw [upd_same] at q; cases q; exact e
    · rw [upd_ne h] at q; exact c.sub a u q
  · by_cases h : a = D
    · subst h; exact .inr f0
    · rw [upd_ne h] at q; exact c.bnew a u q
  · obtain ⟨u, e', r', g⟩ := c.own k a od' h1 h2
    exact ⟨u, e', r'.mono sb .refl, fun z => by
      have na : a ≠ D := fun y => hm k (by rw [← y]; exact h1)
      rw [upd_ne na]; exact g z⟩
  · by_cases h : a = D
    · subst h; exact .inr (.inl h0)
    · rw [upd_ne h] at q; exact n.bn a u q
theorem newL_adopt {B' : Hp} {m' : List Addr} {S' : Sto} {H' : Hp} {D : Addr} {o : Bool} {ws : List W} {vs : List V} {Kp : WK} {Q : VK} (n : Nx K F B m H B' m' S' H') (f0 : F.H D = none) (nT : ¬ F.T D) (h0 : H D = none) (hb : B' D = none) (hm : ∀ i : Nat, m'[i]? ≠ some D)
    (e : H' D = some (.lst vs)) (r : RWL K B' m' ws vs) (h : newL o ws S' Kp) (k : KW K F Kp B m H Q) : Q (.ref D) H' := by
  unfold newL at h
  split at h
  · have n2 := n.adopt (od := .lst ws) f0 nT h0 hb hm e ⟨vs, rfl, r⟩
    refine k _ _ h _ _ _ _ n2 (.hd ?_)
    rw [← n.cf.len, List.getElem?_append_right (Nat.le_refl _), Nat.sub_self]
    rfl
  · obtain ⟨ds, e1, h⟩ := onO_ex h
    have n2 := n.adoptF f0 nT h0 hb hm e
    have sb : Sub B' (upd B' D (.lst vs)) := fun a u e => by rw [upd_ne (ne_of_none e hb)]; exact e
    rw [fzL_eq e1] at r
    exact k _ _ h _ _ _ _ n2 (.fz (.lst upd_same ((r.mono sb .refl).fz)))
end
/-- a target that stores in the block's own slots alone: its reading over values, over data -/
def Lk (K : PySem.W.Frag) (g : TG) (dg : DG) (vs : List Nat) : Prop := ∀ (F : Fx) (B : Hp) (m : List Addr) (S : Sto) (H : Hp) (env : En) (σ : L2.St) (w : W) (v : V) (Kp : En → Sto → Prop) (Q : L2.St → Hp → Prop), Cf K F B m S H → ER K B m env (wipe σ vs) → RW K B m w v → dg w env S Kp →
  (∀ env' S', Kp env' S' → ∀ σ' : L2.St, wipe σ' vs = wipe σ vs → ∀ (H' B' : Hp) (m' : List Addr), Nx K F B m H B' m' S' H' → ER K B' m' env' σ' → Q σ' H') → g v (wipe σ vs) H Q
theorem wipe_wipe (σ : L2.St) : ∀ vs : List Nat, wipe (wipe σ vs) vs = wipe σ vs := by
  intro vs
  apply List.ext_getElem?
  intro j
  by_cases h : j ∈ vs
  · have z : ∀ (τ : L2.St) (us : List Nat), j ∈ us → (wipe τ us)[j]? = if j < τ.length then some none else none := fun τ us => by
      induction us with
      | nil => intro h; cases h
      | cons u us ih =>
        intro h
        unfold wipe
        by_cases hu : u = j
        · subst hu
          by_cases hl : u < τ.length
          · rw [if_pos hl, List.getElem?_set_self (by rw [wipe_length]; exact hl)]
          · rw [if_neg hl, List.getElem?_eq_none_iff, List.length_set, wipe_length]; omega
        · rw [List.getElem?_set_ne hu]
          exact ih ((List.mem_cons.mp h).resolve_left fun q => hu q.symm)
    rw [z _ _ h, z _ _ h, wipe_length]
  · rw [wipe_out h]
theorem wipe_set (σ : L2.St) (i : Nat) (x : Option V) : ∀ vs : List Nat, i ∈ vs → wipe ((wipe σ vs).set i x) vs = wipe σ vs := by
  intro vs h
  have z : ∀ (τ : L2.St) (us : List Nat), i ∈ us → wipe (τ.set i x) us = wipe τ us := fun τ us => by
    induction us with
    | nil => intro h; cases h
    | cons u us ih =>
      intro h
      unfold wipe
      by_cases hu : u ∈ us ∧ i ∈ us
      · rw [ih hu.2]
      · by_cases hi : i ∈ us
        · rw [ih hi]
        · have e : u = i := ((List.mem_cons.mp h).resolve_right hi).symm
          subst e
          have q : ∀ (ws : List Nat), u ∉ ws → wipe (τ.set u x) ws = (wipe τ ws).set u x := fun ws => by
            induction ws with
            | nil => intro _; rfl
            | cons w ws ih2 =>
              intro hn
              unfold wipe
              rw [ih2 fun z => hn (List.mem_cons_of_mem _ z), List.set_comm]
              intro z; exact hn (by rw [z]; exact List.mem_cons_self)
          rw [q us hi, List.set_set]
  rw [z _ _ h, wipe_wipe]
theorem lk_name {K : PySem.W.Frag} {i : Nat} {vs : List Nat} (h : i ∈ vs) : Lk K (gName i) (dgName i) vs := fun F B m S H env σ w v Kp Q c er r hg k =>
  k _ _ hg _ (wipe_set σ i _ vs h) _ _ _ c.nx (er.set i r)
/-- names of a tuple -/
def gNs : List Nat → TGs
  | [] => gNil
  | i :: is => gCons (gName i) (gNs is)
def dgNs : List Nat → DGs
  | [] => dgNil
  | i :: is => dgCons (dgName i) (dgNs is)
theorem lk_names {K : PySem.W.Frag} {n : Nat} {is vs : List Nat} (h : ∀ i ∈ is, i ∈ vs) : Lk K (gTup K n (gNs is)) (dgTup n (dgNs is)) vs := fun F B m S H env σ w v Kp Q c er r hg0 k => by
  obtain ⟨ws, e1, e2, hg⟩ := onO_ex hg0
  obtain ⟨a, us, ea, hs, rr⟩ := vT_ok r e1
  refine ⟨a, us, ea, c.sub.seqT hs, by rw [← rr.length, e2], ?_⟩
  have go : ∀ (is : List Nat), (∀ i ∈ is, i ∈ vs) → ∀ (ws : List W) (us : List V) (env1 : En) (σ1 : L2.St), wipe σ1 vs = wipe σ vs → ER K B m env1 σ1 → RWL K B m ws us → dgNs is ws env1 S Kp → gNs is us σ1 H Q := by
    intro is
    induction is with
    | nil =>
      intro _ ws us env1 σ1 hw er1 r1 hk
      cases ws with
      | cons _ _ => exact hk.elim
      | nil =>
      cases r1
      exact ⟨rfl, k _ _ hk _ hw _ _ _ c.nx er1⟩
    | cons i is ih =>
      intro hm ws us env1 σ1 hw er1 r1 hk
      cases ws with
      | nil => exact hk.elim
      | cons w ws' =>
      cases r1 with
      | cons r2 r3 =>
        refine ⟨_, _, rfl, ih (fun j hj => hm j (List.mem_cons_of_mem _ hj)) _ _ _ _ ?_ (er1.set i r2) r3 hk⟩
        have z : ∀ (us : List Nat), i ∈ us → ∀ x, wipe (σ1.set i x) us = wipe σ1 us := fun us h x => by
          have e : wipe (σ1.set i x) us = wipe (wipe (σ1.set i x) us) us := (wipe_wipe _ _).symm
          apply List.ext_getElem?
          intro j
          by_cases hj : j ∈ us
          · have zz : ∀ (τ : L2.St) (us : List Nat), j ∈ us → (wipe τ us)[j]? = if j < τ.length then some none else none := fun τ us => by
              induction us with
              | nil => intro h; cases h
              | cons u us ih =>
                intro h
                unfold wipe
                by_cases hu : u = j
                · subst hu
                  by_cases hl : u < τ.length
                  · rw [if_pos hl, List.getElem?_set_self (by rw [wipe_length]; exact hl)]
                  · rw [if_neg hl, List.getElem?_eq_none_iff, List.length_set, wipe_length]; omega
                · rw [List.getElem?_set_ne hu]
                  exact ih ((List.mem_cons.mp h).resolve_left fun q => hu q.symm)
            rw [zz _ _ hj, zz _ _ hj, List.length_set]
          · rw [wipe_out hj, wipe_out hj, List.getElem?_set_ne]
            intro q; exact hj (q ▸ h)
        rw [z vs (hm i List.mem_cons_self), hw]
  exact go is h ws us env (wipe σ vs) (wipe_wipe σ vs) er rr hg
section
variable {X : Cx} {Ξ : Xt} {elt tg iter : Expr} {ifs : List Expr} {scope : Scope} {ow : List (Str × Nat)} {pos : Pos} {di : DI} {g : TG} {dg : DG} {tt : DT} {te : DE}
theorem imp_lc (o : Bool) (vs : List Nat) (lk : Lk X.K g dg vs) {F : Fx} (σ : L2.St) (H : Hp) (Q : VK) (h : lE X.K F (dLc o di dg tt te vs) σ H Q) : tLc (lI X.K F di) g (lT X.K F tt) (lE X.K F te) vs σ H Q := by
  obtain ⟨B, m, S, env, Kp, cf, er, h, k⟩ := h
  refine ⟨B, m, S, env, _, cf, er, h, fun ws S1 ⟨hz, h1⟩ J H1 B1 m1 n1 J1 D hD => ?_⟩
  have fD : F.H D = none := n1.cf.dom D hD
  have bD : B1 D = none := by
    cases q : B1 D with
    | none => rfl
    | some u => rw [n1.cf.sub _ _ q] at hD; cases hD
  have mD : ∀ i : Nat, m1[i]? ≠ some D := n1.cf.notIn hD
  have nT : ¬ F.T D := fun tq => tab_ne (n1.cf.tab D tq).1 hD rfl
  have er0 : ER X.K B1 m1 (wipeD env vs) (wipe σ vs) := (er.nx n1).wipe vs
  refine ⟨fun i n G => n = ws.length - i ∧ i ≤ ws.length ∧ ∃ (B2 : Hp) (m2 : List Addr) (S2 : Sto) (aw : List W) (av : List V), Nx X.K F B1 m1 H1 B2 m2 S2 G ∧ B2 D = none ∧ (∀ j : Nat, m2[j]? ≠ some D) ∧ G D = some (.lst av) ∧ RWL X.K B2 m2 aw av ∧ aw.length ≤ i ∧
      lcW dg tt te (wipeD env vs) (ws.drop i) S2 fun ys S3 => newL o (aw ++ ys) S3 Kp, ⟨_, rfl, Nat.zero_le _, B1, m1, S1, [], [], n1.cf.nx.side fD nT hD bD mD, bD, mD, upd_same, .nil, Nat.le_refl _, by rw [List.drop_zero]; exact h1⟩, ?_⟩
  rintro i n G ⟨en, hi, B2, m2, S2, aw, av, n2, b2, mm2, eD, ra, la, h2⟩
  by_cases hlt : i < ws.length
  · obtain ⟨hgo, hy⟩ := J1.go B2 m2 S2 G n2.cf n2.sb n2.pr i ws[i] (List.getElem?_eq_getElem hlt)
    rw [List.drop_eq_getElem_cons hlt] at h2
    refine .inr ⟨hgo, fun G' => ∃ (B2 : Hp) (m2 : List Addr) (S2 : Sto) (aw : List W) (av : List V), Nx X.K F B1 m1 H1 B2 m2 S2 G' ∧ B2 D = none ∧ (∀ j : Nat, m2[j]? ≠ some D) ∧ G' D = some (.lst av) ∧ RWL X.K B2 m2 aw av ∧ aw.length ≤ i + 1 ∧
      lcW dg tt te (wipeD env vs) (ws.drop (i + 1)) S2 fun ys S3 => newL o (aw ++ ys) S3 Kp, fun G' q => ⟨_, ?_, rfl, hlt, q⟩, fun x G3 y => ?_⟩
    · omega
    · obtain ⟨B3, n3, r3⟩ := hy x G3 y
      -- a step keeps the list that grows
      have keep : ∀ {Ba Bb : Hp} {ma mb : List Addr} {Sb : Sto} {Ga Gb : Hp} {u : HO}, Nx X.K F Ba ma Ga Bb mb Sb Gb → Ga D = some u → Ba D = none → (∀ j : Nat, ma[j]? ≠ some D) → Gb D = some u ∧ Bb D = none ∧ ∀ j : Nat, mb[j]? ≠ some D := fun {Ba Bb ma mb Sb Ga Gb u} n hu hb hm => by
        refine ⟨n.kp D u hu hm nT, ?_, fun j z => ?_⟩
        · cases q : Bb D with
          | none => rfl
          | some w =>
            rcases n.bn D w q with y | y | ⟨j, y⟩
            · rw [hb] at y; cases y
            · rw [hu] at y; cases y
            · exact (hm j y).elim
        · rcases n.nw j D z with y | y
          · exact hm j y
          · rw [hu] at y; cases y
      obtain ⟨k1, k2, k3⟩ := keep n3 eD b2 mm2
      refine lk F B3 m2 S2 G3 (wipeD env vs) σ ws[i] x _ _ n3.cf ((er0.nx n2).nx n3) r3 h2 fun env4 S4 h4 σ4 hw4 G4 B4 m4 n4 er4 => ⟨hw4, ?_⟩
      obtain ⟨k4, k5, k6⟩ := keep n4 k1 k2 k3
      refine ⟨B4, m4, S4, env4, _, n4.cf, er4, h4, fun b S5 h5 G5 B5 m5 n5 => ?_⟩
      obtain ⟨k7, k8, k9⟩ := keep n5 k4 k5 k6
      have nn := n2.trans (n3.trans (n4.trans n5))
      replace h5 := ifB_if h5
      cases b with
      | false =>
        rw [if_neg Bool.false_ne_true] at h5 ⊢
        exact ⟨B5, m5, S5, aw, av, nn, k8, k9, k7, ((ra.nx n3).nx n4).nx n5, by omega, h5⟩
      | true =>
        rw [if_pos rfl] at h5 ⊢
        refine ⟨B5, m5, S5, env4, _, n5.cf, er4.nx n5, h5, fun w S6 h6 v G6 B6 m6 n6 r6 => ?_⟩
        obtain ⟨k10, k11, k12⟩ := keep n6 k7 k8 k9
        have ra6 := (((ra.nx n3).nx n4).nx n5).nx n6
        refine ⟨av, k10, by rw [← ra6.length]; omega, B6, m6, S6, aw ++ [w], av ++ [v], (nn.trans n6).side fD nT hD k11 k12, k11, k12, upd_same, ra6.append (.cons r6 .nil), by rw [List.length_append]; exact Nat.succ_le_succ la, ?_⟩
        refine cast (congrArg (lcW dg tt te (wipeD env vs) (List.drop (i + 1) ws) S6) (funext fun ys => funext fun S => ?_)) h6
        rw [List.append_assoc]
        rfl
  · have e : i = ws.length := by omega
    subst e
    rw [List.drop_length] at h2
    have h3 : newL o (aw ++ []) S2 Kp := h2
    rw [List.append_nil] at h3
    refine .inl ⟨J1.stop B2 m2 S2 G n2.cf n2.sb n2.pr, ?_⟩
    have hD0 : H D = none := n1.dm D hD
    exact newL_adopt (n1.trans n2) fD nT hD0 b2 mm2 eD ra h3 k
theorem dpe_lc (o : Bool) (lk : Lk X.K g dg (ow.map (·.2))) (hc : X.calm = true) (hN : X.N.Nodup) (hi : DPI X Ξ tg iter di) (bk : BlkOk X.N X.env.scope scope ow)
    (hg : ∀ (s : Shared) (H : Hp) (C : Addr) (cl : List (Str × Addr)) (fp : List Addr), PG (X.blk s H scope (compEnvC scope cl C X.env) fp) tg g) (ht : ∀ (s : Shared) (H : Hp) (C : Addr) (cl : List (Str × Addr)) (fp : List Addr), DPTs (X.blk s H scope (compEnvC scope cl C X.env) fp) Ξ.nox ifs tt)
    (he : ∀ (s : Shared) (H : Hp) (C : Addr) (cl : List (Str × Addr)) (fp : List Addr), DPE (X.blk s H scope (compEnvC scope cl C X.env) fp) Ξ.nox elt te) (hs : ∀ x, foldedSetIterable iter X.env x = pure x := by intro _; rfl) :
    DPE X Ξ (.ListComp elt [⟨tg, iter, ifs, 0⟩] scope pos) (dLc o di dg tt te (ow.map (·.2))) := ⟨fun F ok => PE.imp (pe_lc hc hN (hi.run F ok) bk hg (fun s H C cl fp => (ht s H C cl fp).run F ok.nox) (fun s H C cl fp => (he s H C cl fp).run F ok.nox) hs) (imp_lc o _ lk)⟩
theorem dps_setLc (o : Bool) {i : Nat} {y : Str} {py spos : Pos} (lk : Lk X.K g dg (ow.map (·.2))) (hc : X.calm = true) (hN : X.N.Nodup) (hy : X.N[i]? = some y) (hyl : X.env.scope.names.lookup y = some .local)
    (hsw : swapsWith (.ListComp elt [⟨tg, iter, ifs, 0⟩] scope pos) (some (.Name y py)) spos.line X.env = pure true) (hi : DPI X Ξ tg iter di) (bk : BlkOk X.N X.env.scope scope ow)
    (hg : ∀ (s : Shared) (H : Hp) (C : Addr) (cl : List (Str × Addr)) (fp : List Addr), PG (X.blk s H scope (compEnvC scope cl C X.env) fp) tg g) (ht : ∀ (s : Shared) (H : Hp) (C : Addr) (cl : List (Str × Addr)) (fp : List Addr), DPTs (X.blk s H scope (compEnvC scope cl C X.env) fp) Ξ.nox ifs tt)
    (he : ∀ (s : Shared) (H : Hp) (C : Addr) (cl : List (Str × Addr)) (fp : List Addr), DPE (X.blk s H scope (compEnvC scope cl C X.env) fp) Ξ.nox elt te) (hs : ∀ x, foldedSetIterable iter X.env x = pure x := by intro _; rfl) :
    DPS X Ξ (.Assign [.Name y py] (.ListComp elt [⟨tg, iter, ifs, 0⟩] scope pos) spos) (dAsg (dLc o di dg tt te (ow.map (·.2))) (dgName i)) := ⟨fun F ok => PS.imp (ps_setLc hc hN hy hyl hsw (hi.run F ok) bk hg (fun s H C cl fp => (ht s H C cl fp).run F ok.nox) (fun s H C cl fp => (he s H C cl fp).run F ok.nox) hs) fun D σ H ⟨B, m, S, env, E, cf, er, h, k1, k2, k3, k4⟩ => by
  refine imp_lc o _ lk σ H _ ⟨B, m, S, env, _, cf, er, h, fun w S1 h1 v H1 B1 m1 n1 r => ?_⟩
  exact k1 _ _ h1 _ _ _ _ n1 ((er.nx n1).set i r)⟩
end
end DL
/-! DL8: short words for the terms that gen.py prints -/
namespace DL
open PySem PySem.Spec PyProof.Rows L2

/-- built-in names that the text does not write over -/
structure Bi (mg : Str → Option Value) : Prop where
  len : mg "len" = none
  ord : mg "ord" = none
  isi : mg "isinstance" = none
  list : mg "list" = none
  tuple : mg "tuple" = none
  range : mg "range" = none
  int : mg "int" = none
  str : mg "str" = none
  bool : mg "bool" = none
  zip : mg "zip" = none
  sum : mg "sum" = none
  sorted : mg "sorted" = none
  all : mg "all" = none
  dict : mg "dict" = none
  set : mg "set" = none
  enum : mg "enumerate" = none
  rev : mg "reversed" = none
  repr : mg "repr" = none
  max : mg "max" = none
  min : mg "min" = none

section
variable {X : Cx} {Ξ : Xt} {a b c e o : Expr} {es : List Expr} {de da db dl dh : DE} {das : DA} {pos p apos p2 : Pos}
theorem e_len (bi : Bi X.mg) (ha : DPA X Ξ (e :: es) das) (hg : Gl X "len" := by rfl) (he : starEach (e :: es) X.env = (false, eval e X.env) :: starEach es X.env := by rfl) (hpl : (backTo pos (starEach es X.env)).any (·.1) = false := by rfl) : DPE X Ξ (.Call (.Name "len" p) (e :: es) [] pos) (dCB lenW das) := dpe_callB cd_len hg bi.len PySem.boot_len ha (by decide) (by decide) he hpl
theorem e_ord (bi : Bi X.mg) (ha : DPA X Ξ (e :: es) das) (hg : Gl X "ord" := by rfl) (he : starEach (e :: es) X.env = (false, eval e X.env) :: starEach es X.env := by rfl) (hpl : (backTo pos (starEach es X.env)).any (·.1) = false := by rfl) : DPE X Ξ (.Call (.Name "ord" p) (e :: es) [] pos) (dCB ordW das) := dpe_callB cd_ord hg bi.ord PyProof.Rows.boot_ord ha (by decide) (by decide) he hpl
theorem e_isi (bi : Bi X.mg) (ha : DPA X Ξ (e :: es) das) (hg : Gl X "isinstance" := by rfl) (he : starEach (e :: es) X.env = (false, eval e X.env) :: starEach es X.env := by rfl) (hpl : (backTo pos (starEach es X.env)).any (·.1) = false := by rfl) : DPE X Ξ (.Call (.Name "isinstance" p) (e :: es) [] pos) (dCB isiW das) := dpe_callB cd_isi hg bi.isi PyProof.Rows.boot_isinstance ha (by decide) (by decide) he hpl
theorem e_sum (bi : Bi X.mg) (hc : X.calm = true) (ha : DPA X Ξ (e :: es) das) (hg : Gl X "sum" := by rfl) (he : starEach (e :: es) X.env = (false, eval e X.env) :: starEach es X.env := by rfl) (hpl : (backTo pos (starEach es X.env)).any (·.1) = false := by rfl) : DPE X Ξ (.Call (.Name "sum" p) (e :: es) [] pos) (dCB sumW das) := dpe_callB (cd_sum hc) hg bi.sum PyProof.Rows.boot_sum ha (by decide) (by decide) he hpl
theorem e_all (bi : Bi X.mg) (hc : X.calm = true) (ha : DPA X Ξ (e :: es) das) (hg : Gl X "all" := by rfl) (he : starEach (e :: es) X.env = (false, eval e X.env) :: starEach es X.env := by rfl) (hpl : (backTo pos (starEach es X.env)).any (·.1) = false := by rfl) : DPE X Ξ (.Call (.Name "all" p) (e :: es) [] pos) (dCB allW das) := dpe_callB (cd_all hc) hg bi.all PyProof.Rows.boot_all ha (by decide) (by decide) he hpl
theorem e_int (bi : Bi X.mg) (ha : DPA X Ξ (e :: es) das) (hg : Gl X "int" := by rfl) (he : starEach (e :: es) X.env = (false, eval e X.env) :: starEach es X.env := by rfl) (hpl : (backTo pos (starEach es X.env)).any (·.1) = false := by rfl) : DPE X Ξ (.Call (.Name "int" p) (e :: es) [] pos) (dCB intW1 das) := dpe_callTy cd_int hg bi.int PyProof.Rows.boot_int ha (by decide) (by decide) he hpl
theorem e_list (own : Bool) (bi : Bi X.mg) (ha : DPA X Ξ (e :: es) das) (hg : Gl X "list" := by rfl) (he : starEach (e :: es) X.env = (false, eval e X.env) :: starEach es X.env := by rfl) (hpl : (backTo pos (starEach es X.env)).any (·.1) = false := by rfl) : DPE X Ξ (.Call (.Name "list" p) (e :: es) [] pos) (dCB (listW own) das) := dpe_callTy (cd_list own) hg bi.list PyProof.Rows.boot_list ha (by decide) (by decide) he hpl
theorem e_tuple (bi : Bi X.mg) (ha : DPA X Ξ (e :: es) das) (hg : Gl X "tuple" := by rfl) (he : starEach (e :: es) X.env = (false, eval e X.env) :: starEach es X.env := by rfl) (hpl : (backTo pos (starEach es X.env)).any (·.1) = false := by rfl) : DPE X Ξ (.Call (.Name "tuple" p) (e :: es) [] pos) (dCB tupleW das) := dpe_callTy cd_tuple hg bi.tuple PyProof.Rows.boot_tuple ha (by decide) (by decide) he hpl
theorem t_str (bi : Bi X.mg) (hg : Gl X "str" := by rfl) : DPE X Ξ (.Name "str" p) (dC (.ty .str)) := dpe_ty (n := .str) hg bi.str PyProof.Rows.boot_str
theorem t_int (bi : Bi X.mg) (hg : Gl X "int" := by rfl) : DPE X Ξ (.Name "int" p) (dC (.ty .int)) := dpe_ty (n := .int) hg bi.int PyProof.Rows.boot_int
theorem t_bool (bi : Bi X.mg) (hg : Gl X "bool" := by rfl) : DPE X Ξ (.Name "bool" p) (dC (.ty .bool)) := dpe_ty (n := .bool) hg bi.bool PyProof.Rows.boot_bool
theorem t_tuple (bi : Bi X.mg) (hg : Gl X "tuple" := by rfl) : DPE X Ξ (.Name "tuple" p) (dC (.ty .tuple)) := dpe_ty (n := .tuple) hg bi.tuple PyProof.Rows.boot_tuple
theorem t_list (bi : Bi X.mg) (hg : Gl X "list" := by rfl) : DPE X Ξ (.Name "list" p) (dC (.ty .list)) := dpe_ty (n := .list) hg bi.list PyProof.Rows.boot_list
theorem i_rng1 {tg : Expr} (bi : Bi X.mg) (ha : DPA X Ξ [a] das) (hg : Gl X "range" := by rfl) (hs : starEach [a] X.env = [(false, eval a X.env)] := by rfl) : DPI X Ξ tg (.Call (.Name "range" p) [a] [] pos) (dRng1 das) := dpi_range1 hg bi.range ha hs
theorem i_rng2 {tg : Expr} (bi : Bi X.mg) (ha : DPA X Ξ [a, b] das) (hg : Gl X "range" := by rfl) (hs : starEach [a, b] X.env = [(false, eval a X.env), (false, eval b X.env)] := by rfl) (hs2 : starEach [b] X.env = [(false, eval b X.env)] := by rfl) : DPI X Ξ tg (.Call (.Name "range" p) [a, b] [] pos) (dRng2 das) := dpi_range2 hg bi.range ha hs hs2
/-- one argument, two -/
theorem a1 (ha : DPE X Ξ a da) (hs : starEach [a] X.env = (false, eval a X.env) :: starEach [] X.env := by rfl) : DPA X Ξ [a] (dCons da dNil) := dpa_cons ha dpa_nil hs
/-- a name = e -/
theorem sset (i : Nat) {x : Str} {pos' : Pos} (hN : X.N.Nodup) (he : DPE X Ξ e de) (hi : X.N[i]? = some x := by rfl) (hx : Loc X.env.scope x := by first | exact Or.inl rfl | exact Or.inr rfl) (hs : swapsWith e (some (.Name x pos')) pos.line X.env = pure false := by rfl) (hf : X.fn x = true ∨ X.env.scope.names.lookup x = some .local := by first | exact .inl rfl | exact .inr rfl) :
    DPS X Ξ (.Assign [.Name x pos'] e pos) (dAsg de (dgName i)) := dps_set hN hi hx he hs hf
theorem gname (i : Nat) {x : Str} (hN : X.N.Nodup) (hi : X.N[i]? = some x := by rfl) (hx : Loc X.env.scope x := by first | exact Or.inl rfl | exact Or.inr rfl) (hf : X.fn x = true ∨ X.env.scope.names.lookup x = some .local := by first | exact .inl rfl | exact .inr rfl) : DPG X Ξ (.Name x pos) (dgName i) := dpg_name hN hi hx hf
theorem saug (i : Nat) {x : Str} {op : Operator} {dr : DR2} {pos' : Pos} (hN : X.N.Nodup) (he : DPE X Ξ e de) (ho : OpD X (inplaceOp op) dr) (hi : X.N[i]? = some x := by rfl) (hx : Loc X.env.scope x := by first | exact Or.inl rfl | exact Or.inr rfl) (hf : X.fn x = true ∨ X.env.scope.names.lookup x = some .local := by first | exact .inl rfl | exact .inr rfl) :
    DPS X Ξ (.AugAssign (.Name x pos') op e pos) (dAug i de dr) := dps_aug hN hi hx he ho hf
theorem e_lt (ha : DPE X Ξ a da) (hb : DPE X Ξ b db) : DPE X Ξ (.Compare a [.Lt] [b] pos) (dOp ltW da db) := dpe_cmp od_lt ha hb (nomark _)
theorem e_le (ha : DPE X Ξ a da) (hb : DPE X Ξ b db) : DPE X Ξ (.Compare a [.LtE] [b] pos) (dOp leW da db) := dpe_cmp od_le ha hb (nomark _)
theorem e_gt (ha : DPE X Ξ a da) (hb : DPE X Ξ b db) : DPE X Ξ (.Compare a [.Gt] [b] pos) (dOp gtW da db) := dpe_cmp od_gt ha hb (nomark _)
theorem e_ge (ha : DPE X Ξ a da) (hb : DPE X Ξ b db) : DPE X Ξ (.Compare a [.GtE] [b] pos) (dOp geW da db) := dpe_cmp od_ge ha hb (nomark _)
theorem e_eq {k : Nat} (hr : Room k X.A) (ha : DPE X Ξ a da) (hb : DPE X Ξ b db) : DPE X Ξ (.Compare a [.Eq] [b] pos) (dOp eqW da db) := dpe_cmp (od_eq hr.units) ha hb (nomark _)
theorem e_ne {k : Nat} (hr : Room k X.A) (ha : DPE X Ξ a da) (hb : DPE X Ξ b db) : DPE X Ξ (.Compare a [.NotEq] [b] pos) (dOp neW da db) := dpe_cmp (od_ne hr.units) ha hb (nomark _)
theorem e_isN (ha : DPE X Ξ a da) (hb : DPE X Ξ b db) : DPE X Ξ (.Compare a [.Is] [b] pos) (dOp isNW da db) := dpe_cmp od_isN ha hb (nomark _)
theorem e_notN (ha : DPE X Ξ a da) (hb : DPE X Ξ b db) : DPE X Ξ (.Compare a [.IsNot] [b] pos) (dOp notNW da db) := dpe_cmp od_notN ha hb (nomark _)
theorem e_isB (ha : DPE X Ξ a da) (hb : DPE X Ξ b db) : DPE X Ξ (.Compare a [.Is] [b] pos) (dOp isBW da db) := dpe_cmp od_isB ha hb (nomark _)
theorem e_notB (ha : DPE X Ξ a da) (hb : DPE X Ξ b db) : DPE X Ξ (.Compare a [.IsNot] [b] pos) (dOp notBW da db) := dpe_cmp od_notB ha hb (nomark _)
theorem c_lt (ha : DPE X Ξ a da) (hb : DPE X Ξ b db) : DPT X Ξ (.Compare a [.Lt] [b] pos) (dTst (dOp ltW da db)) := dpt_cmp od_lt ha hb (nomark _)
theorem c_le (ha : DPE X Ξ a da) (hb : DPE X Ξ b db) : DPT X Ξ (.Compare a [.LtE] [b] pos) (dTst (dOp leW da db)) := dpt_cmp od_le ha hb (nomark _)
theorem c_gt (ha : DPE X Ξ a da) (hb : DPE X Ξ b db) : DPT X Ξ (.Compare a [.Gt] [b] pos) (dTst (dOp gtW da db)) := dpt_cmp od_gt ha hb (nomark _)
theorem c_ge (ha : DPE X Ξ a da) (hb : DPE X Ξ b db) : DPT X Ξ (.Compare a [.GtE] [b] pos) (dTst (dOp geW da db)) := dpt_cmp od_ge ha hb (nomark _)
theorem c_eq {k : Nat} (hr : Room k X.A) (ha : DPE X Ξ a da) (hb : DPE X Ξ b db) : DPT X Ξ (.Compare a [.Eq] [b] pos) (dTst (dOp eqW da db)) := dpt_cmp (od_eq hr.units) ha hb (nomark _)
theorem c_ne {k : Nat} (hr : Room k X.A) (ha : DPE X Ξ a da) (hb : DPE X Ξ b db) : DPT X Ξ (.Compare a [.NotEq] [b] pos) (dTst (dOp neW da db)) := dpt_cmp (od_ne hr.units) ha hb (nomark _)
theorem c_isN (ha : DPE X Ξ a da) (hb : DPE X Ξ b db) : DPT X Ξ (.Compare a [.Is] [b] pos) (dTst (dOp isNW da db)) := dpt_cmp od_isN ha hb (nomark _)
theorem c_notN (ha : DPE X Ξ a da) (hb : DPE X Ξ b db) : DPT X Ξ (.Compare a [.IsNot] [b] pos) (dTst (dOp notNW da db)) := dpt_cmp od_notN ha hb (nomark _)
theorem c_isB (ha : DPE X Ξ a da) (hb : DPE X Ξ b db) : DPT X Ξ (.Compare a [.Is] [b] pos) (dTst (dOp isBW da db)) := dpt_cmp od_isB ha hb (nomark _)
theorem c_notB (ha : DPE X Ξ a da) (hb : DPE X Ξ b db) : DPT X Ξ (.Compare a [.IsNot] [b] pos) (dTst (dOp notBW da db)) := dpt_cmp od_notB ha hb (nomark _)
theorem e_add (own : Bool) (ha : DPE X Ξ a da) (hb : DPE X Ξ b db) : DPE X Ξ (.BinOp a .Add b pos) (dOp (addW own) da db) := dpe_op (od_add own) ha hb
theorem e_sub (ha : DPE X Ξ a da) (hb : DPE X Ξ b db) : DPE X Ξ (.BinOp a .Sub b pos) (dOp subW da db) := dpe_op od_sub ha hb
theorem e_mul (ha : DPE X Ξ a da) (hb : DPE X Ξ b db) : DPE X Ξ (.BinOp a .Mult b pos) (dOp mulW da db) := dpe_op od_mul ha hb
theorem e_mod (ha : DPE X Ξ a da) (hb : DPE X Ξ b db) : DPE X Ξ (.BinOp a .Mod b pos) (dOp modW da db) := dpe_op od_mod ha hb
theorem e_fdiv (ha : DPE X Ξ a da) (hb : DPE X Ξ b db) : DPE X Ξ (.BinOp a .FloorDiv b pos) (dOp fdivW da db) := dpe_op od_fdiv ha hb
theorem e_pow (ha : DPE X Ξ a da) (hb : DPE X Ξ b db) : DPE X Ξ (.BinOp a .Pow b pos) (dOp powW da db) := dpe_op od_pow ha hb
theorem e_ix (ha : DPE X Ξ a da) (hb : DPE X Ξ b db) (hs : PlainIx b := by exact fun _ _ => rfl) : DPE X Ξ (.Subscript a b pos) (dOp ixW da db) := dpe_ix ixd ha hb hs
/-! an item of a list stored -/
def setW : W → W → W → Sto → (Sto → Prop) → Prop := fun o i w S Kp => match o, i with
  | .hd n, .fz (.int k) => onO (lstAt S n) fun ws => onO (ixN ws.length k) fun j => Kp (S.set n (.lst (ws.set j w)))
  | _, _ => False
def dgSub (dO di : DE) : DG := fun w env S Kp => dO env S fun o S1 => di env S1 fun i S2 => setW o i w S2 fun S3 => Kp env S3
theorem dpg_sub {i : Expr} {dO di : DE} (ho : DPE X Ξ o dO) (hi : DPE X Ξ i di)
    (ha : ∀ v, assign (.Subscript o i pos) X.env v = (do
      let ov ← holding [v] (eval o X.env)
      let iv ← holding [v, ov] (eval i X.env)
      standAt pos
      holding [v, ov, iv] (setItem ov iv v)
      release [v, ov, iv] []) := by intro _; rfl) : DPG X Ξ (.Subscript o i pos) (dgSub dO di) := ⟨fun F ok => PG.imp (pg_sub (ho.run F ok) (hi.run F ok) set_list ha) fun v σ H Q ⟨B, m, S, env, w, Kp, cf, er, r, h, k⟩ => by
  refine ⟨B, m, S, env, _, cf, er, h, fun x S1 h1 vx H1 B1 m1 n1 rx => ⟨B1, m1, S1, env, _, n1.cf, er.nx n1, h1, fun y S2 h2 vy H2 B2 m2 n2 ry => ?_⟩⟩
  unfold setW at h2
  split at h2
  rotate_left
  · exact h2.elim
  obtain ⟨ws, e3, h2⟩ := onO_ex h2
  obtain ⟨jj, e4, h2⟩ := onO_ex h2
  replace e3 := lstAt_eq e3
  have nn := n1.trans n2
  obtain ⟨a, vs, ea, em, hs, rr⟩ := nn.cf.lst (rx.nx n2) e3
  have n3 := nn.cf.write (o := .lst (vs.set jj v)) (od := .lst (ws.set jj w)) em e3 (fun z => nomatch z) ⟨_, rfl, rr.set (r.nx nn)⟩
  exact ⟨a, vs, _, jj, ea, ry.int_of, hs, by rw [← rr.length]; exact e4, k _ _ h2 _ _ _ _ (nn.trans n3) ((er.nx nn).nx n3)⟩⟩
theorem ssub {i : Expr} {dO di : DE} {p1 : Pos} (ho : DPE X Ξ o dO) (hi : DPE X Ξ i di) (he : DPE X Ξ e de) (ha : ∀ v, assign (.Subscript o i p1) X.env v = (do
      let ov ← holding [v] (eval o X.env)
      let iv ← holding [v, ov] (eval i X.env)
      standAt p1
      holding [v, ov, iv] (setItem ov iv v)
      release [v, ov, iv] []) := by intro _; rfl) (hs : swapsWithSole [.Subscript o i p1] e pos.line X.env = pure false := by rfl) (hw : swappedStores [.Subscript o i p1] e X.env = pure none := by rfl)
    (h1 : (assignEach [.Subscript o i p1] X.env).map (·.2) = [assign (.Subscript o i p1) X.env] := by rfl) : DPS X Ξ (.Assign [.Subscript o i p1] e pos) (dAsg de (dgSub dO di)) := dps_asg he (dpg_sub ho hi ha) hs hw h1
end
end DL
/-! DL9: the drawing state; evaluation by simp -/
namespace DL
open PySem PySem.Spec PyProof.Rows L2

/-! ### defs of the text -/
structure Df (K : PySem.W.Frag) (mg : Str → Option Value) (x : Str) (st : Stmt) : Prop where
  ex : ∃ f fd, C8.Def K mg x st f fd ∧ fd.defaults = .none
section
variable {P : Program} {w : World} {K : PySem.W.Frag} {T : Addr → Prop} {mg : Str → Option Value} {base : Heap}
theorem Df.calp {x : Str} {st : Stmt} {N ps : List Str} {k : Nat} {Q : PSp} {ds : DS} (D : Df K mg x st) (hb : ∀ (kV doc pm : Value) (an : Option Addr) (cdv ct : Value) (us : List Value), us.length = ps.length → bindArgs (PySem.W.fnOf x x (C8.fnArgs st) (C8.fnBody st) (C8.fnScope st) .none kV doc pm an cdv ct) ⟨us, []⟩ = pure (ps.zip us))
    (S : FnScope N ps (C8.fnScope st)) (len : ∀ xs Kp, Q xs Kp → xs.length = ps.length)
    (hbody : ∀ (f : Addr) (cdv : Value) (A : Around) (outer : List Env) (s : Shared) (H : Hp) (E : XK), Room k (A.deeper (envOfC x (C8.fnScope st) s.heap.objs.size f cdv)) → DPSs (cxOf CX0 P w K mg base N x (C8.fnScope st) f cdv A outer s H E).nox (Xt.of T) (C8.fnBody st) ds)
    (hread : ∀ xs Kp, Q xs Kp → ds ⟨fun _ _ => Kp .non, fun u S' => onO (dW S' u) fun d => Kp d, fun _ _ => False, fun _ _ => False⟩ (startD N (xs.map W.fz)) []) : CalP P w K T mg base (k + 1) x Q := by
  obtain ⟨f, fd, F, df⟩ := D.ex
  exact DL.calp F (F.fn.binds df hb) S len (hbody f) hread
theorem Df.cald {x : Str} {st : Stmt} {N ps : List Str} {k : Nat} {dsp : DSp} {ds : DS} (D : Df K mg x st) (hb : ∀ (kV doc pm : Value) (an : Option Addr) (cdv ct : Value) (us : List Value), us.length = ps.length → bindArgs (PySem.W.fnOf x x (C8.fnArgs st) (C8.fnBody st) (C8.fnScope st) .none kV doc pm an cdv ct) ⟨us, []⟩ = pure (ps.zip us))
    (S : FnScope N ps (C8.fnScope st)) (len : ∀ ws lent Kp, dsp ws lent Kp → ws.length = ps.length)
    (hbody : ∀ (f : Addr) (cdv : Value) (A : Around) (outer : List Env) (s : Shared) (H : Hp) (E : XK), Room k (A.deeper (envOfC x (C8.fnScope st) s.heap.objs.size f cdv)) → DPSs (cxOf CX0 P w K mg base N x (C8.fnScope st) f cdv A outer s H E).nox (Xt.any T) (C8.fnBody st) ds)
    (hread : ∀ ws lent Kp, dsp ws lent Kp → ds ⟨fun _ S' => fin lent.length Kp (.fz .non) S', fin lent.length Kp, fun _ _ => False, fun _ _ => False⟩ (startD N ws) lent) : CalD P w K T mg base (k + 1) x dsp := by
  obtain ⟨f, fd, F, df⟩ := D.ex
  exact DL.cald F (F.fn.binds df hb) S len (hbody f) hread
/-- a promise that nobody can ask for -/
theorem Df.botD {x : Str} {st : Stmt} {ps : List Str} {dsp : DSp} (D : Df K mg x st) (hb : ∀ (kV doc pm : Value) (an : Option Addr) (cdv ct : Value) (us : List Value), us.length = ps.length → bindArgs (PySem.W.fnOf x x (C8.fnArgs st) (C8.fnBody st) (C8.fnScope st) .none kV doc pm an cdv ct) ⟨us, []⟩ = pure (ps.zip us))
    (h : ∀ ws S Kp, ¬ dsp ws S Kp) : CalD P w K T mg base 0 x dsp := by
  obtain ⟨f, fd, F, df⟩ := D.ex
  exact ⟨f, fd, ps, [], ⟨fun vs H Q E ⟨_, _, _, _, _, _, _, z, _⟩ => (h _ _ _ z).elim, fun A outer s H args us vs Q E _ _ _ _ ⟨_, _, _, _, _, _, _, z, _⟩ => (h _ _ _ z).elim⟩, F.mgf, F.kp, F.fn.binds df hb, .nil⟩
theorem Df.bot {x : Str} {st : Stmt} {ps : List Str} {Q : PSp} (D : Df K mg x st) (hb : ∀ (kV doc pm : Value) (an : Option Addr) (cdv ct : Value) (us : List Value), us.length = ps.length → bindArgs (PySem.W.fnOf x x (C8.fnArgs st) (C8.fnBody st) (C8.fnScope st) .none kV doc pm an cdv ct) ⟨us, []⟩ = pure (ps.zip us))
    (h : ∀ xs Kp, ¬ Q xs Kp) : CalP P w K T mg base 0 x Q := D.botD hb fun ws S Kp ⟨_, _, _, z⟩ => h _ _ z
end

/-! ### the state of the draws -/
def StOk (o : OD) : Prop := ∃ (a p : Int) (ns : List Int) (c : Int), o = .lst [.fz (.int a), .fz (.int p), .fz (.lst (ns.map D.int)), .fz (.int c)] ∧ 0 ≤ p ∧ ns.length ≤ 63
theorem StOk.ren {o : OD} (h : StOk o) (k n : Nat) : renOD k n o = o := by
  obtain ⟨a, p, ns, c, rfl, _⟩ := h
  rfl
/-- the state is lent; data in, data out -/
def psS (P : PSp) : DSp := fun ws S Kp => ∃ o ds, S = [o] ∧ StOk o ∧ ws = .hd 0 :: ds.map W.fz ∧ P ds fun d => ∀ o', StOk o' → Kp (.fz d) [o']
abbrev CalS (P : Program) (w : World) (K : PySem.W.Frag) (T : Addr → Prop) (mg : Str → Option Value) (base : Heap) (k : Nat) (x : Str) (ps : PSp) : Prop := CalD P w K T mg base k x (psS ps)
def dCallS (P : PSp) (da : DA) : DE := fun env S Kp => da env S fun ws S1 => match S1, ws with
  | o :: rest, .hd n :: ws' => (n = 0 ∧ StOk o) ∧ onO (fzL ws') fun ds => P ds fun d => ∀ o', StOk o' → StOk o' ∧ Kp (.fz d) (o' :: rest)
  | _, _ => False
def SK (Kp : WK) (rest : Sto) : WK := fun w S2 => match w, S2 with
  | .fz d, [o'] => StOk o' ∧ Kp (.fz d) (o' :: rest)
  | _, _ => False
theorem SK_ok {Kp : WK} {rest : Sto} {w : W} {S2 : Sto} (h : SK Kp rest w S2) : ∃ d o', w = .fz d ∧ S2 = [o'] ∧ StOk o' ∧ Kp (.fz d) (o' :: rest) := by
  unfold SK at h
  split at h
  · exact ⟨_, _, rfl, rfl, h⟩
  · cases h
theorem imp_callS {K : PySem.W.Frag} {F : Fx} {T : Addr → Prop} {P : PSp} {da : DA} {E : XK} (hT : F.T = T) (σ : L2.St) (H : Hp) (Q : VK) (h : lE K F (dCallS P da) σ H Q) : tCall (spD K T (psS P)) [] E (lA K F da) σ H Q := by
  subst hT
  obtain ⟨B, m, S, env, Kp, cf, er, h, kw⟩ := h
  refine ⟨B, m, S, env, _, cf, er, h, fun ws S1 h0 vs H1 B1 m1 n1 r => ?_⟩
  show spD K F.T (psS P) (vs ++ []) H1 Q E
  rw [List.append_nil]
  split at h0
  rotate_left
  · exact h0.elim
  rename_i o rest n ws'
  obtain ⟨⟨e0, so⟩, h0⟩ := h0
  obtain ⟨ds, e2, h1⟩ := onO_ex h0
  replace e2 := fzL_eq e2
  subst e0; subst e2
  have c0 := n1.cf.lend (k := 1) (lent := [o]) (Nat.succ_le_succ (Nat.zero_le _)) (by show [o] = [renOD 1 _ o]; rw [so.ren])
  have r' : RWL K B1 m1 (renL 1 (o :: rest).length (.hd 0 :: ds.map W.fz)) vs := by
    show RWL K B1 m1 (.hd 0 :: renL 1 (o :: rest).length (ds.map W.fz)) vs
    rw [renL_fz]
    exact r
  refine ⟨B1, m1.take 1, .hd 0 :: ds.map W.fz, [o], SK Kp rest, c0, r'.unren n1.cf.len, ⟨o, ds, rfl, so, rfl, h1⟩, fun w S2 h2 v H2 B2 m2 n2 r2 => ?_⟩
  obtain ⟨d, o', ew, eS, h2⟩ := SK_ok h2
  subst eS; subst ew
  have n3 := n1.cf.back (Nat.succ_le_succ (Nat.zero_le _)) n2
  obtain ⟨so', h2⟩ := h2
  have e3 : mrg 1 (o :: rest) [o'] = o' :: rest := by
    show (renOD 1 _ o' :: []) ++ rest ++ [] = _
    rw [so'.ren]
    simp
  rw [e3] at n3
  cases r2 with
  | fz r2 => exact kw _ _ h2 _ _ _ _ (n1.trans n3) (.fz r2)
section
variable {X : Cx} {Ξ : Xt} {k j : Nat} {x : Str} {P : PSp} {p pos : Pos} {e : Expr} {es : List Expr} {da : DA}
theorem dpe_callS (c : CalS X.prog X.w X.K Ξ.T X.mg X.base k x P) (hr : Room j X.A) (hk : k ≤ j) (hg : Gl X x) (ha : DPA X Ξ (e :: es) da)
    (hdb : (x == ("__debug__" : Str)) = false := by decide) (he : starEach (e :: es) X.env = (false, eval e X.env) :: starEach es X.env := by rfl) (hpl : (backTo pos (starEach es X.env)).any (·.1) = false := by rfl) :
    DPE X Ξ (.Call (.Name x p) (e :: es) [] pos) (dCallS P da) := ⟨fun F ok => PE.imp (C8.pe_c c hr hk hg (ha.run F ok) hdb he hpl) (imp_callS ok.t)⟩
end
section
variable {P : Program} {w : World} {K : PySem.W.Frag} {T : Addr → Prop} {mg : Str → Option Value} {base : Heap}
def retS (Kp : D → OD → Prop) (u : W) (S' : Sto) : Prop := match S', u with
  | o' :: _, .fz d => StOk o' ∧ Kp d o'
  | o' :: r, .hd (n + 1) => StOk o' ∧ onO (dW (o' :: r) (.hd (n + 1))) fun d => Kp d o'
  | _, _ => False
theorem retS_ex {Kp : D → OD → Prop} {u : W} {S' : Sto} (h : retS Kp u S') : ∃ o' r d, S' = o' :: r ∧ dW S' u = some d ∧ (∀ n : Nat, u = .hd n → 1 ≤ n) ∧ StOk o' ∧ Kp d o' := by
  unfold retS at h
  split at h
  · exact ⟨_, _, _, rfl, rfl, (fun _ z => nomatch z), h⟩
  · obtain ⟨so, h⟩ := h
    obtain ⟨d, e, h⟩ := onO_ex h
    exact ⟨_, _, d, rfl, e, (fun m z => by cases z; omega), so, h⟩
  · exact h.elim
/-- a list that may change is frozen; what stands before it stays -/
theorem Cf.freezeAt {F : Fx} {B : Hp} {m : List Addr} {S1 S2 : Sto} {H : Hp} (c : Cf K F B m (S1 ++ S2) H) (hl : F.L.length ≤ S1.length) (hb : S1.all (bdO S1.length) = true) {w : W} {v : V} {d : D} (r : RW K B m w v) (h : dW (S1 ++ S2) w = some d) (hn : ∀ n : Nat, w = .hd n → S1.length ≤ n) :
    ∃ B', Cf K F B' (m.take S1.length) S1 H ∧ Sub B B' ∧ Rp K B' d v ∧ ∀ (a : Addr) (o : HO), B' a = some o → B a = some o ∨ ∃ n : Nat, m[n]? = some a ∧ S1.length ≤ n := by
  have c0 : Cf K F B (m.take S1.length) S1 H := c.cut hl hb
  unfold dW at h
  split at h
  · cases h
    cases r with
    | fz r => exact ⟨B, c0, .refl, r, fun _ _ e => .inl e⟩
  · split at h
    · rename_i n _ ws e
      have hn := hn n rfl
      cases q : fzL ws with
      | none => rw [q] at h; cases h
      | some ds =>
        rw [q] at h
        cases h
        obtain ⟨a, vs, e1, em, h1, h2⟩ := c.lst r e
        subst e1
        have nB : B a = none := by
          obtain ⟨_, _, _, g⟩ := c.own n a _ em e
          exact g fun z => nomatch z
        have sb : Sub B (upd B a (.lst vs)) := fun x u y => by rw [upd_ne (ne_of_none y nB)]; exact y
        have nt : ∀ (i : Nat) (x : Addr), (m.take S1.length)[i]? = some x → x ≠ a := fun i x z e2 => by
          have hi : i < S1.length := by
            have := (List.getElem?_eq_some_iff.mp z).1
            rw [List.length_take] at this
            omega
          rw [List.getElem?_take_of_lt hi] at z
          have := c.nd i n a (by rw [← e2]; exact z) em
          omega
        have nH : F.H a = none := by
          rcases c.new n a em with z | z
          · have := (List.getElem?_eq_some_iff.mp z).1
            omega
          · exact z
        refine ⟨upd B a (.lst vs), ⟨c.b0.trans sb, fun x u y => ?_, fun x u y => ?_, c.fr, c.dom, c0.len, c0.pre, c0.new, c0.nd, fun i x od z1 z2 => ?_, fun q tq => let ⟨g1, g2, g3⟩ := c0.tab q tq; ⟨g1, by rw [upd_ne (fun z => (c.tab q tq).2.2 n (by rw [z]; exact em))]; exact g2, g3⟩⟩, sb, ?_, fun x u y => ?_⟩
        · by_cases z : x = a
          · subst z; rw [upd_same] at y; cases y; exact h1
          · rw [upd_ne z] at y; exact c.sub _ _ y
        · by_cases z : x = a
          · subst z; exact .inr nH
          · rw [upd_ne z] at y; exact c.bnew _ _ y
        · obtain ⟨o, q1, q2, q3⟩ := c0.own i x od z1 z2
          exact ⟨o, q1, q2.mono sb .refl, fun g => by rw [upd_ne (nt i x z1)]; exact q3 g⟩
        · rw [fzL_eq q] at h2
          exact .lst upd_same ((h2.mono sb .refl).fz)
        · by_cases z : x = a
          · subst z; exact .inr ⟨n, em, hn⟩
          · rw [upd_ne z] at y; exact .inl y
    · cases h
  · cases h
  · cases h
/-- THE RULE for a def that draws: the state in slot 0 -/
theorem Df.cals {x : Str} {st : Stmt} {N ps : List Str} {k : Nat} {Q : PSp} {ds : DS} (D : Df K mg x st) (hb : ∀ (kV doc pm : Value) (an : Option Addr) (cdv ct : Value) (us : List Value), us.length = ps.length → bindArgs (PySem.W.fnOf x x (C8.fnArgs st) (C8.fnBody st) (C8.fnScope st) .none kV doc pm an cdv ct) ⟨us, []⟩ = pure (ps.zip us))
    (S : FnScope N ps (C8.fnScope st)) (len : ∀ xs Kp, Q xs Kp → xs.length + 1 = ps.length)
    (hbody : ∀ (f : Addr) (cdv : Value) (A : Around) (outer : List Env) (s : Shared) (H : Hp) (E : XK), Room k (A.deeper (envOfC x (C8.fnScope st) s.heap.objs.size f cdv)) → DPSs (cxOf CX0 P w K mg base N x (C8.fnScope st) f cdv A outer s H E).nox (Xt.of T) (C8.fnBody st) ds)
    (hread : ∀ (o : OD) (xs : List DL.D) (Kp : DL.D → OD → Prop), StOk o → Q xs (fun d => ∀ o', StOk o' → Kp d o') → ds ⟨fun _ S' => retS Kp (.fz .non) S', fun u S' => retS Kp u S', fun _ _ => False, fun _ _ => False⟩ (startD N (.hd 0 :: xs.map W.fz)) [o]) : CalS P w K T mg base (k + 1) x Q := by
  have fl : ∀ o', StOk o' → ([o'] : Sto).all (bdO 1) = true := fun o' ⟨a, p, ns, c, e, _⟩ => by subst e; rfl
  obtain ⟨f, fd, F, df⟩ := D.ex
  refine C8.cal0 F (F.fn.binds df hb) .nil S (fun vs H Q' E ⟨B, L, ws, lent, Kp, _, r, ⟨o, xs, _, _, e, h⟩, _⟩ => by rw [← r.length, e, List.length_cons, List.length_map]; exact len _ _ h) fun cdv A outer s H vs Q' E hr ⟨B, L, ws, lent, Kp, c, r, ⟨o, xs, e1, so, e2, h⟩, kw⟩ => ?_
  subst e1; subst e2
  have hL : L.length = 1 := c.len
  refine ⟨_, (hbody f cdv A outer s H E hr).run ⟨B, H, L, T⟩ (.of rfl (by show L.length ≤ 1; omega)), B, L, [o], _, _, c, ER.start r, hread o xs (fun d o' => Kp (.fz d) [o']) so h, ?_, ?_, fun _ _ z => z.elim, fun _ _ z => z.elim⟩
  · rintro env S' hk0 σ' H' B' m' n er
    obtain ⟨o', r, d, eS, ed, _, so', hk⟩ := retS_ex hk0
    cases ed
    subst eS
    exact kw _ _ hk _ _ _ _ (Nx.cut (S1 := [o']) (S2 := r) n (by show L.length ≤ 1; omega) (fl o' so') (by show L.length ≤ 1; omega)) (.fz .non)
  · rintro u S' hk0 v H' B' m' n r'
    obtain ⟨o', r, d, eS, eu, hn, so', hk⟩ := retS_ex hk0
    subst eS
    have n2 := Nx.cut (S1 := [o']) (S2 := r) n (by show L.length ≤ 1; omega) (fl o' so') (by show L.length ≤ 1; omega)
    obtain ⟨B2, c2, sb2, r2, bn2⟩ := Cf.freezeAt (S1 := [o']) (S2 := r) n.cf (by show L.length ≤ 1; omega) (fl o' so') r' eu hn
    refine kw _ _ hk _ _ _ _ ⟨c2, n2.sb.trans sb2, n2.pr, n2.kp, n2.nw, n2.dm, fun a o e => ?_⟩ (.fz r2)
    rcases bn2 a o e with q | ⟨i, q, hi⟩
    · exact n.bn a o q
    · rcases n.nw i a q with z | z
      · have := (List.getElem?_eq_some_iff.mp z).1
        have hi : 1 ≤ i := hi
        omega
      · exact .inr (.inl z)
end
end DL
/-! DL10: evaluation -/
namespace DL
open PySem PySem.Spec PyProof.Rows L2

theorem sz {n : Nat} (h : Nat.ble n 1000 = true) : n ≤ sizeLine := Nat.le_trans (Nat.le_of_ble_eq_true h) (by decide)
theorem onO_at {α : Type} {l : List α} {i : Int} {k : α → Prop} (h0 : 0 ≤ i) (h1 : i < l.length) (h : ∀ x, l[i.toNat]? = some x → k x) : onO (atI l i) k := by
  have hl : i.toNat < l.length := by omega
  have e : l[i.toNat]? = some l[i.toNat] := List.getElem?_eq_getElem hl
  have q := atI_nat e
  rw [Int.toNat_of_nonneg h0] at q
  rw [q]
  exact h _ e
theorem posL {j : Int} (h : decide (0 < j) = true) : 0 < j := of_decide_eq_true h
theorem powL {i j : Int} (h : decide (0 ≤ j ∧ j ≤ 1000000 ∧ i.natAbs < 2 ^ 64) = true) : CPow i j := of_decide_eq_true (p := 0 ≤ j ∧ j ≤ 1000000 ∧ i.natAbs < 2 ^ 64) h
theorem mulR {i j : Int} (h : decide (-(2 ^ 64) < j ∧ j < 2 ^ 64) = true) : CMulX i j := .inl (.inr (of_decide_eq_true h))
theorem mulR' {i j : Int} (h : -(2 ^ 64) < j ∧ j < 2 ^ 64) : CMulX i j := .inl (.inr h)
theorem divW {i j : Int} (h0 : 0 < j) (h : j ≤ 10 ^ 40) : CDivW i j := by
  have e : (10 : Int) ^ 40 < 2 ^ 200 := by decide
  have h2 : j.natAbs < 2 ^ 200 := by
    have e2 : ((2 ^ 200 : Nat) : Int) = 2 ^ 200 := by decide
    omega
  exact ⟨h0, PySem.Flt.log2_lt_of (by decide) (Nat.lt_of_lt_of_le h2 (Nat.pow_le_pow_right (by decide) (by decide)))⟩
/-! ### comprehensions -/
section
variable {g : DG} {tt : DT} {te : DE} {env0 : En} {S : Sto}
theorem lcW_filter (f : W → W) (p : W → Bool) {ws : List W} {Kp : List W → Sto → Prop}
    (h : ∀ w ∈ ws, ∀ (A : WK) (Bf : Sto → Prop), (if p w = true then A (f w) S else Bf S) → g w env0 S fun env1 S1 => tt env1 S1 fun b S2 => ifB b (te env1 S2 A) (Bf S2)) (hk : Kp ((ws.filter p).map f) S) : lcW g tt te env0 ws S Kp := by
  induction ws generalizing Kp with
  | nil => exact hk
  | cons w ws ih =>
    have ih' := fun (K2 : List W → Sto → Prop) (k2 : K2 ((ws.filter p).map f) S) => ih (Kp := K2) (fun u hu => h u (List.mem_cons_of_mem _ hu)) k2
    refine h w List.mem_cons_self (fun y S3 => lcW g tt te env0 ws S3 fun ys S4 => Kp (y :: ys) S4) (fun S2 => lcW g tt te env0 ws S2 Kp) ?_
    by_cases hp : p w = true
    · rw [if_pos hp]
      refine ih' _ ?_
      rw [List.filter_cons_of_pos hp] at hk
      exact hk
    · rw [if_neg hp]
      refine ih' _ ?_
      rw [List.filter_cons_of_neg hp] at hk
      exact hk
theorem lcW_map (f : W → W) {ws : List W} {Kp : List W → Sto → Prop}
    (h : ∀ w ∈ ws, ∀ (A : WK) (Bf : Sto → Prop), A (f w) S → g w env0 S fun env1 S1 => tt env1 S1 fun b S2 => ifB b (te env1 S2 A) (Bf S2)) (hk : Kp (ws.map f) S) : lcW g tt te env0 ws S Kp := by
  refine lcW_filter f (fun _ => true) (fun w hw A Bf q => h w hw A Bf (by simpa using q)) ?_
  rw [List.filter_eq_self.mpr fun _ _ => rfl]
  exact hk
/-- each element draws -/
theorem lcW_draw (R : W → D → Prop) {ws : List W} {o : OD} {rest : Sto} {Kp : List W → Sto → Prop} (so : StOk o)
    (h : ∀ w ∈ ws, ∀ (o : OD) (A : WK) (Bf : Sto → Prop), StOk o → (∀ d o', R w d → StOk o' → A (.fz d) (o' :: rest)) → g w env0 (o :: rest) fun env1 S1 => tt env1 S1 fun b S2 => ifB b (te env1 S2 A) (Bf S2))
    (hk : ∀ (ds : List D) (o' : OD), ds.length = ws.length → (∀ d ∈ ds, ∃ w ∈ ws, R w d) → StOk o' → Kp (ds.map .fz) (o' :: rest)) : lcW g tt te env0 ws (o :: rest) Kp := by
  induction ws generalizing o Kp with
  | nil => exact hk [] o rfl (by simp) so
  | cons w ws ih =>
    refine h w List.mem_cons_self o (fun y S3 => lcW g tt te env0 ws S3 fun ys S4 => Kp (y :: ys) S4) (fun S2 => lcW g tt te env0 ws S2 Kp) so fun d o' r so' => ?_
    refine ih so' (fun u hu => h u (List.mem_cons_of_mem _ hu)) fun ds o'' hl hr so'' => ?_
    refine hk (d :: ds) o'' (by simp [hl]) (fun x hx => ?_) so''
    rcases List.mem_cons.mp hx with e | e
    · subst e; exact ⟨w, List.mem_cons_self, r⟩
    · obtain ⟨u, hu, q⟩ := hr x e
      exact ⟨u, List.mem_cons_of_mem _ hu, q⟩
end
/-! ### loops -/
/-- a loop by its invariant over the items that are left -/
theorem loop_inv {g : DG} {tb : DS} {E : DEnds} (I : List W → En → Sto → Prop) {ws : List W} {env : En} {S : Sto} (h0 : I ws env S) (hn : ∀ env S, I [] env S → E.nx env S)
    (hs : ∀ (w : W) (ws : List W) (env : En) (S : Sto) (N : En → Sto → Prop), I (w :: ws) env S → (∀ env' S', I ws env' S' → N env' S') → g w env S fun env1 S1 => tb { E with nx := N, ct := N, bk := E.nx } env1 S1) : loop g tb E ws env S := by
  induction ws generalizing env S with
  | nil => exact hn env S h0
  | cons w ws ih => exact hs w ws env S _ h0 fun env' S' h => ih h
/-- a loop that folds: the slots are a function of what was reckoned -/
theorem loop_fold {α : Type} {g : DG} {tb : DS} {E : DEnds} (f : α → W → α) (envOf : Option W → α → En) (stOf : α → Sto) {ws : List W} {a : α} {w0 : Option W}
    (hn : ∀ w', E.nx (envOf w' (ws.foldl f a)) (stOf (ws.foldl f a)))
    (hs : ∀ w ∈ ws, ∀ (w0 : Option W) (a : α) (N : En → Sto → Prop), N (envOf (some w) (f a w)) (stOf (f a w)) → g w (envOf w0 a) (stOf a) fun env1 S1 => tb { E with nx := N, ct := N, bk := E.nx } env1 S1) : loop g tb E ws (envOf w0 a) (stOf a) := by
  induction ws generalizing a w0 with
  | nil => exact hn w0
  | cons w ws ih => exact hs w List.mem_cons_self w0 a _ (ih hn fun u hu => hs u (List.mem_cons_of_mem _ hu))
/-! ### operations at known constructors -/
section
variable {own : Bool} {S : Sto} {Kp : WK}
theorem addW_tup {i j : List D} (h1 : i.length + j.length ≤ sizeLine) (h2 : Kp (.fz (.tup (i ++ j))) S) : addW own (.fz (.tup i)) (.fz (.tup j)) S Kp := by
  refine ⟨by simpa using h1, ?_⟩
  rw [← List.map_append, mkT_fz]
  exact h2
theorem newL_F {ds : List D} (h : Kp (.fz (.lst ds)) S) : newL false (ds.map .fz) S Kp := by
  show onO (fzL (ds.map .fz)) _
  rw [fzL_map]
  exact h
theorem addW_lst {i j : List D} (h1 : i.length + j.length ≤ sizeLine) (h2 : Kp (.fz (.lst (i ++ j))) S) : addW false (.fz (.lst i)) (.fz (.lst j)) S Kp := by
  refine ⟨by simpa using h1, ?_⟩
  rw [← List.map_append]
  exact newL_F h2
end
end DL
/-! DL11: what the top has written; the law's end -/
namespace DL
open PySem PySem.Spec PyProof.Rows L2

section
variable {P : Program} {w : World} {K : PySem.W.Frag} {T : Addr → Prop} {mg : Str → Option Value} {base : Heap}
/-- THE RULE for a def to which nothing is lent, the promise of the very function -/
theorem fnp {x : Str} {st : Stmt} {f : Addr} {fd : FuncData} {N ps : List Str} {k : Nat} {Q : PSp} {ds : DS} (F : C8.Fun K x x st f fd) (S : FnScope N ps (C8.fnScope st))
    (len : ∀ xs Kp, Q xs Kp → xs.length = ps.length)
    (hbody : ∀ (cdv : Value) (A : Around) (outer : List Env) (s : Shared) (H : Hp) (E : XK), Room k (A.deeper (envOfC x (C8.fnScope st) s.heap.objs.size f cdv)) → DPSs (cxOf CX0 P w K mg base N x (C8.fnScope st) f cdv A outer s H E).nox (Xt.of T) (C8.fnBody st) ds)
    (hread : ∀ xs Kp, Q xs Kp → ds ⟨fun _ _ => Kp .non, fun u S' => onO (dW S' u) fun d => Kp d, fun _ _ => False, fun _ _ => False⟩ (startD N (xs.map W.fz)) []) : FnOk P w K mg base CX0 (k + 1) f fd ps (spD K T (psp Q)) := by
  refine C8.fn0 F S (fun vs H Q' E ⟨B, L, ws, lent, Kp, _, r, ⟨xs, e, _, h⟩, _⟩ => by rw [← r.length, e, List.length_map]; exact len _ _ h) fun cdv A outer s H vs Q' E hr ⟨B, L, ws, lent, Kp, c, r, ⟨xs, e, e2, h⟩, kw⟩ => ?_
  subst e; subst e2
  have hL : L = [] := List.eq_nil_of_length_eq_zero c.len
  subst hL
  refine ⟨_, (hbody cdv A outer s H E hr).run ⟨B, H, [], T⟩ (.of rfl), B, [], [], _, _, c, ER.start r, hread xs _ h, ?_, ?_, fun _ _ z => z.elim, fun _ _ z => z.elim⟩
  · rintro env S' hk σ' H' B' m' n er
    have n2 := Nx.cut (S1 := []) (S2 := S') n (Nat.le_refl _) rfl (Nat.le_refl _)
    rw [List.length_nil, List.take_zero] at n2
    exact kw _ _ hk _ _ _ _ n2 (.fz .non)
  · rintro u S' hk v H' B' m' n r'
    obtain ⟨d, hd, hk⟩ := onO_ex hk
    obtain ⟨B2, c2, sb2, r2⟩ := n.cf.freeze rfl r' hd
    exact kw _ _ hk _ _ _ _ ⟨c2, n.sb.trans sb2, .refl, n.kp, fun _ _ h => .inl h, n.dm, fun a o e => (c2.bnew a o e).imp id .inl⟩ (.fz r2)
end
/-- a def as the top has written it -/
structure DfIn (K : PySem.W.Frag) (x : Str) (st : Stmt) : Prop where
  ex : ∃ (f : Addr) (od an : Option Addr) (sl : Array (Option Value)) (oc kV dc pm cd ct : Value), PySem.W.nsIn K mainGlobals x = some (some (.ref f)) ∧
    K.lookup f = some ⟨oc, od, .func (PySem.W.fnOf x x (C8.fnArgs st) (C8.fnBody st) (C8.fnScope st) .none kV dc pm an cd ct), sl⟩ ∧ PySem.W.codeIn K cd x = true ∧ PySem.W.keepIn K (.ref f) = true
theorem dfin {K : PySem.W.Frag} {x : Str} {st : Stmt} {f : Addr} {od an : Option Addr} {sl : Array (Option Value)} {oc kV dc pm cd ct : Value} (a : PySem.W.nsIn K mainGlobals x = some (some (.ref f)))
    (l : K.lookup f = some ⟨oc, od, .func (PySem.W.fnOf x x (C8.fnArgs st) (C8.fnBody st) (C8.fnScope st) .none kV dc pm an cd ct), sl⟩) (c : PySem.W.codeIn K cd x = true) (k : PySem.W.keepIn K (.ref f) = true) : DfIn K x st :=
  ⟨f, od, an, sl, oc, kV, dc, pm, cd, ct, a, l, c, k⟩
theorem DfIn.df {K : PySem.W.Frag} {x : Str} {st : Stmt} {h : Heap} {mg : Str → Option Value} (D : DfIn K x st) (X : K.In h) (G : h.Ns mainGlobals mg) : Df K mg x st := by
  obtain ⟨f, od, an, sl, oc, kV, dc, pm, cd, ct, a, l, c, k⟩ := D.ex
  exact ⟨f, _, ⟨⟨oc, od, .none, kV, dc, pm, an, cd, ct, sl, rfl, l, c⟩, PySem.W.mg_of X G a, k⟩, rfl⟩
structure BiIn (K : PySem.W.Frag) : Prop where
  len : PySem.W.nsIn K mainGlobals "len" = some none
  ord : PySem.W.nsIn K mainGlobals "ord" = some none
  isi : PySem.W.nsIn K mainGlobals "isinstance" = some none
  list : PySem.W.nsIn K mainGlobals "list" = some none
  tuple : PySem.W.nsIn K mainGlobals "tuple" = some none
  range : PySem.W.nsIn K mainGlobals "range" = some none
  int : PySem.W.nsIn K mainGlobals "int" = some none
  str : PySem.W.nsIn K mainGlobals "str" = some none
  bool : PySem.W.nsIn K mainGlobals "bool" = some none
  zip : PySem.W.nsIn K mainGlobals "zip" = some none
  sum : PySem.W.nsIn K mainGlobals "sum" = some none
  sorted : PySem.W.nsIn K mainGlobals "sorted" = some none
  all : PySem.W.nsIn K mainGlobals "all" = some none
  dict : PySem.W.nsIn K mainGlobals "dict" = some none
  set : PySem.W.nsIn K mainGlobals "set" = some none
  enum : PySem.W.nsIn K mainGlobals "enumerate" = some none
  rev : PySem.W.nsIn K mainGlobals "reversed" = some none
  repr : PySem.W.nsIn K mainGlobals "repr" = some none
  max : PySem.W.nsIn K mainGlobals "max" = some none
  min : PySem.W.nsIn K mainGlobals "min" = some none
theorem BiIn.bi {K : PySem.W.Frag} {h : Heap} {mg : Str → Option Value} (b : BiIn K) (X : K.In h) (G : h.Ns mainGlobals mg) : Bi mg :=
  ⟨PySem.W.mg_none_of X G b.len, PySem.W.mg_none_of X G b.ord, PySem.W.mg_none_of X G b.isi, PySem.W.mg_none_of X G b.list, PySem.W.mg_none_of X G b.tuple, PySem.W.mg_none_of X G b.range, PySem.W.mg_none_of X G b.int, PySem.W.mg_none_of X G b.str, PySem.W.mg_none_of X G b.bool,
   PySem.W.mg_none_of X G b.zip, PySem.W.mg_none_of X G b.sum, PySem.W.mg_none_of X G b.sorted, PySem.W.mg_none_of X G b.all, PySem.W.mg_none_of X G b.dict, PySem.W.mg_none_of X G b.set, PySem.W.mg_none_of X G b.enum, PySem.W.mg_none_of X G b.rev, PySem.W.mg_none_of X G b.repr,
   PySem.W.mg_none_of X G b.max, PySem.W.mg_none_of X G b.min⟩
/-- a law: a script of at most 63 ints is handed in, True comes out -/
def spLaw : PSp := fun ds Q => ∃ ns : List Int, ds = [.scr ns] ∧ ns.length ≤ 63 ∧ Q (.bl true)
/-! ### generator expressions: the def's code object and its table -/
/-- the code object of the running def has a table that is known -/
def GnC (base : Heap) (mg : Str → Option Value) (T : Addr → Prop) (cdv : Value) : Prop := ∃ c p : Addr, cdv = .ref c ∧ GxR.TabB base mg c p ∧ T p
/-- .. of the def of the module x -/
structure Gn (K : PySem.W.Frag) (T : Addr → Prop) (mg : Str → Option Value) (base : Heap) (x : Str) : Prop where
  ex : ∃ c p : Addr, GxR.TabB base mg c p ∧ T p ∧ ∀ (f : Addr) (oc : Value) (od : Option Addr) (fd : FuncData) (sl : Array (Option Value)), mg x = some (.ref f) → K.lookup f = some ⟨oc, od, .func fd, sl⟩ → fd.code = .ref c
section
variable {P : Program} {w : World} {K : PySem.W.Frag} {T : Addr → Prop} {mg : Str → Option Value} {base : Heap}
theorem Df.calpG {x : Str} {st : Stmt} {N ps : List Str} {k : Nat} {Q : PSp} {ds : DS} (D : Df K mg x st) (G : Gn K T mg base x) (hb : ∀ (kV doc pm : Value) (an : Option Addr) (cdv ct : Value) (us : List Value), us.length = ps.length → bindArgs (PySem.W.fnOf x x (C8.fnArgs st) (C8.fnBody st) (C8.fnScope st) .none kV doc pm an cdv ct) ⟨us, []⟩ = pure (ps.zip us))
    (S : FnScope N ps (C8.fnScope st)) (len : ∀ xs Kp, Q xs Kp → xs.length = ps.length)
    (hbody : ∀ (f : Addr) (cdv : Value) (A : Around) (outer : List Env) (s : Shared) (H : Hp) (E : XK), GnC base mg T cdv → Room k (A.deeper (envOfC x (C8.fnScope st) s.heap.objs.size f cdv)) → DPSs (cxOf CX0 P w K mg base N x (C8.fnScope st) f cdv A outer s H E).nox (Xt.of T) (C8.fnBody st) ds)
    (hread : ∀ xs Kp, Q xs Kp → ds ⟨fun _ _ => Kp .non, fun u S' => onO (dW S' u) fun d => Kp d, fun _ _ => False, fun _ _ => False⟩ (startD N (xs.map W.fz)) []) : CalP P w K T mg base (k + 1) x Q := by
  obtain ⟨f, fd, F, df⟩ := D.ex
  obtain ⟨c, p, tb, tp, hc⟩ := G.ex
  have b := F.fn.binds df hb
  obtain ⟨oc, od, dV, kV, doc, pm, an, cdv, ct, osl, rfl, lk, hcd⟩ := F.fn.ex
  have e : cdv = .ref c := hc f oc od _ osl F.mgf lk
  refine ⟨f, _, ps, [], ?_, F.mgf, F.kp, b, .nil⟩
  refine fn_of lk hcd S (fun vs H Q' E ⟨B, L, ws, lent, Kp, _, r, ⟨xs, e, _, h⟩, _⟩ => by rw [← r.length, e, List.length_map]; exact len _ _ h) fun A outer s H vs Q' E hr ⟨B, L, ws, lent, Kp, c0, r, ⟨xs, e1, e2, h⟩, kw⟩ => ?_
  subst e1; subst e2
  have hL : L = [] := List.eq_nil_of_length_eq_zero c0.len
  subst hL
  refine ⟨_, ((hbody f cdv A outer s H E ⟨c, p, e, tb, tp⟩ hr).run ⟨B, H, [], T⟩ (.of rfl)).nox, B, [], [], _, _, c0, ER.start r, hread xs _ h, ?_, ?_, fun _ _ z => z.elim, fun _ _ z => z.elim⟩
  · rintro env S' hk σ' H' B' m' n er
    have n2 := Nx.cut (S1 := []) (S2 := S') n (Nat.le_refl _) rfl (Nat.le_refl _)
    rw [List.length_nil, List.take_zero] at n2
    exact kw _ _ hk _ _ _ _ n2 (.fz .non)
  · rintro u S' hk v H' B' m' n r'
    obtain ⟨d, hd, hk⟩ := onO_ex hk
    obtain ⟨B2, c2, sb2, r2⟩ := n.cf.freeze rfl r' hd
    exact kw _ _ hk _ _ _ _ ⟨c2, n.sb.trans sb2, .refl, n.kp, fun _ _ h => .inl h, n.dm, fun a o e => (c2.bnew a o e).imp id .inl⟩ (.fz r2)
end
theorem law_of {P : Program} {w : World} {K : PySem.W.Frag} {h : Heap} {mg : Str → Option Value} {fa : Addr} {x : Str} {st : Stmt} {p : Str} {k : Nat} {names : List Str} (X : K.In h) (G : h.Ns mainGlobals mg) (hfa : mg x = some (.ref fa)) (D : DfIn K x st)
    (hb : ∀ (kV doc pm : Value) (an : Option Addr) (cdv ct : Value) (u : Value), bindArgs (PySem.W.fnOf x x (C8.fnArgs st) (C8.fnBody st) (C8.fnScope st) .none kV doc pm an cdv ct) ⟨[u], []⟩ = pure [(p, u)])
    (ok : ∀ (f : Addr) (fd : FuncData), C8.Fun K x x st f fd → ∀ (base : Heap) (T : Addr → Prop), (∀ x ∈ names, Gn K T mg base x) → FnOk P w K mg base CX0 k f fd [p] (spD K T (psp spLaw))) :
    ∃ fd : FuncData, (∀ (s : Shared) (u : Value), BindsTo s fd ⟨[u], []⟩ [(p, u)]) ∧ ∀ (base : Heap) (T : Addr → Prop), K.In base → base.Ns mainGlobals mg → (∀ x ∈ names, Gn K T mg base x) → FnOk P w K mg base CX0 k fa fd [p] (spD K T (psp spLaw)) := by
  obtain ⟨f, od, an, sl, oc, kV, dc, pm, cd, ct, a, l, c, kp⟩ := D.ex
  have e := hfa.symm.trans (PySem.W.mg_of X G a)
  cases e
  exact ⟨_, fun s u => .of_eq (hb kV dc pm an cd ct u), fun base T _ _ g => ok _ _ ⟨oc, od, .none, kV, dc, pm, an, cd, ct, sl, rfl, l, c⟩ base T g⟩
theorem law_sp {K : PySem.W.Frag} {H : Hp} {a : Addr} {ns : List Int} {ts : List Addr} (hn : ns.length ≤ 63) (hT : ∀ p ∈ ts, H p = some (.tbl #[])) (hS : SqL K H a (ns.map V.int)) : spD K (fun p => p ∈ ts) (psp spLaw) [.ref a] H (fun v _ => v = .bl true) (fun _ _ _ => False) := by
  have sub : Sub (fun b => if b ∈ ts then none else H b) H := fun b o e => by
    have e : (if b ∈ ts then none else H b) = some o := e
    by_cases h : b ∈ ts
    · rw [if_pos h] at e; cases e
    · rw [if_neg h] at e; exact e
  have hS' : SqL K (fun b => if b ∈ ts then none else H b) a (ns.map V.int) := by
    rcases hS with (h | ⟨o, h⟩) | h
    · refine .inl (.inl ?_)
      show (if a ∈ ts then none else H a) = _
      rw [if_neg fun z => by rw [hT a z] at h; cases h]; exact h
    · refine .inl (.inr ⟨o, ?_⟩)
      show (if a ∈ ts then none else H a) = _
      rw [if_neg fun z => by rw [hT a z] at h; cases h]; exact h
    · exact .inr h
  refine ⟨fun b => if b ∈ ts then none else H b, [], [.fz (.scr ns)], [], fun w _ => w = .fz (.bl true), ⟨.refl, sub, fun _ _ h => .inl h, fun _ _ h _ _ => h, fun _ h => h, rfl, fun _ _ h => h, fun _ _ h => .inl h, fun i j a h _ => by simp at h, fun n a od h _ => by simp at h, fun q tq => ⟨⟨#[], hT q tq, trivial⟩, if_pos tq, fun n e => by simp at e⟩⟩, .cons (.fz (.scr hS')) .nil, ⟨[.scr ns], rfl, rfl, ns, rfl, hn, rfl⟩, fun w S' h v H' B' m' _ r => ?_⟩
  subst h
  exact r.bl_of
/-! ### the end -/
/-- no table in the written part -/
def noTab (K : PySem.W.Frag) : Bool := K.all fun p => match p.2.cls with
  | .none => match p.2.data with
    | .fields _ => false
    | _ => true
  | _ => true
theorem lookup_mem {α β : Type} [BEq α] [LawfulBEq α] {a : α} {b : β} : ∀ {l : List (α × β)}, l.lookup a = some b → (a, b) ∈ l
  | [], h => by cases h
  | (c, d) :: r, h => by
    rw [List.lookup_cons] at h
    cases q : (a == c) with
    | true =>
      rw [q] at h
      cases h
      rw [eq_of_beq q]
      exact List.mem_cons_self
    | false =>
      rw [q] at h
      exact List.mem_cons_of_mem _ (lookup_mem h)
theorem noTab_ok {K : PySem.W.Frag} {h : Heap} {p : Addr} {vs : Array Value} (n : noTab K = true) (X : K.In h) (e : h.get? p = some { cls := .none, data := .fields vs }) : K.lookup p = none := by
  cases q : K.lookup p with
  | none => rfl
  | some o =>
    have e2 := X p o q
    rw [e] at e2
    cases e2
    have := List.all_eq_true.mp n _ (lookup_mem q)
    cases this
theorem walk_G {l : PySem.W.OpenLaw} {k : Nat} {q : Program} {loose : List Str} {XP : (Str → Option Value) → Heap → Prop} {YP : World → Heap → Prop} {d : DefRec} {K : Params → PySem.W.Frag} {x : Str} (names : List Str)
    (hn : l.most = some 63) (hdf : d.params.defaults = []) (hr : Room k callerA) (hrec : (names.all fun y => (recsOf q).any fun e => e.name == y) = true) (hY : ∀ (w : World) (h : Heap), YP w h → (K w.params).In h) (hK : ∀ w : World, noTab (K w.params) = true)
    (F : ∀ (w : World) (mg : Str → Option Value) (fa : Addr) (h : Heap), (K w.params).In h → h.Ns mainGlobals mg → mg d.name = some (.ref fa) →
      ∃ fd : FuncData, (∀ (s : Shared) (u : Value), BindsTo s fd ⟨[u], []⟩ [(x, u)]) ∧ ∀ (base : Heap) (T : Addr → Prop), (K w.params).In base → base.Ns mainGlobals mg → (∀ x ∈ names, Gn (K w.params) T mg base x) → FnOk l.prog w (K w.params) mg base CX0 k fa fd [x] (spD (K w.params) T (psp spLaw))) :
    PySem.W.WalkO q loose XP YP l.row.toRowW d [] (fun f vs => PySem.call f vs) := by
  refine Att.attach_callB hn hdf fun w s₀ s₁ mg mb fa o pm cd doc a vs ns G Y ho hd hcd hmg hobj hints hlen hbits hg => ?_
  have KX := hY w _ Y
  obtain ⟨fd, hb, hF⟩ := F w mg fa _ KX G.T.g hmg
  -- the tables of the defs that are named
  have each : ∀ ns : List Str, (∀ y ∈ ns, ((recsOf q).any fun e => e.name == y) = true) → ∃ cs : List (Addr × Addr), (∀ p ∈ cs, s₁.heap.get? p.2 = some { cls := .none, data := .fields #[] }) ∧ (∀ p ∈ cs, PySem.W.CodeHd s₁.heap p.1 p.2) ∧
      ∀ y ∈ ns, ∃ p ∈ cs, ∀ (f : Addr) (oc : Value) (od : Option Addr) (fd : FuncData) (sl : Array (Option Value)), mg y = some (.ref f) → (K w.params).lookup f = some ⟨oc, od, .func fd, sl⟩ → fd.code = .ref p.1 := by
    intro ns
    induction ns with
    | nil => exact fun _ => ⟨[], fun _ h => (nomatch h), fun _ h => (nomatch h), fun _ h => (nomatch h)⟩
    | cons y ns ih =>
      intro hy
      obtain ⟨cs, h1, h2, h3⟩ := ih fun z hz => hy z (List.mem_cons_of_mem _ hz)
      obtain ⟨dL, hm, hn1⟩ := List.any_eq_true.mp (hy y List.mem_cons_self)
      have hn2 : dL.name = y := beq_iff_eq.mp hn1
      obtain ⟨a', o', fd', c', P', g1, g2, g3, g4, g5, g6⟩ := G.T.tab dL hm
      refine ⟨(c', P') :: cs, fun p hp => ?_, fun p hp => ?_, fun z hz => ?_⟩
      · rcases List.mem_cons.mp hp with e | e
        · subst e; exact g6.2
        · exact h1 p e
      · rcases List.mem_cons.mp hp with e | e
        · subst e; exact PySem.W.CodeHd.of g5 g6
        · exact h2 p e
      · rcases List.mem_cons.mp hz with e | e
        · subst e
          refine ⟨_, List.mem_cons_self, fun f oc od fd sl k1 k2 => ?_⟩
          rw [hn2] at g1
          rw [k1] at g1
          cases g1
          have k3 := KX _ _ k2
          rw [g2] at k3
          cases k3
          cases g3
          exact g4
        · obtain ⟨p, hp, q⟩ := h3 z e
          exact ⟨p, List.mem_cons_of_mem _ hp, q⟩
  obtain ⟨cs, hT, C, hcs⟩ := each names (List.all_eq_true.mp hrec)
  have hn2 : (63 : Nat) ≤ sizeLine := by decide
  refine LamX.law_callTs (cs := cs) (sp := spD (K w.params) (fun p => p ∈ cs.map (·.2)) (psp spLaw)) KX G.T.g G.T.b G.T.builtins G.T.nolimit hg hT (fun p hp => noTab_ok (hK w) KX (hT p hp)) C G.T.bmain hobj hints (Nat.le_trans hlen hn2) hr (fun base KB NB TB => hF base _ KB NB fun y hy => ?_) hb (fun H hH hS => law_sp hlen (fun p hp => ?_) hS) fun _ _ _ z => z.elim
  · obtain ⟨p, hp, hq⟩ := hcs y hy
    obtain ⟨t1, t2, t3⟩ := TB p hp
    exact ⟨p.1, p.2, ⟨t1, t2, t3⟩, List.mem_map.mpr ⟨p, hp, rfl⟩, hq⟩
  · obtain ⟨c, hc, e⟩ := List.mem_map.mp hp
    rw [← e]
    exact hH c hc
end DL
/-! DL12: dicts, sorted of texts, zip -/
namespace DL
open PySem PySem.Spec PyProof.Rows L2

/-! ### dicts -/
def dicAt (S : Sto) : W → Option (Nat × List (Key × W))
  | .hd n => match S[n]? with
    | some (.dic kvs) => some (n, kvs)
    | _ => none
  | _ => none
theorem dicAt_eq {S : Sto} {x : W} {n : Nat} {kvs : List (Key × W)} (h : dicAt S x = some (n, kvs)) : x = .hd n ∧ S[n]? = some (.dic kvs) := by
  unfold dicAt at h
  split at h
  · split at h
    · cases h; exact ⟨rfl, by assumption⟩
    · cases h
  · cases h
def keyW : W → Option Key
  | .fz (.int i) => some (.inl i)
  | .fz (.str x) => some (.inr x)
  | _ => none
def valW (kvs : List (Key × W)) (k : Key) : Option W := (kvs.find? fun kv => decide (kv.1 = k)).map (·.2)
def putW (kvs : List (Key × W)) (k : Key) (v : W) : List (Key × W) :=
  if (kvs.any fun kv => decide (kv.1 = k)) = true then kvs.map (fun kv => if kv.1 = k then (kv.1, v) else kv) else kvs ++ [(k, v)]
section
variable {K : PySem.W.Frag} {F : Fx} {B : Hp} {m : List Addr} {S : Sto} {H : Hp}
theorem keyW_ok {w : W} {v : V} {k : Key} (r : RW K B m w v) (h : keyW w = some k) : v = kV k := by
  unfold keyW at h
  split at h
  · cases h; exact r.int_of
  · cases h; exact r.str_of
  · cases h
theorem Cf.dic (c : Cf K F B m S H) {n : Nat} {kvs : List (Key × W)} {x : V} (r : RW K B m (.hd n) x) (h : S[n]? = some (.dic kvs)) : ∃ a vs, x = .ref a ∧ m[n]? = some a ∧ H a = some (.dK vs) ∧ FK K B m kvs vs := by
  cases r with
  | hd e =>
    obtain ⟨o, h1, ⟨vs, h2, h3⟩, _⟩ := c.own _ _ _ e h
    subst h2
    exact ⟨_, _, rfl, e, h1, h3⟩
theorem FK.val : ∀ {kvs : List (Key × W)} {vs : List (Key × V)} {k : Key}, FK K B m kvs vs → match valW kvs k with
    | some w => ∃ v, valV vs k = some v ∧ RW K B m w v
    | none => valV vs k = none
  | _, _, k, .nil => rfl
  | p :: kvs, q :: vs, k, .cons r t => by
    have ih := FK.val (k := k) t
    obtain ⟨e, r⟩ := r
    by_cases h : p.1 = k
    · have h1 : valW (p :: kvs) k = some p.2 := by simp [valW, List.find?_cons, h]
      rw [h1]
      exact ⟨q.2, valV_pos (e ▸ h), r⟩
    · have h1 : valW (p :: kvs) k = valW kvs k := by simp [valW, List.find?_cons, h]
      rw [h1, valV_neg (show ¬ q.1 = k by rw [← e]; exact h)]
      exact ih
theorem FK.any {k : Key} : ∀ {kvs : List (Key × W)} {vs : List (Key × V)}, FK K B m kvs vs → (kvs.any fun kv => decide (kv.1 = k)) = vs.any fun kv => decide (kv.1 = k)
  | _, _, .nil => rfl
  | p :: kvs, q :: vs, .cons r t => by
    rw [List.any_cons, List.any_cons, FK.any t, r.1]
theorem FK.map {k : Key} {w : W} {v : V} (rv : RW K B m w v) : ∀ {kvs : List (Key × W)} {vs : List (Key × V)}, FK K B m kvs vs → FK K B m (kvs.map fun kv => if kv.1 = k then (kv.1, w) else kv) (vs.map fun kv => if kv.1 = k then (kv.1, v) else kv)
  | _, _, .nil => .nil
  | p :: kvs, q :: vs, .cons r t => by
    refine .cons ?_ (FK.map rv t)
    by_cases h : p.1 = k
    · dsimp only
      rw [if_pos h, if_pos (show q.1 = k by rw [← r.1]; exact h)]
      exact ⟨r.1, rv⟩
    · dsimp only
      rw [if_neg h, if_neg (show ¬ q.1 = k by rw [← r.1]; exact h)]
      exact r
theorem FK.append : ∀ {kvs kvs' : List (Key × W)} {vs vs' : List (Key × V)}, FK K B m kvs vs → FK K B m kvs' vs' → FK K B m (kvs ++ kvs') (vs ++ vs')
  | _, _, _, _, .nil, q => q
  | _, _, _, _, .cons r t, q => .cons r (FK.append t q)
theorem FK.put {kvs : List (Key × W)} {vs : List (Key × V)} {k : Key} {w : W} {v : V} (r : FK K B m kvs vs) (rv : RW K B m w v) : FK K B m (putW kvs k w) (putK vs k v) := by
  unfold putW putK
  rw [r.any]
  split
  · exact r.map rv
  · exact r.append (.cons ⟨rfl, rv⟩ .nil)
theorem FK.len {kvs : List (Key × W)} {vs : List (Key × V)} (r : FK K B m kvs vs) : kvs.length = vs.length := Paired.length r
theorem FK.keys : ∀ {kvs : List (Key × W)} {vs : List (Key × V)}, FK K B m kvs vs → kvs.map (·.1) = vs.map (·.1)
  | _, _, .nil => rfl
  | _, _, .cons r t => by rw [List.map_cons, List.map_cons, FK.keys t, r.1]
end
def dDNew : DE := fun _ S Kp => Kp (.hd S.length) (S ++ [.dic []])
def atDW (S : Sto) (x y : W) (Kp : WK) : Prop := onO (dicAt S x) fun p => onO (keyW y) fun k => onO (valW p.2 k) fun w => Kp w S
def inDW (neg : Bool) (S : Sto) (x y : W) (Kp : WK) : Prop := onO (dicAt S x) fun p => onO (keyW y) fun k => Kp (.fz (.bl (neg != (valW p.2 k).isSome))) S
structure getDW (S : Sto) (x y z : W) (Kp : WK) : Prop where
  get : onO (dicAt S x) fun p => onO (keyW y) fun k => Kp ((valW p.2 k).getD z) S
theorem atDW_F {S : Sto} {x y w : W} {n : Nat} {kvs : List (Key × W)} {k : Key} {Kp : WK} (hx : dicAt S x = some (n, kvs)) (hy : keyW y = some k) (hv : valW kvs k = some w) (h : Kp w S) : atDW S x y Kp := by
  unfold atDW; rw [hx, hy]; show onO (valW kvs k) _; rw [hv]; exact h
theorem inDW_F {neg b : Bool} {S : Sto} {x y : W} {n : Nat} {kvs : List (Key × W)} {k : Key} {Kp : WK} (hx : dicAt S x = some (n, kvs)) (hy : keyW y = some k) (hv : (neg != (valW kvs k).isSome) = b) (h : Kp (.fz (.bl b)) S) : inDW neg S x y Kp := by
  unfold inDW; rw [hx, hy]; show Kp (.fz (.bl (neg != (valW kvs k).isSome))) S; rw [hv]; exact h
theorem getDW_F {S : Sto} {x y z w : W} {n : Nat} {kvs : List (Key × W)} {k : Key} {Kp : WK} (hx : dicAt S x = some (n, kvs)) (hy : keyW y = some k) (hv : (valW kvs k).getD z = w) (h : Kp w S) : getDW S x y z Kp := by
  refine ⟨?_⟩; rw [hx, hy]; show Kp ((valW kvs k).getD z) S; rw [hv]; exact h
def dDGet (dd dk : DE) : DE := fun env S Kp => dd env S fun x S1 => dk env S1 fun y S2 => atDW S2 x y Kp
def dDIn (neg : Bool) (dk dd : DE) : DE := fun env S Kp => dk env S fun y S1 => dd env S1 fun x S2 => inDW neg S2 x y Kp
def dDGet1 (dd dk : DE) : DE := fun env S Kp => dd env S fun x S1 => onO (dicAt S1 x) fun _ => dk env S1 fun y S2 => getDW S2 x y (.fz .non) Kp
def dDPut (dd dk dv : DE) : DS := fun D env S => dv env S fun w S1 => dd env S1 fun x S2 => dk env S2 fun y S3 => onO (dicAt S3 x) fun p => onO (keyW y) fun k => p.2.length < sizeLine ∧ D.nx env (S3.set p.1 (.dic (putW p.2 k w)))
section
variable {X : Cx} {Ξ : Xt} {o i e value : Expr} {pos pos' apos cpos : Pos} {dd dk dv : DE} {k : Nat}
theorem dpe_dnew : DPE X Ξ (.Dict [] [] pos) dDNew := ⟨fun F ok => PE.imp pe_dnewK fun σ H Q ⟨B, m, S, env, Kp, cf, er, h, kw⟩ p hp => by
  have n2 := cf.allocO (od := .dic []) (o := .dK []) hp ⟨[], rfl, .nil⟩
  refine kw _ _ h _ _ _ _ n2 (.hd ?_)
  rw [← cf.len, List.getElem?_append_right (Nat.le_refl _), Nat.sub_self]
  rfl⟩
theorem e_dget (hr : Room k X.A) (ho : DPE X Ξ o dd) (hi : DPE X Ξ i dk) (hs : NoSl i) : DPE X Ξ (.Subscript o i pos) (dDGet dd dk) := ⟨fun F ok => PE.imp (pe_dget (hu_of hr) (ho.run F ok) (hi.run F ok) hs) fun σ H Q ⟨B, m, S, env, Kp, cf, er, h, kw⟩ => by
  refine ⟨B, m, S, env, _, cf, er, h, fun x S1 h1 v H1 B1 m1 n1 r => ⟨B1, m1, S1, env, _, n1.cf, er.nx n1, h1, fun y S2 h0 u H2 B2 m2 n2 r2 => ?_⟩⟩
  obtain ⟨⟨n, kvs⟩, e1, h2⟩ := onO_ex h0
  obtain ⟨kk, e2, h2⟩ := onO_ex h2
  obtain ⟨w, e3, h2⟩ := onO_ex h2
  obtain ⟨ex, es⟩ := dicAt_eq e1
  subst ex
  obtain ⟨a, vs, ea, _, hd, fk⟩ := n2.cf.dic (r.nx n2) es
  have q := fk.val (k := kk)
  rw [show valW kvs kk = some w from e3] at q
  obtain ⟨v', hv, rv⟩ := q
  refine ⟨a, v', ea, ?_, kw _ _ h2 _ _ _ _ (n1.trans n2) rv⟩
  rw [keyW_ok r2 e2, ← hv]
  exact DGet.k hd⟩
theorem c_din (hr : Room k X.A) (hi : DPE X Ξ i dk) (ho : DPE X Ξ o dd) (hm : behindInMarks .In o = false := by with_unfolding_all rfl) : DPT X Ξ (.Compare i [.In] [o] pos) (dTst (dDIn false dk dd)) := ⟨fun F ok => PT.imp (pt_cmp (pc_din (hu_of hr) (hi.run F ok) (ho.run F ok)) hm) fun σ H Q ⟨B, m, S, env, Kp, cf, er, h, kw⟩ => by
  refine ⟨B, m, S, env, _, cf, er, h, fun y S1 h1 v H1 B1 m1 n1 r => ⟨B1, m1, S1, env, _, n1.cf, er.nx n1, h1, fun x S2 h0 u H2 B2 m2 n2 r2 => ?_⟩⟩
  obtain ⟨⟨n, kvs⟩, e1, h2⟩ := onO_ex h0
  obtain ⟨kk, e2, h2⟩ := onO_ex h2
  obtain ⟨ex, es⟩ := dicAt_eq e1
  subst ex
  obtain ⟨a, vs, ea, _, hd, fk⟩ := n2.cf.dic r2 es
  have q := fk.val (k := kk)
  refine ⟨a, valV vs kk, ea, ?_, (valV vs kk).isSome, rfl, ?_⟩
  · rw [keyW_ok r e2]
    exact DGet.k hd
  · have e : (valW kvs kk).isSome = (valV vs kk).isSome := by
      cases z : valW kvs kk with
      | none => rw [z] at q; rw [q]; rfl
      | some w => rw [z] at q; obtain ⟨v', hv, _⟩ := q; rw [hv]; rfl
    obtain ⟨b, eb, h3⟩ := onB_ex h2
    cases eb
    refine kw _ _ ?_ _ _ _ (n1.trans n2)
    have : (false != (valW kvs kk).isSome) = (valV vs kk).isSome := by rw [e]; cases (valV vs kk).isSome <;> rfl
    rw [← this]
    exact h3⟩
theorem s_dput (hr : Room k X.A) (ho : DPE X Ξ o dd) (hi : DPE X Ξ i dk) (hv : DPE X Ξ value dv) (hs : swapsWith value (some (.Subscript o i pos')) pos.line X.env = pure false := by rfl) : DPS X Ξ (.Assign [.Subscript o i pos'] value pos) (dDPut dd dk dv) := ⟨fun F ok => PS.imp (ps_dput (hu_of hr) (ho.run F ok) (hi.run F ok) (hv.run F ok) hs) fun D σ H ⟨B, m, S, env, E, cf, er, h, k1, k2, k3, k4⟩ => by
  refine ⟨B, m, S, env, _, cf, er, h, fun w S1 h1 v H1 B1 m1 n1 rv => ⟨B1, m1, S1, env, _, n1.cf, er.nx n1, h1, fun x S2 h2 u H2 B2 m2 n2 rx => ⟨B2, m2, S2, env, _, n2.cf, er.nx (n1.trans n2), h2, fun y S3 h0 t H3 B3 m3 n3 ry => ?_⟩⟩⟩
  obtain ⟨⟨n, kvs⟩, e1, h3⟩ := onO_ex h0
  obtain ⟨kk, e2, hz, h3⟩ := onO_ex h3
  obtain ⟨ex, es⟩ := dicAt_eq e1
  subst ex
  have nn := n1.trans (n2.trans n3)
  obtain ⟨a, vs, ea, em, hd, fk⟩ := nn.cf.dic (rx.nx n3) es
  have n4 := nn.cf.write (o := .dK (putK vs kk v)) (od := .dic (putW kvs kk w)) em es (fun z => nomatch z) ⟨_, rfl, fk.put ((rv.nx n2).nx n3)⟩
  refine ⟨a, _, ea, ?_, k1 _ _ h3 _ _ _ _ (nn.trans n4) ((er.nx nn).nx n4)⟩
  rw [keyW_ok ry e2]
  exact DPut.k hd (by rw [← fk.len]; exact hz)⟩
end
/-! ### sorted of texts -/
def strsOf : List W → Option (List Str)
  | [] => some []
  | .fz (.str x) :: r => (strsOf r).map (x :: ·)
  | _ :: _ => none
theorem strsOf_eq : ∀ {ws : List W} {xs : List Str}, strsOf ws = some xs → ws = xs.map fun x => .fz (.str x)
  | [], xs, h => by cases h; rfl
  | .fz (.str x) :: r, xs, h => by
    unfold strsOf at h
    cases e : strsOf r with
    | none => rw [e] at h; cases h
    | some ys =>
      rw [e] at h
      cases h
      rw [List.map_cons, ← strsOf_eq e]
  | .hd _ :: _, _, h => by cases h
  | .tp _ :: _, _, h => by cases h
  | .xo _ _ _ :: _, _, h => by cases h
  | .fz .non :: _, _, h => by cases h
  | .fz (.bl _) :: _, _, h => by cases h
  | .fz (.int _) :: _, _, h => by cases h
  | .fz (.tup _) :: _, _, h => by cases h
  | .fz (.lst _) :: _, _, h => by cases h
  | .fz (.obj _ _) :: _, _, h => by cases h
  | .fz (.scr _) :: _, _, h => by cases h
  | .fz (.ty _) :: _, _, h => by cases h
theorem strsOf_map (xs : List Str) : strsOf (xs.map fun x => .fz (.str x)) = some xs := by
  induction xs with
  | nil => rfl
  | cons x xs ih => show (strsOf (xs.map fun x => .fz (.str x))).map (x :: ·) = _; rw [ih]; rfl
def keysS : List (Key × W) → Option (List Str)
  | [] => some []
  | (.inr x, _) :: r => (keysS r).map (x :: ·)
  | (.inl _, _) :: _ => none
theorem keysS_eq : ∀ {kvs : List (Key × W)} {xs : List Str}, keysS kvs = some xs → kvs.map (·.1) = xs.map Sum.inr
  | [], xs, h => by cases h; rfl
  | (.inr x, _) :: r, xs, h => by
    unfold keysS at h
    cases e : keysS r with
    | none => rw [e] at h; cases h
    | some ys =>
      rw [e] at h
      cases h
      rw [List.map_cons, List.map_cons, keysS_eq e]
  | (.inl _, _) :: _, _, h => by cases h
def textsOf (S : Sto) (x : W) : Option (List Str) := match dicAt S x with
  | some p => keysS p.2
  | none => (vL S x).bind strsOf
def sortedW (own : Bool) : DRL := fun ws S Kp => match ws with
  | [x] => onO (textsOf S x) fun xs => xs.length < 64 ∧ ∀ ys : List Str, ys.Perm xs → sortedS ys = true → newL own (ys.map fun y => .fz (.str y)) S Kp
  | _ => False
section
variable {X : Cx} {Ξ : Xt}
theorem rwl_strs_of {K : PySem.W.Frag} {B : Hp} {m : List Addr} : ∀ {xs : List Str} {vs : List V}, RWL K B m (xs.map fun x => .fz (.str x)) vs → vs = xs.map V.str
  | [], _, .nil => rfl
  | _ :: xs, _, .cons r t => by rw [r.str_of, rwl_strs_of t]; rfl
theorem rwl_strs {K : PySem.W.Frag} {B : Hp} {m : List Addr} : ∀ xs : List Str, RWL K B m (xs.map fun x => .fz (.str x)) (xs.map V.str)
  | [] => .nil
  | _ :: xs => .cons (.fz .str) (rwl_strs xs)
theorem cd_sorted (own : Bool) (hc : X.calm = true) : CallD X (.builtin "sorted") (sortedW own) := fun F => CallR.imp (CallR.or cr_sortedS (call_sortedD hc)) fun xs H Q ⟨B, m, S, ws, Kp, cf, r, h0, k⟩ => by
  unfold sortedW at h0
  split at h0
  rotate_left
  · exact h0.elim
  obtain ⟨zs, e1, hz, h⟩ := onO_ex h0
  obtain ⟨v, e, rv⟩ := r.one
  subst e
  unfold textsOf at e1
  split at e1
  · rename_i p e2
    obtain ⟨ex, es⟩ := dicAt_eq (n := p.1) (kvs := p.2) e2
    subst ex
    obtain ⟨a, vs, ea, _, hd, fk⟩ := cf.dic rv es
    subst ea
    exact .inr ⟨a, vs, zs, rfl, .inl hd, by rw [← fk.keys]; exact keysS_eq e1, hz, fun ys p pm hs hp => newL_ok cf (rwl_strs ys) (h ys pm hs) k hp⟩
  · cases q : vL S _ with
    | none => rw [q] at e1; cases e1
    | some us =>
      rw [q] at e1
      obtain ⟨a, vs, ea, hs, rr⟩ := vL_ok cf rv q
      subst ea
      rw [strsOf_eq e1] at rr
      rw [rwl_strs_of rr] at hs
      exact .inl ⟨a, zs, rfl, .of hs, hz, fun ys p pm hs hp => newL_ok cf (rwl_strs ys) (h ys pm hs) k hp⟩
theorem e_sorted {e : Expr} {es : List Expr} {p pos : Pos} {das : DA} (own : Bool) (bi : Bi X.mg) (hc : X.calm = true) (ha : DPA X Ξ (e :: es) das) (hg : Gl X "sorted" := by rfl) (he : starEach (e :: es) X.env = (false, eval e X.env) :: starEach es X.env := by rfl) (hpl : (backTo pos (starEach es X.env)).any (·.1) = false := by rfl) : DPE X Ξ (.Call (.Name "sorted" p) (e :: es) [] pos) (dCB (sortedW own) das) := dpe_callB (cd_sorted own hc) hg bi.sorted PyProof.Rows.boot_sorted ha (by decide) (by decide) he hpl
end
end DL
/-! DL13: sorted of tuples whose first items are different texts -/
namespace DL
open PySem PySem.Spec PyProof.Rows L2

/-! ### the order of texts -/
theorem ltC_irrefl : ∀ a : List Nat, ltCps a a = false
  | [] => rfl
  | a :: r => by simp [ltCps, ltC_irrefl r]
theorem ltC_asym : ∀ a b : List Nat, ltCps a b = true → ltCps b a = false
  | [], [], h => by cases h
  | [], _ :: _, _ => rfl
  | _ :: _, [], h => by cases h
  | a :: r, b :: t, h => by
    simp only [ltCps, Bool.or_eq_true, Bool.and_eq_true, decide_eq_true_eq, beq_iff_eq] at h
    simp only [ltCps, Bool.or_eq_false_iff, Bool.and_eq_false_iff, decide_eq_false_iff_not, beq_eq_false_iff_ne]
    rcases h with h | ⟨h, g⟩
    · exact ⟨by omega, .inl (by omega)⟩
    · exact ⟨by omega, .inr (ltC_asym r t g)⟩
theorem ltC_trans : ∀ a b c : List Nat, ltCps a b = true → ltCps b c = true → ltCps a c = true
  | [], [], _, h, _ => by cases h
  | [], _ :: _, [], _, g => by cases g
  | [], _ :: _, _ :: _, _, _ => rfl
  | _ :: _, [], _, h, _ => by cases h
  | _ :: _, _ :: _, [], _, g => by cases g
  | a :: r, b :: t, c :: u, h, g => by
    simp only [ltCps, Bool.or_eq_true, Bool.and_eq_true, decide_eq_true_eq, beq_iff_eq] at h g ⊢
    rcases h with h | ⟨h, h2⟩ <;> rcases g with g | ⟨g, g2⟩
    · exact .inl (by omega)
    · exact .inl (by omega)
    · exact .inl (by omega)
    · exact .inr ⟨by omega, ltC_trans r t u h2 g2⟩
theorem ltC_conn : ∀ a b : List Nat, ltCps a b = false → ltCps b a = false → a = b
  | [], [], _, _ => rfl
  | [], _ :: _, h, _ => by cases h
  | _ :: _, [], _, g => by cases g
  | a :: r, b :: t, h, g => by
    simp only [ltCps, Bool.or_eq_false_iff, Bool.and_eq_false_iff, decide_eq_false_iff_not, beq_eq_false_iff_ne] at h g
    have e : a = b := by omega
    subst e
    rw [ltC_conn r t (h.2.resolve_left fun z => z rfl) (g.2.resolve_left fun z => z rfl)]
theorem strLt_eq (a b : Str) : strLt a b = ltCps a.cps.toList b.cps.toList := by
  unfold strLt
  rw [PyProof.Rows.ltCps_eq]
theorem str_of_list {a b : Str} (h : a.cps.toList = b.cps.toList) : a = b := by
  cases a; cases b
  congr 1
  exact Array.toList_inj.mp h
theorem strLt_irrefl (a : Str) : strLt a a = false := by rw [strLt_eq]; exact ltC_irrefl _
theorem strLt_asym {a b : Str} (h : strLt a b = true) : strLt b a = false := by rw [strLt_eq] at *; exact ltC_asym _ _ h
theorem strLt_trans {a b c : Str} (h : strLt a b = true) (g : strLt b c = true) : strLt a c = true := by rw [strLt_eq] at *; exact ltC_trans _ _ _ h g
theorem strLt_conn {a b : Str} (h : strLt a b = false) (g : strLt b a = false) : a = b := by rw [strLt_eq] at *; exact str_of_list (ltC_conn _ _ h g)
theorem strLt_ne {a b : Str} (h : strLt a b = true) : a ≠ b := fun e => by subst e; rw [strLt_irrefl] at h; cases h
theorem strLt_or {a b : Str} (h : a ≠ b) : strLt a b = true ∨ strLt b a = true := by
  cases q : strLt a b with
  | true => exact .inl rfl
  | false =>
    cases q2 : strLt b a with
    | true => exact .inr rfl
    | false => exact absurd (strLt_conn q q2) h
theorem strLt_neg_trans {x y z : Str} (h1 : strLt y x = false) (h2 : strLt z y = false) : strLt z x = false := by
  cases q : strLt z x with
  | false => rfl
  | true =>
    by_cases e : x = y
    · subst e; rw [h2] at q; cases q
    · rcases strLt_or e with r | r
      · have := strLt_trans q r; rw [h2] at this; cases this
      · rw [h1] at r; cases r
theorem swo_str {α : Type} (f : α → Str) : SrtO.Swo fun v u => strLt (f v) (f u) := ⟨fun x y h => strLt_asym h, fun x y z h1 h2 => strLt_neg_trans h1 h2⟩

/-! ### tuples by their first text -/
def KTup (h : Heap) (v : Value) (k : Str) : Prop := ∃ a o t us n, v = .ref a ∧ h.get? a = some o ∧ o.cls = .type "tuple" ∧ o.data = .seq us n ∧ us[0]? = some (.str k t)
theorem KTup.keeps {h h' : Heap} {v : Value} {k : Str} (p : KTup h v k) (kp : ∀ b o, h.get? b = some o → o.cls = .type "tuple" → h'.get? b = some o) : KTup h' v k := by
  obtain ⟨a, o, t, us, n, e, ho, hc, hd, hf⟩ := p
  exact ⟨a, o, t, us, n, e, kp _ _ ho hc, hc, hd, hf⟩
section
variable {prog : Program} {w : World} {A : Around} {E : Value → Shared → Prop} {s : Shared}
theorem lex_same {b : Bool} {fin : Bool} {Q : Bool → Shared → Prop} : ∀ (us : List Value) (i : Nat), Q fin s → PySem.W.KatLex prog w A b fin Q (us.zip us) i s
  | [], i, h => PySem.W.kat_nil h
  | u :: us, i, h => PySem.W.kat_cons (SeqAt.EqAt.same u prog w _ _ (PySem.W.kat_yes (lex_same us (i + 1) h)))
theorem ktup_cmp {vs : List Value} {k : Value → Str} (hp : ∀ v ∈ vs, KTup s.heap v (k v)) (hi : ∀ v ∈ vs, ∀ u ∈ vs, k v = k u → v = u) : SrtO.Cmp prog w A s (tuples' true) (fun p => p.1 ∈ vs) (SrtO.lt2 fun v u => strLt (k v) (k u)) := by
  intro p q hm hm'
  have h1 := hp _ hm
  have h2 := hp _ hm'
  have h3 := hi _ hm _ hm'
  show wpAny (model prog w) A (keyLt' (tuples' true) p.1 q.1) (fun r s' => s' = s ∧ r = strLt (k p.1) (k q.1)) (fun _ _ => False) s
  generalize k p.1 = x at h1 h3 ⊢
  generalize k q.1 = x' at h2 h3 ⊢
  obtain ⟨a, o, t, us, n, e, ho, hc, hd, hf⟩ := h1
  obtain ⟨a', o', t', us', n', e', ho', hc', hd', hf'⟩ := h2
  rw [e, e'] at h3 ⊢
  refine PySem.W.kat_lt ho hd ho' hd' ?_
  by_cases ex : x = x'
  · have e2 := h3 ex
    cases e2
    rw [ho] at ho'
    cases ho'
    rw [hd] at hd'
    cases hd'
    rw [decide_eq_false (Nat.lt_irrefl _)]
    refine lex_same us.toList 0 ⟨rfl, ?_⟩
    rw [ex, strLt_irrefl]
  · obtain ⟨r, eu⟩ : ∃ r, us.toList = .str x t :: r := by
      have := hf
      rw [← Array.getElem?_toList] at this
      cases q : us.toList with
      | nil => rw [q] at this; cases this
      | cons y r => rw [q] at this; cases this; exact ⟨r, rfl⟩
    obtain ⟨r', eu'⟩ : ∃ r, us'.toList = .str x' t' :: r := by
      have := hf'
      rw [← Array.getElem?_toList] at this
      cases q : us'.toList with
      | nil => rw [q] at this; cases this
      | cons y r => rw [q] at this; cases this; exact ⟨r, rfl⟩
    rw [eu, eu']
    show PySem.W.KatLex prog w A true _ _ ((.str x t, .str x' t') :: r.zip r') 0 s
    refine PySem.W.kat_cons (SeqAt.EqAt.str_str x t x' t' prog w _ _ ?_)
    refine PySem.W.kat_go (fun e1 => absurd (by simpa using e1) ex) (fun _ => ?_)
    exact PySem.W.kat_no (oneLt_str ⟨rfl, rfl⟩)
theorem kfirsts_of {h : Heap} : ∀ {vs : List Value}, (∀ v ∈ vs, ∃ k, KTup h v k) → ∃ fs : List Value, PySem.W.KatTups h vs fs ∧ fs.length = vs.length ∧ ∀ f ∈ fs, ∃ x t, f = Value.str x t
  | [], _ => ⟨[], PySem.W.KatTups.nil, rfl, fun _ hm => by simp at hm⟩
  | v :: vs, hp => by
    obtain ⟨fs, h1, h2, h3⟩ := kfirsts_of (vs := vs) fun v' hm => hp v' (List.mem_cons_of_mem _ hm)
    obtain ⟨x, a, o, t, us, n, e, ho, hc, hd, hf⟩ := hp v (List.mem_cons_self ..)
    subst e
    refine ⟨.str x t :: fs, PySem.W.KatTups.cons ho hc hd hf h1, by rw [List.length_cons, List.length_cons, h2], fun f hm => ?_⟩
    rcases List.mem_cons.mp hm with rfl | hm
    · exact ⟨x, t, rfl⟩
    · exact h3 f hm
theorem ktup_sortable {a : Addr} {vs : List Value} {k : Value → Str} (h0 : 0 < vs.length) (hp : ∀ v ∈ vs, KTup s.heap v (k v)) (hi : ∀ v ∈ vs, ∀ u ∈ vs, k v = k u → v = u) (ha : ∀ o, s.heap.get? a = some o → o.cls ≠ .type "tuple") : SrtO.SortableO prog w A s a vs fun v u => strLt (k v) (k u) := by
  intro h' keep
  have hp' : ∀ v ∈ vs, KTup h' v (k v) := fun v hm => (hp v hm).keeps fun b o e c => keep b o (fun z => by subst z; exact ha o e c) e
  obtain ⟨fs, h1, h2, h3⟩ := kfirsts_of fun v hm => ⟨_, hp' v hm⟩
  refine ⟨tuples' true, fun Q E hq => ?_, ktup_cmp hp' hi⟩
  refine PySem.W.kat_kind (T := .type "str") h1 (by omega) (fun f hm => ?_) (by rfl) ?_
  · obtain ⟨x, t, rfl⟩ := h3 f hm
    exact PySem.W.Looks.now
  · have e : (Value.type "str" != Value.type "tuple") = true := by first | decide +kernel | rfl | decide
    rw [e]
    exact hq
end
/-- items at addresses -/
def rSortedKT (K : PySem.W.Frag) : List V → Hp → VK → Prop := fun vs H Q => ∃ (a : Addr) (its : List (Addr × Str × List D)), vs = [.ref a] ∧ SqL K H a (its.map fun i => V.ref i.1) ∧ (∀ i ∈ its, ∃ ys, SqT K H i.1 (.str i.2.1 :: ys)) ∧ (its.map fun i => i.2.1).Nodup ∧
  ∀ (its' : List (Addr × Str × List D)) (p : Addr), its'.Perm its → its'.Pairwise (fun i j => strLt j.2.1 i.2.1 = false) → H p = none → Q (.ref p) (upd H p (.lst (its'.map fun i => V.ref i.1)))
theorem nodup_inj {α β : Type} {f : α → β} : ∀ {l : List α}, (l.map f).Nodup → ∀ x ∈ l, ∀ y ∈ l, f x = f y → x = y
  | [], _, x, hx, _, _, _ => by cases hx
  | z :: l, h, x, hx, y, hy, e => by
    rw [List.map_cons, List.nodup_cons] at h
    rcases List.mem_cons.mp hx with e1 | h1
    · rcases List.mem_cons.mp hy with e2 | h2
      · rw [e1, e2]
      · exact absurd (show f z ∈ l.map f by rw [← e1, e]; exact List.mem_map_of_mem h2) h.1
    · rcases List.mem_cons.mp hy with e2 | h2
      · exact absurd (show f z ∈ l.map f by rw [← e2, ← e]; exact List.mem_map_of_mem h1) h.1
      · exact nodup_inj h.2 x h1 y h2 e
theorem cr_sortedKT {X : Cx} : CallR X (.builtin "sorted") (rSortedKT X.K) := by
  intro pins s σ H vs us Q I r h
  obtain ⟨a, its, rfl, hs, hk, hnd, q⟩ := h
  obtain ⟨vals, rv, hl, hz⟩ := I.list hs
  rw [Vals.ref1 r]
  have hv : vals = its.map fun i => Value.ref i.1 := by
    have := rv
    clear rv hs hl hz q hnd hk
    induction its generalizing vals with
    | nil => cases this; rfl
    | cons i its ih =>
      cases this with
      | cons r t =>
        cases r
        rw [List.map_cons, ← ih _ t]
  -- an address has one item
  have hinj : ∀ i ∈ its, ∀ j ∈ its, i.1 = j.1 → i = j := fun i hi j hj e => by
    obtain ⟨ys, h1⟩ := hk i hi
    obtain ⟨zs, h2⟩ := hk j hj
    rw [e] at h1
    have e3 := I.tuple_inj h1 h2
    injection e3 with e4 _
    injection e4 with e5
    exact nodup_inj hnd i hi j hj (by first | exact e5 | exact e5.symm)
  let g : Addr → Option (Addr × Str × List D) := fun x => its.find? fun i => decide (i.1 = x)
  have hg : ∀ i ∈ its, g i.1 = some i := fun i hi => by
    cases e : g i.1 with
    | none =>
      have := List.find?_eq_none.mp e i hi
      simp at this
    | some j =>
      have h1 := List.mem_of_find?_eq_some e
      have h2 := List.find?_some e
      rw [hinj j h1 i hi (of_decide_eq_true h2)]
  let kf : Value → Str := fun v => match v with
    | .ref x => ((g x).map (·.2.1)).getD ("" : Str)
    | _ => ("" : Str)
  have hkf : ∀ i ∈ its, kf (.ref i.1) = i.2.1 := fun i hi => by
    show ((g i.1).map (·.2.1)).getD ("" : Str) = _
    rw [hg i hi]
    rfl
  have hp : ∀ v ∈ vals, KTup s.heap v (kf v) := fun v hm => by
    rw [hv] at hm
    obtain ⟨i, hi, rfl⟩ := List.mem_map.mp hm
    rw [hkf i hi]
    obtain ⟨ys, h1⟩ := hk i hi
    obtain ⟨its2, r2, ⟨o, ho, hc, n, hd⟩, _⟩ := I.tuple h1
    cases r2 with
    | cons ru rt =>
      obtain ⟨t, rfl⟩ := ru
      exact ⟨i.1, o, t, _, n, rfl, ho, hc, hd, rfl⟩
  have hi : ∀ v ∈ vals, ∀ u ∈ vals, kf v = kf u → v = u := fun v hm u hm' e => by
    rw [hv] at hm hm'
    obtain ⟨i, hi, rfl⟩ := List.mem_map.mp hm
    obtain ⟨j, hj, rfl⟩ := List.mem_map.mp hm'
    rw [hkf i hi, hkf j hj] at e
    rw [nodup_inj hnd i hi j hj e]
  have hlen : vals.length = its.length := by rw [hv, List.length_map]
  rw [List.length_map] at hz
  refine SrtO.sorted_ord (swo_str kf) hl.isList (by rw [hlen]; exact hz) (fun h2 h₁ b hb kk => ?_) fun out hsr hst => ?_
  · refine ktup_sortable (s := { s with heap := h₁ }) (by omega) (fun v hm => (hp v hm).keeps fun c o e _ => (kk c o e).2) hi fun o e => ?_
    have e' : some o = some (seqObj "list" vals.toArray 0) := e.symm.trans hb
    cases e'
    intro c
    exact absurd (Value.type.inj c) (by decide)
  · -- the items of what comes out
    let un : Value → Option (Addr × Str × List D) := fun v => match v with
      | .ref x => g x
      | _ => none
    have hun : ∀ i ∈ its, un (.ref i.1) = some i := fun i hi => hg i hi
    have pm : out.Perm vals := hst.perm
    let its' := out.filterMap un
    have hf : ∀ l : List (Addr × Str × List D), (∀ i ∈ l, i ∈ its) → (l.map fun i => Value.ref i.1).filterMap un = l := fun l => by
      induction l with
      | nil => intro _; rfl
      | cons i l ih =>
        intro hm
        rw [List.map_cons, List.filterMap_cons, hun i (hm i List.mem_cons_self), ih fun j hj => hm j (List.mem_cons_of_mem _ hj)]
    have p1 : its'.Perm its := by
      have := pm.filterMap un
      rw [hv, hf its fun _ h => h] at this
      exact this
    have ho : out = its'.map fun i => Value.ref i.1 := by
      have hm : ∀ v ∈ out, ∃ i ∈ its, v = .ref i.1 := fun v hv' => by
        have := pm.mem_iff.mp hv'
        rw [hv] at this
        obtain ⟨i, hi, e⟩ := List.mem_map.mp this
        exact ⟨i, hi, e.symm⟩
      show out = (out.filterMap un).map _
      clear pm p1 hst hsr
      clear its'
      induction out with
      | nil => rfl
      | cons v out ih =>
        obtain ⟨i, hi, e⟩ := hm v List.mem_cons_self
        subst e
        rw [List.filterMap_cons, hun i hi, List.map_cons, ← ih fun u hu => hm u (List.mem_cons_of_mem _ hu)]
    have p2 : its'.Pairwise (fun i j => strLt j.2.1 i.2.1 = false) := by
      have := hsr
      rw [ho] at this
      have q2 := List.pairwise_map.mp this
      refine q2.imp_of_mem fun {i j} hi hj h => ?_
      have a1 := hkf i (p1.mem_iff.mp hi)
      have a2 := hkf j (p1.mem_iff.mp hj)
      show strLt j.2.1 i.2.1 = false
      rw [← a1, ← a2]
      exact h
    obtain ⟨ep, he'⟩ := PyProof.Rows.sortedAll_at s.heap vals out.toArray
    have hz2 : (its'.map fun i => V.ref i.1).length ≤ sizeLine := by rw [List.length_map, p1.length_eq]; exact hz
    have rv2 : Vals (its'.map fun i => V.ref i.1) out := by
      rw [ho]
      exact vals_maps _ _ its' fun z _ => rfl
    exact ⟨.ref _, upd H (s.heap.objs.size + 1) (.lst (its'.map fun i => V.ref i.1)), I.laid (t' := s.toks) (fun _ _ => PyProof.Rows.sortedAll_old) (Nat.le_succ _) ⟨hz2, out, ep, rv2, he'⟩, rfl, q its' _ p1 p2 (I.hok.fresh (Nat.le_succ _))⟩
/-! ### the reading -/
def rowW (r : Str × List D) : W := .fz (.tup (.str r.1 :: r.2))
def rowsOf : List W → Option (List (Str × List D))
  | [] => some []
  | .fz (.tup (.str k :: r)) :: ws => (rowsOf ws).map ((k, r) :: ·)
  | _ :: _ => none
theorem rowsOf_map (rs : List (Str × List D)) : rowsOf (rs.map rowW) = some rs := by
  induction rs with
  | nil => rfl
  | cons r rs ih => show (rowsOf (rs.map rowW)).map ((r.1, r.2) :: ·) = _; rw [ih]; rfl
theorem rowsOf_eq : ∀ {ws : List W} {rs : List (Str × List D)}, rowsOf ws = some rs → ws = rs.map rowW
  | [], _, h => by cases h; rfl
  | w :: ws, rs, h => by
    unfold rowsOf at h
    split at h
    · rename_i e; cases e
    · rename_i k r ws' e
      cases e
      cases q : rowsOf ws with
      | none => rw [q] at h; cases h
      | some ys =>
        rw [q] at h
        cases h
        rw [List.map_cons, ← rowsOf_eq q]
        rfl
    · cases h
def sortedK (own : Bool) : DRL := fun ws S Kp => match ws with
  | [x] => onO (vL S x) fun ys => onO (rowsOf ys) fun rs => (rs.map (·.1)).Nodup ∧ ∀ rs' : List (Str × List D), rs'.Perm rs → rs'.Pairwise (fun a b => strLt a.1 b.1 = true) → newL own (rs'.map rowW) S Kp
  | _ => False
section
variable {X : Cx} {Ξ : Xt}
theorem rwl_rows {K : PySem.W.Frag} {B : Hp} {m : List Addr} : ∀ {rs : List (Str × List D)} {vs : List V}, RWL K B m (rs.map rowW) vs → ∃ its : List (Addr × Str × List D), vs = its.map (fun i => V.ref i.1) ∧ its.map (·.2) = rs ∧ ∀ i ∈ its, RW K B m (rowW i.2) (.ref i.1)
  | [], _, .nil => ⟨[], rfl, rfl, fun _ h => by cases h⟩
  | r :: rs, _, .cons q t => by
    obtain ⟨its, e1, e2, h⟩ := rwl_rows t
    cases q with
    | fz q =>
      cases q with
      | tup s u =>
        rename_i a vs
        refine ⟨(a, r) :: its, by rw [e1]; rfl, by rw [← e2]; rfl, fun i hi => ?_⟩
        rcases List.mem_cons.mp hi with rfl | hi
        · exact .fz (.tup s u)
        · exact h i hi
theorem rwl_rows_of {K : PySem.W.Frag} {B : Hp} {m : List Addr} : ∀ {its : List (Addr × Str × List D)}, (∀ i ∈ its, RW K B m (rowW i.2) (.ref i.1)) → RWL K B m ((its.map (·.2)).map rowW) (its.map fun i => V.ref i.1)
  | [], _ => .nil
  | i :: its, h => .cons (h i List.mem_cons_self) (rwl_rows_of fun j hj => h j (List.mem_cons_of_mem _ hj))
theorem cd_sortedK (own : Bool) : CallD X (.builtin "sorted") (sortedK own) := fun F => CallR.imp cr_sortedKT fun xs H Q ⟨B, m, S, ws, Kp, cf, r, h0, k⟩ => by
  unfold sortedK at h0
  split at h0
  rotate_left
  · exact h0.elim
  obtain ⟨ys, e1, h1⟩ := onO_ex h0
  obtain ⟨rs, e2, hnd, h⟩ := onO_ex h1
  obtain ⟨v, e, rv⟩ := r.one
  subst e
  obtain ⟨a, vs, ea, hs, rr⟩ := vL_ok cf rv e1
  subst ea
  rw [rowsOf_eq e2] at rr
  obtain ⟨its, e3, e4, hr⟩ := rwl_rows rr
  subst e3
  refine ⟨a, its, rfl, .of hs, fun i hi => ?_, by rw [← e4, List.map_map] at hnd; exact hnd, fun its' p pm pw hp => ?_⟩
  · cases hr i hi with
    | fz q =>
      cases q with
      | tup s u =>
        cases u with
        | cons u1 u2 =>
          cases u1
          exact ⟨_, cf.sub.seqT s⟩
  · have hnd' : (its'.map fun i => i.2.1).Nodup := by
      rw [← e4, List.map_map] at hnd
      exact (pm.map _).nodup_iff.mpr hnd
    refine newL_ok cf (rwl_rows_of fun i hi => hr i (pm.mem_iff.mp hi)) (h (its'.map (·.2)) (by rw [← e4]; exact pm.map _) ?_) k hp
    refine List.pairwise_map.mpr ?_
    have nd2 : its'.Pairwise fun i j => i.2.1 ≠ j.2.1 := List.pairwise_map.mp hnd'
    refine (pw.and nd2).imp fun {i j} h => ?_
    rcases strLt_or h.2 with q | q
    · exact q
    · rw [h.1] at q; cases q
theorem e_sortedK {e : Expr} {es : List Expr} {p pos : Pos} {das : DA} (own : Bool) (bi : Bi X.mg) (ha : DPA X Ξ (e :: es) das) (hg : Gl X "sorted" := by rfl) (he : starEach (e :: es) X.env = (false, eval e X.env) :: starEach es X.env := by rfl) (hpl : (backTo pos (starEach es X.env)).any (·.1) = false := by rfl) : DPE X Ξ (.Call (.Name "sorted" p) (e :: es) [] pos) (dCB (sortedK own) das) := dpe_callB (cd_sortedK own) hg bi.sorted PyProof.Rows.boot_sorted ha (by decide) (by decide) he hpl
end
end DL
/-! DL14: defs that return a new list that may change -/
namespace DL
open PySem PySem.Spec PyProof.Rows L2

def lstD : D → Option (List D)
  | .lst ds => some ds
  | _ => none
theorem lstD_eq {d : D} {ds : List D} (h : lstD d = some ds) : d = .lst ds := by
  unfold lstD at h
  split at h
  · cases h; rfl
  · cases h
def psL (P : PSp) : DSp := fun ws S Kp => ∃ ds, ws = ds.map W.fz ∧ S = [] ∧ P ds fun d => onO (lstD d) fun es => Kp (.hd 0) [.lst (es.map .fz)]
abbrev CalL (P : Program) (w : World) (K : PySem.W.Frag) (T : Addr → Prop) (mg : Str → Option Value) (base : Heap) (k : Nat) (x : Str) (ps : PSp) : Prop := CalD P w K T mg base k x (psL ps)
def dCallL (P : PSp) (da : DA) : DE := fun env S Kp => da env S fun ws S1 => onO (fzL ws) fun ds => P ds fun d => onO (lstD d) fun es => Kp (.hd S1.length) (S1 ++ [.lst (es.map .fz)])
def LK (Kp : WK) (S : Sto) : WK := fun w S2 => match w, S2 with
  | .hd 0, [.lst ws] => onO (fzL ws) fun es => Kp (.hd S.length) (S ++ [.lst (es.map .fz)])
  | _, _ => False
theorem LK_ok {Kp : WK} {S : Sto} {w : W} {S2 : Sto} (h : LK Kp S w S2) : ∃ es : List D, w = .hd 0 ∧ S2 = [.lst (es.map .fz)] ∧ Kp (.hd S.length) (S ++ [.lst (es.map .fz)]) := by
  unfold LK at h
  split at h
  · obtain ⟨es, e, h⟩ := onO_ex h
    exact ⟨es, rfl, by rw [fzL_eq e], h⟩
  · cases h
theorem onO_fz {ds : List D} {k : List D → Prop} (h : k ds) : onO (fzL (ds.map W.fz)) k := by
  rw [fzL_map]
  exact h
section
variable {X : Cx} {Ξ : Xt} {k j : Nat} {x : Str} {P : PSp} {p pos : Pos} {e : Expr} {es : List Expr} {da : DA}
theorem psp_mono_L {Kp : WK} {S1 : Sto} {P : PSp} {ds : List D} (hP : ∀ (ds : List D) (A B : D → Prop), (∀ d, A d → B d) → P ds A → P ds B) (h : P ds fun d => onO (lstD d) fun es => Kp (.hd S1.length) (S1 ++ [.lst (es.map .fz)])) :
    P ds fun d => onO (lstD d) fun es => LK Kp S1 (.hd 0) [.lst (es.map .fz)] := hP _ _ _ (fun d h => by
  obtain ⟨es, e, h⟩ := onO_ex h
  rw [e]
  exact onO_fz h) h
theorem dpe_callL (hP : ∀ (ds : List D) (A B : D → Prop), (∀ d, A d → B d) → P ds A → P ds B) (c : CalL X.prog X.w X.K Ξ.T X.mg X.base k x P) (hr : Room j X.A) (hk : k ≤ j) (hg : Gl X x) (ha : DPA X Ξ (e :: es) da)
    (hdb : (x == ("__debug__" : Str)) = false := by decide) (he : starEach (e :: es) X.env = (false, eval e X.env) :: starEach es X.env := by rfl) (hpl : (backTo pos (starEach es X.env)).any (·.1) = false := by rfl) :
    DPE X Ξ (.Call (.Name x p) (e :: es) [] pos) (dCallL P da) := ⟨fun F ok => PE.imp (C8.pe_c c hr hk hg (ha.run F ok) hdb he hpl) fun σ H Q h => by
  obtain ⟨B, m, S, env, Kp, cf, er, h, kw⟩ := h
  refine ⟨B, m, S, env, _, cf, er, h, fun ws S1 h0 vs H1 B1 m1 n1 r => ?_⟩
  obtain ⟨ds, e1, h1⟩ := onO_ex h0
  replace e1 := fzL_eq e1
  show spD X.K Ξ.T (psL P) (vs ++ []) H1 Q E0
  rw [← ok.t]
  rw [List.append_nil]
  subst e1
  have c0 := n1.cf.lend (k := 0) (lent := []) (Nat.zero_le _) rfl
  refine ⟨B1, m1.take 0, ds.map W.fz, [], LK Kp S1, c0, (r.fz).fz, ⟨ds, rfl, rfl, psp_mono_L hP h1⟩, fun w S2 h20 v H2 B2 m2 n2 r2 => ?_⟩
  obtain ⟨es, ew, eS, h2⟩ := LK_ok h20
  subst eS; subst ew
  have n3 := n1.cf.back (Nat.zero_le _) n2
  have e3 : mrg 0 S1 [.lst (es.map .fz)] = S1 ++ [.lst (es.map .fz)] := by
    unfold mrg
    simp only [List.take_zero, List.map_nil, List.nil_append, List.drop_zero, List.map_cons, renOD, renL_fz]
  rw [e3] at n3
  have r3 := r2.ren (k := 0) (S := S1) (m := m1) (Nat.zero_le _) n1.cf.len n2.pr
  have e4 : DL.ren 0 S1.length (.hd 0) = .hd S1.length := rfl
  rw [e4] at r3
  exact kw _ _ h2 _ _ _ _ (n1.trans n3) r3⟩
end
/-- where such a def returns -/
def retL (Kp : D → Prop) (u : W) (S' : Sto) : Prop := match u with
  | .hd j => onO (lstAt S' j) fun ws => onO (fzL ws) fun ds => Kp (.lst ds)
  | _ => False
theorem retL_ex {Kp : D → Prop} {u : W} {S' : Sto} (h : retL Kp u S') : ∃ (j : Nat) (ds : List D), u = .hd j ∧ S'[j]? = some (.lst (ds.map .fz)) ∧ Kp (.lst ds) := by
  unfold retL at h
  split at h
  · obtain ⟨ws, e1, h⟩ := onO_ex h
    obtain ⟨ds, e2, h⟩ := onO_ex h
    exact ⟨_, ds, rfl, by rw [lstAt_eq e1, fzL_eq e2], h⟩
  · exact h.elim
theorem Nx.pick {K : PySem.W.Frag} {F : Fx} {B B' : Hp} {m' : List Addr} {H H' : Hp} {S' : Sto} {j : Nat} {ds : List D} {v : V} (n : Nx K F B [] H B' m' S' H') (hF : F.L = []) (e : S'[j]? = some (.lst (ds.map .fz))) (r : RW K B' m' (.hd j) v) :
    ∃ a, Nx K F B [] H B' [a] [.lst (ds.map .fz)] H' ∧ v = .ref a := by
  obtain ⟨a, vs, ea, em, hs, rr⟩ := n.cf.lst r e
  subst ea
  refine ⟨a, ⟨⟨n.cf.b0, n.cf.sub, n.cf.bnew, n.cf.fr, n.cf.dom, rfl, fun i x h => by rw [hF] at h; simp at h, fun i x h => ?_, fun i i' x h1 h2 => ?_, fun i x od h1 h2 => ?_, fun q tq => let ⟨g1, g2, g3⟩ := n.cf.tab q tq; ⟨g1, g2, fun i e => by
      cases i with
      | zero => simp at e; subst e; exact g3 _ em
      | succ i => simp at e⟩⟩, n.sb, fun i x h => by simp at h, n.kp, fun i x h => ?_, n.dm, n.bn⟩, rfl⟩
  · cases i with
    | zero =>
      simp at h
      subst h
      rcases n.cf.new j _ em with z | z
      · rw [hF] at z; simp at z
      · exact .inr z
    | succ i => simp at h
  · cases i <;> cases i' <;> simp_all
  · cases i with
    | zero =>
      simp at h1 h2
      subst h1; subst h2
      obtain ⟨o, q1, q2, q3⟩ := n.cf.own j _ _ em e
      rw [hs] at q1
      cases q1
      exact ⟨_, hs, ⟨vs, rfl, rr.fz.fz⟩, q3⟩
    | succ i => simp at h1
  · cases i with
    | zero => simp at h; subst h; exact n.nw j _ em
    | succ i => simp at h
section
variable {P : Program} {w : World} {K : PySem.W.Frag} {T : Addr → Prop} {mg : Str → Option Value} {base : Heap}
theorem Df.calL {x : Str} {st : Stmt} {N ps : List Str} {k : Nat} {Q : PSp} {ds : DS} (hQ : ∀ (ds : List D) (A B : D → Prop), (∀ d, A d → B d) → Q ds A → Q ds B) (D : Df K mg x st) (hb : ∀ (kV doc pm : Value) (an : Option Addr) (cdv ct : Value) (us : List Value), us.length = ps.length → bindArgs (PySem.W.fnOf x x (C8.fnArgs st) (C8.fnBody st) (C8.fnScope st) .none kV doc pm an cdv ct) ⟨us, []⟩ = pure (ps.zip us))
    (S : FnScope N ps (C8.fnScope st)) (len : ∀ xs Kp, Q xs Kp → xs.length = ps.length)
    (hbody : ∀ (f : Addr) (cdv : Value) (A : Around) (outer : List Env) (s : Shared) (H : Hp) (E : XK), Room k (A.deeper (envOfC x (C8.fnScope st) s.heap.objs.size f cdv)) → DPSs (cxOf CX0 P w K mg base N x (C8.fnScope st) f cdv A outer s H E).nox (Xt.of T) (C8.fnBody st) ds)
    (hread : ∀ xs Kp, Q xs Kp → ds ⟨fun _ _ => False, fun u S' => retL Kp u S', fun _ _ => False, fun _ _ => False⟩ (startD N (xs.map W.fz)) []) : CalL P w K T mg base (k + 1) x Q := by
  obtain ⟨f, fd, F, df⟩ := D.ex
  refine C8.cal0 F (F.fn.binds df hb) .nil S (fun vs H Q' E ⟨B, L, ws, lent, Kp, _, r, ⟨xs, e, _, h⟩, _⟩ => by rw [← r.length, e, List.length_map]; exact len _ _ h) fun cdv A outer s H vs Q' E hr ⟨B, L, ws, lent, Kp, c, r, ⟨xs, e, e2, h⟩, kw⟩ => ?_
  subst e; subst e2
  have hL : L = [] := List.eq_nil_of_length_eq_zero c.len
  subst hL
  refine ⟨_, (hbody f cdv A outer s H E hr).run ⟨B, H, [], T⟩ (.of rfl), B, [], [], _, _, c, ER.start r, hread xs _ h, fun _ _ z => z.elim, ?_, fun _ _ z => z.elim, fun _ _ z => z.elim⟩
  rintro u S' hk0 v H' B' m' n r'
  have hk1 : retL (fun d => onO (lstD d) fun es => Kp (.hd 0) [.lst (es.map .fz)]) u S' := hk0
  obtain ⟨j, ds, eu, eS, hk⟩ := retL_ex hk1
  subst eu
  obtain ⟨es, e5, hk⟩ := onO_ex hk
  cases lstD_eq e5
  obtain ⟨a, n2, ev⟩ := n.pick rfl eS r'
  subst ev
  exact kw _ _ hk _ _ _ _ n2 (.hd rfl)
end
/-! ### the last object of a store -/
theorem at_last {S : Sto} {o : OD} : (S ++ [o])[S.length]? = some o := by simp
theorem lstAt_last {S : Sto} {ws : List W} {k : List W → Prop} (h : k ws) : onO (lstAt (S ++ [.lst ws]) S.length) k := by
  unfold lstAt
  rw [at_last]
  exact h
theorem dW_last {S : Sto} {ds : List D} {k : D → Prop} (h : k (.lst ds)) : onO (dW (S ++ [.lst (ds.map .fz)]) (.hd S.length)) k := by
  unfold dW
  simp only [at_last, fzL_map]
  exact h
theorem tyW_last {S : Sto} {ws : List W} {k : Ty → Prop} (h : k .list) : onO (tyW (S ++ [.lst ws]) (.hd S.length)) k := by
  unfold tyW
  simp only [at_last]
  exact h
theorem set_last {S : Sto} {o o' : OD} : (S ++ [o]).set S.length o' = S ++ [o'] := by
  rw [List.set_append_right _ _ (Nat.le_refl _), Nat.sub_self]
  rfl
end DL
/-! DL15: zip of two lists; of two lists and a tuple; two walks in one comprehension -/
namespace DL
open PySem PySem.Spec PyProof.Rows L2

/-! ### three at once -/
def Itz3 (K : PySem.W.Frag) (a b c : Addr) : It :=
  ⟨fun i H => ∃ (xs ys zs : List V) (x y u : V), SqL K H a xs ∧ SqL K H b ys ∧ SqT K H c zs ∧ xs[i]? = some x ∧ ys[i]? = some y ∧ zs[i]? = some u,
    fun i H v H' => ∃ T x y u, v = .ref T ∧ H T = none ∧ H' = upd H T (.tup [x, y, u]) ∧ (∀ xs, SqL K H a xs → xs[i]? = some x) ∧ (∀ ys, SqL K H b ys → ys[i]? = some y) ∧ ∀ zs, SqT K H c zs → zs[i]? = some u,
    fun i H => ∃ xs ys zs : List V, SqL K H a xs ∧ SqL K H b ys ∧ SqT K H c zs ∧ i ≤ xs.length ∧ i ≤ ys.length ∧ i ≤ zs.length ∧ (i = xs.length ∨ i = ys.length ∨ i = zs.length)⟩
theorem turn_zip3 {P : Program} {w : World} {K : PySem.W.Frag} {elts : List Expr} {kk : Nat} {tpos : Pos} {a b c z TI TO i1 i2 i3 : Addr} (D : ZipSep3 z TI TO i1 i2 i3 [i1, a] [i2, b] [i3, c]) (n1 : a ≠ i1) (n2 : b ≠ i2) (n3 : c ≠ i3) :
    Turn P w K (.Tuple elts kk tpos) (Itz3 K a b c) [z, TI, TO, i1, i2, i3] z (fun i h => IsZip h z TI TO .none ∧ IsTupOf3 h TI (.ref i1) (.ref i2) (.ref i3) ∧ (∃ x y u, IsTupOf3 h TO x y u) ∧ h.IsListIter i1 a i ∧ h.IsListIter i2 b i ∧ h.IsTupleIter i3 c i) where
  mem := by simp
  obj := fun i h st c hc => by
    obtain ⟨hz, hTI, ⟨x, y, u, hTO⟩, ⟨o1, e1, _, d1⟩, ⟨o2, e2, _, d2⟩, ⟨o3, e3, _, d3⟩⟩ := st
    have e' : c = z ∨ c = TI ∨ c = TO ∨ c = i1 ∨ c = i2 ∨ c = i3 := by simpa using hc
    rcases e' with q | q | q | q | q | q
    · rw [q]; exact ⟨_, hz, fun v q => nomatch q⟩
    · rw [q]; exact ⟨_, hTI, fun v q => nomatch q⟩
    · rw [q]; exact ⟨_, hTO, fun v q => nomatch q⟩
    · rw [q]; exact ⟨o1, e1, fun v q => by rw [d1] at q; cases q⟩
    · rw [q]; exact ⟨o2, e2, fun v q => by rw [d2] at q; cases q⟩
    · rw [q]; exact ⟨o3, e3, fun v q => by rw [d3] at q; cases q⟩
  keep := fun i h h' st k => by
    obtain ⟨hz, hTI, ⟨x, y, u, hTO⟩, h1, h2, h3⟩ := st
    exact ⟨k z (by simp) _ hz, k TI (by simp) _ hTI, ⟨x, y, u, k TO (by simp) _ hTO⟩, h1.at fun o q => k i1 (by simp) o q, h2.at fun o q => k i2 (by simp) o q, h3.at fun o q => k i3 (by simp) o q⟩
  item := by
    intro X hP hw hK hc i pins s σ H E I hf st hg
    subst hP hw hK
    obtain ⟨hz, hTI, ⟨x0, y0, u0, hTO⟩, h1, h2, h3⟩ := st
    obtain ⟨xs, ys, zs, x, y, u, hqx, hqy, hqz, hx, hy, hu⟩ := hg
    obtain ⟨its, rv, p, _⟩ := I.list hqx
    obtain ⟨its2, rv2, p2, _⟩ := I.list hqy
    obtain ⟨its3, rv3, p3, _⟩ := I.tuple hqz
    obtain ⟨v1, hv1, r1⟩ := rv.get hx
    obtain ⟨v2, hv2, r2⟩ := rv2.get hy
    obtain ⟨v3, hv3, r3⟩ := rv3.get hu
    have hzl : z < s.heap.objs.size := Heap.lt_size hz
    have hd : X.A.in1.handled = none := I.ok.hd hc
    have l1 := Array.getElem?_eq_some_iff.mp (show its.toArray[i]? = some v1 by simpa using hv1)
    have l2 := Array.getElem?_eq_some_iff.mp (show its2.toArray[i]? = some v2 by simpa using hv2)
    have l3 := Array.getElem?_eq_some_iff.mp (show its3.toArray[i]? = some v3 by simpa using hv3)
    have q3 : s.heap.IsTuple c its3.toArray := p3
    refine wpAny_pyNext_zipD3_item D (.list hd i1 a n1 its.toArray) (.list hd i2 b n2 its2.toArray) (.tuple hd i3 c n3 its3.toArray) hz hTI hTO ⟨h1, p.isList⟩ ⟨h2, p2.isList⟩ ⟨h3, q3⟩ l1.1 l2.1 l3.1 fun x1 x2 x3 h' tk y1 y2 y3 z' TO' st1 st2 st3 hT hsz hk => ?_
    obtain rfl : x1 = v1 := by
      have y1' : its.toArray[i]? = some x1 := y1
      rw [show its.toArray[i]? = some v1 by simpa using hv1] at y1'
      exact (Option.some.inj y1').symm
    obtain rfl : x2 = v2 := by
      have y2' : its2.toArray[i]? = some x2 := y2
      rw [show its2.toArray[i]? = some v2 by simpa using hv2] at y2'
      exact (Option.some.inj y2').symm
    obtain rfl : x3 = v3 := by
      have y3' : its3.toArray[i]? = some x3 := y3
      rw [show its3.toArray[i]? = some v3 by simpa using hv3] at y3'
      exact (Option.some.inj y3').symm
    refine ⟨_, rfl, wpAny_letOwnedTupleGo_zip (s := { s with heap := h', toks := tk }) z' fun h'' z'' sb => ?_⟩
    have hT2 : h''.get? s.heap.objs.size = some { cls := .type "tuple", data := .seq #[x1, x2, x3] } := (sb.2 _ (Nat.ne_of_gt hzl)).trans hT
    have new : ObjOk X.prog X.w (upd H s.heap.objs.size (.tup [x, y, u])) h'' s.heap.objs.size (.tup [x, y, u]) :=
      ⟨by show 3 ≤ sizeLine; decide, [x1, x2, x3], .cons r1 (.cons r2 (.cons r3 .nil)), ⟨_, hT2, rfl, _, rfl⟩⟩
    have I1 : Inv X pins σ (upd H s.heap.objs.size (.tup [x, y, u])) { s with heap := h'', toks := tk } :=
      I.turnedNew (t' := tk) (ch := [z, TI, TO, i1, i2, i3]) (fun c o hb q => (sb.2 c (fun q' => hb (by simp [q']))).trans (hk c o (fun q' => hb (by simp [q'])) (fun q' => hb (by simp [q'])) (fun q' => hb (by simp [q'])) (fun q' => hb (by simp [q'])) (fun q' => hb (by simp [q'])) q)) hf (Nat.le_refl _) new
    refine ⟨.ref s.heap.objs.size, _, I1, rfl, ⟨_, x, y, u, rfl, I.hok.fresh (Nat.le_refl _), rfl, fun l hl => by rw [I.list_inj hl hqx]; exact hx, fun l hl => by rw [I.list_inj hl hqy]; exact hy, fun l hl => by rw [I.tuple_inj hl hqz]; exact hu⟩, ⟨z'', ?_, ⟨x1, x2, x3, ?_⟩, ?_, ?_, ?_⟩, fun c hcm => ?_⟩
    · exact (sb.2 _ D.TIz).trans (hk _ _ D.TIz D.TITO D.TIi1 D.TIi2 D.TIi3 hTI)
    · exact (sb.2 _ D.TOz).trans TO'
    · exact st1.1.at fun o q => (sb.2 _ (Ne.symm D.zi1)).trans q
    · exact st2.1.at fun o q => (sb.2 _ (Ne.symm D.zi2)).trans q
    · exact st3.1.at fun o q => (sb.2 _ (Ne.symm D.zi3)).trans q
    · have hlt : c < s.heap.objs.size := by
        have e' : c = z ∨ c = TI ∨ c = TO ∨ c = i1 ∨ c = i2 ∨ c = i3 := by simpa using hcm
        rcases e' with q | q | q | q | q | q
        · rw [q]; exact hzl
        · rw [q]; exact Heap.lt_size hTI
        · rw [q]; exact Heap.lt_size hTO
        · rw [q]; obtain ⟨_, e1, _⟩ := h1; exact Heap.lt_size e1
        · rw [q]; obtain ⟨_, e2, _⟩ := h2; exact Heap.lt_size e2
        · rw [q]; obtain ⟨_, e3, _⟩ := h3; exact Heap.lt_size e3
      rw [upd_ne (Nat.ne_of_lt hlt)]
      exact (hf c hcm).1
  done := by
    intro X hP hw hK hc i pins s σ H E I hf st hg
    subst hP hw hK
    obtain ⟨hz, hTI, ⟨x0, y0, u0, hTO⟩, h1, h2, h3⟩ := st
    obtain ⟨xs, ys, zs, hqx, hqy, hqz, b1, b2, b3, hend⟩ := hg
    obtain ⟨its, rv, p, _⟩ := I.list hqx
    obtain ⟨its2, rv2, p2, _⟩ := I.list hqy
    obtain ⟨its3, rv3, p3, _⟩ := I.tuple hqz
    have e1 := rv.length
    have e2 := rv2.length
    have e3 := rv3.length
    have hd : X.A.in1.handled = none := I.ok.hd hc
    have q3 : s.heap.IsTuple c its3.toArray := p3
    have s1 : its.toArray.size = its.length := by simp
    have s2 : its2.toArray.size = its2.length := by simp
    have s3 : its3.toArray.size = its3.length := by simp
    exact wpAny_pyNext_zipD3_end D (.list hd i1 a n1 its.toArray) (.list hd i2 b n2 its2.toArray) (.tuple hd i3 c n3 its3.toArray) hz hTI hTO ⟨h1, p.isList⟩ ⟨h2, p2.isList⟩ ⟨h3, q3⟩ (by omega) (by omega) (by omega) (by omega) fun h' tk hk => ⟨rfl, I.turnedL (t' := tk) (ch := [z, TI, TO, i1, i2, i3]) (fun c o hb q =>
      hk c o (fun q' => hb (by simp [q'])) (fun q' => hb (by simp [q'])) (fun q' => hb (by simp [q'])) (fun q' => hb (by simp [q'])) (fun q' => hb (by simp [q'])) q) hf⟩
  self := fun A i s Q E st h => wpAny_pyIter_zip st.1 h
theorem nA {x y : Nat} (h : ¬ x = y) : ¬ @Eq Addr x y := h
theorem sep3 (I a b c : Nat) (h1 : a < I) (h2 : b < I) (h3 : c < I) : ZipSep3 (I + 5) (I + 3) (I + 4) I (I + 1) (I + 2) [I, a] [I + 1, b] [I + 2, c] := by
  constructor <;> (simp only [List.mem_cons, List.not_mem_nil, or_false, not_or, ne_eq, true_or]) <;> (first | exact nA (by omega) | exact ⟨nA (by omega), nA (by omega)⟩)
def iZip3 (K : PySem.W.Frag) (ta : TA) : TI := fun σ H R => ta σ H fun vs H1 => ∃ a b c xs ys zs, vs = [.ref a, .ref b, .ref c] ∧ SqL K H1 a xs ∧ SqL K H1 b ys ∧ SqT K H1 c zs ∧ R (Itz3 K a b c) H1
theorem pi_zip3 {X : Cx} {e e2 e3 : Expr} {ta : TA} {p pos tpos : Pos} {elts : List Expr} {kk : Nat} (hg : Gl X "zip") (hm : X.mg "zip" = none) (ha : PA X [e, e2, e3] ta)
    (hs : starEach [e, e2, e3] X.env = (false, eval e X.env) :: starEach [e2, e3] X.env := by rfl) (hpl : (backTo pos (starEach [e2, e3] X.env)).any (·.1) = false := by rfl) :
    PI X (.Tuple elts kk tpos) (.Call (.Name "zip" p) [e, e2, e3] [] pos) (iZip3 X.K ta) := by
  refine ⟨fun pins s σ H R I h => ?_⟩
  refine Call_ (ld_blt I hg hm PyProof.Rows.boot_zip (PyProof.Rows.callWith_type1 (thn (ha.run pos pins s σ H _ I h) fun us s1 ⟨vs, H1, I1, r1, q1⟩ => ?_) hs hpl))
  obtain ⟨a, b, c, xs, ys, zs, ex, hqx, hqy, hqz, q⟩ := q1
  subst ex
  cases r1 with
  | cons r rr =>
    cases rr with
    | cons r' rr =>
      cases rr with
      | cons r'' rr =>
      cases rr
      cases r
      cases r'
      cases r''
      obtain ⟨its, rv, p1, _⟩ := I1.list hqx
      obtain ⟨its2, rv2, p2, _⟩ := I1.list hqy
      obtain ⟨its3, rv3, p3, _⟩ := I1.tuple hqz
      have q3 : s1.heap.IsTuple c its3.toArray := p3
      have la : a < s1.heap.objs.size := p1.lt
      have lb : b < s1.heap.objs.size := p2.lt
      have lc : c < s1.heap.objs.size := by obtain ⟨o, ho, _⟩ := q3; exact Heap.lt_size ho
      refine zip_begins3 (begins_list a its.toArray) (begins_list b its2.toArray) (begins_tuple c its3.toArray) p1.isList p2.isList q3 fun h' hz hTI hTO h1 h2 h3 hsz hk => wpAny_pyIter_zip hz ?_
      have I2 : Inv X pins σ H1 { s1 with heap := h' } := I1.kept (t' := s1.toks) hk
      refine ⟨s1.heap.objs.size + 5, [s1.heap.objs.size + 5, s1.heap.objs.size + 3, s1.heap.objs.size + 4, s1.heap.objs.size, s1.heap.objs.size + 1, s1.heap.objs.size + 2], _, _, H1, rfl, I2, turn_zip3 (sep3 s1.heap.objs.size a b c la lb lc) (Nat.ne_of_lt la) (Nat.ne_of_lt (Nat.lt_succ_of_lt lb)) (Nat.ne_of_lt (Nat.lt_succ_of_lt (Nat.lt_succ_of_lt lc))), ⟨hz, hTI, ⟨_, _, _, hTO⟩, ⟨_, h1, rfl, rfl⟩, ⟨_, h2, rfl, rfl⟩, ⟨_, h3, rfl, rfl⟩⟩, fun c hcm => ?_, q⟩
      have e' : c = s1.heap.objs.size + 5 ∨ c = s1.heap.objs.size + 3 ∨ c = s1.heap.objs.size + 4 ∨ c = s1.heap.objs.size ∨ c = s1.heap.objs.size + 1 ∨ c = s1.heap.objs.size + 2 := by simpa using hcm
      have hle : s1.heap.objs.size ≤ c := by
        rcases e' with z | z | z | z | z | z
        · rw [z]; exact Nat.le_add_right _ _
        · rw [z]; exact Nat.le_add_right _ _
        · rw [z]; exact Nat.le_add_right _ _
        · rw [z]; exact Nat.le_refl _
        · rw [z]; exact Nat.le_add_right _ _
        · rw [z]; exact Nat.le_add_right _ _
      exact I1.fpOk hle (I1.hok.fresh hle)
/-! ### what is walked, of data -/
def dZip2 (da : DA) : DI := fun env S Kp => da env S fun ws S1 => match ws with
  | [.fz (.lst as), .fz (.lst bs)] => Kp ((as.zip bs).map fun p => .fz (.tup [p.1, p.2])) S1
  | _ => False
def dZip3 (da : DA) : DI := fun env S Kp => da env S fun ws S1 => match ws with
  | [.fz (.lst as), .fz (.lst bs), .fz (.tup cs)] => Kp ((as.zip (bs.zip cs)).map fun p => .fz (.tup [p.1, p.2.1, p.2.2])) S1
  | _ => False
section
variable {K : PySem.W.Frag} {F : Fx} {B : Hp} {m : List Addr}
theorem zip_at {α β : Type} {as : List α} {bs : List β} {i : Nat} {p : α × β} (h : (as.zip bs)[i]? = some p) : as[i]? = some p.1 ∧ bs[i]? = some p.2 := by
  rw [List.getElem?_zip_eq_some] at h
  exact h
theorem dit_zip2 {a b : Addr} {as bs : List D} {vs us : List V} (ha : B a = some (.lst vs)) (ra : RpL K B as vs) (hb : B b = some (.lst us)) (rb : RpL K B bs us) : DIt K F (Itz K a b) ((as.zip bs).map fun p => .fz (.tup [p.1, p.2])) B m := by
  refine ⟨fun B1 m1 S1 H1 c sb pr => ⟨vs, us, .of (c.sub _ _ (sb _ _ ha)), .of (c.sub _ _ (sb _ _ hb)), ?_⟩, fun B1 m1 S1 H1 c sb pr i w e => ?_⟩
  · rw [List.length_map, List.length_zip, ← ra.length, ← rb.length]
    omega
  · rw [List.getElem?_map] at e
    cases q : (as.zip bs)[i]? with
    | none => rw [q] at e; cases e
    | some p =>
      rw [q] at e
      cases e
      obtain ⟨q1, q2⟩ := zip_at q
      obtain ⟨v1, e1, r1⟩ := ra.get q1
      obtain ⟨v2, e2, r2⟩ := rb.get q2
      have h1 : SqL K H1 a vs := .of (c.sub _ _ (sb _ _ ha))
      have h2 : SqL K H1 b us := .of (c.sub _ _ (sb _ _ hb))
      refine ⟨⟨vs, us, v1, v2, h1, h2, e1, e2⟩, fun x H' ⟨T, y1, y2, ex, hT, eH, f1, f2⟩ => ?_⟩
      subst ex; subst eH
      have g1 := f1 vs h1
      rw [e1] at g1
      cases g1
      have g2 := f2 us h2
      rw [e2] at g2
      cases g2
      have n := c.alloc (o := .tup [v1, v2]) hT
      exact ⟨_, n, .fz (.tup (.of upd_same) (.cons ((r1.mono sb).mono n.sb) (.cons ((r2.mono sb).mono n.sb) .nil)))⟩
theorem dit_zip3 {a b t : Addr} {as bs cs : List D} {vs us zs : List V} (ha : B a = some (.lst vs)) (ra : RpL K B as vs) (hb : B b = some (.lst us)) (rb : RpL K B bs us) (ht : SqT K B t zs) (rt : RpL K B cs zs) : DIt K F (Itz3 K a b t) ((as.zip (bs.zip cs)).map fun p => .fz (.tup [p.1, p.2.1, p.2.2])) B m := by
  refine ⟨fun B1 m1 S1 H1 c sb pr => ⟨vs, us, zs, .of (c.sub _ _ (sb _ _ ha)), .of (c.sub _ _ (sb _ _ hb)), c.sub.seqT (sb.seqT ht), ?_, ?_, ?_, ?_⟩, fun B1 m1 S1 H1 c sb pr i w e => ?_⟩
  · rw [List.length_map, List.length_zip, List.length_zip, ← ra.length]; omega
  · rw [List.length_map, List.length_zip, List.length_zip, ← rb.length]; omega
  · rw [List.length_map, List.length_zip, List.length_zip, ← rt.length]; omega
  · rw [List.length_map, List.length_zip, List.length_zip, ← ra.length, ← rb.length, ← rt.length]; omega
  · rw [List.getElem?_map] at e
    cases q : (as.zip (bs.zip cs))[i]? with
    | none => rw [q] at e; cases e
    | some p =>
      rw [q] at e
      cases e
      obtain ⟨q1, q2⟩ := zip_at q
      obtain ⟨q2, q3⟩ := zip_at q2
      obtain ⟨v1, e1, r1⟩ := ra.get q1
      obtain ⟨v2, e2, r2⟩ := rb.get q2
      obtain ⟨v3, e3, r3⟩ := rt.get q3
      have h1 : SqL K H1 a vs := .of (c.sub _ _ (sb _ _ ha))
      have h2 : SqL K H1 b us := .of (c.sub _ _ (sb _ _ hb))
      have h3 : SqT K H1 t zs := c.sub.seqT (sb.seqT ht)
      refine ⟨⟨vs, us, zs, v1, v2, v3, h1, h2, h3, e1, e2, e3⟩, fun x H' ⟨T, y1, y2, y3, ex, hT, eH, f1, f2, f3⟩ => ?_⟩
      subst ex; subst eH
      have g1 := f1 vs h1
      rw [e1] at g1
      cases g1
      have g2 := f2 us h2
      rw [e2] at g2
      cases g2
      have g3 := f3 zs h3
      rw [e3] at g3
      cases g3
      have n := c.alloc (o := .tup [v1, v2, v3]) hT
      exact ⟨_, n, .fz (.tup (.of upd_same) (.cons ((r1.mono sb).mono n.sb) (.cons ((r2.mono sb).mono n.sb) (.cons ((r3.mono sb).mono n.sb) .nil))))⟩
end
section
variable {X : Cx} {Ξ : Xt} {e e2 e3 : Expr} {da : DA} {p pos tpos : Pos} {elts : List Expr} {kk : Nat}
theorem i_zip2 (bi : Bi X.mg) (ha : DPA X Ξ [e, e2] da) (hg : Gl X "zip" := by rfl)
    (hs : starEach [e, e2] X.env = (false, eval e X.env) :: starEach [e2] X.env := by rfl) (hpl : (backTo pos (starEach [e2] X.env)).any (·.1) = false := by rfl) : DPI X Ξ (.Tuple elts kk tpos) (.Call (.Name "zip" p) [e, e2] [] pos) (dZip2 da) := ⟨fun F ok => PI.imp (pi_zip hg bi.zip (ha.run F ok) hs hpl) fun σ H R ⟨B, m, S, env, Kp, cf, er, h, k⟩ => by
  refine ⟨B, m, S, env, _, cf, er, h, fun ws S1 h1 vs H1 B1 m1 n1 r => ?_⟩
  split at h1
  rotate_left
  · exact h1.elim
  obtain ⟨v, u, ev, rv, ru⟩ := r.two
  subst ev
  cases rv with | fz rv => cases rv with | lst s1 t1 => cases ru with | fz ru => cases ru with | lst s2 t2 =>
    exact ⟨_, _, _, _, rfl, .of (n1.cf.sub _ _ s1), .of (n1.cf.sub _ _ s2), k _ _ h1 _ _ _ _ n1 (dit_zip2 s1 t1 s2 t2)⟩⟩
theorem i_zip3 (bi : Bi X.mg) (ha : DPA X Ξ [e, e2, e3] da) (hg : Gl X "zip" := by rfl)
    (hs : starEach [e, e2, e3] X.env = (false, eval e X.env) :: starEach [e2, e3] X.env := by rfl) (hpl : (backTo pos (starEach [e2, e3] X.env)).any (·.1) = false := by rfl) : DPI X Ξ (.Tuple elts kk tpos) (.Call (.Name "zip" p) [e, e2, e3] [] pos) (dZip3 da) := ⟨fun F ok => PI.imp (pi_zip3 hg bi.zip (ha.run F ok) hs hpl) fun σ H R ⟨B, m, S, env, Kp, cf, er, h, k⟩ => by
  refine ⟨B, m, S, env, _, cf, er, h, fun ws S1 h1 vs H1 B1 m1 n1 r => ?_⟩
  split at h1
  rotate_left
  · exact h1.elim
  cases r with | cons rv r => cases r with | cons ru r => cases r with | cons rt r =>
    cases r
    cases rv with | fz rv => cases rv with | lst s1 t1 => cases ru with | fz ru => cases ru with | lst s2 t2 => cases rt with | fz rt => cases rt with | tup s3 t3 =>
      exact ⟨_, _, _, _, _, _, rfl, .of (n1.cf.sub _ _ s1), .of (n1.cf.sub _ _ s2), n1.cf.sub.seqT s3, k _ _ h1 _ _ _ _ n1 (dit_zip3 s1 t1 s2 t2 s3 t3)⟩⟩
end
/-! ### a comprehension with two walks -/
def lcB (g1 : DG) (tt1 : DT) (te : DE) (env1 : En) : List W → List W → Sto → (List W → Sto → Prop) → Prop
  | [], acc, S, Kp => Kp acc S
  | w :: ws, acc, S, Kp => g1 w env1 S fun e S1 => tt1 e S1 fun b S2 => ifB b (te e S2 fun y S3 => acc.length < sizeLine ∧ lcB g1 tt1 te env1 ws (acc ++ [y]) S3 Kp) (lcB g1 tt1 te env1 ws acc S2 Kp)
def lcA (g : DG) (tt : DT) (di1 : DI) (g1 : DG) (tt1 : DT) (te : DE) (env0 : En) (vs1 : List Nat) : List W → List W → Sto → (List W → Sto → Prop) → Prop
  | [], acc, S, Kp => Kp acc S
  | w :: ws, acc, S, Kp => g w env0 S fun e S1 => tt e S1 fun b S2 => ifB b (di1 e S2 fun ws1 S3 => lcB g1 tt1 te (wipeD e vs1) ws1 acc S3 fun acc' S4 => lcA g tt di1 g1 tt1 te env0 vs1 ws acc' S4 Kp) (lcA g tt di1 g1 tt1 te env0 vs1 ws acc S2 Kp)
def dLc2 (o : Bool) (di : DI) (g : DG) (tt : DT) (di1 : DI) (g1 : DG) (tt1 : DT) (te : DE) (vs vs1 : List Nat) : DE := fun env S Kp => di env S fun ws S1 => lcA g tt di1 g1 tt1 te (wipeD env vs) vs1 ws [] S1 fun ys S2 => newL o ys S2 Kp
section
variable {X : Cx} {Ξ : Xt} {elt tg iter tg1 iter1 : Expr} {ifs ifs1 : List Expr} {scope : Scope} {ow : List (Str × Nat)} {vs1 : List Nat} {pos : Pos} {di di1 : DI} {g g1 : TG} {dg dg1 : DG} {tt tt1 : DT} {te : DE}
theorem ER.mono' {K : PySem.W.Frag} {B B' : Hp} {m m' : List Addr} {env : En} {σ : L2.St} (er : ER K B m env σ) (sb : Sub B B') (pr : Pre m m') : ER K B' m' env σ := ⟨er.1, fun i w e => by
  obtain ⟨v, h, r⟩ := er.2 i w e
  exact ⟨v, h, r.mono sb pr⟩⟩
theorem imp_lc2 (o : Bool) (vs : List Nat) (lk : Lk X.K g dg vs) (lk1 : Lk X.K g1 dg1 vs1) {F : Fx} (σ : L2.St) (H : Hp) (Q : VK) (h : lE X.K F (dLc2 o di dg tt di1 dg1 tt1 te vs vs1) σ H Q) : tLc2 (lI X.K F di) g (lT X.K F tt) (lI X.K F di1) g1 (lT X.K F tt1) (lE X.K F te) vs vs1 σ H Q := by
  obtain ⟨B, m, S, env, Kp, cf, er, h, k⟩ := h
  refine ⟨B, m, S, env, _, cf, er, h, fun ws S1 h1 J H1 B1 m1 n1 J1 D hD => ?_⟩
  have fD : F.H D = none := n1.cf.dom D hD
  have bD : B1 D = none := by
    cases q : B1 D with
    | none => rfl
    | some u => rw [n1.cf.sub _ _ q] at hD; cases hD
  have mD : ∀ i : Nat, m1[i]? ≠ some D := n1.cf.notIn hD
  have nT : ¬ F.T D := fun tq => tab_ne (n1.cf.tab D tq).1 hD rfl
  have er0 : ER X.K B1 m1 (wipeD env vs) (wipe σ vs) := (er.nx n1).wipe vs
  -- a step keeps the list that grows
  have keep : ∀ {Ba Bb : Hp} {ma mb : List Addr} {Sb : Sto} {Ga Gb : Hp} {u : HO}, Nx X.K F Ba ma Ga Bb mb Sb Gb → Ga D = some u → Ba D = none → (∀ j : Nat, ma[j]? ≠ some D) → Gb D = some u ∧ Bb D = none ∧ ∀ j : Nat, mb[j]? ≠ some D := fun {Ba Bb ma mb Sb Ga Gb u} n hu hb hm => by
    refine ⟨n.kp D u hu hm nT, ?_, fun j z => ?_⟩
    · cases q : Bb D with
      | none => rfl
      | some w =>
        rcases n.bn D w q with y | y | ⟨j, y⟩
        · rw [hb] at y; cases y
        · rw [hu] at y; cases y
        · exact (hm j y).elim
    · rcases n.nw j D z with y | y
      · exact hm j y
      · rw [hu] at y; cases y
  let fin : List W → Sto → Prop := fun ys S3 => newL o ys S3 Kp
  refine ⟨fun i n G => n = ws.length - i ∧ i ≤ ws.length ∧ ∃ (B2 : Hp) (m2 : List Addr) (S2 : Sto) (aw : List W) (av : List V), Nx X.K F B1 m1 H1 B2 m2 S2 G ∧ B2 D = none ∧ (∀ j : Nat, m2[j]? ≠ some D) ∧ G D = some (.lst av) ∧ RWL X.K B2 m2 aw av ∧
      lcA dg tt di1 dg1 tt1 te (wipeD env vs) vs1 (ws.drop i) aw S2 fin, ⟨_, rfl, Nat.zero_le _, B1, m1, S1, [], [], n1.cf.nx.side fD nT hD bD mD, bD, mD, upd_same, .nil, by rw [List.drop_zero]; exact h1⟩, ?_⟩
  rintro i n G ⟨en, hi, B2, m2, S2, aw, av, n2, b2, mm2, eD, ra, h2⟩
  by_cases hlt : i < ws.length
  · obtain ⟨hgo, hy⟩ := J1.go B2 m2 S2 G n2.cf n2.sb n2.pr i ws[i] (List.getElem?_eq_getElem hlt)
    rw [List.drop_eq_getElem_cons hlt] at h2
    refine .inr ⟨hgo, fun G' => ∃ (B2 : Hp) (m2 : List Addr) (S2 : Sto) (aw : List W) (av : List V), Nx X.K F B1 m1 H1 B2 m2 S2 G' ∧ B2 D = none ∧ (∀ j : Nat, m2[j]? ≠ some D) ∧ G' D = some (.lst av) ∧ RWL X.K B2 m2 aw av ∧
      lcA dg tt di1 dg1 tt1 te (wipeD env vs) vs1 (ws.drop (i + 1)) aw S2 fin, fun G' q => ⟨_, ?_, rfl, hlt, q⟩, fun x G3 y => ?_⟩
    · omega
    · obtain ⟨B3, n3, r3⟩ := hy x G3 y
      obtain ⟨k1, k2, k3⟩ := keep n3 eD b2 mm2
      refine lk F B3 m2 S2 G3 (wipeD env vs) σ ws[i] x _ _ n3.cf ((er0.nx n2).nx n3) r3 h2 fun env4 S4 h4 σ4 hw4 G4 B4 m4 n4 er4 => ⟨hw4, ?_⟩
      obtain ⟨k4, k5, k6⟩ := keep n4 k1 k2 k3
      refine ⟨B4, m4, S4, env4, _, n4.cf, er4, h4, fun b S5 h5 G5 B5 m5 n5 => ?_⟩
      obtain ⟨k7, k8, k9⟩ := keep n5 k4 k5 k6
      have nn := n2.trans (n3.trans (n4.trans n5))
      have ra5 := ((ra.nx n3).nx n4).nx n5
      replace h5 := ifB_if h5
      cases b with
      | false =>
        rw [if_neg Bool.false_ne_true] at h5 ⊢
        exact ⟨B5, m5, S5, aw, av, nn, k8, k9, k7, ra5, h5⟩
      | true =>
        rw [if_pos rfl] at h5 ⊢
        refine ⟨B5, m5, S5, env4, _, n5.cf, er4.nx n5, h5, fun us S6 h6 J2 G6 B6 m6 n6 J2i => ?_⟩
        obtain ⟨k10, k11, k12⟩ := keep n6 k7 k8 k9
        have nn6 := nn.trans n6
        have ra6 := ra5.nx n6
        have er6 : ER X.K B6 m6 (wipeD env4 vs1) (wipe σ4 vs1) := ((er4.nx n5).nx n6).wipe vs1
        let K2 : List W → Sto → Prop := fun acc' S7 => lcA dg tt di1 dg1 tt1 te (wipeD env vs) vs1 (ws.drop (i + 1)) acc' S7 fin
        refine ⟨fun j n G => n = us.length - j ∧ j ≤ us.length ∧ ∃ (B7 : Hp) (m7 : List Addr) (S7 : Sto) (aw : List W) (av : List V), Nx X.K F B1 m1 H1 B7 m7 S7 G ∧ Sub B6 B7 ∧ Pre m6 m7 ∧ B7 D = none ∧ (∀ j : Nat, m7[j]? ≠ some D) ∧ G D = some (.lst av) ∧ RWL X.K B7 m7 aw av ∧ lcB dg1 tt1 te (wipeD env4 vs1) (us.drop j) aw S7 K2, ⟨_, rfl, Nat.zero_le _, B6, m6, S6, aw, av, nn6, .refl, .refl, k11, k12, k10, ra6, by rw [List.drop_zero]; exact h6⟩, ?_⟩
        rintro j nj G7 ⟨ej, hj, B7, m7, S7, bw, bv, n7, sb7, pr7, b7, mm7, e7, ra7, h7⟩
        by_cases hjl : j < us.length
        · obtain ⟨hgo2, hy2⟩ := J2i.go B7 m7 S7 G7 n7.cf sb7 pr7 j us[j] (List.getElem?_eq_getElem hjl)
          rw [List.drop_eq_getElem_cons hjl] at h7
          refine .inr ⟨hgo2, fun G' => ∃ (B7 : Hp) (m7 : List Addr) (S7 : Sto) (aw : List W) (av : List V), Nx X.K F B1 m1 H1 B7 m7 S7 G' ∧ Sub B6 B7 ∧ Pre m6 m7 ∧ B7 D = none ∧ (∀ j : Nat, m7[j]? ≠ some D) ∧ G' D = some (.lst av) ∧ RWL X.K B7 m7 aw av ∧ lcB dg1 tt1 te (wipeD env4 vs1) (us.drop (j + 1)) aw S7 K2, fun G' q => ⟨_, ?_, rfl, hjl, q⟩, fun x2 G8 y2 => ?_⟩
          · omega
          · obtain ⟨B8, n8, r8⟩ := hy2 x2 G8 y2
            obtain ⟨c1, c2, c3⟩ := keep n8 e7 b7 mm7
            have er8 : ER X.K B8 m7 (wipeD env4 vs1) (wipe σ4 vs1) := ER.mono' er6 (sb7.trans n8.sb) (pr7.trans n8.pr)
            refine lk1 F B8 m7 S7 G8 (wipeD env4 vs1) σ4 us[j] x2 _ _ n8.cf er8 r8 h7 fun env9 S9 h9 σ9 hw9 G9 B9 m9 n9 er9 => ⟨hw9, ?_⟩
            obtain ⟨c4, c5, c6⟩ := keep n9 c1 c2 c3
            refine ⟨B9, m9, S9, env9, _, n9.cf, er9, h9, fun b S10 h10 G10 B10 m10 n10 => ?_⟩
            obtain ⟨c7, c8, c9⟩ := keep n10 c4 c5 c6
            have nn8 := n8.trans (n9.trans n10)
            have na := n7.trans nn8
            have ra10 := ra7.nx nn8
            replace h10 := ifB_if h10
            cases b with
            | false =>
              rw [if_neg Bool.false_ne_true] at h10 ⊢
              exact ⟨B10, m10, S10, bw, bv, na, sb7.trans nn8.sb, pr7.trans nn8.pr, c8, c9, c7, ra10, h10⟩
            | true =>
              rw [if_pos rfl] at h10 ⊢
              refine ⟨B10, m10, S10, env9, _, n10.cf, er9.nx n10, h10, fun w S11 h11 v G11 B11 m11 n11 r11 => ?_⟩
              obtain ⟨c10, c11, c12⟩ := keep n11 c7 c8 c9
              have ra11 := ra10.nx n11
              exact ⟨bv, c10, by rw [← ra11.length]; exact h11.1, B11, m11, S11, bw ++ [w], bv ++ [v], (na.trans n11).side fD nT hD c11 c12, (sb7.trans nn8.sb).trans n11.sb, (pr7.trans nn8.pr).trans n11.pr, c11, c12, upd_same, ra11.append (.cons r11 .nil), h11.2⟩
        · have e : j = us.length := by omega
          subst e
          rw [List.drop_length] at h7
          exact .inl ⟨J2i.stop B7 m7 S7 G7 n7.cf sb7 pr7, B7, m7, S7, bw, bv, n7, b7, mm7, e7, ra7, h7⟩
  · have e : i = ws.length := by omega
    subst e
    rw [List.drop_length] at h2
    have h3 : newL o aw S2 Kp := h2
    refine .inl ⟨J1.stop B2 m2 S2 G n2.cf n2.sb n2.pr, ?_⟩
    have hD0 : H D = none := n1.dm D hD
    exact newL_adopt (n1.trans n2) fD nT hD0 b2 mm2 eD ra h3 k
theorem dpe_lc2 (o : Bool) (lk : Lk X.K g dg (ow.map (·.2))) (lk1 : Lk X.K g1 dg1 vs1) (hc : X.calm = true) (hN : X.N.Nodup) (hi : DPI X Ξ tg iter di) (bk : BlkOk X.N X.env.scope scope ow) (hv : ∀ i ∈ vs1, i ∈ ow.map (·.2))
    (hg : ∀ (s : Shared) (H : Hp) (C : Addr) (cl : List (Str × Addr)) (fp : List Addr), PG (X.blk s H scope (compEnvC scope cl C X.env) fp) tg g) (ht : ∀ (s : Shared) (H : Hp) (C : Addr) (cl : List (Str × Addr)) (fp : List Addr), DPTs (X.blk s H scope (compEnvC scope cl C X.env) fp) Ξ.nox ifs tt)
    (hi1 : ∀ (s : Shared) (H : Hp) (C : Addr) (cl : List (Str × Addr)) (fp : List Addr), DPI (X.blk s H scope (compEnvC scope cl C X.env) fp) Ξ.nox tg1 iter1 di1)
    (hg1 : ∀ (s : Shared) (H : Hp) (C : Addr) (cl : List (Str × Addr)) (fp : List Addr), PG (X.blk s H scope (compEnvC scope cl C X.env) fp) tg1 g1) (ht1 : ∀ (s : Shared) (H : Hp) (C : Addr) (cl : List (Str × Addr)) (fp : List Addr), DPTs (X.blk s H scope (compEnvC scope cl C X.env) fp) Ξ.nox ifs1 tt1)
    (he : ∀ (s : Shared) (H : Hp) (C : Addr) (cl : List (Str × Addr)) (fp : List Addr), DPE (X.blk s H scope (compEnvC scope cl C X.env) fp) Ξ.nox elt te) (hs : ∀ x, foldedSetIterable iter X.env x = pure x := by intro _; rfl) (hs1 : ∀ env x, foldedSetIterable iter1 env x = pure x := by intro _ _; rfl) :
    DPE X Ξ (.ListComp elt [⟨tg, iter, ifs, 0⟩, ⟨tg1, iter1, ifs1, 0⟩] scope pos) (dLc2 o di dg tt di1 dg1 tt1 te (ow.map (·.2)) vs1) := ⟨fun F ok => PE.imp (pe_lc2 hc hN (hi.run F ok) bk hv hg (fun s H C cl fp => (ht s H C cl fp).run F ok.nox) (fun s H C cl fp => (hi1 s H C cl fp).run F ok.nox) hg1 (fun s H C cl fp => (ht1 s H C cl fp).run F ok.nox) (fun s H C cl fp => (he s H C cl fp).run F ok.nox) hs hs1) (imp_lc2 o _ lk lk1)⟩
end
/-! ### a constant that the top has written -/
structure CIn (K : PySem.W.Frag) (x : Str) (i : Int) : Prop where
  ex : ∃ t, PySem.W.nsIn K mainGlobals x = some (some (.int i t))
theorem cin {K : PySem.W.Frag} {x : Str} {i : Int} {t : Tok} (h : PySem.W.nsIn K mainGlobals x = some (some (.int i t))) : CIn K x i := ⟨t, h⟩
theorem CIn.mg {K : PySem.W.Frag} {x : Str} {i : Int} {h : Heap} {mg : Str → Option Value} (c : CIn K x i) (X : K.In h) (G : h.Ns mainGlobals mg) : ∃ t, mg x = some (.int i t) := by
  obtain ⟨t, e⟩ := c.ex
  exact ⟨t, PySem.W.mg_of X G e⟩
structure CIS (K : PySem.W.Frag) (x : Str) (i : Str) : Prop where
  ex : ∃ t : Tok, PySem.W.nsIn K mainGlobals x = some (some (.str i t))
theorem cis {K : PySem.W.Frag} {x : Str} {i : Str} {t : Tok} (h : PySem.W.nsIn K mainGlobals x = some (some (.str i t))) : CIS K x i := ⟨t, h⟩
theorem CIS.mg {K : PySem.W.Frag} {x : Str} {i : Str} {h : Heap} {mg : Str → Option Value} (c : CIS K x i) (X : K.In h) (G : h.Ns mainGlobals mg) : ∃ t, mg x = some (.str i t) := by
  obtain ⟨t, e⟩ := c.ex
  exact ⟨t, PySem.W.mg_of X G e⟩
end DL
set_option maxHeartbeats 2000000
/-! DG1: all(e for t in it): the machine's side -/
namespace GX
open PySem PySem.Spec PyProof.Rows L2

/-! ### all, by its turns -/
section
variable {prog : Program} {w : World} {A : Around}
theorem all_turns {R : Result → Shared → Prop} {a : Addr} (J : Nat → Shared → Prop)
    (turn : ∀ n s, J n s → wpAny (model prog w) A.in1 (pyNext (.ref a)) (fun r s' => match r with
      | none => R (.ok (.ret (.bool true))) s'
      | some v => ∃ b, v = .bool b ∧ (b = true → ∃ m, m < n ∧ J m s') ∧ (b = false → R (.ok (.ret (.bool false))) s')) (fun _ _ => False) s) :
    ∀ n s, J n s → codeAny (model prog w) A (.builtin "all.loop" ⟨[.ref a], []⟩) R s := by
  intro n
  induction n using Nat.strongRecOn with
  | ind n ih =>
    intro s hJ
    refine codeAny_builtin F.entry_all_loop ?_
    rw [Around.under_plainId F.plain_all_loop _]
    show wpAny _ A.in1 (pyNext (.ref a) >>= _) _ _ s
    refine wpAny_bind (wpAny_mono (turn n s hJ) (fun r s' h => ?_) fun _ _ z => False.elim z)
    cases r with
    | none => exact wpAny_bind (wpAny_rule (wpAny_pure h))
    | some v =>
      obtain ⟨b, rfl, h1, h2⟩ := h
      refine wpAny_bind (wpAny_holding (wpAny_truthy_bool ?_))
      refine wpAny_bind (wpAny_letGo ?_)
      cases b with
      | true =>
        obtain ⟨m, hm, hJ'⟩ := h1 rfl
        exact wpAny_pure ⟨plainId_quiet F.plain_all_loop _, ih m hm s' hJ'⟩
      | false => exact wpAny_bind (wpAny_rule (wpAny_pure (h2 rfl)))
theorem call_all_turns {x : Value} {Q : Value → Shared → Prop} {E : Value → Shared → Prop} {s : Shared}
    (h : wpAny (model prog w) A.in1 (pyIter x) (fun it s₂ => ∃ (a : Addr) (J : Nat → Shared → Prop) (n : Nat), it = .ref a ∧ J n s₂ ∧ ∀ n s, J n s → wpAny (model prog w) A.in1 (pyNext (.ref a)) (fun r s' => match r with
      | none => Q (.bool true) s'
      | some v => ∃ b, v = .bool b ∧ (b = true → ∃ m, m < n ∧ J m s') ∧ (b = false → Q (.bool false) s')) (fun _ _ => False) s) E s) :
    wpAny (model prog w) A (call (.builtin "all") [x]) Q E s := by
  refine call_function_tree F.kind_all F.plain_all F.entry_all (F.args_all1 _) ?_
  unfold Builtin.«all»
  refine wpAny_bind (m := oneArg "all" _) (wpAny_pure ?_)
  refine wpAny_bind (wpAny_mono h (fun it s₂ h₂ => ?_) fun _ _ e => e)
  obtain ⟨a, J, n, rfl, hJ, turn⟩ := h₂
  refine wpAny_pure ⟨plainId_quiet F.plain_all_loop _, all_turns J (fun n s hn => wpAny_mono (turn n s hn) (fun r s' q => ?_) fun _ _ z => z) n s₂ hJ⟩
  cases r with
  | none => exact q
  | some v => exact q
end
/-! ### the around of the frame -/
theorem over_gen {A : Around} {elt tg iter : Expr} {ifs : List Expr} {scope : Scope} {pos : Pos} {it acc : Value} {env : Env} : A.over (.compLoop (.GeneratorExp elt [⟨tg, iter, ifs, 0⟩] scope pos) 0 it acc env) [] = A.deeper env := by
  rfl
theorem over_gen0 {A : Around} {elt tg iter : Expr} {ifs : List Expr} {scope : Scope} {pos : Pos} {it acc : Value} {env : Env} : A.over (.compStart (.GeneratorExp elt [⟨tg, iter, ifs, 0⟩] scope pos) 0 it acc env) [] = A.deeper env := by
  rfl

/-! ### the context of the frame -/
abbrev gex (X : Cx) (s : Shared) (H : Hp) (env : Env) (fp : List Addr) (pn : List (Addr × Obj)) : Cx :=
  { X with A := X.A.in1.in1.deeper env, s_0 := s, H_0 := H, env := env, outer := X.stack, stack := env :: X.stack, ex := fp, fn := fun _ => false, pn := pn, xe := fun _ _ => False }
section
variable {X : Cx} {pins : List (Addr × Obj)} {σ : L2.St} {H : Hp} {s : Shared}
theorem gex_start {scope : Scope} {own : List (Str × Nat)} {fp : List Addr} {code : Value} {it : Value} {h' : Heap} {go : Obj} {gs : GenState} {tk : Nat} (I : Inv X pins σ H s) (ok : BlkOk X.N X.env.scope scope own) (hN : X.N.Nodup) (hfp : ∀ b ∈ fp, FpOk X pins H b ∧ b < s.heap.objs.size)
    (hcell : ∀ y ∈ scope.names, y.2 ≠ .cell) (hns : h'.Ns s.heap.objs.size (fun y => if y = ".0" then some it else none)) (hsb : Heap.SameBut s.heap.objs.size (s.heap.push { cls := .type "frame", data := .dict #[] }) h') (hgo : ∀ v, go.data ≠ .cell v) (hgp : (h'.push go).get? h'.objs.size = some go) (hb : gs.bare = true) :
    Inv (gex X s H (genEnv scope (cloFrom X.env.cells scope.names []) s.heap.objs.size code builtinsNs X.env) fp [(h'.objs.size, go)]) [] (wipe σ (own.map (·.2))) H { s with gens := s.gens.push gs, toks := tk, heap := h'.push go } := by
  have free : ∀ y ∈ scope.names, y.2 = .free → ∃ c, X.env.cells.lookup y.1 = some c := fun y hy e => by
    rcases ok.free y hy e with k | k
    · exact I.ok.has _ (.inl k)
    · exact I.ok.has _ (.inr k)
  have kp : ∀ b o, s.heap.get? b = some o → (h'.push go).get? b = some o := fun b o e => by
    refine Heap.get?_push_of_some _ ?_
    rw [hsb.2 b (Nat.ne_of_lt (Heap.lt_size e))]
    exact Heap.get?_push_of_some _ e
  have hsz : h'.objs.size = s.heap.objs.size + 1 := by rw [hsb.1, Heap.size_push]
  have mem : ∀ {y c}, (cloFrom X.env.cells scope.names []).lookup y = some c → X.env.cells.lookup y = some c ∧ c < s.heap.objs.size := fun {y c} e => by
    rcases cloFrom_mem (PySem.mem_of_lookup e) with z | ⟨h1, rfl⟩
    · cases z
    · obtain ⟨c, hc⟩ := free _ h1 rfl
      rw [hc]
      obtain ⟨u, z⟩ := I.cell _ _ hc
      exact ⟨rfl, z.lt⟩
  have look : ∀ {y}, scope.names.lookup y = some .free → ∃ c, (cloFrom X.env.cells scope.names []).lookup y = some c ∧ X.env.cells.lookup y = some c := fun {y} hl => by
    obtain ⟨c, e⟩ := L2.mem_lookup (cloFrom_has (cells := X.env.cells) (acc := []) (PySem.mem_of_lookup hl))
    exact ⟨c, e, (mem e).1⟩
  have nocell : ∀ {y k}, scope.names.lookup y = some k → k ≠ .cell := fun {y k} e => hcell _ (PySem.mem_of_lookup e)
  have okG : (gex X s H (genEnv scope (cloFrom X.env.cells scope.names []) s.heap.objs.size code builtinsNs X.env) fp [(h'.objs.size, go)]).Ok := by
    refine ⟨I.ok.mod, ok.kind, I.ok.glob, rfl, Nat.le_refl _, fun y z c e1 e2 => I.ok.inj y z c (mem e1).1 (mem e2).1, fun y hy => ?_, (fun y c z _ => absurd z Bool.false_ne_true), I.ok.hd, Around.frames_deeper I.ok.frames, .inr ⟨rfl, rfl⟩,
      fun b hb => ⟨Nat.ne_of_lt (hfp b hb).2, fun y c e z => (hfp b hb).1.2.2.2.2.1 y c (mem e).1 z⟩, I.bs, Nat.le_trans I.ok.bsz I.sz, fun b o e hb => ?_, fun b hb z => ?_, I.stack, I.stkFree⟩
    · rcases hy with hy | hy
      · exact absurd rfl (nocell (show scope.names.lookup y = some .cell from hy))
      · obtain ⟨c, h1, _⟩ := look (show scope.names.lookup y = some .free from hy)
        exact ⟨c, h1⟩
    · rcases (hfp b hb).1.2.2.2.1 with z | z
      · exact I.ok.noex b o e z
      · exact absurd (Nat.lt_of_lt_of_le (Heap.lt_size e) (Nat.le_trans I.ok.bsz z)) (Nat.lt_irrefl _)
    · rcases List.mem_cons.mp (I.stkSub b z) with z | z
      · exact (hfp b hb).1.2.1 z
      · exact (hfp b hb).1.2.2.1 z
  refine ⟨okG, rfl, AllBare.push I.bare hb, Un.kept kp, ⟨_, hns.push _, fun i y av e1 e2 e3 => ?_⟩, fun y c e => ?_, I.hok.fresh (Nat.le_refl _), fun y c e => I.freeC y c (mem e).1, fun p hp => ?_, I.hok.kept kp, by rw [wipe_length]; exact I.len⟩
  · obtain ⟨e2, hne⟩ := wipe_some e2
    have e3 : Vis scope y := e3
    have no : ¬ scope.names.lookup y = some .local := fun z => by
      rcases ok.own _ (PySem.mem_of_lookup z) (.inl rfl) with e' | e'
      · obtain ⟨p, hp, hpy⟩ := List.mem_map.mp e'
        have q := ok.ix p hp
        rw [show p.1 = y from hpy] at q
        exact hne (List.mem_map.mpr ⟨p, hp, nodup_ix hN q e1⟩)
      · exact e' (List.mem_of_getElem? e1)
    have fr : scope.names.lookup y = some .free := by
      rcases e3 with z | z | z
      · exact absurd z no
      · exact absurd rfl (nocell z)
      · exact z
    obtain ⟨m, hn, hl⟩ := I.loc
    have cap := ok.free _ (PySem.mem_of_lookup fr) rfl
    obtain ⟨u, r, q⟩ := hl i y av e1 e2 (cap.elim (fun k => .inr (.inl k)) fun k => .inr (.inr k))
    refine ⟨u, r, .inr ⟨.inr fr, ?_⟩⟩
    obtain ⟨c, h1, h2⟩ := look fr
    rcases q with ⟨k, _⟩ | ⟨_, c', e', z⟩
    · have k : X.env.scope.names.lookup y = some .local := k
      rcases cap with k' | k' <;> rw [show X.env.scope.names.lookup y = _ from k'] at k <;> cases k
    · rw [h2] at e'; cases e'
      exact ⟨c, h1, z.keeps kp⟩
  · obtain ⟨u, z⟩ := I.cell y c (mem e).1
    exact ⟨u, z.keeps kp⟩
  · have hp : p = (h'.objs.size, go) := by simpa using hp
    subst hp
    have hle : s.heap.objs.size ≤ h'.objs.size := by omega
    refine ⟨hgp, I.hok.fresh hle, by show h'.objs.size ≠ s.heap.objs.size; omega, fun z => ?_, hgo⟩
    rcases List.mem_cons.mp (I.stkSub _ z) with y | y
    · have := I.lt
      rw [← y] at this
      exact absurd (Nat.lt_of_lt_of_le this hle) (Nat.lt_irrefl _)
    · exact I.nofs hle y
end

/-! ### the loop of the frame -/
/-- while the generator sleeps nothing is lost -/
structure Slept0 (s s' : Shared) : Prop where
  os : s'.os = s.os
  bare : AllBare s'.gens
  keep : ∀ b o, s.heap.get? b = some o → s'.heap.get? b = some o
section
variable {X : Cx} {s3 : Shared} {H3 : Hp} {genv : Env} {fp : List Addr} {pn : List (Addr × Obj)} {σ : L2.St} {vs : List Nat} {elt tg iter : Expr} {ifs : List Expr} {scope : Scope} {pos : Pos} {it : Addr} {tn : Nat → Heap → Prop} {J : It} {g : TG} {tt : TT} {te : TE}
theorem slept_inv {Xg : Cx} {pins : List (Addr × Obj)} {σ' : L2.St} {H : Hp} {s s' : Shared} (I : Inv Xg pins σ' H s) (z : Slept0 s s') : Inv Xg pins σ' H s' :=
  I.call' (ch := []) z.os (Un.kept z.keep) (I.hok.kept z.keep) z.bare fun b hb => by simp at hb
/-- what ends the frame's loop; what it hands out -/
def endG (Xg : Cx) (Qt : Hp → Prop) : GenEnd := fun _ _ r s => r = .ok .next ∧ ∃ σ' H', Inv Xg [] σ' H' s ∧ Qt H'
def outG (Xg : Cx) (Qf : Hp → Prop) : Protocol := fun _ _ v s kap => ∃ b pins σ' H', v = .bool b ∧ Inv Xg pins σ' H' s ∧ (b = false → Qf H') ∧ (b = true → ∀ s', Slept0 s s' → kap (.send .none) s')
/-- the turns -/
def turnsG (J : It) (g : TG) (tt : TT) (te : TE) (σ0 : L2.St) (vs : List Nat) (Qt Qf : Hp → Prop) (W : Nat → Nat → Hp → Prop) : Prop := ∀ i m H, W i m H → (J.stop i H ∧ Qt H) ∨ (J.go i H ∧ ∃ Nx : Hp → Prop, (∀ H', Nx H' → ∃ m', m' < m ∧ W (i + 1) m' H') ∧
  ∀ x H', J.yld i H x H' → g x σ0 H' fun σ2 H2 => wipe σ2 vs = σ0 ∧ tt σ2 H2 fun b H3 => if b = true then te σ2 H3 fun y H4 => ∃ k, y = .bl k ∧ (k = true → Nx H4) ∧ (k = false → Qf H4) else Nx H3)
theorem seg_turns {Qt Qf : Hp → Prop} {W : Nat → Nat → Hp → Prop} (hc : X.calm = true) (T : Turn X.prog X.w X.K tg J fp it tn) (pg : PG (gex X s3 H3 genv fp pn) tg g) (pt : PTs (gex X s3 H3 genv fp pn) ifs tt) (pe : PE (gex X s3 H3 genv fp pn) elt te)
    (hco : genv.scope.isCoroutine = false) (hpn : ∀ p ∈ pn, p.1 ∉ fp) (turn : turnsG J g tt te (wipe σ vs) vs Qt Qf W) :
    ∀ (m n i : Nat) (s₀ s : Shared) (H : Hp), m < n → Inv (gex X s3 H3 genv fp pn) [] (wipe σ vs) H s → tn i s.heap → (∀ b ∈ fp, H b = none) → W i m H →
      Seg (model X.prog X.w) X.A.in1.in1 (endG (gex X s3 H3 genv fp pn) Qt) (outG (gex X s3 H3 genv fp pn) Qf) n s₀ (.compLoop (.GeneratorExp elt [⟨tg, iter, ifs, 0⟩] scope pos) 0 (.ref it) .none genv)
        ((model X.prog X.w).den (.compLoop (.GeneratorExp elt [⟨tg, iter, ifs, 0⟩] scope pos) 0 (.ref it) .none genv)) [] s := by
  have stat : ∀ {σ' : L2.St} {H' : Hp} {s' : Shared}, Inv (gex X s3 H3 genv fp pn) [] σ' H' s' → (∀ b ∈ fp, H' b = none) → ∀ b ∈ fp, FpOk (gex X s3 H3 genv fp pn) [] H' b := fun {σ' H' s'} I' hn b hb =>
    ⟨hn b hb, (I'.ok.exf b hb).1, I'.ok.exfs b hb, .inl hb, fun x c e => (I'.ok.exf b hb).2 x c e, fun p hp z => hpn p (by simpa using hp) (z ▸ hb)⟩
  intro m
  induction m using Nat.strongRecOn with
  | ind m ih =>
    intro n i s₀ s H hmn I st hn w
    show Seg _ _ _ _ _ s₀ _ ((compTurn (.GeneratorExp elt [⟨tg, iter, ifs, 0⟩] scope pos) 0 (.ref it) .none genv).onRaise (leaving genv)) [] s
    rw [compTurn_gen, Sem.onRaise_eq_wrap]
    refine seg_bind_wrap (wpAny_standAt ?_)
    rcases turn i m H w with ⟨stop, q⟩ | ⟨go, Nx, hNx, step⟩
    · refine seg_bind_wrap (thnF (T.done (gex X s3 H3 genv fp pn) rfl rfl rfl hc i [] s _ H (fun _ _ => False) I (stat I hn) st stop) fun r s6 ⟨hr, I6⟩ => ?_)
      subst hr
      exact seg_end (.ok .next) ⟨rfl, _, _, I6, q⟩
    · refine seg_bind_wrap (thnF (T.item (gex X s3 H3 genv fp pn) rfl rfl rfl hc i [] s _ H (fun _ _ => False) I (stat I hn) st go) fun r s6 ⟨u, hr, h6⟩ => ?_)
      subst hr
      refine seg_bind_wrap (thnF h6 fun _ s7 ⟨x, H7, I7, r7, y7, st7, n7⟩ => ?_)
      have I7' := I7.pinned (stat I7 n7) (T.obj _ _ st7)
      refine seg_bind_wrap (thnF (pg.run _ s7 _ H7 x u _ I7' r7 (step x H7 y7)) fun _ s8 ⟨σ8, H8, I8, hw8, q8⟩ => ?_)
      refine seg_bind_wrap (thnF (pt.run _ s8 σ8 H8 _ I8 q8) fun b s9 ⟨H9, I9, q9⟩ => ?_)
      -- the next turn
      have fin : ∀ {s' s'' : Shared} {H' : Hp} {n' : Nat}, Inv (gex X s3 H3 genv fp pn) ([] ++ pinsAt fp s7.heap) σ8 H' s' → Nx H' → (∀ m', m' < m → m' < n') → ∀ sa,
          Seg (model X.prog X.w) X.A.in1.in1 (endG (gex X s3 H3 genv fp pn) Qt) (outG (gex X s3 H3 genv fp pn) Qf) n' sa (.compLoop (.GeneratorExp elt [⟨tg, iter, ifs, 0⟩] scope pos) 0 (.ref it) .none genv)
            ((model X.prog X.w).den (.compLoop (.GeneratorExp elt [⟨tg, iter, ifs, 0⟩] scope pos) 0 (.ref it) .none genv)) [] s' := fun {s' s'' H' n'} I' nx hn' sa => by
        obtain ⟨m', hm, w'⟩ := hNx H' nx
        have pin' : ∀ b ∈ fp, ∀ o, s7.heap.get? b = some o → s'.heap.get? b = some o ∧ H' b = none := fun b hb o e =>
          let z := I'.pin (b, o) (List.mem_append_right _ (List.mem_append_right _ (mem_pinsAt hb e)))
          ⟨z.1, z.2.1⟩
        have hl : (wipe σ vs).length = σ8.length := by rw [← hw8, wipe_length]
        refine ih m' hm n' (i + 1) sa s' H' (hn' m' hm) ((I'.unpinned (pins := [])).weak hl fun j v e => ?_) (T.keep _ _ _ st7 fun b hb o e => (pin' b hb o e).1) (fun b hb => ?_) w'
        · rw [← hw8] at e
          exact (wipe_some e).1
        · obtain ⟨o, e, _⟩ := T.obj _ _ st7 b hb
          exact (pin' b hb o e).2
      cases b with
      | false =>
        simp only [Bool.false_eq_true, if_false] at q9 ⊢
        exact seg_again rfl (fin (s'' := s9) I9 q9 (fun m' h => by omega) s₀)
      | true =>
        simp only [if_true] at q9 ⊢
        have hy : ∀ v, yieldOut genv v = yieldValue v := fun v => by simp only [yieldOut, hco, Bool.false_eq_true, if_false]
        simp only [hy]
        rw [Sem.bind_eq_wrap', Sem.bind_eq_wrap', Sem.wrap_wrap, Sem.wrap_wrap]
        refine seg_wrap (thnF (pe.run _ s9 σ8 H9 _ I9 q9) fun z s10 ⟨yv, H10, I10, r10, k, ek, hk1, hk2⟩ => ?_)
        subst ek
        obtain rfl : z = Value.bool k := r10
        obtain ⟨n', rfl⟩ : ∃ n', n = n' + 1 := ⟨n - 1, by omega⟩
        refine seg_at (seg_yield rfl rfl rfl ⟨k, _, _, _, rfl, I10, hk2, fun hk s'' hz => ?_⟩)
        exact seg_again rfl (fin (s'' := s'') (slept_inv I10 hz) (hk1 hk) (fun m' h => by omega) s'')
theorem seg_start {Qt Qf : Hp → Prop} {W : Nat → Nat → Hp → Prop} (hc : X.calm = true) (T : Turn X.prog X.w X.K tg J fp it tn) (pg : PG (gex X s3 H3 genv fp pn) tg g) (pt : PTs (gex X s3 H3 genv fp pn) ifs tt) (pe : PE (gex X s3 H3 genv fp pn) elt te)
    (hco : genv.scope.isCoroutine = false) (hpn : ∀ p ∈ pn, p.1 ∉ fp) (turn : turnsG J g tt te (wipe σ vs) vs Qt Qf W) (m n : Nat) (s₀ s : Shared) (H : Hp) (hmn : m < n) (I : Inv (gex X s3 H3 genv fp pn) [] (wipe σ vs) H s) (st : tn 0 s.heap) (hn : ∀ b ∈ fp, H b = none) (w : W 0 m H) :
    Seg (model X.prog X.w) X.A.in1.in1 (endG (gex X s3 H3 genv fp pn) Qt) (outG (gex X s3 H3 genv fp pn) Qf) n s₀ (.compStart (.GeneratorExp elt [⟨tg, iter, ifs, 0⟩] scope pos) 0 (.ref it) .none genv)
      ((model X.prog X.w).den (.compStart (.GeneratorExp elt [⟨tg, iter, ifs, 0⟩] scope pos) 0 (.ref it) .none genv)) [] s := by
  have loop := seg_turns (iter := iter) (scope := scope) (pos := pos) hc T pg pt pe hco hpn turn m n 0 s₀ s H hmn I st hn w
  show Seg _ _ _ _ _ s₀ _ ((compStart (.GeneratorExp elt [⟨tg, iter, ifs, 0⟩] scope pos) 0 (.ref it) .none genv).onRaise (leaving genv)) [] s
  unfold compStart
  rw [Sem.onRaise_eq_wrap]
  show Seg _ _ _ _ _ s₀ _ ((ask >>= _).wrap _ _ _ _) [] s
  refine seg_bind_wrap (wpAny_askSetting ?_)
  split
  · exact seg_again rfl loop
  · refine seg_bind_wrap (wpAny_rule ?_)
    show Seg _ _ _ _ _ s₀ _ ((standAt iter.pos >>= _).wrap _ _ _ _) [] s
    exact seg_bind_wrap (wpAny_standAt (seg_bind_wrap (T.self _ 0 s _ _ st (seg_again rfl loop))))
end

/-! ### the generator's object, asked for its next item -/
section
variable {X : Cx} {pins : List (Addr × Obj)} {σ : L2.St} {H3 : Hp} {s3 : Shared} {genv : Env} {fp : List Addr} {a : Addr} {g : Nat} {go : Obj} {nm qn : Value}
/-- back in the def's context -/
theorem back {pins' : List (Addr × Obj)} {σ' : L2.St} {H' : Hp} {s' s'' : Shared} (I3 : Inv X pins σ H3 s3) (hfp : ∀ b ∈ fp, FpOk X pins H3 b) {pn : List (Addr × Obj)} (I' : Inv (gex X s3 H3 genv fp pn) pins' σ' H' s') (os : s''.os = s'.os) (bare : AllBare s''.gens) (k : ∀ b o, s'.heap.get? b = some o → s''.heap.get? b = some o) : Inv X pins σ H' s'' := by
  have J := slept_inv I' ⟨os, bare, k⟩
  exact I3.call' (ch := fp) J.os J.base J.hok J.bare fun b hb => ⟨(hfp b hb).2.2.2.1, (hfp b hb).2.1, (hfp b hb).2.2.2.2.1, (hfp b hb).2.2.2.2.2⟩
/-- asleep, n turns at most are left -/
def Asleep (X : Cx) (s3 : Shared) (H3 : Hp) (genv : Env) (fp : List Addr) (pn : List (Addr × Obj)) (a : Addr) (g : Nat) (Qt Qf : Hp → Prop) (n : Nat) (s : Shared) : Prop :=
  s.heap.IsGen a g ∧ s.heap.NoLimit ∧ AllBare s.gens ∧ ∃ gs, s.gens[g]? = some gs ∧ ∀ s'', Slept0 s s'' → gs.Goes (model X.prog X.w) X.A.in1.in1 (endG (gex X s3 H3 genv fp pn) Qt) (outG (gex X s3 H3 genv fp pn) Qf) n (.send .none) s''
theorem next_gen {Qt Qf : Hp → Prop} {n : Nat} {s : Shared} {Q : Option Value → Shared → Prop} {k : Nat} (hr : Room k X.A) (hgo : go.cls = .type "generator" ∧ go.data = .fields #[.int g 0, nm, qn] ∧ go.slots = #[]) (h : Asleep X s3 H3 genv fp [(a, go)] a g Qt Qf n s)
    (hT : ∀ σ' H' s1 s2, Inv (gex X s3 H3 genv fp [(a, go)]) [] σ' H' s1 → Qt H' → s2.os = s1.os → AllBare s2.gens → (∀ b o, s1.heap.get? b = some o → s2.heap.get? b = some o) → Q none s2)
    (hF : ∀ b pins' σ' H' s1 s2, Inv (gex X s3 H3 genv fp [(a, go)]) pins' σ' H' s1 → (b = false → Qf H') → s2.os = s1.os → AllBare s2.gens → (∀ b o, s1.heap.get? b = some o → s2.heap.get? b = some o) → (b = true → ∃ m, m < n ∧ Asleep X s3 H3 genv fp [(a, go)] a g Qt Qf m s2) → Q (some (.bool b)) s2) :
    wpAny (model X.prog X.w) X.A.in1 (pyNext (.ref a)) Q (fun _ _ => False) s := by
  obtain ⟨hg, hl, hb, gs, hgs, hgoes⟩ := h
  have hlt : g + 1 ≤ s.gens.size := (Array.getElem?_eq_some_iff.mp hgs).1
  refine GenW.wpAny_gsz hlt ?_
  refine wpAny_pyNext_genexpQ (P := fun _ _ s => ∃ σ' H', Inv (gex X s3 H3 genv fp [(a, go)]) [] σ' H' s ∧ Qt H') hr.hd hl hr.depth hg hgs (hgoes _ ⟨rfl, allBare_setGen hb rfl, fun _ _ e => e⟩) (fun v s1 gs' hb' hv hsz => ?_) (fun s1 ⟨σ', H', I', q⟩ h' hk _ => ?_)
  · obtain ⟨b, pins', σ', H', rfl, I', hf, ht⟩ := hv
    refine hF b pins' σ' H' s1 _ I' hf rfl (allBare_setGen I'.bare hb') (fun _ _ e => e) fun eb => ?_
    have hsz' : g < s1.gens.size := by
      have : g + 1 ≤ (s1.setGen g gs').gens.size := hsz
      rw [GenW.setGen_size] at this
      exact this
    cases n with
    | zero => exact False.elim (ht eb s1 ⟨rfl, I'.bare, fun _ _ e => e⟩)
    | succ m =>
      have hp := (I'.pin (a, go) (List.mem_append_left _ (List.mem_singleton.mpr rfl))).1
      exact ⟨m, Nat.lt_succ_self _, ⟨go, nm, qn, hp, hgo⟩, I'.nolimit, allBare_setGen I'.bare hb', gs', setGen_at hsz', fun s'' z => ht eb s'' ⟨z.os, z.bare, z.keep⟩⟩
  · exact hT σ' H' s1 _ I' q rfl (allBare_setGen I'.bare rfl) hk
end

/-! ### the generator is made -/
section
variable {X : Cx} {pins : List (Addr × Obj)} {σ : L2.St} {H : Hp} {s : Shared}
/-- its code object: known, or a new one in the table -/
theorem gx_code {c p : Addr} {gpos : Pos} {scope : Scope} {Q : Value → Addr → Shared → Prop} (TB : GxR.TabB X.base X.mg c p) (hcode : X.env.code = .ref c) (I : Inv X pins σ H s) (hT : GxR.TabG H p)
    (h : ∀ code s' H', GxR.Tabbed p H H' → Inv X pins σ H' s' → (∀ b o, b ≠ p → s.heap.get? b = some o → s'.heap.get? b = some o) → Q code builtinsNs s') :
    wpAny (model X.prog X.w) X.A (genexprCode X.env gpos (X.env.qual ++ "<genexpr>") scope) (fun code s1 => wpAny (model X.prog X.w) X.A (builtinsFor X.env.globals X.env.builtins) (fun bi s2 => Q code bi s2) X.xe s1) X.xe s := by
  obtain ⟨ps, hP, ht⟩ := hT
  have hp : s.heap.get? p = some { cls := .none, data := .fields ps } := I.hok p _ hP
  have cd : PySem.W.CodeHd s.heap c p := TB.code.keeps fun b u e => I.bk b u e
  obtain ⟨bm, ob, e1, e2, e3, e4, e5, e6, e7, e8⟩ := TB.bm
  have bi : ∀ (code : Value) (s' : Shared) (H' : Hp), GxR.Tabbed p H H' → Inv X pins σ H' s' → (∀ b o, b ≠ p → s.heap.get? b = some o → s'.heap.get? b = some o) →
      wpAny (model X.prog X.w) X.A (builtinsFor X.env.globals X.env.builtins) (fun bi s2 => Q code bi s2) X.xe s' := fun code s' H' tb I' k => by
    refine wpAny_builtinsFor (m := X.mg) (by rw [I'.ok.glob]; exact I'.mod.glob.keeps I'.bk) e1 e2 (I'.bk _ _ e5) e6 e7 e8 (h code s' H' tb I' k)
  cases hf : codeAmong gpos ps.toList with
  | some cv => exact wpAny_genexprCode_hit hcode (cd.code hp ht) hf (bi cv s H ⟨⟨ps, hP, ht⟩, fun _ _ => rfl⟩ I fun _ _ _ e => e)
  | none =>
    refine wpAny_genexprCodeX hcode (cd.code hp ht) (cd.tab hp) hf fun c' h' tk hx _ _ hco' _ htab' _ => ?_
    obtain ⟨o1, us, f1, tf, fl, tg, inF, tx, tt, op, _, _, _, _, _, _, _, _, _, htr, _⟩ := hco'
    have J := GxR.inv_tab (more := #[rawInt gpos.line, rawInt gpos.col, .ref c']) (h' := h') (g' := s.gens) (d' := s.drawn) (t' := tk) I hP hx htab'.2 I.bare
    exact bi _ _ _ ⟨⟨_, upd_same, htr⟩, fun b hb => upd_ne hb⟩ J hx
end
/-- all(elt for tg in iter if ..) -/
def tAllX (p : Addr) (wi : TI) (g : TG) (tt : TT) (te : TE) (vs : List Nat) : TE := fun σ H Q => wi σ H fun J H1 => GxR.TabG H1 p ∧ ∀ H2, GxR.Tabbed p H1 H2 → ∃ W : Nat → Nat → Hp → Prop, (∃ m, W 0 m H2) ∧ turnsG J g tt te (wipe σ vs) vs (Q (.bl true)) (Q (.bl false)) W
theorem pe_allX {X : Cx} {c p : Addr} {elt tg iter : Expr} {ifs : List Expr} {pp pos gpos : Pos} {scope : Scope} {own : List (Str × Nat)} {wi : TI} {g : TG} {tt : TT} {te : TE} {k : Nat}
    (hr : Room k X.A) (hc : X.calm = true) (hN : X.N.Nodup) (hg : Gl X "all") (hm : X.mg "all" = none) (TB : GxR.TabB X.base X.mg c p) (hcode : X.env.code = .ref c) (hi : PI X tg iter wi) (ok : BlkOk X.N X.env.scope scope own)
    (hcell : ∀ y ∈ scope.names, y.2 ≠ .cell) (h0 : scope.names.lookup (".0" : Str) = some NameKind.local) (hco : scope.isCoroutine = false)
    (pg : ∀ (s : Shared) (H : Hp) (cl : List (Str × Addr)) (C : Addr) (code : Value) (fp : List Addr) (pn : List (Addr × Obj)), PG (gex X s H (genEnv scope cl C code builtinsNs X.env) fp pn) tg g)
    (pt : ∀ (s : Shared) (H : Hp) (cl : List (Str × Addr)) (C : Addr) (code : Value) (fp : List Addr) (pn : List (Addr × Obj)), PTs (gex X s H (genEnv scope cl C code builtinsNs X.env) fp pn) ifs tt)
    (pe : ∀ (s : Shared) (H : Hp) (cl : List (Str × Addr)) (C : Addr) (code : Value) (fp : List Addr) (pn : List (Addr × Obj)), PE (gex X s H (genEnv scope cl C code builtinsNs X.env) fp pn) elt te)
    (hs : ∀ v, genFold iter X.env v = pure v := by intro _; rfl)
    (he : starEach [.GeneratorExp elt [⟨tg, iter, ifs, 0⟩] scope gpos] X.env = (false, eval (.GeneratorExp elt [⟨tg, iter, ifs, 0⟩] scope gpos) X.env) :: starEach [] X.env := by rfl) :
    PE X (.Call (.Name "all" pp) [.GeneratorExp elt [⟨tg, iter, ifs, 0⟩] scope gpos] [] pos) (tAllX p wi g tt te (own.map (·.2))) := by
  refine ⟨fun pins s σ H Q I h => ?_⟩
  refine wpAny_Call_Name_kw (ld_blt I hg hm (PyProof.Rows.boot_all) ?_)
  refine PyProof.Rows.callWith_builtin1 ?_ he (by rfl)
  rw [he]
  show wpAny _ _ (spliced ((false, eval (.GeneratorExp elt [⟨tg, iter, ifs, 0⟩] scope gpos) X.env) :: backTo pos (starEach [] X.env))) _ _ s
  have free : ∀ y ∈ scope.names, y.2 = .free → ∃ c, X.env.cells.lookup y.1 = some c := fun y hy e => by
    rcases ok.free y hy e with k | k
    · exact I.ok.has _ (.inl k)
    · exact I.ok.has _ (.inr k)
  refine Calls.spliced_cons (wpAny_GeneratorExp_make hco (closure_ok free) hcell h0 ok.kind hr.depth (thn (hi.run pins s σ H _ I h) fun xv s1 hx => thn hx fun itv s2 h2 => ?_) hs)
  obtain ⟨it, fp, tn, J, H2, e, I2, T, st2, f2, tb2, q2⟩ := h2
  subst e
  refine ⟨I2.nolimit, gx_code TB hcode I2 tb2 fun code s3 H3 tb I3 k3 => ?_⟩
  obtain ⟨W, ⟨m0, w0⟩, turn⟩ := q2 H3 tb
  intro h' hns hsb
  have hp2 : ∀ b ∈ fp, b ≠ p := fun b hb z => by
    obtain ⟨ps, e, _⟩ := tb2
    have := (f2 b hb).1
    rw [z, e] at this; cases this
  have st3 : tn 0 s3.heap := T.keep _ _ _ st2 fun b hb o e => k3 b o (hp2 b hb) e
  have f3 : ∀ b ∈ fp, FpOk X pins H3 b ∧ b < s3.heap.objs.size := fun b hb => by
    obtain ⟨o, e, _⟩ := T.obj _ _ st3 b hb
    obtain ⟨x0, x1⟩ := f2 b hb
    exact ⟨⟨by rw [tb.2 b (hp2 b hb)]; exact x0, x1⟩, Heap.lt_size e⟩
  have hsz : h'.objs.size = s3.heap.objs.size + 1 := by rw [hsb.1, Heap.size_push]
  generalize hgo : ({ cls := .type "generator", data := .fields #[.int s3.gens.size 0, .str "<genexpr>" (s3.toks + 1), .str (X.env.qual ++ "<genexpr>") (s3.toks + 1 + 1)] } : Obj) = go
  have go1 : go.cls = .type "generator" ∧ go.data = .fields #[.int s3.gens.size 0, .str "<genexpr>" (s3.toks + 1), .str (X.env.qual ++ "<genexpr>") (s3.toks + 1 + 1)] ∧ go.slots = #[] := by subst hgo; exact ⟨rfl, rfl, rfl⟩
  have go2 : (h'.push go).get? h'.objs.size = some go := by subst hgo; exact Heap.get?_push_size _ rfl
  have I4 := gex_start (code := code) (it := .ref it) (gs := .fresh (.compStart (.GeneratorExp elt [⟨tg, iter, ifs, 0⟩] scope gpos) 0 (.ref it) .none (genEnv scope (cloFrom X.env.cells scope.names []) s3.heap.objs.size code builtinsNs X.env))) (tk := s3.toks + 1 + 1 + 1) I3 ok hN f3 hcell hns hsb (fun v z => by rw [go1.2.1] at z; cases z) go2 rfl
  have hpn : ∀ q ∈ [(h'.objs.size, go)], q.1 ∉ fp := fun q hq z => by
    have hq : q = (h'.objs.size, go) := by simpa using hq
    subst hq
    have := (f3 _ z).2
    have this : (h'.objs.size : Nat) < s3.heap.objs.size := this
    omega
  have st4 : tn 0 (h'.push go) := T.keep _ _ _ st3 fun b hb o e => Heap.get?_push_of_some _ (by
    rw [hsb.2 b (Nat.ne_of_lt (Heap.lt_size e))]
    exact Heap.get?_push_of_some _ e)
  refine Calls.spliced_nil (call_all_turns (wpAny_pyIter_gen (a := h'.objs.size) (g := s3.gens.size) ⟨go, _, _, go2, go1⟩ ?_))
  refine ⟨h'.objs.size, Asleep X s3 H3 (genEnv scope (cloFrom X.env.cells scope.names []) s3.heap.objs.size code builtinsNs X.env) fp [(h'.objs.size, go)] h'.objs.size s3.gens.size (Q (.bl true)) (Q (.bl false)), m0 + 1, rfl, ⟨⟨go, _, _, go2, go1⟩, I4.nolimit, I4.bare, _, Array.getElem?_push_size .., fun s'' z => ⟨rfl, ?_⟩⟩, fun n s5 h5 => ?_⟩
  · exact seg_start hc T (pg _ _ _ _ _ _ _) (pt _ _ _ _ _ _ _) (pe _ _ _ _ _ _ _) hco hpn turn m0 (m0 + 1) s'' s'' H3 (Nat.lt_succ_self _) (slept_inv I4 z) (T.keep _ _ _ st4 fun b _ o e => z.keep b o e) (fun b hb => (f3 b hb).1.1) w0
  · refine next_gen hr go1 h5 (fun σ' H' s6 s7 I' q os ba k => ?_) fun b pins' σ' H' s6 s7 I' hf os ba k hn => ?_
    · exact ⟨.bl true, H', back I3 (fun b hb => (f3 b hb).1) I' os ba k, rfl, q⟩
    · exact ⟨b, rfl, hn, fun eb => ⟨.bl false, H', back I3 (fun b hb => (f3 b hb).1) I' os ba k, rfl, hf eb⟩⟩
end GX
/-! DG2: all(e for t in it), over data -/
namespace DL
open PySem PySem.Spec PyProof.Rows L2 GX

/-- the items, one by one, until one is false; env0: the slots at each turn's beginning -/
def allG (g : DG) (tt : DT) (te : DE) (env0 : En) : List W → Sto → (Bool → Sto → Prop) → Prop
  | [], S, Kp => Kp true S
  | w :: ws, S, Kp => g w env0 S fun env1 S1 => tt env1 S1 fun b S2 => ifB b (te env1 S2 fun y S3 => onB y fun k => ifB k (allG g tt te env0 ws S3 Kp) (Kp false S3)) (allG g tt te env0 ws S2 Kp)
def dAllG (di : DI) (g : DG) (tt : DT) (te : DE) (vs : List Nat) : DE := fun env S Kp => di env S fun ws S1 => allG g tt te (wipeD env vs) ws S1 fun k S2 => Kp (.fz (.bl k)) S2
theorem gex_room {X : Cx} {k : Nat} (hr : Room (k + 1) X.A) {s : Shared} {H : Hp} {env : Env} {fp : List Addr} {pn : List (Addr × Obj)} : Room k (gex X s H env fp pn).A :=
  ⟨hr.hd, by have := hr.dp; show X.A.depth + 1 + 3 * k + 5 < _; omega, by have := hr.un; show X.A.units + 1 + 1 + 3 + 16 * k + 200 < _; omega⟩
section
variable {X : Cx} {Ξ : Xt} {elt tg iter : Expr} {ifs : List Expr} {scope : Scope} {ow : List (Str × Nat)} {pos pp gpos : Pos} {di : DI} {g : TG} {dg : DG} {tt : DT} {te : DE} {cdv : Value} {k : Nat}
theorem imp_all {p : Addr} (vs : List Nat) (lk : Lk X.K g dg vs) {F : Fx} (tp : F.T p) (σ : L2.St) (H : Hp) (Q : VK) (h : lE X.K F (dAllG di dg tt te vs) σ H Q) : tAllX p (lI X.K F di) g (lT X.K F tt) (lE X.K F te) vs σ H Q := by
  obtain ⟨B, m, S, env, Kp, cf, er, h, k⟩ := h
  refine ⟨B, m, S, env, _, cf, er, h, fun ws S1 h1 J H1 B1 m1 n1 J1 => ⟨(n1.cf.tab p tp).1, fun H2 tb => ?_⟩⟩
  have n2 := n1.trans (n1.cf.tabbed tp tb)
  have er0 : ER X.K B1 m1 (wipeD env vs) (wipe σ vs) := (er.nx n1).wipe vs
  refine ⟨fun i n G => n = ws.length - i ∧ i ≤ ws.length ∧ ∃ (B2 : Hp) (m2 : List Addr) (S2 : Sto), Nx X.K F B m H B2 m2 S2 G ∧ Sub B1 B2 ∧ Pre m1 m2 ∧ allG dg tt te (wipeD env vs) (ws.drop i) S2 fun k S2 => Kp (.fz (.bl k)) S2, ⟨_, rfl, Nat.zero_le _, B1, m1, S1, n2, .refl, .refl, by rw [List.drop_zero]; exact h1⟩, ?_⟩
  rintro i n G ⟨en, hi, B2, m2, S2, n3, sb, pr, h2⟩
  by_cases hlt : i < ws.length
  · obtain ⟨hgo, hy⟩ := J1.go B2 m2 S2 G n3.cf sb pr i ws[i] (List.getElem?_eq_getElem hlt)
    rw [List.drop_eq_getElem_cons hlt] at h2
    refine .inr ⟨hgo, fun G' => ∃ (B2 : Hp) (m2 : List Addr) (S2 : Sto), Nx X.K F B m H B2 m2 S2 G' ∧ Sub B1 B2 ∧ Pre m1 m2 ∧ allG dg tt te (wipeD env vs) (ws.drop (i + 1)) S2 fun k S2 => Kp (.fz (.bl k)) S2, fun G' q => ⟨_, ?_, rfl, hlt, q⟩, fun x G3 y => ?_⟩
    · omega
    · obtain ⟨B3, n4, r3⟩ := hy x G3 y
      refine lk F B3 m2 S2 G3 (wipeD env vs) σ ws[i] x _ _ n4.cf (er0.mono (sb.trans n4.sb) (pr.trans n4.pr)) r3 h2 fun env4 S4 h4 σ4 hw4 G4 B4 m4 n5 er4 => ⟨hw4, ?_⟩
      refine ⟨B4, m4, S4, env4, _, n5.cf, er4, h4, fun b S5 h5 G5 B5 m5 n6 => ?_⟩
      have nn := n3.trans (n4.trans (n5.trans n6))
      have sb' := sb.trans (n4.sb.trans (n5.sb.trans n6.sb))
      have pr' := pr.trans (n4.pr.trans (n5.pr.trans n6.pr))
      replace h5 := ifB_if h5
      cases b with
      | false =>
        rw [if_neg Bool.false_ne_true] at h5
        show if false = true then _ else _
        rw [if_neg Bool.false_ne_true]
        exact ⟨B5, m5, S5, nn, sb', pr', h5⟩
      | true =>
        rw [if_pos rfl] at h5
        show if true = true then _ else _
        rw [if_pos rfl]
        refine ⟨B5, m5, S5, env4, _, n6.cf, er4.nx n6, h5, fun u S6 h6 v G6 B6 m6 n7 r6 => ?_⟩
        obtain ⟨q, eq, h7⟩ := onB_ex h6
        subst eq
        replace h7 := ifB_if h7
        refine ⟨q, r6.bl_of, fun eq => ?_, fun eq => ?_⟩
        · subst eq
          rw [if_pos rfl] at h7
          exact ⟨B6, m6, S6, nn.trans n7, sb'.trans n7.sb, pr'.trans n7.pr, h7⟩
        · subst eq
          rw [if_neg Bool.false_ne_true] at h7
          exact k _ _ h7 _ _ _ _ (nn.trans n7) (.fz .bl)
  · have e : i = ws.length := by omega
    subst e
    rw [List.drop_length] at h2
    exact .inl ⟨J1.stop B2 m2 S2 G n3.cf sb pr, k _ _ h2 _ _ _ _ n3 (.fz .bl)⟩
/-- all(elt for tg in iter if ..) -/
theorem dpe_all (gn : GnC X.base X.mg Ξ.T X.env.code) (hr : Room k X.A) (bi : Bi X.mg) (lk : Lk X.K g dg (ow.map (·.2))) (hc : X.calm = true) (hN : X.N.Nodup) (hi : DPI X Ξ tg iter di) (bk : BlkOk X.N X.env.scope scope ow) (hcell : (scope.names.all fun y => y.2 != .cell) = true)
    (pg : ∀ (s : Shared) (H : Hp) (cl : List (Str × Addr)) (C : Addr) (code : Value) (fp : List Addr) (pn : List (Addr × Obj)), PG (gex X s H (genEnv scope cl C code builtinsNs X.env) fp pn) tg g)
    (pt : ∀ (s : Shared) (H : Hp) (cl : List (Str × Addr)) (C : Addr) (code : Value) (fp : List Addr) (pn : List (Addr × Obj)), DPTs (gex X s H (genEnv scope cl C code builtinsNs X.env) fp pn) Ξ.nox ifs tt)
    (pe : ∀ (s : Shared) (H : Hp) (cl : List (Str × Addr)) (C : Addr) (code : Value) (fp : List Addr) (pn : List (Addr × Obj)), DPE (gex X s H (genEnv scope cl C code builtinsNs X.env) fp pn) Ξ.nox elt te)
    (hg : Gl X "all" := by rfl) (h0 : scope.names.lookup (".0" : Str) = some NameKind.local := by rfl) (hco : scope.isCoroutine = false := by rfl) (hs : ∀ v, genFold iter X.env v = pure v := by intro _; rfl)
    (he : starEach [.GeneratorExp elt [⟨tg, iter, ifs, 0⟩] scope gpos] X.env = (false, eval (.GeneratorExp elt [⟨tg, iter, ifs, 0⟩] scope gpos) X.env) :: starEach [] X.env := by rfl) :
    DPE X Ξ (.Call (.Name "all" pp) [.GeneratorExp elt [⟨tg, iter, ifs, 0⟩] scope gpos] [] pos) (dAllG di dg tt te (ow.map (·.2))) := by
  obtain ⟨c, p, hcode, tb, tp⟩ := gn
  refine ⟨fun F okf => PE.imp (pe_allX hr hc hN hg bi.all tb hcode (hi.run F okf) bk (fun y hy z => ?_) h0 hco pg (fun s H cl C code fp pn => (pt s H cl C code fp pn).run F okf.nox) (fun s H cl C code fp pn => (pe s H cl C code fp pn).run F okf.nox) hs he) (imp_all _ lk (by rw [okf.t]; exact tp))⟩
  have := List.all_eq_true.mp hcell y hy
  rw [z] at this
  cases this
end
/-! ### names of a tuple -/
section
variable {X : Cx} {x y z : Str} {p1 p2 p3 pos : Pos} {k : Nat}
theorem pg_names2 (i j : Nat) (nd : X.N.Nodup) (hc : X.calm = true := by rfl) (hi : X.N[i]? = some x := by rfl) (hj : X.N[j]? = some y := by rfl) (lx : Loc X.env.scope x := by first | exact Or.inl rfl | exact Or.inr rfl) (ly : Loc X.env.scope y := by first | exact Or.inl rfl | exact Or.inr rfl)
    (fx : X.fn x = true ∨ X.env.scope.names.lookup x = some .local := by first | exact .inl rfl | exact .inr rfl) (fy : X.fn y = true ∨ X.env.scope.names.lookup y = some .local := by first | exact .inl rfl | exact .inr rfl) :
    PG X (.Tuple [.Name x p1, .Name y p2] k pos) (gTup X.K 2 (gNs [i, j])) := pg_tup hc (pgs_cons (pg_name nd hi lx fx) (pgs_cons (pg_name nd hj ly fy) pgs_nil)) rfl rfl
end
/-! ### a sign in a text -/
def inS : DR2 := fun x y S Kp => match x, y with
  | .fz (.str i), .fz (.str z) => match i.cps.toList with
    | [c] => Kp (.fz (.bl (decide (c ∈ z.cps.toList)))) S
    | _ => False
  | _, _ => False
section
variable {X : Cx} {Ξ : Xt} {a b : Expr} {da db : DE} {pos : Pos}
theorem od_inS : OpD X (compareOp .In) inS := fun F => OpR.imp op_in_sign fun x y H Q ⟨B, m, S, wx, wy, Kp, cf, rx, ry, h, k⟩ => by
  unfold inS at h
  split at h
  · rename_i i z
    split at h
    · rename_i c e
      have ei : i = ⟨#[c]⟩ := str_of_list e
      subst ei
      exact ⟨c, z, rx.str_of, ry.str_of, k.here cf h (.fz .bl)⟩
    · exact h.elim
  · exact h.elim
theorem e_inS (ha : DPE X Ξ a da) (hb : DPE X Ξ b db) (hm : behindInMarks .In b = false := by with_unfolding_all rfl) : DPE X Ξ (.Compare a [.In] [b] pos) (dOp inS da db) := dpe_cmp od_inS ha hb hm
theorem c_inS (ha : DPE X Ξ a da) (hb : DPE X Ξ b db) (hm : behindInMarks .In b = false := by with_unfolding_all rfl) : DPT X Ξ (.Compare a [.In] [b] pos) (dTst (dOp inS da db)) := dpt_cmp od_inS ha hb hm
end
end DL
/-! DL16: sorted of alike data -/
namespace DL
open PySem PySem.Spec PyProof.Rows L2

abbrev leP (a b : PyData) : Bool := !PySem.W.dataLt b a
def rSortedD (K : PySem.W.Frag) : List V → Hp → VK → Prop := fun vs H Q => ∃ (a : Addr) (its : List (V × PyData)), vs = [.ref a] ∧ SqL K H a (its.map (·.1)) ∧ (∀ i ∈ its, Dp K H i.1 i.2) ∧
  PySem.W.AllAlike (its.map (·.2)) ∧ PySem.W.Sortable (its.map (·.2)) ∧ (∀ i ∈ its, i.2.depth ≤ 60) ∧ ∀ p : Addr, H p = none → Q (.ref p) (upd H p (.lst ((its.mergeSort (fun i j => leP i.2 j.2)).map (·.1))))
theorem each_vals : ∀ {its : List (V × PyData)} {us : List Value}, Vals (its.map (·.1)) us → PySem.W.EachIs (fun u i => RelV i.1 u) us its
  | [], _, h => by cases h; exact .nil
  | _ :: _, _, h => by
    cases h with
    | cons r t => exact .cons r (each_vals t)
theorem vals_each : ∀ {its : List (V × PyData)} {us : List Value}, PySem.W.EachIs (fun u i => RelV i.1 u) us its → Vals (its.map (·.1)) us
  | _, _, .nil => .nil
  | _, _, .cons r t => .cons r (vals_each t)
theorem each_reads {h : Heap} : ∀ {its : List (V × PyData)} {us : List Value}, PySem.W.EachIs (fun u i => RelV i.1 u) us its → (∀ i ∈ its, ∀ u, RelV i.1 u → ∃ as, Reads h u i.2 as) → PySem.W.EachIs (fun u i => ∃ as, Reads h u i.2 as) us its
  | _, _, .nil, _ => .nil
  | _, _, .cons r t, h => .cons (h _ List.mem_cons_self _ r) (each_reads t fun i hi => h i (List.mem_cons_of_mem _ hi))
theorem cr_sortedD {X : Cx} (hu : X.A.units + 64 < cLine) : CallR X (.builtin "sorted") (rSortedD X.K) := by
  intro pins s σ H vs us Q I r h
  obtain ⟨a, its, rfl, hs, hk, hal, hso, hd, q⟩ := h
  obtain ⟨vals, rv, hl, hz⟩ := I.list hs
  rw [Vals.ref1 r]
  rw [List.length_map] at hz
  have hev := each_vals rv
  have her : PySem.W.EachIs (fun u i => ∃ as, Reads s.heap u i.2 as) vals its := each_reads hev fun i hi u ru => Dp.reads I i.2 i.1 u (hk i hi) ru
  refine PySem.W.sorted_data (enc := fun i : V × PyData => i.2) (R := fun u i => RelV i.1 u) hl.isList hev her hal hso hz (fun i hi => ?_) fun out ho he => ?_
  · have := hd i hi
    omega
  · have hle : (PySem.W.dataLe false fun i : V × PyData => i.2) = fun i j => leP i.2 j.2 := rfl
    rw [hle] at he
    obtain ⟨ep, he'⟩ := PyProof.Rows.sortedAll_at s.heap vals out.toArray
    have hz2 : ((its.mergeSort fun i j => leP i.2 j.2).map (·.1)).length ≤ sizeLine := by rw [List.length_map, List.length_mergeSort]; exact hz
    exact ⟨.ref _, upd H (s.heap.objs.size + 1) (.lst ((its.mergeSort fun i j => leP i.2 j.2).map (·.1))), I.laid (t' := s.toks) (fun _ _ => PyProof.Rows.sortedAll_old) (Nat.le_succ _) ⟨hz2, out, ep, vals_each he, he'⟩, rfl, q _ (I.hok.fresh (Nat.le_succ _))⟩
/-! ### the reading -/
def leD (a b : D) : Bool := leP (toPy a) (toPy b)
def sortD (ds : List D) : List D := ds.mergeSort leD
def sortedDW (own : Bool) : DRL := fun ws S Kp => match ws with
  | [x] => onO (vL S x) fun ys => onO (fzL ys) fun ds => PySem.W.AllAlike (ds.map toPy) ∧ PySem.W.Sortable (ds.map toPy) ∧ (∀ d ∈ ds, okD 60 d = true) ∧ newL own ((sortD ds).map .fz) S Kp
  | _ => False
section
variable {X : Cx} {Ξ : Xt}
theorem rpl_zip {K : PySem.W.Frag} {B : Hp} {m : List Addr} : ∀ {ds : List D} {vs : List V}, RWL K B m (ds.map .fz) vs → ∃ its : List (V × D), vs = its.map (·.1) ∧ its.map (·.2) = ds ∧ ∀ i ∈ its, Rp K B i.2 i.1
  | [], _, .nil => ⟨[], rfl, rfl, fun _ h => by cases h⟩
  | d :: ds, _, .cons (v := v) q t => by
    obtain ⟨its, e1, e2, h⟩ := rpl_zip t
    cases q with
    | fz q =>
      refine ⟨(v, d) :: its, by rw [e1]; rfl, by rw [← e2]; rfl, fun i hi => ?_⟩
      rcases List.mem_cons.mp hi with rfl | hi
      · exact q
      · exact h i hi
theorem rwl_zip_of {K : PySem.W.Frag} {B : Hp} {m : List Addr} : ∀ {its : List (V × D)}, (∀ i ∈ its, Rp K B i.2 i.1) → RWL K B m ((its.map (·.2)).map .fz) (its.map (·.1))
  | [], _ => .nil
  | i :: its, h => .cons (.fz (h i List.mem_cons_self)) (rwl_zip_of fun j hj => h j (List.mem_cons_of_mem _ hj))
theorem leP_trans (a b c : PyData) (h1 : leP a b = true) (h2 : leP b c = true) : leP a c = true := by
  have := (PySem.W.sortLe_total (PyProof.Rows.listOrd PyProof.Rows.itemOrd) false (fun d : PyData => PySem.W.keyToks d)).trans a b c h1 h2
  exact this
theorem leP_total (a b : PyData) : (leP a b || leP b a) = true := (Bool.or_eq_true _ _).mpr ((PySem.W.sortLe_total (PyProof.Rows.listOrd PyProof.Rows.itemOrd) false (fun d : PyData => PySem.W.keyToks d)).total a b)
theorem map_mergeSort {α β : Type} (f : α → β) (le : β → β → Bool) (l : List α) : (l.mergeSort fun a b => le (f a) (f b)).map f = (l.map f).mergeSort le := by
  first
    | exact (List.map_mergeSort (fun _ _ _ _ => rfl)).symm
    | exact List.map_mergeSort (fun _ _ _ _ => rfl)
theorem cd_sortedD (own : Bool) {k : Nat} (hr : Room k X.A) : CallD X (.builtin "sorted") (sortedDW own) := fun F => CallR.imp (cr_sortedD hr.units) fun xs H Q ⟨B, m, S, ws, Kp, cf, r, h0, k⟩ => by
  unfold sortedDW at h0
  split at h0
  rotate_left
  · exact h0.elim
  obtain ⟨ys, e1, h1⟩ := onO_ex h0
  obtain ⟨ds, e2, hal, hso, hok, h⟩ := onO_ex h1
  obtain ⟨v, e, rv⟩ := r.one
  subst e
  obtain ⟨a, vs, ea, hs, rr⟩ := vL_ok cf rv e1
  subst ea
  rw [fzL_eq e2] at rr
  obtain ⟨its, e3, e4, hr⟩ := rpl_zip rr
  subst e3
  subst e4
  have hmap : ((its.map fun i => (i.1, toPy i.2)).map (·.2)) = (its.map (·.2)).map toPy := by rw [List.map_map, List.map_map]; rfl
  have hmap1 : ((its.map fun i => (i.1, toPy i.2)).map (·.1)) = its.map (·.1) := by rw [List.map_map]; rfl
  refine ⟨a, its.map fun i => (i.1, toPy i.2), rfl, by rw [hmap1]; exact .of hs, fun i hi => ?_, by rw [hmap]; exact hal, by rw [hmap]; exact hso, fun i hi => ?_, fun p hp => ?_⟩
  · obtain ⟨j, hj, rfl⟩ := List.mem_map.mp hi
    exact ((hr j hj).mono cf.sub).dp 60 (hok _ (List.mem_map_of_mem hj))
  · obtain ⟨j, hj, rfl⟩ := List.mem_map.mp hi
    exact (okD_lay _ 60 (hok _ (List.mem_map_of_mem hj))).2
  · have e5 : (its.map fun i => (i.1, toPy i.2)).mergeSort (fun i j => leP i.2 j.2) = (its.mergeSort fun i j => leD i.2 j.2).map fun i => (i.1, toPy i.2) := (map_mergeSort (fun i : V × D => (i.1, toPy i.2)) (fun i j => leP i.2 j.2) its).symm
    rw [e5, List.map_map]
    have e6 : sortD (its.map (·.2)) = (its.mergeSort fun i j => leD i.2 j.2).map (·.2) := (map_mergeSort (fun i : V × D => i.2) leD its).symm
    rw [e6] at h
    exact newL_ok cf (rwl_zip_of fun i hi => hr i ((List.mergeSort_perm _ _).mem_iff.mp hi)) h k hp
theorem e_sortedD {k : Nat} {e : Expr} {es : List Expr} {p pos : Pos} {das : DA} (own : Bool) (hr : Room k X.A) (bi : Bi X.mg) (ha : DPA X Ξ (e :: es) das) (hg : Gl X "sorted" := by rfl) (he : starEach (e :: es) X.env = (false, eval e X.env) :: starEach es X.env := by rfl) (hpl : (backTo pos (starEach es X.env)).any (·.1) = false := by rfl) : DPE X Ξ (.Call (.Name "sorted" p) (e :: es) [] pos) (dCB (sortedDW own) das) := dpe_callB (cd_sortedD own hr) hg bi.sorted PyProof.Rows.boot_sorted ha (by decide) (by decide) he hpl
theorem sortD_perm (ds : List D) : (sortD ds).Perm ds := List.mergeSort_perm ds leD
theorem sortD_pairs (ds : List D) : (sortD ds).Pairwise (fun a b => leD a b = true) := List.pairwise_mergeSort (le := leD) (fun a b c => leP_trans (toPy a) (toPy b) (toPy c)) (fun a b => leP_total (toPy a) (toPy b)) ds
end
/-! ### d.get -/
def dDGet2 (dd dk dv : DE) : DE := fun env S Kp => dd env S fun x S1 => onO (dicAt S1 x) fun _ => dk env S1 fun y S2 => dv env S2 fun z S3 => getDW S3 x y z Kp
section
variable {X : Cx} {Ξ : Xt} {o i e f : Expr} {pos apos : Pos} {dd dk dv : DE} {k : Nat}
theorem e_dget1 (hr : Room k X.A) (ho : DPE X Ξ o dd) (hi : DPE X Ξ e dk)
    (hbase : attributeBase o "get" X.env (eval o X.env) = eval o X.env := by rfl)
    (hfew : ((backTo pos (starEach [e] X.env)).all (fun x => !x.1) && (backToKw pos (keywordEach [] X.env)).all (fun x => x.1.isSome)
      && decide (([e] : List Expr).length + ([] : List Keyword).length + (if ([] : List Keyword).isEmpty then 0 else 1) < 30)) = true := by rfl)
    (hline : (apos.endLine == pos.line) = true := by rfl) (htrees : backTo pos (starEach [e] X.env) = [(false, eval e X.env)] := by rfl) :
    DPE X Ξ (.Call (.Attribute o "get" apos) [e] [] pos) (dDGet1 dd dk) := ⟨fun F ok => PE.imp (pe_dget1 (hu_of hr) (ho.run F ok) (hi.run F ok) ⟨hbase, hfew, hline, htrees⟩) fun σ H Q ⟨B, m, S, env, Kp, cf, er, h, kw⟩ => by
  refine ⟨B, m, S, env, _, cf, er, h, fun x S1 h1 v H1 B1 m1 n1 r => ?_⟩
  obtain ⟨⟨n0, kvs0⟩, e0, h1⟩ := onO_ex h1
  obtain ⟨ex, es0⟩ := dicAt_eq e0
  subst ex
  obtain ⟨a, vs0, ea, _, hd0, _⟩ := n1.cf.dic r es0
  subst ea
  refine ⟨a, rfl, .inl ⟨_, .inl hd0⟩, B1, m1, S1, env, _, n1.cf, er.nx n1, h1, fun y S2 ⟨h0⟩ u H2 B2 m2 n2 r2 => ?_⟩
  obtain ⟨⟨n, kvs⟩, e1, h2⟩ := onO_ex h0
  obtain ⟨kk, e2, h2⟩ := onO_ex h2
  obtain ⟨ex, es⟩ := dicAt_eq e1
  cases ex
  obtain ⟨a', vs, ea, _, hd, fk⟩ := n2.cf.dic (r.nx n2) es
  cases ea
  have q := fk.val (k := kk)
  refine ⟨valV vs kk, ?_, ?_⟩
  · rw [keyW_ok r2 e2]
    exact DGet.k hd
  · refine kw _ _ h2 _ _ _ _ (n1.trans n2) ?_
    show RW X.K B2 m2 ((valW kvs kk).getD (.fz .non)) _
    cases z : valW kvs kk with
    | none => rw [z] at q; rw [q]; exact .fz .non
    | some w => rw [z] at q; obtain ⟨v', hv, rv⟩ := q; rw [hv]; exact rv⟩
theorem e_dget2 (hr : Room k X.A) (ho : DPE X Ξ o dd) (hi : DPE X Ξ e dk) (hf : DPE X Ξ f dv)
    (hbase : attributeBase o "get" X.env (eval o X.env) = eval o X.env := by rfl)
    (hfew : ((backTo pos (starEach [e, f] X.env)).all (fun x => !x.1) && (backToKw pos (keywordEach [] X.env)).all (fun x => x.1.isSome)
      && decide (([e, f] : List Expr).length + ([] : List Keyword).length + (if ([] : List Keyword).isEmpty then 0 else 1) < 30)) = true := by rfl)
    (hline : (apos.endLine == pos.line) = true := by rfl) (htrees : backTo pos (starEach [e, f] X.env) = [(false, eval e X.env), (false, eval f X.env)] := by rfl) :
    DPE X Ξ (.Call (.Attribute o "get" apos) [e, f] [] pos) (dDGet2 dd dk dv) := ⟨fun F ok => PE.imp (pe_dget2 (hu_of hr) (ho.run F ok) (hi.run F ok) (hf.run F ok) ⟨hbase, hfew, hline, htrees⟩) fun σ H Q ⟨B, m, S, env, Kp, cf, er, h, kw⟩ => by
  refine ⟨B, m, S, env, _, cf, er, h, fun x S1 h1 v H1 B1 m1 n1 r => ?_⟩
  obtain ⟨⟨n0, kvs0⟩, e0, h1⟩ := onO_ex h1
  obtain ⟨ex, es0⟩ := dicAt_eq e0
  subst ex
  obtain ⟨a, vs0, ea, _, hd0, _⟩ := n1.cf.dic r es0
  subst ea
  refine ⟨a, rfl, .inl ⟨_, .inl hd0⟩, B1, m1, S1, env, _, n1.cf, er.nx n1, h1, fun y S2 h0 u H2 B2 m2 n2 r2 => ⟨B2, m2, S2, env, _, n2.cf, (er.nx n1).nx n2, h0, fun z S3 ⟨h0⟩ u3 H3 B3 m3 n3 r3 => ?_⟩⟩
  obtain ⟨⟨n, kvs⟩, e1, h2⟩ := onO_ex h0
  obtain ⟨kk, e2, h2⟩ := onO_ex h2
  obtain ⟨ex, es⟩ := dicAt_eq e1
  cases ex
  obtain ⟨a', vs, ea, _, hd, fk⟩ := n3.cf.dic ((r.nx n2).nx n3) es
  cases ea
  have q := fk.val (k := kk)
  refine ⟨valV vs kk, ?_, ?_⟩
  · rw [keyW_ok r2 e2]
    exact DGet.k hd
  · refine kw _ _ h2 _ _ _ _ ((n1.trans n2).trans n3) ?_
    show RW X.K B3 m3 ((valW kvs kk).getD z) _
    cases zz : valW kvs kk with
    | none => rw [zz] at q; rw [q]; exact r3
    | some w => rw [zz] at q; obtain ⟨v', hv, rv⟩ := q; rw [hv]; exact rv⟩
end
/-! ### minus -/
def onIW (w : W) (k : Int → Prop) : Prop := match w with
  | .fz (.int i) => k i
  | _ => False
theorem onIW_ex {w : W} {k : Int → Prop} (h : onIW w k) : ∃ i, w = .fz (.int i) ∧ k i := by
  unfold onIW at h
  split at h
  · exact ⟨_, rfl, h⟩
  · exact h.elim
def dNeg (da : DE) : DE := fun env S Kp => da env S fun x S1 => onIW x fun i => Kp (.fz (.int (-i))) S1
section
variable {X : Cx} {Ξ : Xt} {a : Expr} {da : DE} {pos : Pos}
theorem e_neg (ha : DPE X Ξ a da) : DPE X Ξ (.UnaryOp .USub a pos) (dNeg da) := ⟨fun F ok => PE.imp (pe_un un_neg (ha.run F ok)) fun σ H Q ⟨B, m, S, env, Kp, cf, er, h, k⟩ => by
  refine ⟨B, m, S, env, _, cf, er, h, fun x S1 h0 v H1 B1 m1 n1 r => ?_⟩
  obtain ⟨i, e1, h1⟩ := onIW_ex h0
  subst e1
  exact ⟨i, r.int_of, k _ _ h1 _ _ _ _ n1 (.fz .int)⟩⟩
end
end DL
/-! DL18: max, min of two numbers; str of a number or a text -/
namespace DL
open PySem PySem.Spec PyProof.Rows L2
def maxW : DRL := fun ws S Kp => match ws with
  | [.fz (.int i), .fz (.int j)] => Kp (.fz (.int (if j > i then j else i))) S
  | _ => False
def minW : DRL := fun ws S Kp => match ws with
  | [.fz (.int i), .fz (.int j)] => Kp (.fz (.int (if j < i then j else i))) S
  | _ => False
def strW1 : DRL := fun ws S Kp => match ws with
  | [.fz (.int i)] => i.natAbs.log2 < 1920 ∧ Kp (.fz (.str (toString i))) S
  | [.fz (.str x)] => Kp (.fz (.str x)) S
  | _ => False
section
variable {X : Cx} {Ξ : Xt} {e : Expr} {es : List Expr} {das : DA} {p pos : Pos}
theorem cd_max (hc : X.calm = true) : CallD X (.builtin "max") maxW := fun F => CallR.imp (call_max2 hc) fun xs H Q ⟨B, m, S, ws, Kp, cf, r, h, k⟩ => by
  unfold maxW at h
  split at h
  · obtain ⟨v, y, e, rv, ry⟩ := r.two
    subst e
    rw [rv.int_of, ry.int_of]
    exact ⟨_, _, rfl, k.here cf h (.fz .int)⟩
  · exact h.elim
theorem cd_min (hc : X.calm = true) : CallD X (.builtin "min") minW := fun F => CallR.imp (call_min2 hc) fun xs H Q ⟨B, m, S, ws, Kp, cf, r, h, k⟩ => by
  unfold minW at h
  split at h
  · obtain ⟨v, y, e, rv, ry⟩ := r.two
    subst e
    rw [rv.int_of, ry.int_of]
    exact ⟨_, _, rfl, k.here cf h (.fz .int)⟩
  · exact h.elim
theorem cd_str1 : CallD X (.type "str") strW1 := fun F => CallR.imp (CallR.or call_str_int SkE.call_str_str) fun xs H Q ⟨B, m, S, ws, Kp, cf, r, h, k⟩ => by
  unfold strW1 at h
  split at h
  · obtain ⟨v, e, rv⟩ := r.one
    subst e
    rw [rv.int_of]
    exact .inl ⟨_, rfl, h.1, k.here cf h.2 (.fz .str)⟩
  · obtain ⟨v, e, rv⟩ := r.one
    subst e
    rw [rv.str_of]
    exact .inr ⟨_, rfl, k.here cf h (.fz .str)⟩
  · exact h.elim
theorem e_max (bi : Bi X.mg) (hc : X.calm = true) (ha : DPA X Ξ (e :: es) das) (hg : Gl X "max" := by rfl) (he : starEach (e :: es) X.env = (false, eval e X.env) :: starEach es X.env := by rfl) (hpl : (backTo pos (starEach es X.env)).any (·.1) = false := by rfl) : DPE X Ξ (.Call (.Name "max" p) (e :: es) [] pos) (dCB maxW das) := dpe_callB (cd_max hc) hg bi.max PyProof.Rows.boot_max ha (by decide) (by decide) he hpl
theorem e_min (bi : Bi X.mg) (hc : X.calm = true) (ha : DPA X Ξ (e :: es) das) (hg : Gl X "min" := by rfl) (he : starEach (e :: es) X.env = (false, eval e X.env) :: starEach es X.env := by rfl) (hpl : (backTo pos (starEach es X.env)).any (·.1) = false := by rfl) : DPE X Ξ (.Call (.Name "min" p) (e :: es) [] pos) (dCB minW das) := dpe_callB (cd_min hc) hg bi.min PyProof.Rows.boot_min ha (by decide) (by decide) he hpl
theorem e_str (bi : Bi X.mg) (ha : DPA X Ξ (e :: es) das) (hg : Gl X "str" := by rfl) (he : starEach (e :: es) X.env = (false, eval e X.env) :: starEach es X.env := by rfl) (hpl : (backTo pos (starEach es X.env)).any (·.1) = false := by rfl) : DPE X Ξ (.Call (.Name "str" p) (e :: es) [] pos) (dCB strW1 das) := dpe_callTy cd_str1 hg bi.str PyProof.Rows.boot_str ha (by decide) (by decide) he hpl
end
end DL
/-! DL17: zip(reversed(a list), reversed(a list)) -/
namespace DL
open PySem PySem.Spec PyProof.Rows L2
section
variable {prog : Program} {w : World} {A : Around} {E : Value → Shared → Prop} {s : Shared}
theorem nextOf_rev_item {it l : Addr} {i : Nat} {items : Array Value} {x : Value} {Q : Value → Shared → Prop} (hit : s.heap.IsRevIter it l (i : Int)) (hl : s.heap.IsList l items) (hx : items[i]? = some x)
    (hQ : ∀ h', h'.IsRevIter it l ((i : Int) - 1) → Heap.SameBut it s.heap h' → Q x { s with heap := h' }) : wpAny (model prog w) A (Builtin.SmallTypes.nextOf (.ref it)) Q E s := by
  obtain ⟨o, ho, hc, hd⟩ := id hit
  obtain ⟨ol, hol, _, nl, hdl⟩ := hl
  unfold Builtin.SmallTypes.nextOf
  refine wpAny_bind (wpAny_callSpecial?_slot (name := Str.ofString "__next__") hit.typeIs F.slot_lri_next
    (wpAny_call_entry F.slot_lri_next hit.typeIs F.entry_lri_next ?_ (F.args_lri_next_1 _)))
  unfold Builtin.«list_reverseiterator.__next__»
  refine wpAny_bind (wpAny_of_eq (a := (Value.ref it, [])) rfl ?_)
  try dsimp only
  refine wpAny_bind (wpAny_field ho hd (x := rawInt (i : Int)) rfl ?_)
  show wpAny _ _ (if (i : Int) < 0 then _ else _) _ _ s
  rw [if_neg (by omega)]
  show wpAny _ _ (field (.ref it) 0 >>= _) _ _ s
  refine wpAny_bind (wpAny_field ho hd (x := .ref l) rfl ?_)
  show wpAny _ _ (seqItems? (.ref l) >>= _) _ _ s
  refine wpAny_bind (wpAny_seqItems hol hdl ?_)
  simp only [Int.toNat_natCast, hx]
  refine wpAny_bind (wpAny_setField ho hd (by simp) ?_)
  first
  | refine wpAny_pure ⟨x, rfl, wpAny_pure (hQ _ ?_ (Heap.SameBut.update ..))⟩
  | refine wpAny_bind (wpAny_pure (wpAny_pure ⟨x, rfl, wpAny_pure (hQ _ ?_ (Heap.SameBut.update ..))⟩))
  exact ⟨_, Heap.get?_update_self _ ho (Obj.isFreed_of_fields (Obj.data_mapFields hd _)), (Obj.cls_mapFields ..).trans hc, by
    rw [Obj.data_mapFields hd]; simp⟩
theorem nextOf_rev_end {it l : Addr} {Q : Value → Shared → Prop} (hh : A.handled = none) (hit : s.heap.IsRevIter it l (-1))
    (hE : ∀ h' e, Heap.ExtBut it s.heap h' → (∃ o, h'.get? e = some o ∧ o.cls = .type "StopIteration") → E (.ref e) { s with heap := h' }) : wpAny (model prog w) A (Builtin.SmallTypes.nextOf (.ref it)) Q E s := by
  obtain ⟨o, ho, hc, hd⟩ := id hit
  unfold Builtin.SmallTypes.nextOf
  refine wpAny_bind (wpAny_callSpecial?_slot (name := Str.ofString "__next__") hit.typeIs F.slot_lri_next
    (wpAny_call_entry F.slot_lri_next hit.typeIs F.entry_lri_next ?_ (F.args_lri_next_1 _)))
  unfold Builtin.«list_reverseiterator.__next__»
  refine wpAny_bind (wpAny_of_eq (a := (Value.ref it, [])) rfl ?_)
  try dsimp only
  refine wpAny_bind (wpAny_field ho hd (x := rawInt (-1)) rfl ?_)
  show wpAny _ _ (if (-1 : Int) < 0 then _ else _) _ _ s
  rw [if_pos (by decide)]
  refine wpAny_bind (wpAny_rule ?_)
  first
  | show wpAny _ _ (newExc (.type "StopIteration") [] >>= _) _ _ _
  | (refine wpAny_bind ?_; show wpAny _ _ (newExc (.type "StopIteration") [] >>= _) _ _ _)
  refine wpAny_bind ?_
  simp only [newExc, newTuple]
  refine wpAny_bind (wpAny_newObj_type ?_ (by size_fits))
  refine wpAny_bind (m := firstArgMember _ _) (wpAny_of_eq (a := Value.none) (by first | rfl | (simp only [firstArgMember]; rfl)) ?_)
  refine wpAny_newObj_type ?_ (by size_fits)
  simp only [raiseNew]
  refine wpAny_bind (wpAny_handled ?_)
  first | rw [show A.in1.handled = none from hh] | rw [hh]
  refine wpAny_bind (wpAny_pure (wpAny_throw ?_))
  exact hE _ _ (((Heap.ExtBut.refl _ _).push _).push _) ⟨_, Heap.get?_push_size _ rfl, rfl⟩
theorem draws_rev (hh : A.handled = none) (it l : Addr) (hne : l ≠ it) (items : Array Value) :
    Draws prog w A it [it, l] items.size (fun i v => items[items.size - 1 - i]? = some v) (fun i h => i ≤ items.size ∧ h.IsRevIter it l ((items.size : Int) - 1 - (i : Nat)) ∧ h.IsList l items) where
  live := fun _ _ st => let ⟨o, ho, _⟩ := st.2.1; ⟨o, ho⟩
  frame := fun _ _ _ st hk => ⟨st.1, st.2.1.at fun o e => hk it (by simp) o e, st.2.2.at fun o e => hk l (by simp) o e⟩
  item := fun i s Q E hi st hQ => by
    obtain ⟨_, h1, h2⟩ := st
    have e1 : (items.size : Int) - 1 - ((i : Nat) : Int) = ((items.size - 1 - i : Nat) : Int) := by omega
    rw [e1] at h1
    have hx : items.size - 1 - i < items.size := by omega
    refine nextOf_rev_item h1 h2 (x := items[items.size - 1 - i]) (by simp [hx]) fun h' hit' hs' => ?_
    have e2 : ((items.size - 1 - i : Nat) : Int) - 1 = (items.size : Int) - 1 - ((i + 1 : Nat) : Int) := by omega
    rw [e2] at hit'
    exact hQ _ h' s.toks (by simp [hx]) ⟨by omega, hit', h2.extBut hs'.extBut hne⟩ hs'
  done := fun s Q E st hE => by
    obtain ⟨_, h1, h2⟩ := st
    have e1 : (items.size : Int) - 1 - ((items.size : Nat) : Int) = -1 := by omega
    rw [e1] at h1
    exact nextOf_rev_end hh h1 hE
end
/-! ### zip of two that walk already -/
abbrev sT2 (h : Heap) (i1 i2 : Addr) : Heap := h.push { cls := .type "tuple", data := .seq #[.ref i1, .ref i2] }
abbrev sO2 (h : Heap) (i1 i2 : Addr) : Heap := (sT2 h i1 i2).push { cls := .type "tuple", data := .seq #[.none, .none] }
abbrev sZ2 (h : Heap) (i1 i2 : Addr) : Heap := (sO2 h i1 i2).push { cls := .type "zip", data := .fields #[.none, .bool false, .bool false, .ref h.objs.size, .ref (sT2 h i1 i2).objs.size] }
theorem meets_zip_self2 {i1 i2 a b : Addr} {k1 k2 : Int} :
    Meets (Builtin.«zip.__new__» ⟨[.type "zip", .ref i1, .ref i2], []⟩) (fun _ R s => (s.heap.IsRevIter i1 a k1 ∧ s.heap.IsRevIter i2 b k2) ∧
      R (.ok (.ret (.ref (sO2 s.heap i1 i2).objs.size))) { s with heap := sZ2 s.heap i1 i2 }) :=
  .of_wp fun prog w A R s h => by
    obtain ⟨hp, g, d, tk, os⟩ := s; obtain ⟨⟨h1, h2⟩, h⟩ := h
    have hsub := sub_zip
    have q1 : ∀ {A' : Around} {E : Value → Shared → Prop} {Q : Value → Shared → Prop}, Q (.ref i1) ⟨hp, g, d, tk, os⟩ → wpAny (model prog w) A' (pyIter (.ref i1)) Q E ⟨hp, g, d, tk, os⟩ :=
      fun q => wpAny_pyIter_revIter h1 q
    have q2 : ∀ {A' : Around} {E : Value → Shared → Prop} {Q : Value → Shared → Prop}, Q (.ref i2) ⟨hp, g, d, tk, os⟩ → wpAny (model prog w) A' (pyIter (.ref i2)) Q E ⟨hp, g, d, tk, os⟩ :=
      fun q => wpAny_pyIter_revIter h2 q
    wp_walk using q1, q2
    exact ⟨_, rfl, h⟩
section
variable {prog : Program} {w : World} {A : Around} {E : Value → Shared → Prop} {s : Shared}
theorem zip_self2 {i1 i2 a b : Addr} {k1 k2 : Int} {Q : Value → Shared → Prop} (h1 : s.heap.IsRevIter i1 a k1) (h2 : s.heap.IsRevIter i2 b k2)
    (h : ∀ h', IsZip h' (s.heap.objs.size + 2) s.heap.objs.size (s.heap.objs.size + 1) .none → IsTupOf2 h' s.heap.objs.size (.ref i1) (.ref i2) →
      IsTupOf2 h' (s.heap.objs.size + 1) .none .none → h'.objs.size = s.heap.objs.size + 3 →
      (∀ c o, s.heap.get? c = some o → h'.get? c = some o) → Q (.ref (s.heap.objs.size + 2)) { s with heap := h' }) :
    wpAny (model prog w) A (call (.type "zip") [.ref i1, .ref i2]) Q E s := by
  refine callType_new F.called_zip (by decide) (F.typeCall_zip_2 _ _) (F.newCall_zip_2 _ _) (fun obj => F.args_object_init_3 obj _ _) F.entry_zip_new
    meets_zip_self2 ⟨⟨h1, h2⟩, ?_⟩
  have zT : (sT2 s.heap i1 i2).objs.size = s.heap.objs.size + 1 := by rw [Heap.size_push]
  have zO : (sO2 s.heap i1 i2).objs.size = s.heap.objs.size + 2 := by rw [Heap.size_push, zT]
  have zZ : (sZ2 s.heap i1 i2).objs.size = s.heap.objs.size + 3 := by rw [Heap.size_push, zO]
  have gZ : (sZ2 s.heap i1 i2).get? (sO2 s.heap i1 i2).objs.size = some { cls := .type "zip", data := .fields #[.none, .bool false, .bool false, .ref s.heap.objs.size, .ref (sT2 s.heap i1 i2).objs.size] } := Heap.get?_push_size _ rfl
  have gO : (sZ2 s.heap i1 i2).get? (sT2 s.heap i1 i2).objs.size = some { cls := .type "tuple", data := .seq #[.none, .none] } := Heap.get?_push_of_some _ (Heap.get?_push_size _ rfl)
  have gT : (sZ2 s.heap i1 i2).get? s.heap.objs.size = some { cls := .type "tuple", data := .seq #[.ref i1, .ref i2] } := Heap.get?_push_of_some _ (Heap.get?_push_of_some _ (Heap.get?_push_size _ rfl))
  rw [zO, zT] at gZ
  rw [zT] at gO
  show _ ∧ _
  rw [zO]
  exact ⟨⟨_, gZ, rfl⟩, h _ gZ gT gO zZ fun c o e => Heap.get?_push_of_some _ (Heap.get?_push_of_some _ (Heap.get?_push_of_some _ e))⟩
end
end DL
/-! DL19: a loop over zip(reversed(a list), reversed(a list)) -/
namespace DL
open PySem PySem.Spec PyProof.Rows L2
def ItzR (K : PySem.W.Frag) (a b : Addr) (n1 n2 : Nat) : It :=
  ⟨fun i H => i < n1 ∧ i < n2 ∧ ∃ (xs ys : List V) (x y : V), SqL K H a xs ∧ SqL K H b ys ∧ xs.length = n1 ∧ ys.length = n2 ∧ xs[n1 - 1 - i]? = some x ∧ ys[n2 - 1 - i]? = some y,
    fun i H v H' => ∃ T x y, v = .ref T ∧ H T = none ∧ H' = upd H T (.tup [x, y]) ∧ (∀ xs, SqL K H a xs → xs[n1 - 1 - i]? = some x) ∧ ∀ ys, SqL K H b ys → ys[n2 - 1 - i]? = some y,
    fun i H => ∃ xs ys : List V, SqL K H a xs ∧ SqL K H b ys ∧ xs.length = n1 ∧ ys.length = n2 ∧ i ≤ n1 ∧ i ≤ n2 ∧ (i = n1 ∨ i = n2)⟩
theorem turn_zipR {P : Program} {w : World} {K : PySem.W.Frag} {elts : List Expr} {kk : Nat} {tpos : Pos} {a b z TI TO i1 i2 : Addr} {n1 n2 : Nat} (D : ZipSep2 z TI TO i1 i2 [i1, a] [i2, b]) (ne1 : a ≠ i1) (ne2 : b ≠ i2) :
    Turn P w K (.Tuple elts kk tpos) (ItzR K a b n1 n2) [z, TI, TO, i1, i2] z (fun i h => IsZip h z TI TO .none ∧ IsTupOf2 h TI (.ref i1) (.ref i2) ∧ (∃ x y, IsTupOf2 h TO x y) ∧ (i ≤ n1 ∧ h.IsRevIter i1 a ((n1 : Int) - 1 - (i : Nat))) ∧ (i ≤ n2 ∧ h.IsRevIter i2 b ((n2 : Int) - 1 - (i : Nat)))) where
  mem := by simp
  obj := fun i h st c hc => by
    obtain ⟨hz, hTI, ⟨x, y, hTO⟩, ⟨_, o1, e1, _, d1⟩, ⟨_, o2, e2, _, d2⟩⟩ := st
    have e' : c = z ∨ c = TI ∨ c = TO ∨ c = i1 ∨ c = i2 := by simpa using hc
    rcases e' with q | q | q | q | q
    · rw [q]; exact ⟨_, hz, fun v q => nomatch q⟩
    · rw [q]; exact ⟨_, hTI, fun v q => nomatch q⟩
    · rw [q]; exact ⟨_, hTO, fun v q => nomatch q⟩
    · rw [q]; exact ⟨o1, e1, fun v q => by rw [d1] at q; cases q⟩
    · rw [q]; exact ⟨o2, e2, fun v q => by rw [d2] at q; cases q⟩
  keep := fun i h h' st k => by
    obtain ⟨hz, hTI, ⟨x, y, hTO⟩, h1, h2⟩ := st
    exact ⟨k z (by simp) _ hz, k TI (by simp) _ hTI, ⟨x, y, k TO (by simp) _ hTO⟩, ⟨h1.1, h1.2.at fun o q => k i1 (by simp) o q⟩, ⟨h2.1, h2.2.at fun o q => k i2 (by simp) o q⟩⟩
  item := by
    intro X hP hw hK hc i pins s σ H E I hf st hg
    subst hP hw hK
    obtain ⟨hz, hTI, ⟨x0, y0, hTO⟩, ⟨b1, h1⟩, ⟨b2, h2⟩⟩ := st
    obtain ⟨lt1, lt2, xs, ys, x, y, hqx, hqy, lx, ly, hx, hy⟩ := hg
    obtain ⟨its, rv, p, _⟩ := I.list hqx
    obtain ⟨its2, rv2, p2, _⟩ := I.list hqy
    obtain ⟨v1, hv1, r1⟩ := rv.get hx
    obtain ⟨v2, hv2, r2⟩ := rv2.get hy
    have z1 : its.toArray.size = n1 := by rw [List.size_toArray, ← rv.length, lx]
    have z2 : its2.toArray.size = n2 := by rw [List.size_toArray, ← rv2.length, ly]
    have hzl : z < s.heap.objs.size := Heap.lt_size hz
    have hd : X.A.in1.handled = none := I.ok.hd hc
    refine wpAny_pyNext_zipD2_item (i := i) D (draws_rev hd i1 a ne1 its.toArray) (draws_rev hd i2 b ne2 its2.toArray) hz hTI hTO ⟨by omega, by rw [z1]; exact h1, p.isList⟩ ⟨by omega, by rw [z2]; exact h2, p2.isList⟩ (by omega) (by omega) fun x1 x2 h' tk y1 y2 z' TO' st1 st2 hT hsz hk => ?_
    obtain rfl : x1 = v1 := by
      have y1' : its.toArray[its.toArray.size - 1 - i]? = some x1 := y1
      rw [z1, show its.toArray[n1 - 1 - i]? = some v1 by simpa using hv1] at y1'
      exact (Option.some.inj y1').symm
    obtain rfl : x2 = v2 := by
      have y2' : its2.toArray[its2.toArray.size - 1 - i]? = some x2 := y2
      rw [z2, show its2.toArray[n2 - 1 - i]? = some v2 by simpa using hv2] at y2'
      exact (Option.some.inj y2').symm
    rw [z1] at st1
    rw [z2] at st2
    refine ⟨_, rfl, wpAny_letOwnedTupleGo_zip (s := { s with heap := h', toks := tk }) z' fun h'' z'' sb => ?_⟩
    have hT2 : h''.get? s.heap.objs.size = some { cls := .type "tuple", data := .seq #[x1, x2] } := (sb.2 _ (Nat.ne_of_gt hzl)).trans hT
    have new : ObjOk X.prog X.w (upd H s.heap.objs.size (.tup [x, y])) h'' s.heap.objs.size (.tup [x, y]) :=
      ⟨by show 2 ≤ sizeLine; decide, [x1, x2], .cons r1 (.cons r2 .nil), ⟨_, hT2, rfl, _, rfl⟩⟩
    have I1 : Inv X pins σ (upd H s.heap.objs.size (.tup [x, y])) { s with heap := h'', toks := tk } :=
      I.turnedNew (t' := tk) (ch := [z, TI, TO, i1, i2]) (fun c o hb q => (sb.2 c (fun q' => hb (by simp [q']))).trans (hk c o (fun q' => hb (by simp [q'])) (fun q' => hb (by simp [q'])) (fun q' => hb (by simp [q'])) (fun q' => hb (by simp [q'])) q)) hf (Nat.le_refl _) new
    refine ⟨.ref s.heap.objs.size, _, I1, rfl, ⟨_, x, y, rfl, I.hok.fresh (Nat.le_refl _), rfl, fun l hl => by rw [I.list_inj hl hqx]; exact hx, fun l hl => by rw [I.list_inj hl hqy]; exact hy⟩, ⟨z'', ?_, ⟨x1, x2, ?_⟩, ⟨st1.1, ?_⟩, ⟨st2.1, ?_⟩⟩, fun c hcm => ?_⟩
    · exact (sb.2 _ D.TIz).trans (hk _ _ D.TIz D.TITO D.TIi1 D.TIi2 hTI)
    · exact (sb.2 _ D.TOz).trans TO'
    · exact st1.2.1.at fun o q => (sb.2 _ (Ne.symm D.zi1)).trans q
    · exact st2.2.1.at fun o q => (sb.2 _ (Ne.symm D.zi2)).trans q
    · have hlt : c < s.heap.objs.size := by
        have e' : c = z ∨ c = TI ∨ c = TO ∨ c = i1 ∨ c = i2 := by simpa using hcm
        rcases e' with q | q | q | q | q
        · rw [q]; exact hzl
        · rw [q]; exact Heap.lt_size hTI
        · rw [q]; exact Heap.lt_size hTO
        · rw [q]; obtain ⟨_, e1, _⟩ := h1; exact Heap.lt_size e1
        · rw [q]; obtain ⟨_, e2, _⟩ := h2; exact Heap.lt_size e2
      rw [upd_ne (Nat.ne_of_lt hlt)]
      exact (hf c hcm).1
  done := by
    intro X hP hw hK hc i pins s σ H E I hf st hg
    subst hP hw hK
    obtain ⟨hz, hTI, ⟨x0, y0, hTO⟩, ⟨b1, h1⟩, ⟨b2, h2⟩⟩ := st
    obtain ⟨xs, ys, hqx, hqy, lx, ly, le1, le2, hend⟩ := hg
    obtain ⟨its, rv, p, _⟩ := I.list hqx
    obtain ⟨its2, rv2, p2, _⟩ := I.list hqy
    have z1 : its.toArray.size = n1 := by rw [List.size_toArray, ← rv.length, lx]
    have z2 : its2.toArray.size = n2 := by rw [List.size_toArray, ← rv2.length, ly]
    have hd : X.A.in1.handled = none := I.ok.hd hc
    exact wpAny_pyNext_zipD2_end (i := i) D (draws_rev hd i1 a ne1 its.toArray) (draws_rev hd i2 b ne2 its2.toArray) hz hTI hTO ⟨by omega, by rw [z1]; exact h1, p.isList⟩ ⟨by omega, by rw [z2]; exact h2, p2.isList⟩ (by omega) (by omega) (by omega) fun h' tk hk => ⟨rfl, I.turnedL (t' := tk) (ch := [z, TI, TO, i1, i2]) (fun c o hb q =>
      hk c o (fun q' => hb (by simp [q'])) (fun q' => hb (by simp [q'])) (fun q' => hb (by simp [q'])) (fun q' => hb (by simp [q'])) q) hf⟩
  self := fun A i s Q E st h => wpAny_pyIter_zip st.1 h
theorem sepR {a b i1 i2 : Nat} (h1 : a < i1) (h2 : b < i2) (h3 : i1 < i2) (h4 : b ≠ i1) : ZipSep2 (i2 + 1 + 2) (i2 + 1) (i2 + 1 + 1) i1 i2 [i1, a] [i2, b] := by
  have h5 : ¬ b = i1 := h4
  constructor <;> (simp only [List.mem_cons, List.not_mem_nil, or_false, not_or, ne_eq, true_or]) <;> (first | exact nA (by omega) | exact ⟨nA (by omega), nA (by omega)⟩)
def iZipR (K : PySem.W.Frag) (t1 t2 : TE) : TI := fun σ H R => t1 σ H fun v1 H1 => ∃ a xs, v1 = .ref a ∧ SqL K H1 a xs ∧ t2 σ H1 fun v2 H2 => ∃ b ys, v2 = .ref b ∧ SqL K H2 a xs ∧ SqL K H2 b ys ∧ R (ItzR K a b xs.length ys.length) H2
theorem pi_zipR {X : Cx} {e1 e2 : Expr} {t1 t2 : TE} {p p1 p2 pos q1 q2 tpos : Pos} {elts : List Expr} {kk : Nat} (hg : Gl X "zip") (hm : X.mg "zip" = none) (hg2 : Gl X "reversed") (hm2 : X.mg "reversed" = none) (h1 : PE X e1 t1) (h2 : PE X e2 t2)
    (hs1 : starEach [e1] X.env = (false, eval e1 X.env) :: starEach [] X.env := by rfl) (hs2 : starEach [e2] X.env = (false, eval e2 X.env) :: starEach [] X.env := by rfl)
    (hs : starEach [.Call (.Name "reversed" p1) [e1] [] q1, .Call (.Name "reversed" p2) [e2] [] q2] X.env = (false, eval (.Call (.Name "reversed" p1) [e1] [] q1) X.env) :: starEach [.Call (.Name "reversed" p2) [e2] [] q2] X.env := by rfl)
    (hs3 : starEach [.Call (.Name "reversed" p2) [e2] [] q2] X.env = (false, eval (.Call (.Name "reversed" p2) [e2] [] q2) X.env) :: starEach [] X.env := by rfl)
    (hpl : (backTo pos (starEach [.Call (.Name "reversed" p2) [e2] [] q2] X.env)).any (·.1) = false := by rfl) :
    PI X (.Tuple elts kk tpos) (.Call (.Name "zip" p) [.Call (.Name "reversed" p1) [e1] [] q1, .Call (.Name "reversed" p2) [e2] [] q2] [] pos) (iZipR X.K t1 t2) := by
  refine ⟨fun pins s σ H R I h => ?_⟩
  refine Call_ (ld_blt I hg hm PyProof.Rows.boot_zip (PyProof.Rows.callWith_type1 (args_cons (Call_ (ld_blt I hg2 hm2 PyProof.Rows.boot_reversed (PyProof.Rows.callWith_type1 (args_cons (thn (h1.run pins s σ H _ I h) fun u s1 ⟨v, H1, I1, r1, q1⟩ => args_nil ?_) hs1) hs1 rfl))) hs) hs hpl))
  obtain ⟨a, xs, ev, hq, q⟩ := q1
  subst ev
  obtain rfl : u = Value.ref a := r1
  obtain ⟨its, rv, p', _⟩ := I1.list hq
  refine call_reversed_list p'.isList ?_
  have k1 : ∀ c o, s1.heap.get? c = some o → (s1.heap.push (revObj a ((its.toArray.size : Int) - 1))).get? c = some o := fun c o e => Heap.get?_push_of_some _ e
  have g1 : (s1.heap.push (revObj a ((its.toArray.size : Int) - 1))).get? s1.heap.objs.size = some (revObj a ((its.toArray.size : Int) - 1)) := Heap.get?_push_size _ rfl
  have J1 : Inv X pins σ H1 { s1 with heap := s1.heap.push (revObj a ((its.toArray.size : Int) - 1)) } := I1.kept (t' := s1.toks) k1
  have f1 := I1.fpOk (H' := H1) (b := s1.heap.objs.size) (Nat.le_refl _) (I1.hok.fresh (Nat.le_refl _))
  have J2 : Inv X ((s1.heap.objs.size, revObj a ((its.toArray.size : Int) - 1)) :: pins) σ H1 { s1 with heap := s1.heap.push (revObj a ((its.toArray.size : Int) - 1)) } := J1.pins_of fun r hr => by
    rcases List.mem_cons.mp hr with e | hr
    · subst e
      exact ⟨g1, f1.1, f1.2.1, f1.2.2.1, fun v z => nomatch z⟩
    · exact J1.pin r (List.mem_append_right _ hr)
  refine args_cons (Call_ (ld_blt J2 hg2 hm2 PyProof.Rows.boot_reversed (PyProof.Rows.callWith_type1 (args_cons (thn (h2.run _ _ σ H1 _ J2 q) fun u2 s2 ⟨v2, H2, I3, r2, q2⟩ => args_nil ?_) hs2) hs2 rfl))) hs3
  obtain ⟨b, ys, ev, hqa, hqb, q⟩ := q2
  subst ev
  obtain rfl : u2 = Value.ref b := r2
  have gi1 : s2.heap.get? s1.heap.objs.size = some (revObj a ((its.toArray.size : Int) - 1)) := ClX.pin_at I3
  have nH2 : H2 s1.heap.objs.size = none := ClX.pin_un I3
  have I4 : Inv X pins σ H2 s2 := ClX.unpin I3
  obtain ⟨itsa, rva, pa, _⟩ := I4.list hqa
  obtain ⟨itsb, rvb, pb, _⟩ := I4.list hqb
  refine call_reversed_list pb.isList (args_nil ?_)
  have k2 : ∀ c o, s2.heap.get? c = some o → (s2.heap.push (revObj b ((itsb.toArray.size : Int) - 1))).get? c = some o := fun c o e => Heap.get?_push_of_some _ e
  have g2 : (s2.heap.push (revObj b ((itsb.toArray.size : Int) - 1))).get? s2.heap.objs.size = some (revObj b ((itsb.toArray.size : Int) - 1)) := Heap.get?_push_size _ rfl
  have I5 : Inv X pins σ H2 { s2 with heap := s2.heap.push (revObj b ((itsb.toArray.size : Int) - 1)) } := I4.kept (t' := s2.toks) k2
  have hsz : (s2.heap.push (revObj b ((itsb.toArray.size : Int) - 1))).objs.size = s2.heap.objs.size + 1 := Heap.size_push ..
  have sA : its.length = itsa.length := by
    rw [← rv.length, ← rva.length]
  have i12 : s1.heap.objs.size < s2.heap.objs.size := Heap.lt_size gi1
  have la : a < s1.heap.objs.size := p'.lt
  have lb : b < s2.heap.objs.size := pb.lt
  have nb : b ≠ s1.heap.objs.size := fun z => by
    obtain ⟨o, ho, hc, _⟩ := pb.isList
    rw [z, gi1] at ho
    cases ho
    injection hc with hc
    exact absurd hc (by decide)
  refine zip_self2 (s := { s2 with heap := s2.heap.push (revObj b ((itsb.toArray.size : Int) - 1)) }) (i1 := s1.heap.objs.size) (i2 := s2.heap.objs.size) ⟨_, k2 _ _ gi1, rfl, rfl⟩ ⟨_, g2, rfl, rfl⟩ fun h' hz hTI hTO hs hk => wpAny_pyIter_zip hz ?_
  rw [hsz] at hz hTI hTO ⊢
  have I6 : Inv X pins σ H2 { s2 with heap := h' } := I5.kept (t' := s2.toks) hk
  have ea : ((its.toArray.size : Nat) : Int) - 1 = ((xs.length : Nat) : Int) - 1 - ((0 : Nat) : Int) := by rw [List.size_toArray, ← rv.length]; omega
  have eb : ((itsb.toArray.size : Nat) : Int) - 1 = ((ys.length : Nat) : Int) - 1 - ((0 : Nat) : Int) := by rw [List.size_toArray, ← rvb.length]; omega
  refine ⟨s2.heap.objs.size + 1 + 2, [s2.heap.objs.size + 1 + 2, s2.heap.objs.size + 1, s2.heap.objs.size + 1 + 1, s1.heap.objs.size, s2.heap.objs.size], _, _, H2, rfl, I6, turn_zipR (sepR la lb i12 nb) (Nat.ne_of_lt la) (Nat.ne_of_lt lb), ⟨hz, hTI, ⟨_, _, hTO⟩, ⟨Nat.zero_le _, ?_⟩, ⟨Nat.zero_le _, ?_⟩⟩, fun c hcm => ?_, q⟩
  · rw [← ea]; exact ⟨_, hk _ _ (k2 _ _ gi1), rfl, rfl⟩
  · rw [← eb]; exact ⟨_, hk _ _ g2, rfl, rfl⟩
  · have e' : c = s2.heap.objs.size + 1 + 2 ∨ c = s2.heap.objs.size + 1 ∨ c = s2.heap.objs.size + 1 + 1 ∨ c = s1.heap.objs.size ∨ c = s2.heap.objs.size := by simpa using hcm
    have big : s2.heap.objs.size ≤ c → FpOk X pins H2 c := fun hle => I4.fpOk hle (I4.hok.fresh hle)
    rcases e' with e | e | e | e | e
    · exact big (by rw [e]; exact Nat.le_add_right _ 3)
    · exact big (by rw [e]; exact Nat.le_add_right _ 1)
    · exact big (by rw [e]; exact Nat.le_add_right _ 2)
    · rw [e]; exact I1.fpOk (Nat.le_refl _) nH2
    · exact big (by rw [e]; exact Nat.le_refl _)
/-! ### over data -/
def dZipR (d1 d2 : DE) : DI := fun env S Kp => d1 env S fun x S1 => match x with
  | .fz (.lst as) => d2 env S1 fun y S2 => match y with
    | .fz (.lst bs) => Kp ((as.reverse.zip bs.reverse).map fun p => .fz (.tup [p.1, p.2])) S2
    | _ => False
  | _ => False
section
variable {K : PySem.W.Frag} {F : Fx} {B : Hp} {m : List Addr}
theorem rev_at {α : Type} {l : List α} {i : Nat} {x : α} (h : l.reverse[i]? = some x) : i < l.length ∧ l[l.length - 1 - i]? = some x := by
  have hlt : i < l.length := by
    have := (List.getElem?_eq_some_iff.mp h).1
    rwa [List.length_reverse] at this
  rw [List.getElem?_reverse hlt] at h
  exact ⟨hlt, h⟩
theorem dit_zipR {a b : Addr} {as bs : List D} {vs us : List V} (ha : B a = some (.lst vs)) (ra : RpL K B as vs) (hb : B b = some (.lst us)) (rb : RpL K B bs us) : DIt K F (ItzR K a b vs.length us.length) ((as.reverse.zip bs.reverse).map fun p => .fz (.tup [p.1, p.2])) B m := by
  have la := ra.length
  have lb := rb.length
  refine ⟨fun B1 m1 S1 H1 c sb pr => ⟨vs, us, .of (c.sub _ _ (sb _ _ ha)), .of (c.sub _ _ (sb _ _ hb)), rfl, rfl, ?_⟩, fun B1 m1 S1 H1 c sb pr i w e => ?_⟩
  · rw [List.length_map, List.length_zip, List.length_reverse, List.length_reverse]
    omega
  · rw [List.getElem?_map] at e
    cases q : (as.reverse.zip bs.reverse)[i]? with
    | none => rw [q] at e; cases e
    | some p =>
      rw [q] at e
      cases e
      obtain ⟨q1, q2⟩ := zip_at q
      obtain ⟨b1, q1⟩ := rev_at q1
      obtain ⟨b2, q2⟩ := rev_at q2
      rw [la] at q1 b1
      rw [lb] at q2 b2
      obtain ⟨v1, e1, r1⟩ := ra.get q1
      obtain ⟨v2, e2, r2⟩ := rb.get q2
      have h1 : SqL K H1 a vs := .of (c.sub _ _ (sb _ _ ha))
      have h2 : SqL K H1 b us := .of (c.sub _ _ (sb _ _ hb))
      refine ⟨⟨b1, b2, vs, us, v1, v2, h1, h2, rfl, rfl, e1, e2⟩, fun x H' ⟨T, y1, y2, ex, hT, eH, f1, f2⟩ => ?_⟩
      subst ex; subst eH
      have g1 := f1 vs h1
      rw [e1] at g1
      cases g1
      have g2 := f2 us h2
      rw [e2] at g2
      cases g2
      have n := c.alloc (o := .tup [v1, v2]) hT
      exact ⟨_, n, .fz (.tup (.of upd_same) (.cons ((r1.mono sb).mono n.sb) (.cons ((r2.mono sb).mono n.sb) .nil)))⟩
end
section
variable {X : Cx} {Ξ : Xt} {e1 e2 : Expr} {d1 d2 : DE} {p p1 p2 pos q1 q2 tpos : Pos} {elts : List Expr} {kk : Nat}
theorem i_zipR (bi : Bi X.mg) (h1 : DPE X Ξ e1 d1) (h2 : DPE X Ξ e2 d2) (hg : Gl X "zip" := by rfl) (hg2 : Gl X "reversed" := by rfl)
    (hs1 : starEach [e1] X.env = (false, eval e1 X.env) :: starEach [] X.env := by rfl) (hs2 : starEach [e2] X.env = (false, eval e2 X.env) :: starEach [] X.env := by rfl)
    (hs : starEach [.Call (.Name "reversed" p1) [e1] [] q1, .Call (.Name "reversed" p2) [e2] [] q2] X.env = (false, eval (.Call (.Name "reversed" p1) [e1] [] q1) X.env) :: starEach [.Call (.Name "reversed" p2) [e2] [] q2] X.env := by rfl)
    (hs3 : starEach [.Call (.Name "reversed" p2) [e2] [] q2] X.env = (false, eval (.Call (.Name "reversed" p2) [e2] [] q2) X.env) :: starEach [] X.env := by rfl)
    (hpl : (backTo pos (starEach [.Call (.Name "reversed" p2) [e2] [] q2] X.env)).any (·.1) = false := by rfl) :
    DPI X Ξ (.Tuple elts kk tpos) (.Call (.Name "zip" p) [.Call (.Name "reversed" p1) [e1] [] q1, .Call (.Name "reversed" p2) [e2] [] q2] [] pos) (dZipR d1 d2) := ⟨fun F ok => PI.imp (pi_zipR hg bi.zip hg2 bi.rev (h1.run F ok) (h2.run F ok) hs1 hs2 hs hs3 hpl) fun σ H R ⟨B, m, S, env, Kp, cf, er, h, k⟩ => by
  refine ⟨B, m, S, env, _, cf, er, h, fun x S1 h0 v H1 B1 m1 n1 r1 => ?_⟩
  split at h0
  rotate_left
  · exact h0.elim
  cases r1 with | fz r1 => cases r1 with | lst s1 t1 =>
    refine ⟨_, _, rfl, .of (n1.cf.sub _ _ s1), B1, m1, S1, env, _, n1.cf, er.nx n1, h0, fun y S2 h2 u H2 B2 m2 n2 r2 => ?_⟩
    split at h2
    rotate_left
    · exact h2.elim
    cases r2 with | fz r2 => cases r2 with | lst s2 t2 =>
      exact ⟨_, _, rfl, .of (n2.cf.sub _ _ (n2.sb _ _ s1)), .of (n2.cf.sub _ _ s2), k _ _ h2 _ _ _ _ (n1.trans n2) (dit_zipR (n2.sb _ _ s1) (t1.mono n2.sb) s2 t2)⟩⟩
end
end DL
/-! DC1: classes of records: made once, then read -/
namespace DL
open PySem PySem.Spec PyProof.Rows L2

/-- what an __init__ that writes its parameters does -/
def spInit (C : Addr) (names : List Str) : Sp := fun vs H Q _ => ∃ (a dx : Addr) (vals : List V), vs = .ref a :: vals ∧ vals.length = names.length ∧ H a = some (.ins C dx []) ∧ Q .non (upd H a (.ins C dx (names.zip vals)))
/-- the class as the top has written it -/
structure MIn (K : PySem.W.Frag) (x qual : Str) (st : Stmt) (names : List Str) : Prop where
  ex : ∃ (C f : Addr) (od an : Option Addr) (sl : Array (Option Value)) (oc kV dc pm cd ct : Value), PySem.W.nsIn K mainGlobals x = some (some (.ref C)) ∧ Mk K C f ∧
    K.lookup f = some ⟨oc, od, .func (PySem.W.fnOf "__init__" qual (C8.fnArgs st) (C8.fnBody st) (C8.fnScope st) .none kV dc pm an cd ct), sl⟩ ∧ PySem.W.codeIn K cd qual = true ∧ Cls K C ∧ ∀ n ∈ names, NoAttr K C n
theorem minI {K : PySem.W.Frag} {x qual : Str} {st : Stmt} {names : List Str} {C f : Addr} {od an : Option Addr} {sl : Array (Option Value)} {oc kV dc pm cd ct : Value} (a : PySem.W.nsIn K mainGlobals x = some (some (.ref C)))
    (b : PySem.W.makesIn K C = true) (c : PySem.W.findIn K (.ref C) "__init__" = some (some (.ref f))) (d : PySem.W.isFn K (.ref f) = true) (e : PySem.W.keepIn K (.ref C) = true)
    (l : K.lookup f = some ⟨oc, od, .func (PySem.W.fnOf "__init__" qual (C8.fnArgs st) (C8.fnBody st) (C8.fnScope st) .none kV dc pm an cd ct), sl⟩) (k : PySem.W.codeIn K cd qual = true)
    (g1 : PySem.W.plainGet K C Str.empty = true) (g2 : PySem.W.hasDictIn K C = true) (g3 : PySem.W.plainOver K C = true) (g4 : PySem.W.findIn K (.ref C) "__setattr__" = some (some (.builtin "object.__setattr__"))) (na : ∀ n ∈ names, NoAttr K C n) : MIn K x qual st names :=
  ⟨C, f, od, an, sl, oc, kV, dc, pm, cd, ct, a, ⟨b, c, d, e⟩, l, k, ⟨g1, g2, g3, g4⟩, na⟩
theorem na_nil {K : PySem.W.Frag} {C : Addr} : ∀ n ∈ ([] : List Str), NoAttr K C n := fun _ h => by cases h
theorem na_cons {K : PySem.W.Frag} {C : Addr} {x : Str} {l : List Str} (h : PySem.W.findIn K (.ref C) x = some none) (t : ∀ n ∈ l, NoAttr K C n) : ∀ n ∈ (x :: l : List Str), NoAttr K C n := fun n hn => by
  rcases List.mem_cons.mp hn with rfl | hn
  · exact h
  · exact t n hn
structure MDf (K : PySem.W.Frag) (mg : Str → Option Value) (x qual : Str) (st : Stmt) (names : List Str) (C : Addr) : Prop where
  ex : ∃ (f : Addr) (fd : FuncData), Mk K C f ∧ C8.Fun K "__init__" qual st f fd ∧ fd.defaults = .none
  mgC : mg x = some (.ref C)
  cls : Cls K C
  na : ∀ n ∈ names, NoAttr K C n
theorem MIn.df {K : PySem.W.Frag} {x qual : Str} {st : Stmt} {names : List Str} {h : Heap} {mg : Str → Option Value} (D : MIn K x qual st names) (X : K.In h) (G : h.Ns mainGlobals mg) : ∃ C, MDf K mg x qual st names C := by
  obtain ⟨C, f, od, an, sl, oc, kV, dc, pm, cd, ct, a, M, l, k, c, na⟩ := D.ex
  exact ⟨C, ⟨f, _, M, ⟨oc, od, .none, kV, dc, pm, an, cd, ct, sl, rfl, l, k⟩, rfl⟩, PySem.W.mg_of X G a, c, na⟩
/-- a record class that may be made, and its fields read -/
structure RecC (P : Program) (w : World) (K : PySem.W.Frag) (mg : Str → Option Value) (base : Heap) (x : Str) (names : List Str) (C : Addr) : Prop where
  mak : C8.Mak P w K mg base 1 x C (spInit C names) []
  cls : Cls K C
  na : ∀ n ∈ names, NoAttr K C n
/-! ### the readings -/
def dMake (C : Addr) (names : List Str) (da : DA) : DE := fun env S Kp => da env S fun ws S1 => ws.length = names.length ∧ onO (fzL ws) fun ds => Kp (.fz (.obj C (names.zip ds))) S1
def dFldC (C : Addr) (f : Str) (de : DE) : DE := fun env S Kp => de env S fun x S1 => match x with
  | .fz (.obj C' fs) => C' = C ∧ onO (fs.lookup f) fun d => Kp (.fz d) S1
  | _ => False
section
variable {K : PySem.W.Frag} {F : Fx} {B : Hp} {m : List Addr} {S : Sto} {H : Hp}
theorem Cf.fresh (c : Cf K F B m S H) {p : Addr} (h : H p = none) : B p = none ∧ (∀ i : Nat, m[i]? ≠ some p) ∧ ¬ F.T p ∧ F.H p = none := by
  refine ⟨?_, fun i z => ?_, fun tq => tab_ne (c.tab p tq).1 h rfl, c.dom p h⟩
  · cases q : B p with
    | none => rfl
    | some o => have := c.sub _ _ q; rw [h] at this; cases this
  · have hi := (List.getElem?_eq_some_iff.mp z).1
    rw [c.len] at hi
    obtain ⟨o, q1, _⟩ := c.own i p _ z (List.getElem?_eq_getElem hi)
    rw [h] at q1
    cases q1
theorem rpf_zip {names : List Str} : ∀ {ns : List Str} {ds : List D} {vs : List V}, RpL K B ds vs → RpF K B (ns.zip ds) (ns.zip vs)
  | [], _, _, _ => .nil
  | _ :: _, _, _, .nil => .nil
  | _ :: _, _, _, .cons r t => .cons r (rpf_zip (names := names) t)
theorem rpf_look {f : Str} : ∀ {ds : List (Str × D)} {vs : List (Str × V)} {d : D}, RpF K B ds vs → ds.lookup f = some d → ∃ v, vs.lookup f = some v ∧ Rp K B d v
  | (g, d0) :: ds, (_, v0) :: vs, d, .cons r t, h => by
    rw [List.lookup_cons] at h ⊢
    by_cases e : f = g
    · subst e
      rw [beq_self_eq_true] at h ⊢
      cases h
      exact ⟨_, rfl, r⟩
    · have e' : (f == g) = false := by simpa using e
      rw [e'] at h ⊢
      exact rpf_look t h
end
section
variable {X : Cx} {Ξ : Xt} {C : Addr} {names : List Str} {j : Nat} {x f : Str} {e : Expr} {es : List Expr} {da : DA} {de : DE} {p pos : Pos}
theorem e_make (R : RecC X.prog X.w X.K X.mg X.base x names C) (hr : Room j X.A) (hk : 2 ≤ j) (hg : Gl X x) (ha : DPA X Ξ (e :: es) da)
    (hdb : (x == ("__debug__" : Str)) = false := by decide) (he : starEach (e :: es) X.env = (false, eval e X.env) :: starEach es X.env := by rfl) (hpl : (backTo pos (starEach es X.env)).any (·.1) = false := by rfl) :
    DPE X Ξ (.Call (.Name x p) (e :: es) [] pos) (dMake C names da) := ⟨fun F ok => PE.imp (C8.pe_mk R.mak hr hk hg (ha.run F ok) hdb he hpl) fun σ H Q ⟨B, m, S, env, Kp, cf, er, h, k⟩ => by
  refine ⟨B, m, S, env, _, cf, er, h, fun ws S1 h0 vs H1 B1 m1 n1 r => fun a dx ha hdx ne => ?_⟩
  obtain ⟨hl, h0⟩ := h0
  obtain ⟨ds, e1, h1⟩ := onO_ex h0
  rw [fzL_eq e1] at r hl
  rw [List.length_map] at hl
  refine ⟨a, dx, vs, by rw [List.append_nil], ?_, upd_same, rfl, ?_⟩
  · rw [← r.fz.length, hl]
  rw [upd_upd]
  obtain ⟨fb, fm, ft, fh⟩ := n1.cf.fresh hdx
  have n2 := Nx.side (o := .own a) n1.cf.nx fh ft hdx fb fm
  have n3 := n2.cf.alloc (p := a) (o := .ins C dx (names.zip vs)) (by rw [upd_ne (fun z => ne z.symm)]; exact ha)
  exact k _ _ h1 _ _ _ _ ((n1.trans n2).trans n3) (.fz (.obj upd_same (rpf_zip (names := names) (r.fz.mono n3.sb))))⟩
theorem e_fldC (R : RecC X.prog X.w X.K X.mg X.base x names C) (hf : f ∈ names) (he : DPE X Ξ e de) (hb : attributeBase e f X.env (eval e X.env) = eval e X.env := by rfl) : DPE X Ξ (.Attribute e f pos) (dFldC C f de) := ⟨fun F ok => PE.imp (pe_fld (he.run F ok) hb) fun σ H Q ⟨B, m, S, env, Kp, cf, er, h, k⟩ => by
  refine ⟨B, m, S, env, _, cf, er, h, fun w S1 h0 v H1 B1 m1 n1 r => ?_⟩
  split at h0
  rotate_left
  · exact h0.elim
  obtain ⟨ec, h0⟩ := h0
  subst ec
  obtain ⟨d, e1, h1⟩ := onO_ex h0
  cases r with | fz r => cases r with | obj hB rf =>
    obtain ⟨u, lu, ru⟩ := rpf_look rf e1
    exact ⟨_, _, _, _, u, rfl, n1.cf.sub _ _ hB, R.cls, R.na f hf, lu, k _ _ h1 _ _ _ _ n1 (.fz ru)⟩⟩
end
theorem pv {X : Cx} (i : Nat) {x : Str} {pos : Pos} (hN : X.N[i]? = some x := by rfl) (hv : Vis X.env.scope x := by first | exact Or.inl rfl | exact Or.inr (Or.inl rfl) | exact Or.inr (Or.inr rfl)) (hd : (x == ("__debug__" : Str)) = false := by decide)
    (hcd : (x == ("__classdict__" : Str)) = false := by decide) : PE X (.Name x pos) (tVar i) := pe_var hN hv hd hcd
end DL
/-! DC2: tuple * number; < of alike data -/
namespace DL
open PySem PySem.Spec PyProof.Rows L2
theorem rpl_app {K : PySem.W.Frag} {B : Hp} : ∀ {as : List D} {vs : List V} {bs : List D} {us : List V}, RpL K B as vs → RpL K B bs us → RpL K B (as ++ bs) (vs ++ us)
  | _, _, _, _, .nil, q => q
  | _, _, _, _, .cons r t, q => .cons r (rpl_app t q)
theorem rpl_rep {K : PySem.W.Frag} {B : Hp} {as : List D} {vs : List V} (r : RpL K B as vs) : ∀ n : Nat, RpL K B (List.replicate n as).flatten (List.replicate n vs).flatten
  | 0 => .nil
  | n + 1 => by
    rw [List.replicate_succ, List.replicate_succ, List.flatten_cons, List.flatten_cons]
    exact rpl_app r (rpl_rep r n)
def repW : DR2 := fun x y S Kp => match x, y with
  | .fz (.tup ds), .fz (.int k) => (ds.isEmpty = false ∧ 2 ≤ k ∧ k ≤ 1000 ∧ ds.length ≤ 1000) ∧ Kp (.fz (.tup (List.replicate k.toNat ds).flatten)) S
  | _, _ => False
def rLtD (K : PySem.W.Frag) : R2 := fun x y H Q => ∃ d e, Dp K H x d ∧ Dp K H y e ∧ PySem.W.alike d e = true ∧ d ≠ .none ∧ d.depth ≤ 60 ∧ Q (.bl (PySem.W.dataLt d e)) H
def notNon : D → Bool
  | .non => false
  | .obj _ _ => false
  | .scr _ => false
  | .ty _ => false
  | _ => true
theorem notNon_ne : ∀ {a : D}, notNon a = true → toPy a ≠ PyData.none
  | .bl _, _, z => by rw [toPy] at z; cases z
  | .int _, _, z => by rw [toPy] at z; cases z
  | .str _, _, z => by rw [toPy] at z; cases z
  | .tup _, _, z => by rw [toPy] at z; cases z
  | .lst _, _, z => by rw [toPy] at z; cases z
  | .non, h, _ => by cases h
  | .obj _ _, h, _ => by cases h
  | .scr _, h, _ => by cases h
  | .ty _, h, _ => by cases h
def ltDW : DR2 := fun x y S Kp => onO (dW S x) fun a => onO (dW S y) fun b => (okD 60 a = true ∧ okD 60 b = true ∧ PySem.W.alike (toPy a) (toPy b) = true ∧ notNon a = true) ∧ Kp (.fz (.bl (PySem.W.dataLt (toPy a) (toPy b)))) S
section
variable {X : Cx} {Ξ : Xt} {a b : Expr} {da db : DE} {pos : Pos}
theorem od_rep : OpD X (binaryOp .Mult) repW := fun F => OpR.imp op_repT fun x y H Q ⟨B, m, S, wx, wy, Kp, cf, rx, ry, h, k⟩ => by
  unfold repW at h
  split at h
  rotate_left
  · exact h.elim
  rename_i ds i
  obtain ⟨⟨h0, h1, h2, h3⟩, h⟩ := h
  cases rx with | fz rx => cases rx with | @tup _ vs0 _ s t =>
    have e := ry.int_of
    subst e
    refine ⟨_, _, _, rfl, rfl, cf.sub.seqT s, fun z => ?_, h1, h2, by rw [← t.length]; exact h3, fun p hp => ?_⟩
    · rw [z] at t
      cases t
      cases h0
    · have n := cf.alloc (o := .tup (List.replicate i.toNat vs0).flatten) hp
      exact k _ _ h _ _ _ _ n (.fz (.tup (.of upd_same) (rpl_rep (t.mono n.sb) _)))
theorem e_rep (ha : DPE X Ξ a da) (hb : DPE X Ξ b db) : DPE X Ξ (.BinOp a .Mult b pos) (dOp repW da db) := dpe_op od_rep ha hb
theorem op_ltD (hu : X.A.units + 64 < cLine) : OpR X (compareOp .Lt) (rLtD X.K) := by
  intro pins s σ H x y v u Q I rx ry h
  obtain ⟨d, e, hd, he, hal, hne, hdp, q⟩ := h
  obtain ⟨as, r1⟩ := Dp.reads I d x v hd rx
  obtain ⟨bs, r2⟩ := Dp.reads I e y u he ry
  exact PySem.W.rcLt_alike d e X.A s v u as bs r1 r2 hal hne (by have := Nat.min_le_left d.depth e.depth; omega) X.prog X.w _ _ ⟨.bl _, H, I, rfl, q⟩
theorem od_ltD (hu : X.A.units + 64 < cLine) : OpD X (compareOp .Lt) ltDW := fun F => OpR.imp (op_ltD hu) fun x y H Q ⟨B, m, S, wx, wy, Kp, cf, rx, ry, h0, k⟩ => by
  obtain ⟨a, h1, h0⟩ := onO_ex h0
  obtain ⟨b, h2, ⟨h3, h4, h5, h6⟩, h⟩ := onO_ex h0
  exact ⟨toPy a, toPy b, (dW_ok cf rx h1).dp _ h3, (dW_ok cf ry h2).dp _ h4, h5, notNon_ne h6, (okD_lay _ 60 h3).2, k.here cf h (.fz .bl)⟩
theorem e_ltD {k : Nat} (hr : Room k X.A) (ha : DPE X Ξ a da) (hb : DPE X Ξ b db) : DPE X Ξ (.Compare a [.Lt] [b] pos) (dOp ltDW da db) := dpe_cmp (od_ltD hr.units) ha hb (nomark _)
theorem c_ltD {k : Nat} (hr : Room k X.A) (ha : DPE X Ξ a da) (hb : DPE X Ξ b db) : DPT X Ξ (.Compare a [.Lt] [b] pos) (dTst (dOp ltDW da db)) := dpt_cmp (od_ltD hr.units) ha hb (nomark _)
end
end DL
set_option maxHeartbeats 2000000
/-! DG3: sum(e for t in it): the machine's side -/
namespace GX
open PySem PySem.Spec PyProof.Rows L2

/-! ### sum, by its turns -/
abbrev sumO (z : Int) (t : Tok) (c : Nat) : Obj := { cls := .type "list", dict := none, data := .seq #[.int z t] c, slots := #[] }
/-- S holds the sum so far -/
def SumAt (S : Addr) (z : Int) (h : Heap) : Prop := ∃ t c, h.get? S = some (sumO z t c)
theorem SumAt.uniq {S : Addr} {z y : Int} {h : Heap} (a : SumAt S z h) (b : SumAt S y h) : z = y := by
  obtain ⟨t, c, e⟩ := a
  obtain ⟨t', c', e'⟩ := b
  rw [e] at e'
  have := Option.some.inj e'
  injection this with _ _ h1
  injection h1 with h2
  have h3 := congrArg (fun a : Array Value => a[0]?) h2
  have h4 : some (Value.int z t) = some (Value.int y t') := h3
  injection h4 with h5
  injection h5
/-- while the generator sleeps only S is written -/
structure SlS (S : Addr) (z : Int) (s s' : Shared) : Prop where
  os : s'.os = s.os
  bare : AllBare s'.gens
  keep : ∀ b o, b ≠ S → s.heap.get? b = some o → s'.heap.get? b = some o
  sum : SumAt S z s'.heap
section
variable {prog : Program} {w : World} {A : Around}
theorem sum_turns {R : Result → Shared → Prop} {a S : Addr} (J : Nat → Int → Shared → Prop)
    (turn : ∀ n z s, J n z s → SumAt S z s.heap → wpAny (model prog w) A.in1 (pyNext (.ref a)) (fun r s' => match r with
      | none => ∀ t, R (.ok (.ret (.int z t))) s'
      | some v => ∃ b tb, v = .int b tb ∧ SumAt S z s'.heap ∧ ∀ s'', s''.os = s'.os → s''.gens = s'.gens → (∀ b o, b ≠ S → s'.heap.get? b = some o → s''.heap.get? b = some o) → SumAt S (z + b) s''.heap → ∃ m, m < n ∧ J m (z + b) s'') (fun _ _ => False) s) :
    ∀ n z s (tA : Tok) (c : Nat) (st : Int), (st = 0 ∨ st = 2) → J n z s → s.heap.get? S = some (sumO z tA c) → codeAny (model prog w) A (.builtin "sum.loop" ⟨[.ref a, .ref S, rawInt st, rawInt 0], []⟩) R s := by
  intro n
  induction n using Nat.strongRecOn with
  | ind n ih =>
    intro z s tA c st hst2 hJ hS
    refine codeAny_builtin F.entry_sum_loop ?_
    rw [Around.under_plainId F.plain_sum_loop _]
    show wpAny _ A.in1 (seqItems? (.ref S) >>= _) _ _ s
    refine wpAny_bind (wpAny_seqItems hS rfl ?_)
    show wpAny _ A.in1 (tryCatch (pyNext (.ref a)) _ >>= _) _ _ s
    refine wpAny_bind (wpAny_tryCatch (wpAny_mono (turn n z s hJ ⟨_, _, hS⟩) (fun r s' h => ?_) fun _ _ z => False.elim z))
    cases r with
    | none => exact wpAny_pure (h tA)
    | some v =>
      obtain ⟨b, t, rfl, ⟨t0, c0, hS'⟩, hn⟩ := h
      have go : ∀ (s'' : Shared) (t' : Tok) (c' : Nat) (st : Int), (st = 0 ∨ st = 2) → s''.os = s'.os → s''.gens = s'.gens → (∀ b o, b ≠ S → s'.heap.get? b = some o → s''.heap.get? b = some o) → s''.heap.get? S = some (sumO (z + b) t' c') →
          codeAny (model prog w) A (.builtin "sum.loop" ⟨[.ref a, .ref S, rawInt st, rawInt 0], []⟩) R s'' := fun s'' t' c' st h0 h1 h2 h3 h4 => by
        obtain ⟨m, hm, hJ'⟩ := hn s'' h1 h2 h3 ⟨_, _, h4⟩
        exact ih m hm (z + b) s'' t' c' st h0 hJ' h4
      rcases hst2 with rfl | rfl
      · show wpAny _ A.in1 (if (_ : Bool) = true then (mkInt (z + b) >>= _) else _) _ _ _
        split
        · refine wpAny_bind (wpAny_mkInt ?_)
          show wpAny _ A.in1 (updateSeq S (fun _ => #[.int (z + b) s'.toks]) >>= _) _ _ _
          refine wpAny_bind ?_
          exact wpAny_updateSeq hS' rfl (wpAny_pure ⟨plainId_quiet F.plain_sum_loop _, go _ s'.toks _ 0 (.inl rfl) rfl rfl (fun b o hb e => (Heap.get?_update_other _ _ (fun h : S = b => hb h.symm)).trans e) (Heap.get?_update_self _ hS' rfl)⟩)
        · refine wpAny_bind (wpAny_rule ?_)
          refine wpAny_bind (wpAny_attempt (wpAny_holding (wpAny_add_int ?_)))
          show wpAny _ A.in1 (updateSeq S (fun _ => #[.int (z + b) s'.toks]) >>= _) _ _ _
          refine wpAny_bind (wpAny_updateSeq hS' rfl ?_)
          have hS₂ := Heap.get?_update_self (Obj.mapSeq fun _ => #[Value.int (z + b) s'.toks]) hS' rfl
          refine wpAny_bind (wpAny_letGo ?_)
          refine wpAny_bind (wpAny_updateSeq hS₂ rfl (wpAny_pure ⟨plainId_quiet F.plain_sum_loop _, go _ s'.toks _ 2 (.inr rfl) rfl rfl (fun b o hb e => ?_) (Heap.get?_update_self _ hS₂ rfl)⟩))
          exact (Heap.get?_update_other _ _ (fun h : S = b => hb h.symm)).trans ((Heap.get?_update_other _ _ (fun h : S = b => hb h.symm)).trans e)
      · show wpAny _ A.in1 ((holding [Value.int b t] (binaryOp .Add (.int z tA) (.int b t))).attempt >>= _) _ _ _
        refine wpAny_bind (wpAny_attempt (wpAny_holding (wpAny_add_int ?_)))
        show wpAny _ A.in1 (updateSeq S (fun _ => #[.int (z + b) s'.toks]) >>= _) _ _ _
        refine wpAny_bind (wpAny_updateSeq hS' rfl ?_)
        have hS₂ := Heap.get?_update_self (Obj.mapSeq fun _ => #[Value.int (z + b) s'.toks]) hS' rfl
        refine wpAny_bind (wpAny_letGo ?_)
        refine wpAny_bind (wpAny_updateSeq hS₂ rfl (wpAny_pure ⟨plainId_quiet F.plain_sum_loop _, go _ s'.toks _ 2 (.inr rfl) rfl rfl (fun b o hb e => ?_) (Heap.get?_update_self _ hS₂ rfl)⟩))
        exact (Heap.get?_update_other _ _ (fun h : S = b => hb h.symm)).trans ((Heap.get?_update_other _ _ (fun h : S = b => hb h.symm)).trans e)
theorem call_sum_turns {x : Value} {Q : Value → Shared → Prop} {E : Value → Shared → Prop} {s : Shared}
    (h : wpAny (model prog w) A.in1 (pyIter x) (fun it s₂ => ∃ (a : Addr) (J : Nat → Int → Shared → Prop) (n : Nat), it = .ref a ∧
      (∀ s3, s3.os = s₂.os → s3.gens = s₂.gens → (∀ b o, s₂.heap.get? b = some o → s3.heap.get? b = some o) → SumAt s₂.heap.objs.size 0 s3.heap → J n 0 s3) ∧
      ∀ n z s, J n z s → SumAt s₂.heap.objs.size z s.heap → wpAny (model prog w) A.in1 (pyNext (.ref a)) (fun r s' => match r with
      | none => ∀ t, Q (.int z t) s'
      | some v => ∃ b tb, v = .int b tb ∧ SumAt s₂.heap.objs.size z s'.heap ∧ ∀ s'', s''.os = s'.os → s''.gens = s'.gens → (∀ b o, b ≠ s₂.heap.objs.size → s'.heap.get? b = some o → s''.heap.get? b = some o) → SumAt s₂.heap.objs.size (z + b) s''.heap → ∃ m, m < n ∧ J m (z + b) s'') (fun _ _ => False) s) E s) :
    wpAny (model prog w) A (call (.builtin "sum") [x]) Q E s := by
  refine call_function_tree F.kind_sum F.plain_sum F.entry_sum (F.args_sum1 _) ?_
  unfold Builtin.«sum»
  simp only [List.length_cons, List.length_nil]
  rw [if_neg (by decide)]
  refine wpAny_bind (wpAny_of_eq (show Builtin.Builtins.bindParams "sum" ["start"] 0 { } = pure [none] from rfl) ?_)
  refine wpAny_bind (wpAny_mono h (fun it s₂ h₂ => ?_) fun _ _ e => e)
  obtain ⟨a, J, n, rfl, h0, turn⟩ := h₂
  refine wpAny_bind (wpAny_mkInt ?_)
  refine wpAny_bind (wpAny_pure ?_)
  simp only [List.forIn_cons, List.forIn_nil]
  refine wpAny_bind (wpAny_bind (wpAny_bind (wpAny_isInstance (T := "int") (b := false) (typeIs_int _ _ _) PySem.sub_int_str ?_)))
  simp only [Bool.false_eq_true, if_false]
  refine wpAny_pure (wpAny_bind (wpAny_bind (wpAny_isInstance (T := "int") (b := false) (typeIs_int _ _ _) PySem.sub_int_bytes ?_)))
  simp only [Bool.false_eq_true, if_false]
  refine wpAny_pure (wpAny_bind (wpAny_bind (wpAny_isInstance (T := "int") (b := false) (typeIs_int _ _ _) PySem.sub_int_bytearray ?_)))
  simp only [Bool.false_eq_true, if_false]
  refine wpAny_pure (wpAny_pure ?_)
  refine wpAny_bind (wpAny_newObj_type ?_)
  refine wpAny_pure ⟨plainId_quiet F.plain_sum_loop _, sum_turns (S := s₂.heap.objs.size) J (fun n z s hn hs => wpAny_mono (turn n z s hn hs) (fun r s' q => ?_) fun _ _ z => z) n 0 _ s₂.toks _ 0 (.inl rfl) (h0 _ rfl rfl (fun b o e => Heap.get?_push_of_some _ e) ⟨_, _, Heap.get?_push_size _ rfl⟩) (Heap.get?_push_size _ rfl)⟩
  cases r with
  | none => exact q
  | some v => exact q
end
section
variable {X : Cx} {pins : List (Addr × Obj)} {σ : L2.St} {H : Hp} {s : Shared}
theorem gex_startS {scope : Scope} {own : List (Str × Nat)} {fp : List Addr} {code : Value} {it : Value} {h' : Heap} {go : Obj} {gs : GenState} {tk : Nat} (I : Inv X pins σ H s) (ok : BlkOk X.N X.env.scope scope own) (hN : X.N.Nodup) (hfp : ∀ b ∈ fp, FpOk X pins H b ∧ b ≠ s.heap.objs.size)
    (hcell : ∀ y ∈ scope.names, y.2 ≠ .cell) (hns : h'.Ns s.heap.objs.size (fun y => if y = ".0" then some it else none)) (hsb : Heap.SameBut s.heap.objs.size (s.heap.push { cls := .type "frame", data := .dict #[] }) h') (hgo : ∀ v, go.data ≠ .cell v) (hgp : (h'.push go).get? h'.objs.size = some go) (hb : gs.bare = true) :
    Inv (gex X s H (genEnv scope (cloFrom X.env.cells scope.names []) s.heap.objs.size code builtinsNs X.env) fp [(h'.objs.size, go)]) [] (wipe σ (own.map (·.2))) H { s with gens := s.gens.push gs, toks := tk, heap := h'.push go } := by
  have free : ∀ y ∈ scope.names, y.2 = .free → ∃ c, X.env.cells.lookup y.1 = some c := fun y hy e => by
    rcases ok.free y hy e with k | k
    · exact I.ok.has _ (.inl k)
    · exact I.ok.has _ (.inr k)
  have kp : ∀ b o, s.heap.get? b = some o → (h'.push go).get? b = some o := fun b o e => by
    refine Heap.get?_push_of_some _ ?_
    rw [hsb.2 b (Nat.ne_of_lt (Heap.lt_size e))]
    exact Heap.get?_push_of_some _ e
  have hsz : h'.objs.size = s.heap.objs.size + 1 := by rw [hsb.1, Heap.size_push]
  have mem : ∀ {y c}, (cloFrom X.env.cells scope.names []).lookup y = some c → X.env.cells.lookup y = some c ∧ c < s.heap.objs.size := fun {y c} e => by
    rcases cloFrom_mem (PySem.mem_of_lookup e) with z | ⟨h1, rfl⟩
    · cases z
    · obtain ⟨c, hc⟩ := free _ h1 rfl
      rw [hc]
      obtain ⟨u, z⟩ := I.cell _ _ hc
      exact ⟨rfl, z.lt⟩
  have look : ∀ {y}, scope.names.lookup y = some .free → ∃ c, (cloFrom X.env.cells scope.names []).lookup y = some c ∧ X.env.cells.lookup y = some c := fun {y} hl => by
    obtain ⟨c, e⟩ := L2.mem_lookup (cloFrom_has (cells := X.env.cells) (acc := []) (PySem.mem_of_lookup hl))
    exact ⟨c, e, (mem e).1⟩
  have nocell : ∀ {y k}, scope.names.lookup y = some k → k ≠ .cell := fun {y k} e => hcell _ (PySem.mem_of_lookup e)
  have okG : (gex X s H (genEnv scope (cloFrom X.env.cells scope.names []) s.heap.objs.size code builtinsNs X.env) fp [(h'.objs.size, go)]).Ok := by
    refine ⟨I.ok.mod, ok.kind, I.ok.glob, rfl, Nat.le_refl _, fun y z c e1 e2 => I.ok.inj y z c (mem e1).1 (mem e2).1, fun y hy => ?_, (fun y c z _ => absurd z Bool.false_ne_true), I.ok.hd, Around.frames_deeper I.ok.frames, .inr ⟨rfl, rfl⟩,
      fun b hb => ⟨(hfp b hb).2, fun y c e z => (hfp b hb).1.2.2.2.2.1 y c (mem e).1 z⟩, I.bs, Nat.le_trans I.ok.bsz I.sz, fun b o e hb => ?_, fun b hb z => ?_, I.stack, I.stkFree⟩
    · rcases hy with hy | hy
      · exact absurd rfl (nocell (show scope.names.lookup y = some .cell from hy))
      · obtain ⟨c, h1, _⟩ := look (show scope.names.lookup y = some .free from hy)
        exact ⟨c, h1⟩
    · rcases (hfp b hb).1.2.2.2.1 with z | z
      · exact I.ok.noex b o e z
      · exact absurd (Nat.lt_of_lt_of_le (Heap.lt_size e) (Nat.le_trans I.ok.bsz z)) (Nat.lt_irrefl _)
    · rcases List.mem_cons.mp (I.stkSub b z) with z | z
      · exact (hfp b hb).1.2.1 z
      · exact (hfp b hb).1.2.2.1 z
  refine ⟨okG, rfl, AllBare.push I.bare hb, Un.kept kp, ⟨_, hns.push _, fun i y av e1 e2 e3 => ?_⟩, fun y c e => ?_, I.hok.fresh (Nat.le_refl _), fun y c e => I.freeC y c (mem e).1, fun p hp => ?_, I.hok.kept kp, by rw [wipe_length]; exact I.len⟩
  · obtain ⟨e2, hne⟩ := wipe_some e2
    have e3 : Vis scope y := e3
    have no : ¬ scope.names.lookup y = some .local := fun z => by
      rcases ok.own _ (PySem.mem_of_lookup z) (.inl rfl) with e' | e'
      · obtain ⟨p, hp, hpy⟩ := List.mem_map.mp e'
        have q := ok.ix p hp
        rw [show p.1 = y from hpy] at q
        exact hne (List.mem_map.mpr ⟨p, hp, nodup_ix hN q e1⟩)
      · exact e' (List.mem_of_getElem? e1)
    have fr : scope.names.lookup y = some .free := by
      rcases e3 with z | z | z
      · exact absurd z no
      · exact absurd rfl (nocell z)
      · exact z
    obtain ⟨m, hn, hl⟩ := I.loc
    have cap := ok.free _ (PySem.mem_of_lookup fr) rfl
    obtain ⟨u, r, q⟩ := hl i y av e1 e2 (cap.elim (fun k => .inr (.inl k)) fun k => .inr (.inr k))
    refine ⟨u, r, .inr ⟨.inr fr, ?_⟩⟩
    obtain ⟨c, h1, h2⟩ := look fr
    rcases q with ⟨k, _⟩ | ⟨_, c', e', z⟩
    · have k : X.env.scope.names.lookup y = some .local := k
      rcases cap with k' | k' <;> rw [show X.env.scope.names.lookup y = _ from k'] at k <;> cases k
    · rw [h2] at e'; cases e'
      exact ⟨c, h1, z.keeps kp⟩
  · obtain ⟨u, z⟩ := I.cell y c (mem e).1
    exact ⟨u, z.keeps kp⟩
  · have hp : p = (h'.objs.size, go) := by simpa using hp
    subst hp
    have hle : s.heap.objs.size ≤ h'.objs.size := by omega
    refine ⟨hgp, I.hok.fresh hle, by show h'.objs.size ≠ s.heap.objs.size; omega, fun z => ?_, hgo⟩
    rcases List.mem_cons.mp (I.stkSub _ z) with y | y
    · have := I.lt
      rw [← y] at this
      exact absurd (Nat.lt_of_lt_of_le this hle) (Nat.lt_irrefl _)
    · exact I.nofs hle y
end

/-! ### the loop of the frame -/
section
variable {X : Cx} {s3 : Shared} {H3 : Hp} {genv : Env} {fp : List Addr} {pn : List (Addr × Obj)} {σ : L2.St} {vs : List Nat} {elt tg iter : Expr} {ifs : List Expr} {scope : Scope} {pos : Pos} {it S : Addr} {tn : Nat → Heap → Prop} {J : It} {g : TG} {tt : TT} {te : TE}
theorem slept_invS {Xg : Cx} {pins : List (Addr × Obj)} {σ' : L2.St} {H : Hp} {s s' : Shared} {z : Int} (I : Inv Xg pins σ' H s) (k : SlS S z s s') (hS : FpOk Xg pins H S) : Inv Xg pins σ' H s' := by
  have ne : ∀ b o, H b = some o → b ≠ S := fun b o e q => by
    rw [q, hS.1] at e
    cases e
  refine I.call' (ch := [S]) k.os ⟨fun b ob q _ _ hx => k.keep b ob (by simpa using hx) q, fun b ob q _ _ hx => ⟨ob.slots, k.keep b ob (by simpa using hx) q⟩, fun _ _ _ n _ => n, fun b ob q hx => ⟨ob, k.keep b ob (by simpa using hx) q⟩, fun _ _ q => q, fun _ _ _ q => q, fun _ ps q => ⟨#[], by rw [q]; simp⟩⟩ (fun a o e => ?_) k.bare fun b hb => ?_
  · refine (I.hok a o e).stay (fun b u hb q => k.keep b u ?_ q) (fun _ q => q) fun _ _ q => q
    rcases hb with rfl | hb
    · exact ne _ _ e
    · exact ne _ _ hb
  · cases List.mem_singleton.mp hb
    exact ⟨hS.2.2.2.1, hS.2.1, hS.2.2.2.2.1, hS.2.2.2.2.2⟩
def endS (Xg : Cx) (S : Addr) (Qt : Int → Hp → Prop) : GenEnd := fun _ s₀ r s => r = .ok .next ∧ ∃ σ' H' z, SumAt S z s₀.heap ∧ Inv Xg [] σ' H' s ∧ Qt z H'
def outS (Xg : Cx) (S : Addr) : Protocol := fun _ s₀ v s kap => ∃ b z tb σ' H', SumAt S z s₀.heap ∧ v = .int b tb ∧ Inv Xg [] σ' H' s ∧ SumAt S z s.heap ∧ H' S = none ∧ ∀ s', SlS S (z + b) s s' → kap (.send .none) s'
/-- the turns -/
def turnsS (J : It) (g : TG) (tt : TT) (te : TE) (σ0 : L2.St) (vs : List Nat) (Qt : Int → Hp → Prop) (W : Nat → Nat → Int → Hp → Prop) : Prop := ∀ i m z H, W i m z H → (J.stop i H ∧ Qt z H) ∨ (J.go i H ∧ ∃ Nx : Int → Hp → Prop, (∀ y H', Nx y H' → ∃ m', m' < m ∧ W (i + 1) m' y H') ∧
  ∀ x H', J.yld i H x H' → g x σ0 H' fun σ2 H2 => wipe σ2 vs = σ0 ∧ tt σ2 H2 fun b H3 => if b = true then te σ2 H3 fun y H4 => ∃ k, y = .int k ∧ Nx (z + k) H4 else Nx z H3)
theorem seg_turnsS {Qt : Int → Hp → Prop} {W : Nat → Nat → Int → Hp → Prop} (hc : X.calm = true) (T : Turn X.prog X.w X.K tg J fp it tn) (pg : PG (gex X s3 H3 genv (S :: fp) pn) tg g) (pt : PTs (gex X s3 H3 genv (S :: fp) pn) ifs tt) (pe : PE (gex X s3 H3 genv (S :: fp) pn) elt te)
    (hco : genv.scope.isCoroutine = false) (hpn : ∀ p ∈ pn, p.1 ∉ S :: fp) (hSf : S ∉ fp) (turn : turnsS J g tt te (wipe σ vs) vs Qt W) :
    ∀ (m n i : Nat) (z : Int) (s₀ s : Shared) (H : Hp), m < n → Inv (gex X s3 H3 genv (S :: fp) pn) [] (wipe σ vs) H s → tn i s.heap → (∀ b ∈ S :: fp, H b = none) → SumAt S z s₀.heap → SumAt S z s.heap → W i m z H →
      Seg (model X.prog X.w) X.A.in1.in1 (endS (gex X s3 H3 genv (S :: fp) pn) S Qt) (outS (gex X s3 H3 genv (S :: fp) pn) S) n s₀ (.compLoop (.GeneratorExp elt [⟨tg, iter, ifs, 0⟩] scope pos) 0 (.ref it) .none genv)
        ((model X.prog X.w).den (.compLoop (.GeneratorExp elt [⟨tg, iter, ifs, 0⟩] scope pos) 0 (.ref it) .none genv)) [] s := by
  have stat : ∀ {σ' : L2.St} {H' : Hp} {s' : Shared} {pins : List (Addr × Obj)} {b : Addr}, Inv (gex X s3 H3 genv (S :: fp) pn) pins σ' H' s' → b ∈ S :: fp → H' b = none → (∀ p ∈ pins, p.1 ≠ b) → FpOk (gex X s3 H3 genv (S :: fp) pn) pins H' b := fun {σ' H' s' pins b} I' hb hn hp =>
    ⟨hn, (I'.ok.exf b hb).1, I'.ok.exfs b hb, .inl hb, fun x c e => (I'.ok.exf b hb).2 x c e, fun p hq y => (List.mem_append.mp hq).elim (fun q => hpn p q (y ▸ hb)) fun q => hp p q y⟩
  intro m
  induction m using Nat.strongRecOn with
  | ind m ih =>
    intro n i z s₀ s H hmn I0 st hn hs0 hs w
    show Seg _ _ _ _ _ s₀ _ ((compTurn (.GeneratorExp elt [⟨tg, iter, ifs, 0⟩] scope pos) 0 (.ref it) .none genv).onRaise (leaving genv)) [] s
    rw [compTurn_gen, Sem.onRaise_eq_wrap]
    obtain ⟨t0, c0, hS⟩ := hs
    have I := I0.pinned (fp := [S]) (fun b hb => stat I0 (by cases List.mem_singleton.mp hb; exact List.mem_cons_self) (hn b (by cases List.mem_singleton.mp hb; exact List.mem_cons_self)) (fun p hp => by cases hp)) (fun b hb => by
      cases List.mem_singleton.mp hb
      exact ⟨_, hS, fun v q => by cases q⟩)
    have pinS : ∀ p ∈ ([] ++ pinsAt [S] s.heap : List (Addr × Obj)), p.1 = S := fun p hp => List.mem_singleton.mp (of_pinsAt (by simpa using hp)).1
    have hPS : (S, sumO z t0 c0) ∈ ([] ++ pinsAt [S] s.heap : List (Addr × Obj)) := List.mem_append_right _ (mem_pinsAt (List.mem_singleton.mpr rfl) hS)
    generalize hP : ([] ++ pinsAt [S] s.heap : List (Addr × Obj)) = PS at I pinS hPS
    have statF : ∀ {σ' : L2.St} {H' : Hp} {s' : Shared}, Inv (gex X s3 H3 genv (S :: fp) pn) PS σ' H' s' → (∀ b ∈ fp, H' b = none) → ∀ b ∈ fp, FpOk (gex X s3 H3 genv (S :: fp) pn) PS H' b := fun I' hn' b hb => stat I' (List.mem_cons_of_mem _ hb) (hn' b hb) fun p hp y => hSf (by rw [← pinS p hp, y]; exact hb)
    have hnF : ∀ b ∈ fp, H b = none := fun b hb => hn b (List.mem_cons_of_mem _ hb)
    refine seg_bind_wrap (wpAny_standAt ?_)
    rcases turn i m z H w with ⟨stop, q⟩ | ⟨go, Nx, hNx, step⟩
    · refine seg_bind_wrap (thnF (T.done (gex X s3 H3 genv (S :: fp) pn) rfl rfl rfl hc i PS s _ H (fun _ _ => False) I (statF I hnF) st stop) fun r s6 ⟨hr, I6⟩ => ?_)
      subst hr
      exact seg_end (.ok .next) ⟨rfl, _, _, z, hs0, Inv.unpinned (pins := []) I6, q⟩
    · refine seg_bind_wrap (thnF (T.item (gex X s3 H3 genv (S :: fp) pn) rfl rfl rfl hc i PS s _ H (fun _ _ => False) I (statF I hnF) st go) fun r s6 ⟨u, hr, h6⟩ => ?_)
      subst hr
      refine seg_bind_wrap (thnF h6 fun _ s7 ⟨x, H7, I7, r7, y7, st7, n7⟩ => ?_)
      have I7' := I7.pinned (statF I7 n7) (T.obj _ _ st7)
      refine seg_bind_wrap (thnF (pg.run _ s7 _ H7 x u _ I7' r7 (step x H7 y7)) fun _ s8 ⟨σ8, H8, I8, hw8, q8⟩ => ?_)
      refine seg_bind_wrap (thnF (pt.run _ s8 σ8 H8 _ I8 q8) fun b s9 ⟨H9, I9, q9⟩ => ?_)
      have facts : ∀ {s' : Shared} {H' : Hp}, Inv (gex X s3 H3 genv (S :: fp) pn) (PS ++ pinsAt fp s7.heap) σ8 H' s' → (s'.heap.get? S = some (sumO z t0 c0) ∧ H' S = none) ∧ ∀ b ∈ fp, ∀ o, s7.heap.get? b = some o → s'.heap.get? b = some o ∧ H' b = none := fun {s' H'} I' =>
        ⟨let y := I'.pin (S, sumO z t0 c0) (List.mem_append_right _ (List.mem_append_left _ hPS)); ⟨y.1, y.2.1⟩, fun b hb o e =>
          let y := I'.pin (b, o) (List.mem_append_right _ (List.mem_append_right _ (mem_pinsAt hb e)))
          ⟨y.1, y.2.1⟩⟩
      have bare : ∀ {s' : Shared} {H' : Hp}, Inv (gex X s3 H3 genv (S :: fp) pn) (PS ++ pinsAt fp s7.heap) σ8 H' s' → Inv (gex X s3 H3 genv (S :: fp) pn) [] σ8 H' s' := fun I' => Inv.unpinned (pins := []) (Inv.unpinned I')
      -- the next turn
      have fin : ∀ {s' : Shared} {H' : Hp} {y : Int} {n' : Nat}, Inv (gex X s3 H3 genv (S :: fp) pn) [] σ8 H' s' → (∀ b ∈ fp, ∀ o, s7.heap.get? b = some o → s'.heap.get? b = some o ∧ H' b = none) → H' S = none → SumAt S y s'.heap → Nx y H' → (∀ m', m' < m → m' < n') → ∀ sa, SumAt S y sa.heap →
          Seg (model X.prog X.w) X.A.in1.in1 (endS (gex X s3 H3 genv (S :: fp) pn) S Qt) (outS (gex X s3 H3 genv (S :: fp) pn) S) n' sa (.compLoop (.GeneratorExp elt [⟨tg, iter, ifs, 0⟩] scope pos) 0 (.ref it) .none genv)
            ((model X.prog X.w).den (.compLoop (.GeneratorExp elt [⟨tg, iter, ifs, 0⟩] scope pos) 0 (.ref it) .none genv)) [] s' := fun {s' H' y n'} I' kp hnS hs' nx hn' sa hsa => by
        obtain ⟨m', hm, w'⟩ := hNx y H' nx
        have hl : (wipe σ vs).length = σ8.length := by rw [← hw8, wipe_length]
        refine ih m' hm n' (i + 1) y sa s' H' (hn' m' hm) (I'.weak hl fun j v e => ?_) (T.keep _ _ _ st7 fun b hb o e => (kp b hb o e).1) (fun b hb => ?_) hsa hs' w'
        · rw [← hw8] at e
          exact (wipe_some e).1
        · rcases List.mem_cons.mp hb with rfl | hb
          · exact hnS
          · obtain ⟨o, e, _⟩ := T.obj _ _ st7 b hb
            exact (kp b hb o e).2
      cases b with
      | false =>
        simp only [Bool.false_eq_true, if_false] at q9 ⊢
        obtain ⟨f1, f2⟩ := facts I9
        exact seg_again rfl (fin (bare I9) f2 f1.2 ⟨_, _, f1.1⟩ q9 (fun m' h => by omega) s₀ hs0)
      | true =>
        simp only [if_true] at q9 ⊢
        have hy : ∀ v, yieldOut genv v = yieldValue v := fun v => by simp only [yieldOut, hco, Bool.false_eq_true, if_false]
        simp only [hy]
        rw [Sem.bind_eq_wrap', Sem.bind_eq_wrap', Sem.wrap_wrap, Sem.wrap_wrap]
        refine seg_wrap (thnF (pe.run _ s9 σ8 H9 _ I9 q9) fun u10 s10 ⟨yv, H10, I10, r10, k, ek, hk1⟩ => ?_)
        subst ek
        obtain ⟨tb, rfl⟩ : ∃ t, u10 = Value.int k t := r10
        obtain ⟨n', rfl⟩ : ∃ n', n = n' + 1 := ⟨n - 1, by omega⟩
        obtain ⟨f1, f2⟩ := facts I10
        have I11 := bare I10
        refine seg_at (seg_yield rfl rfl rfl ⟨k, z, tb, _, _, hs0, rfl, I11, ⟨_, _, f1.1⟩, f1.2, fun s'' hz => ?_⟩)
        exact seg_again rfl (fin (slept_invS I11 hz (stat I11 List.mem_cons_self f1.2 (fun p hp => by cases hp))) (fun b hb o e => ⟨hz.keep b o (fun q => hSf (q ▸ hb)) (f2 b hb o e).1, (f2 b hb o e).2⟩) f1.2 hz.sum hk1 (fun m' h => by omega) s'' hz.sum)
theorem seg_startS {Qt : Int → Hp → Prop} {W : Nat → Nat → Int → Hp → Prop} (hc : X.calm = true) (T : Turn X.prog X.w X.K tg J fp it tn) (pg : PG (gex X s3 H3 genv (S :: fp) pn) tg g) (pt : PTs (gex X s3 H3 genv (S :: fp) pn) ifs tt) (pe : PE (gex X s3 H3 genv (S :: fp) pn) elt te)
    (hco : genv.scope.isCoroutine = false) (hpn : ∀ p ∈ pn, p.1 ∉ S :: fp) (hSf : S ∉ fp) (turn : turnsS J g tt te (wipe σ vs) vs Qt W) (m n : Nat) (z : Int) (s₀ s : Shared) (H : Hp) (hmn : m < n) (I : Inv (gex X s3 H3 genv (S :: fp) pn) [] (wipe σ vs) H s) (st : tn 0 s.heap) (hn : ∀ b ∈ S :: fp, H b = none) (hs0 : SumAt S z s₀.heap) (hs : SumAt S z s.heap) (w : W 0 m z H) :
    Seg (model X.prog X.w) X.A.in1.in1 (endS (gex X s3 H3 genv (S :: fp) pn) S Qt) (outS (gex X s3 H3 genv (S :: fp) pn) S) n s₀ (.compStart (.GeneratorExp elt [⟨tg, iter, ifs, 0⟩] scope pos) 0 (.ref it) .none genv)
      ((model X.prog X.w).den (.compStart (.GeneratorExp elt [⟨tg, iter, ifs, 0⟩] scope pos) 0 (.ref it) .none genv)) [] s := by
  have loop := seg_turnsS (iter := iter) (scope := scope) (pos := pos) hc T pg pt pe hco hpn hSf turn m n 0 z s₀ s H hmn I st hn hs0 hs w
  show Seg _ _ _ _ _ s₀ _ ((compStart (.GeneratorExp elt [⟨tg, iter, ifs, 0⟩] scope pos) 0 (.ref it) .none genv).onRaise (leaving genv)) [] s
  unfold compStart
  rw [Sem.onRaise_eq_wrap]
  show Seg _ _ _ _ _ s₀ _ ((ask >>= _).wrap _ _ _ _) [] s
  refine seg_bind_wrap (wpAny_askSetting ?_)
  split
  · exact seg_again rfl loop
  · refine seg_bind_wrap (wpAny_rule ?_)
    show Seg _ _ _ _ _ s₀ _ ((standAt iter.pos >>= _).wrap _ _ _ _) [] s
    exact seg_bind_wrap (wpAny_standAt (seg_bind_wrap (T.self _ 0 s _ _ st (seg_again rfl loop))))
end

/-! ### the generator's object, asked for its next item -/
section
variable {X : Cx} {s3 : Shared} {H3 : Hp} {genv : Env} {fp : List Addr} {a S : Addr} {g : Nat} {go : Obj} {nm qn : Value}
theorem statS {pn : List (Addr × Obj)} {σ' : L2.St} {H' : Hp} {s' : Shared} (hpn : ∀ p ∈ pn, p.1 ∉ S :: fp) (I' : Inv (gex X s3 H3 genv (S :: fp) pn) [] σ' H' s') (hn : H' S = none) : FpOk (gex X s3 H3 genv (S :: fp) pn) [] H' S :=
  ⟨hn, (I'.ok.exf S List.mem_cons_self).1, I'.ok.exfs S List.mem_cons_self, .inl List.mem_cons_self, fun x c e => (I'.ok.exf S List.mem_cons_self).2 x c e, fun p hq y => (List.mem_append.mp hq).elim (fun q => hpn p q (y ▸ List.mem_cons_self)) fun q => by cases q⟩
/-- asleep, n turns at most are left -/
def AsleepS (X : Cx) (s3 : Shared) (H3 : Hp) (genv : Env) (fp : List Addr) (pn : List (Addr × Obj)) (a : Addr) (g : Nat) (S : Addr) (Qt : Int → Hp → Prop) (n : Nat) (z : Int) (s : Shared) : Prop :=
  s.heap.IsGen a g ∧ s.heap.NoLimit ∧ AllBare s.gens ∧ ∃ gs, s.gens[g]? = some gs ∧ ∀ s'', SlS S z s s'' → gs.Goes (model X.prog X.w) X.A.in1.in1 (endS (gex X s3 H3 genv (S :: fp) pn) S Qt) (outS (gex X s3 H3 genv (S :: fp) pn) S) n (.send .none) s''
theorem next_genS {Qt : Int → Hp → Prop} {n : Nat} {z : Int} {s : Shared} {Q : Option Value → Shared → Prop} {k : Nat} (hr : Room k X.A) (hgo : go.cls = .type "generator" ∧ go.data = .fields #[.int g 0, nm, qn] ∧ go.slots = #[]) (hpn : ∀ p ∈ [(a, go)], p.1 ∉ S :: fp) (h : AsleepS X s3 H3 genv fp [(a, go)] a g S Qt n z s) (hs : SumAt S z s.heap)
    (hT : ∀ σ' H' s1 s2, Inv (gex X s3 H3 genv (S :: fp) [(a, go)]) [] σ' H' s1 → Qt z H' → s2.os = s1.os → AllBare s2.gens → (∀ b o, s1.heap.get? b = some o → s2.heap.get? b = some o) → Q none s2)
    (hF : ∀ b tb s2, SumAt S z s2.heap → (∀ s'', s''.os = s2.os → s''.gens = s2.gens → (∀ b o, b ≠ S → s2.heap.get? b = some o → s''.heap.get? b = some o) → SumAt S (z + b) s''.heap → ∃ m, m < n ∧ AsleepS X s3 H3 genv fp [(a, go)] a g S Qt m (z + b) s'') → Q (some (.int b tb)) s2) :
    wpAny (model X.prog X.w) X.A.in1 (pyNext (.ref a)) Q (fun _ _ => False) s := by
  obtain ⟨hg, hl, hb, gs, hgs, hgoes⟩ := h
  have haS : a ≠ S := fun e => hpn (a, go) (List.mem_singleton.mpr rfl) (by rw [e]; exact List.mem_cons_self)
  have hlt : g + 1 ≤ s.gens.size := (Array.getElem?_eq_some_iff.mp hgs).1
  refine GenW.wpAny_gsz hlt ?_
  refine wpAny_pyNext_genexpQ (P := fun _ s₀ s => ∃ σ' H' y, SumAt S y s₀.heap ∧ Inv (gex X s3 H3 genv (S :: fp) [(a, go)]) [] σ' H' s ∧ Qt y H') hr.hd hl hr.depth hg hgs (hgoes _ ⟨rfl, allBare_setGen hb rfl, fun _ _ _ e => e, hs⟩) (fun v s1 gs' hb' hv hsz => ?_) (fun s1 ⟨σ', H', y, hy, I', q⟩ h' hk _ => ?_)
  · obtain ⟨b, y, tb, σ', H', hy, rfl, I', hs1, hnS, ht⟩ := hv
    have e : y = z := SumAt.uniq hy hs
    subst e
    refine hF b tb _ hs1 fun s'' o1 g1 k1 sm => ?_
    have sl : SlS S (y + b) s1 s'' := ⟨o1, by rw [g1]; exact allBare_setGen I'.bare hb', k1, sm⟩
    have hsz' : g < s1.gens.size := by
      have : g + 1 ≤ (s1.setGen g gs').gens.size := hsz
      rw [GenW.setGen_size] at this
      exact this
    cases n with
    | zero => exact False.elim (ht s'' sl)
    | succ m =>
      have hp := (I'.pin (a, go) (List.mem_append_left _ (List.mem_singleton.mpr rfl))).1
      have I2 := slept_invS I' sl (statS hpn I' hnS)
      exact ⟨m, Nat.lt_succ_self _, ⟨go, nm, qn, k1 _ _ haS hp, hgo⟩, I2.nolimit, sl.bare, gs', by rw [g1]; exact setGen_at hsz', fun s4 z4 => ht s4 ⟨z4.os.trans sl.os, z4.bare, fun b o hb e => z4.keep b o hb (sl.keep b o hb e), z4.sum⟩⟩
  · have e : y = z := SumAt.uniq hy hs
    subst e
    exact hT σ' H' s1 _ I' q rfl (allBare_setGen I'.bare rfl) hk
end
/-- sum(elt for tg in iter if ..) -/
def tSumX (p : Addr) (wi : TI) (g : TG) (tt : TT) (te : TE) (vs : List Nat) : TE := fun σ H Q => wi σ H fun J H1 => GxR.TabG H1 p ∧ ∀ H2, GxR.Tabbed p H1 H2 → ∃ W : Nat → Nat → Int → Hp → Prop, (∃ m, W 0 m 0 H2) ∧ turnsS J g tt te (wipe σ vs) vs (fun z => Q (.int z)) W
theorem pe_sumX {X : Cx} {c p : Addr} {elt tg iter : Expr} {ifs : List Expr} {pp pos gpos : Pos} {scope : Scope} {own : List (Str × Nat)} {wi : TI} {g : TG} {tt : TT} {te : TE} {k : Nat}
    (hr : Room k X.A) (hc : X.calm = true) (hN : X.N.Nodup) (hg : Gl X "sum") (hm : X.mg "sum" = none) (TB : GxR.TabB X.base X.mg c p) (hcode : X.env.code = .ref c) (hi : PI X tg iter wi) (ok : BlkOk X.N X.env.scope scope own)
    (hcell : ∀ y ∈ scope.names, y.2 ≠ .cell) (h0 : scope.names.lookup (".0" : Str) = some NameKind.local) (hco : scope.isCoroutine = false)
    (pg : ∀ (s : Shared) (H : Hp) (cl : List (Str × Addr)) (C : Addr) (code : Value) (fp : List Addr) (pn : List (Addr × Obj)), PG (gex X s H (genEnv scope cl C code builtinsNs X.env) fp pn) tg g)
    (pt : ∀ (s : Shared) (H : Hp) (cl : List (Str × Addr)) (C : Addr) (code : Value) (fp : List Addr) (pn : List (Addr × Obj)), PTs (gex X s H (genEnv scope cl C code builtinsNs X.env) fp pn) ifs tt)
    (pe : ∀ (s : Shared) (H : Hp) (cl : List (Str × Addr)) (C : Addr) (code : Value) (fp : List Addr) (pn : List (Addr × Obj)), PE (gex X s H (genEnv scope cl C code builtinsNs X.env) fp pn) elt te)
    (hs : ∀ v, genFold iter X.env v = pure v := by intro _; rfl)
    (he : starEach [.GeneratorExp elt [⟨tg, iter, ifs, 0⟩] scope gpos] X.env = (false, eval (.GeneratorExp elt [⟨tg, iter, ifs, 0⟩] scope gpos) X.env) :: starEach [] X.env := by rfl) :
    PE X (.Call (.Name "sum" pp) [.GeneratorExp elt [⟨tg, iter, ifs, 0⟩] scope gpos] [] pos) (tSumX p wi g tt te (own.map (·.2))) := by
  refine ⟨fun pins s σ H Q I h => ?_⟩
  refine wpAny_Call_Name_kw (ld_blt I hg hm (PyProof.Rows.boot_sum) ?_)
  refine PyProof.Rows.callWith_builtin1 ?_ he (by rfl)
  rw [he]
  show wpAny _ _ (spliced ((false, eval (.GeneratorExp elt [⟨tg, iter, ifs, 0⟩] scope gpos) X.env) :: backTo pos (starEach [] X.env))) _ _ s
  have free : ∀ y ∈ scope.names, y.2 = .free → ∃ c, X.env.cells.lookup y.1 = some c := fun y hy e => by
    rcases ok.free y hy e with k | k
    · exact I.ok.has _ (.inl k)
    · exact I.ok.has _ (.inr k)
  refine Calls.spliced_cons (wpAny_GeneratorExp_make hco (closure_ok free) hcell h0 ok.kind hr.depth (thn (hi.run pins s σ H _ I h) fun xv s1 hx => thn hx fun itv s2 h2 => ?_) hs)
  obtain ⟨it, fp, tn, J, H2, e, I2, T, st2, f2, tb2, q2⟩ := h2
  subst e
  refine ⟨I2.nolimit, gx_code TB hcode I2 tb2 fun code s3 H3 tb I3 k3 => ?_⟩
  obtain ⟨W, ⟨m0, w0⟩, turn⟩ := q2 H3 tb
  intro h' hns hsb
  have hp2 : ∀ b ∈ fp, b ≠ p := fun b hb z => by
    obtain ⟨ps, e, _⟩ := tb2
    have := (f2 b hb).1
    rw [z, e] at this; cases this
  have st3 : tn 0 s3.heap := T.keep _ _ _ st2 fun b hb o e => k3 b o (hp2 b hb) e
  have f3 : ∀ b ∈ fp, FpOk X pins H3 b ∧ b < s3.heap.objs.size := fun b hb => by
    obtain ⟨o, e, _⟩ := T.obj _ _ st3 b hb
    obtain ⟨x0, x1⟩ := f2 b hb
    exact ⟨⟨by rw [tb.2 b (hp2 b hb)]; exact x0, x1⟩, Heap.lt_size e⟩
  have hsz : h'.objs.size = s3.heap.objs.size + 1 := by rw [hsb.1, Heap.size_push]
  generalize hgo : ({ cls := .type "generator", data := .fields #[.int s3.gens.size 0, .str "<genexpr>" (s3.toks + 1), .str (X.env.qual ++ "<genexpr>") (s3.toks + 1 + 1)] } : Obj) = go
  have go1 : go.cls = .type "generator" ∧ go.data = .fields #[.int s3.gens.size 0, .str "<genexpr>" (s3.toks + 1), .str (X.env.qual ++ "<genexpr>") (s3.toks + 1 + 1)] ∧ go.slots = #[] := by subst hgo; exact ⟨rfl, rfl, rfl⟩
  have go2 : (h'.push go).get? h'.objs.size = some go := by subst hgo; exact Heap.get?_push_size _ rfl
  have hS : (h'.push go).objs.size = s3.heap.objs.size + 2 := by rw [Heap.size_push, hsz]
  have f4 : ∀ b ∈ (h'.push go).objs.size :: fp, FpOk X pins H3 b ∧ b ≠ s3.heap.objs.size := fun b hb => by
    rcases List.mem_cons.mp hb with rfl | hb
    · exact ⟨I3.fpOk (by rw [hS]; exact Nat.le_add_right _ _) (I3.hok.fresh (by rw [hS]; exact Nat.le_add_right _ _)), by rw [hS]; exact Nat.ne_of_gt (Nat.lt_add_of_pos_right (by decide))⟩
    · exact ⟨(f3 b hb).1, Nat.ne_of_lt (f3 b hb).2⟩
  have hSf : (h'.push go).objs.size ∉ fp := fun hb => by
    have := (f3 _ hb).2
    rw [hS] at this
    exact absurd (Nat.lt_of_le_of_lt (Nat.le_add_right _ _) this) (Nat.lt_irrefl _)
  have I4 := gex_startS (code := code) (it := .ref it) (gs := .fresh (.compStart (.GeneratorExp elt [⟨tg, iter, ifs, 0⟩] scope gpos) 0 (.ref it) .none (genEnv scope (cloFrom X.env.cells scope.names []) s3.heap.objs.size code builtinsNs X.env))) (tk := s3.toks + 1 + 1 + 1) I3 ok hN f4 hcell hns hsb (fun v z => by rw [go1.2.1] at z; cases z) go2 rfl
  generalize hSe : (h'.push go).objs.size = S at hS f4 hSf I4
  have hpn : ∀ q ∈ [(h'.objs.size, go)], q.1 ∉ S :: fp := fun q hq z => by
    have hq : q = (h'.objs.size, go) := by simpa using hq
    subst hq
    rcases List.mem_cons.mp z with z | z
    · have z : h'.objs.size = S := z
      rw [hS, hsz] at z
      exact absurd z (by omega)
    · have := (f3 _ z).2
      have this : (h'.objs.size : Nat) < s3.heap.objs.size := this
      omega
  have st4 : tn 0 (h'.push go) := T.keep _ _ _ st3 fun b hb o e => Heap.get?_push_of_some _ (by
    rw [hsb.2 b (Nat.ne_of_lt (Heap.lt_size e))]
    exact Heap.get?_push_of_some _ e)
  have hnS : H3 S = none := (f4 S List.mem_cons_self).1.1
  refine Calls.spliced_nil (call_sum_turns (wpAny_pyIter_gen (a := h'.objs.size) (g := s3.gens.size) ⟨go, _, _, go2, go1⟩ ?_))
  show ∃ _ _ _, _
  simp only [hSe]
  refine ⟨h'.objs.size, AsleepS X s3 H3 (genEnv scope (cloFrom X.env.cells scope.names []) s3.heap.objs.size code builtinsNs X.env) fp [(h'.objs.size, go)] h'.objs.size s3.gens.size S (fun z => Q (.int z)), m0 + 1, rfl, fun s4 o4 g4 k4 sm4 => ?_, fun n z s5 h5 hs5 => ?_⟩
  · have I5 := slept_invS I4 ⟨o4, by rw [g4]; exact I4.bare, fun b o _ e => k4 b o e, sm4⟩ (statS hpn I4 hnS)
    refine ⟨⟨go, _, _, k4 _ _ go2, go1⟩, I5.nolimit, I5.bare, _, (congrArg (fun x : Array GenState => x[s3.gens.size]?) g4).trans (Array.getElem?_push_size ..), fun s'' z => ⟨rfl, ?_⟩⟩
    exact seg_startS hc T (pg _ _ _ _ _ _ _) (pt _ _ _ _ _ _ _) (pe _ _ _ _ _ _ _) hco hpn hSf turn m0 (m0 + 1) 0 s'' s'' H3 (Nat.lt_succ_self _) (slept_invS I5 z (statS hpn I5 hnS)) (T.keep _ _ _ st4 fun b hb o e => z.keep b o (fun q => hSf (q ▸ hb)) (k4 b o e)) (fun b hb => (f4 b hb).1.1) z.sum z.sum w0
  · refine next_genS hr go1 hpn h5 hs5 (fun σ' H' s6 s7 I' q os ba k t => ?_) fun b tb s2 h1 h2 => ?_
    · exact ⟨.int z, H', back I3 (fun b hb => (f4 b hb).1) I' os ba k, ⟨_, rfl⟩, q⟩
    · exact ⟨b, tb, rfl, h1, h2⟩
end GX
/-! DG4: sum(e for t in it), over data -/
namespace DL
open PySem PySem.Spec PyProof.Rows L2 GX
def onI (y : W) (k : Int → Prop) : Prop := match y with
  | .fz (.int i) => k i
  | _ => False
theorem onI_ex {y : W} {k : Int → Prop} (h : onI y k) : ∃ i, y = .fz (.int i) ∧ k i := by
  unfold onI at h
  split at h
  · exact ⟨_, rfl, h⟩
  · exact h.elim
/-- the items, one by one, summed; env0: the slots at each turn's beginning -/
def sumG (g : DG) (tt : DT) (te : DE) (env0 : En) : List W → Sto → Int → (Int → Sto → Prop) → Prop
  | [], S, z, Kp => Kp z S
  | w :: ws, S, z, Kp => g w env0 S fun env1 S1 => tt env1 S1 fun b S2 => ifB b (te env1 S2 fun y S3 => onI y fun k => sumG g tt te env0 ws S3 (z + k) Kp) (sumG g tt te env0 ws S2 z Kp)
def dSumG (di : DI) (g : DG) (tt : DT) (te : DE) (vs : List Nat) : DE := fun env S Kp => di env S fun ws S1 => sumG g tt te (wipeD env vs) ws S1 0 fun k S2 => Kp (.fz (.int k)) S2
section
variable {X : Cx} {Ξ : Xt} {elt tg iter : Expr} {ifs : List Expr} {scope : Scope} {ow : List (Str × Nat)} {pos pp gpos : Pos} {di : DI} {g : TG} {dg : DG} {tt : DT} {te : DE} {cdv : Value} {k : Nat}
theorem imp_sum {p : Addr} (vs : List Nat) (lk : Lk X.K g dg vs) {F : Fx} (tp : F.T p) (σ : L2.St) (H : Hp) (Q : VK) (h : lE X.K F (dSumG di dg tt te vs) σ H Q) : tSumX p (lI X.K F di) g (lT X.K F tt) (lE X.K F te) vs σ H Q := by
  obtain ⟨B, m, S, env, Kp, cf, er, h, k⟩ := h
  refine ⟨B, m, S, env, _, cf, er, h, fun ws S1 h1 J H1 B1 m1 n1 J1 => ⟨(n1.cf.tab p tp).1, fun H2 tb => ?_⟩⟩
  have n2 := n1.trans (n1.cf.tabbed tp tb)
  have er0 : ER X.K B1 m1 (wipeD env vs) (wipe σ vs) := (er.nx n1).wipe vs
  refine ⟨fun i n z G => n = ws.length - i ∧ i ≤ ws.length ∧ ∃ (B2 : Hp) (m2 : List Addr) (S2 : Sto), Nx X.K F B m H B2 m2 S2 G ∧ Sub B1 B2 ∧ Pre m1 m2 ∧ sumG dg tt te (wipeD env vs) (ws.drop i) S2 z fun k S2 => Kp (.fz (.int k)) S2, ⟨_, rfl, Nat.zero_le _, B1, m1, S1, n2, .refl, .refl, by rw [List.drop_zero]; exact h1⟩, ?_⟩
  rintro i n z G ⟨en, hi, B2, m2, S2, n3, sb, pr, h2⟩
  by_cases hlt : i < ws.length
  · obtain ⟨hgo, hy⟩ := J1.go B2 m2 S2 G n3.cf sb pr i ws[i] (List.getElem?_eq_getElem hlt)
    rw [List.drop_eq_getElem_cons hlt] at h2
    refine .inr ⟨hgo, fun y G' => ∃ (B2 : Hp) (m2 : List Addr) (S2 : Sto), Nx X.K F B m H B2 m2 S2 G' ∧ Sub B1 B2 ∧ Pre m1 m2 ∧ sumG dg tt te (wipeD env vs) (ws.drop (i + 1)) S2 y fun k S2 => Kp (.fz (.int k)) S2, fun y G' q => ⟨_, ?_, rfl, hlt, q⟩, fun x G3 y => ?_⟩
    · omega
    · obtain ⟨B3, n4, r3⟩ := hy x G3 y
      refine lk F B3 m2 S2 G3 (wipeD env vs) σ ws[i] x _ _ n4.cf (er0.mono (sb.trans n4.sb) (pr.trans n4.pr)) r3 h2 fun env4 S4 h4 σ4 hw4 G4 B4 m4 n5 er4 => ⟨hw4, ?_⟩
      refine ⟨B4, m4, S4, env4, _, n5.cf, er4, h4, fun b S5 h5 G5 B5 m5 n6 => ?_⟩
      have nn := n3.trans (n4.trans (n5.trans n6))
      have sb' := sb.trans (n4.sb.trans (n5.sb.trans n6.sb))
      have pr' := pr.trans (n4.pr.trans (n5.pr.trans n6.pr))
      replace h5 := ifB_if h5
      cases b with
      | false =>
        rw [if_neg Bool.false_ne_true] at h5
        show if false = true then _ else _
        rw [if_neg Bool.false_ne_true]
        exact ⟨B5, m5, S5, nn, sb', pr', h5⟩
      | true =>
        rw [if_pos rfl] at h5
        show if true = true then _ else _
        rw [if_pos rfl]
        refine ⟨B5, m5, S5, env4, _, n6.cf, er4.nx n6, h5, fun u S6 h6 v G6 B6 m6 n7 r6 => ?_⟩
        obtain ⟨q, eq, h7⟩ := onI_ex h6
        subst eq
        exact ⟨q, r6.int_of, B6, m6, S6, nn.trans n7, sb'.trans n7.sb, pr'.trans n7.pr, h7⟩
  · have e : i = ws.length := by omega
    subst e
    rw [List.drop_length] at h2
    exact .inl ⟨J1.stop B2 m2 S2 G n3.cf sb pr, k _ _ h2 _ _ _ _ n3 (.fz .int)⟩
/-- sum(elt for tg in iter if ..) -/
theorem dpe_sum (gn : GnC X.base X.mg Ξ.T X.env.code) (hr : Room k X.A) (bi : Bi X.mg) (lk : Lk X.K g dg (ow.map (·.2))) (hc : X.calm = true) (hN : X.N.Nodup) (hi : DPI X Ξ tg iter di) (bk : BlkOk X.N X.env.scope scope ow) (hcell : (scope.names.all fun y => y.2 != .cell) = true)
    (pg : ∀ (s : Shared) (H : Hp) (cl : List (Str × Addr)) (C : Addr) (code : Value) (fp : List Addr) (pn : List (Addr × Obj)), PG (gex X s H (genEnv scope cl C code builtinsNs X.env) fp pn) tg g)
    (pt : ∀ (s : Shared) (H : Hp) (cl : List (Str × Addr)) (C : Addr) (code : Value) (fp : List Addr) (pn : List (Addr × Obj)), DPTs (gex X s H (genEnv scope cl C code builtinsNs X.env) fp pn) Ξ.nox ifs tt)
    (pe : ∀ (s : Shared) (H : Hp) (cl : List (Str × Addr)) (C : Addr) (code : Value) (fp : List Addr) (pn : List (Addr × Obj)), DPE (gex X s H (genEnv scope cl C code builtinsNs X.env) fp pn) Ξ.nox elt te)
    (hg : Gl X "sum" := by rfl) (h0 : scope.names.lookup (".0" : Str) = some NameKind.local := by rfl) (hco : scope.isCoroutine = false := by rfl) (hs : ∀ v, genFold iter X.env v = pure v := by intro _; rfl)
    (he : starEach [.GeneratorExp elt [⟨tg, iter, ifs, 0⟩] scope gpos] X.env = (false, eval (.GeneratorExp elt [⟨tg, iter, ifs, 0⟩] scope gpos) X.env) :: starEach [] X.env := by rfl) :
    DPE X Ξ (.Call (.Name "sum" pp) [.GeneratorExp elt [⟨tg, iter, ifs, 0⟩] scope gpos] [] pos) (dSumG di dg tt te (ow.map (·.2))) := by
  obtain ⟨c, p, hcode, tb, tp⟩ := gn
  refine ⟨fun F okf => PE.imp (pe_sumX hr hc hN hg bi.sum tb hcode (hi.run F okf) bk (fun y hy z => ?_) h0 hco pg (fun s H cl C code fp pn => (pt s H cl C code fp pn).run F okf.nox) (fun s H cl C code fp pn => (pe s H cl C code fp pn).run F okf.nox) hs he) (imp_sum _ lk (by rw [okf.t]; exact tp))⟩
  have := List.all_eq_true.mp hcell y hy
  rw [z] at this
  cases this
end
end DL
/-! DG5: defs that return a new list that may change, or any other data -/
namespace DL
open PySem PySem.Spec PyProof.Rows L2
def outM (d : D) (Kp : WK) : Prop := match lstD d with
  | some es => Kp (.hd 0) [.lst (es.map .fz)]
  | none => Kp (.fz d) []
def psM (P : PSp) : DSp := fun ws S Kp => ∃ ds, ws = ds.map W.fz ∧ S = [] ∧ P ds fun d => outM d Kp
abbrev CalM (P : Program) (w : World) (K : PySem.W.Frag) (T : Addr → Prop) (mg : Str → Option Value) (base : Heap) (k : Nat) (x : Str) (ps : PSp) : Prop := CalD P w K T mg base k x (psM ps)
def outN (d : D) (S1 : Sto) (Kp : WK) : Prop := match lstD d with
  | some es => Kp (.hd S1.length) (S1 ++ [.lst (es.map .fz)])
  | none => Kp (.fz d) S1
def dCallM (P : PSp) (da : DA) : DE := fun env S Kp => da env S fun ws S1 => onO (fzL ws) fun ds => P ds fun d => outN d S1 Kp
def MK (Kp : WK) (S : Sto) : WK := fun w S2 => match w, S2 with
  | .hd 0, [.lst ws] => onO (fzL ws) fun es => Kp (.hd S.length) (S ++ [.lst (es.map .fz)])
  | .fz d, [] => Kp (.fz d) S
  | _, _ => False
theorem MK_ok {Kp : WK} {S : Sto} {w : W} {S2 : Sto} (h : MK Kp S w S2) : (∃ es : List D, w = .hd 0 ∧ S2 = [.lst (es.map .fz)] ∧ Kp (.hd S.length) (S ++ [.lst (es.map .fz)])) ∨ ∃ d, w = .fz d ∧ S2 = [] ∧ Kp (.fz d) S := by
  unfold MK at h
  split at h
  · obtain ⟨es, e, h⟩ := onO_ex h
    exact .inl ⟨es, rfl, by rw [fzL_eq e], h⟩
  · exact .inr ⟨_, rfl, rfl, h⟩
  · cases h
section
variable {X : Cx} {Ξ : Xt} {k j : Nat} {x : Str} {P : PSp} {p pos : Pos} {e : Expr} {es : List Expr} {da : DA}
theorem psp_mono_M {Kp : WK} {S1 : Sto} {P : PSp} {ds : List D} (hP : ∀ (ds : List D) (A B : D → Prop), (∀ d, A d → B d) → P ds A → P ds B) (h : P ds fun d => outN d S1 Kp) :
    P ds fun d => outM d (MK Kp S1) := hP _ _ _ (fun d h => by
  unfold outN at h
  unfold outM
  split at h
  · exact onO_fz h
  · exact h) h
theorem dpe_callM (hP : ∀ (ds : List D) (A B : D → Prop), (∀ d, A d → B d) → P ds A → P ds B) (c : CalM X.prog X.w X.K Ξ.T X.mg X.base k x P) (hr : Room j X.A) (hk : k ≤ j) (hg : Gl X x) (ha : DPA X Ξ (e :: es) da)
    (hdb : (x == ("__debug__" : Str)) = false := by decide) (he : starEach (e :: es) X.env = (false, eval e X.env) :: starEach es X.env := by rfl) (hpl : (backTo pos (starEach es X.env)).any (·.1) = false := by rfl) :
    DPE X Ξ (.Call (.Name x p) (e :: es) [] pos) (dCallM P da) := ⟨fun F ok => PE.imp (C8.pe_c c hr hk hg (ha.run F ok) hdb he hpl) fun σ H Q h => by
  obtain ⟨B, m, S, env, Kp, cf, er, h, kw⟩ := h
  refine ⟨B, m, S, env, _, cf, er, h, fun ws S1 h0 vs H1 B1 m1 n1 r => ?_⟩
  obtain ⟨ds, e1, h1⟩ := onO_ex h0
  replace e1 := fzL_eq e1
  show spD X.K Ξ.T (psM P) (vs ++ []) H1 Q E0
  rw [← ok.t]
  rw [List.append_nil]
  subst e1
  have c0 := n1.cf.lend (k := 0) (lent := []) (Nat.zero_le _) rfl
  refine ⟨B1, m1.take 0, ds.map W.fz, [], MK Kp S1, c0, (r.fz).fz, ⟨ds, rfl, rfl, psp_mono_M hP h1⟩, fun w S2 h20 v H2 B2 m2 n2 r2 => ?_⟩
  have n3 := n1.cf.back (Nat.zero_le _) n2
  have r3 := r2.ren (k := 0) (S := S1) (m := m1) (Nat.zero_le _) n1.cf.len n2.pr
  rcases MK_ok h20 with ⟨es, ew, eS, h2⟩ | ⟨d, ew, eS, h2⟩
  · subst eS; subst ew
    have e3 : mrg 0 S1 [.lst (es.map .fz)] = S1 ++ [.lst (es.map .fz)] := by
      unfold mrg
      simp only [List.take_zero, List.map_nil, List.nil_append, List.drop_zero, List.map_cons, renOD, renL_fz]
    rw [e3] at n3
    have e4 : DL.ren 0 S1.length (.hd 0) = .hd S1.length := rfl
    rw [e4] at r3
    exact kw _ _ h2 _ _ _ _ (n1.trans n3) r3
  · subst eS; subst ew
    have e3 : mrg 0 S1 [] = S1 := by
      unfold mrg
      simp
    rw [e3] at n3
    exact kw _ _ h2 _ _ _ _ (n1.trans n3) r3⟩
end
/-- where such a def returns -/
def retM (Kp : D → Prop) (u : W) (S' : Sto) : Prop := match u with
  | .hd j => onO (lstAt S' j) fun ws => onO (fzL ws) fun ds => Kp (.lst ds)
  | .fz d => lstD d = none ∧ Kp d
  | _ => False
theorem retM_ex {Kp : D → Prop} {u : W} {S' : Sto} (h : retM Kp u S') : (∃ (j : Nat) (ds : List D), u = .hd j ∧ S'[j]? = some (.lst (ds.map .fz)) ∧ Kp (.lst ds)) ∨ ∃ d, u = .fz d ∧ lstD d = none ∧ Kp d := by
  unfold retM at h
  split at h
  · obtain ⟨ws, e1, h⟩ := onO_ex h
    obtain ⟨ds, e2, h⟩ := onO_ex h
    exact .inl ⟨_, ds, rfl, by rw [lstAt_eq e1, fzL_eq e2], h⟩
  · exact .inr ⟨_, rfl, h.1, h.2⟩
  · exact h.elim
section
variable {P : Program} {w : World} {K : PySem.W.Frag} {T : Addr → Prop} {mg : Str → Option Value} {base : Heap}
theorem Df.calMG {x : Str} {st : Stmt} {N ps : List Str} {k : Nat} {Q : PSp} {ds : DS} (D : Df K mg x st) (G : Gn K T mg base x) (hb : ∀ (kV doc pm : Value) (an : Option Addr) (cdv ct : Value) (us : List Value), us.length = ps.length → bindArgs (PySem.W.fnOf x x (C8.fnArgs st) (C8.fnBody st) (C8.fnScope st) .none kV doc pm an cdv ct) ⟨us, []⟩ = pure (ps.zip us))
    (S : FnScope N ps (C8.fnScope st)) (len : ∀ xs Kp, Q xs Kp → xs.length = ps.length)
    (hbody : ∀ (f : Addr) (cdv : Value) (A : Around) (outer : List Env) (s : Shared) (H : Hp) (E : XK), GnC base mg T cdv → Room k (A.deeper (envOfC x (C8.fnScope st) s.heap.objs.size f cdv)) → DPSs (cxOf CX0 P w K mg base N x (C8.fnScope st) f cdv A outer s H E).nox (Xt.of T) (C8.fnBody st) ds)
    (hread : ∀ xs Kp, Q xs Kp → ds ⟨fun _ _ => Kp .non, fun u S' => retM Kp u S', fun _ _ => False, fun _ _ => False⟩ (startD N (xs.map W.fz)) []) : CalM P w K T mg base (k + 1) x Q := by
  obtain ⟨f, fd, F, df⟩ := D.ex
  obtain ⟨c, p, tb, tp, hc⟩ := G.ex
  have b := F.fn.binds df hb
  obtain ⟨oc, od, dV, kV, doc, pm, an, cdv, ct, osl, rfl, lk, hcd⟩ := F.fn.ex
  have e : cdv = .ref c := hc f oc od _ osl F.mgf lk
  refine ⟨f, _, ps, [], ?_, F.mgf, F.kp, b, .nil⟩
  refine fn_of lk hcd S (fun vs H Q' E ⟨B, L, ws, lent, Kp, _, r, ⟨xs, e, _, h⟩, _⟩ => by rw [← r.length, e, List.length_map]; exact len _ _ h) fun A outer s H vs Q' E hr ⟨B, L, ws, lent, Kp, c0, r, ⟨xs, e1, e2, h⟩, kw⟩ => ?_
  subst e1; subst e2
  have hL : L = [] := List.eq_nil_of_length_eq_zero c0.len
  subst hL
  refine ⟨_, ((hbody f cdv A outer s H E ⟨c, p, e, tb, tp⟩ hr).run ⟨B, H, [], T⟩ (.of rfl)).nox, B, [], [], _, _, c0, ER.start r, hread xs _ h, ?_, ?_, fun _ _ z => z.elim, fun _ _ z => z.elim⟩
  · rintro env S' hk σ' H' B' m' n er
    have n2 := Nx.cut (S1 := []) (S2 := S') n (Nat.le_refl _) rfl (Nat.le_refl _)
    rw [List.length_nil, List.take_zero] at n2
    exact kw _ _ hk _ _ _ _ n2 (.fz .non)
  · rintro u S' hk0 v H' B' m' n r'
    have hk1 : retM (fun d => outM d Kp) u S' := hk0
    rcases retM_ex hk1 with ⟨j, ds, eu, eS, hk⟩ | ⟨d, eu, ed, hk⟩
    · subst eu
      obtain ⟨a, n2, ev⟩ := n.pick rfl eS r'
      subst ev
      exact kw _ _ hk _ _ _ _ n2 (.hd rfl)
    · subst eu
      obtain ⟨B2, c2, sb2, r2⟩ := n.cf.freeze (d := d) rfl r' rfl
      unfold outM at hk
      rw [ed] at hk
      exact kw _ _ hk _ _ _ _ ⟨c2, n.sb.trans sb2, .refl, n.kp, fun _ _ h => .inl h, n.dm, fun a o e => (c2.bnew a o e).imp id .inl⟩ (.fz r2)
end
theorem retM_last {Kp : D → Prop} {S : Sto} {ds : List D} (h : Kp (.lst ds)) : retM Kp (.hd S.length) (S ++ [.lst (ds.map .fz)]) := lstAt_last (onO_fz h)
end DL
/-! DC3: x in a list of data -/
namespace DL
open PySem PySem.Spec PyProof.Rows L2
theorem any_toPyL (a : D) : ∀ ds : List D, ((toPyL ds).any fun z => PyData.eqv z (toPy a)) = ds.any fun z => eqD z a
  | [] => by rw [toPyL]; rfl
  | d :: ds => by
    rw [toPyL, List.any_cons, List.any_cons, any_toPyL a ds]
    rfl
def inLW : DR2 := fun x y S Kp => onO (dW S x) fun a => onO (dW S y) fun b => match b with
  | .lst ds => (okD 60 a = true ∧ okD 60 (.lst ds) = true ∧ SeqAt.shaped (toPy a) = true ∧ SeqAt.shaped (toPy (.lst ds)) = true) ∧ Kp (.fz (.bl (ds.any fun z => eqD z a))) S
  | _ => False
section
variable {X : Cx} {Ξ : Xt} {a b : Expr} {da db : DE} {pos : Pos} {k : Nat}
theorem od_inL (hu : X.A.units + 65 < cLine) : OpD X (compareOp .In) inLW := fun F => OpR.imp (op_inD hu) fun x y H Q ⟨B, m, S, wx, wy, Kp, cf, rx, ry, h0, k⟩ => by
  obtain ⟨a, h1, h0⟩ := onO_ex h0
  obtain ⟨b, h2, h⟩ := onO_ex h0
  split at h
  · rename_i ds
    obtain ⟨⟨h3, h4, h5, h6⟩, h⟩ := h
    have e : toPy (.lst ds) = .list (toPyL ds) := by rw [toPy]
    have hb := (dW_ok cf ry h2).dp _ h4
    rw [e] at hb h6
    refine ⟨toPy a, toPyL ds, (dW_ok cf rx h1).dp _ h3, hb, h5, h6, ?_⟩
    rw [any_toPyL]
    exact k.here cf h (.fz .bl)
  · exact h.elim
theorem e_inL (hr : Room k X.A) (ha : DPE X Ξ a da) (hb : DPE X Ξ b db) (hm : behindInMarks .In b = false := by with_unfolding_all rfl) : DPE X Ξ (.Compare a [.In] [b] pos) (dOp inLW da db) := dpe_cmp (od_inL (by have := hr.un; omega)) ha hb hm
theorem c_inL (hr : Room k X.A) (ha : DPE X Ξ a da) (hb : DPE X Ξ b db) (hm : behindInMarks .In b = false := by with_unfolding_all rfl) : DPT X Ξ (.Compare a [.In] [b] pos) (dTst (dOp inLW da db)) := dpt_cmp (od_inL (by have := hr.un; omega)) ha hb hm
end
end DL
/-! M1: the mathematics of values and digests -/
namespace DL
open PySem PySem.Spec PyProof.Rows L2

def codes (x : Str) : List Int := x.cps.toList.map fun c => ((c : Nat) : Int)
mutual
def enc : D → List Int
  | .str x => 1 :: (x.length : Int) :: codes x
  | .tup ds => 2 :: (ds.length : Int) :: encL ds
  | .int i => [0, i]
  | _ => []
def encL : List D → List Int
  | [] => []
  | d :: ds => enc d ++ encL ds
end
mutual
/-- a value of the document: its depth below n -/
def isVal : Nat → D → Bool
  | _ + 1, .int _ => true
  | _ + 1, .str x => decide (x.length ≤ 1000)
  | n + 1, .tup ds => decide (ds.length ≤ 1000) && isValL n ds
  | _, _ => false
def isValL : Nat → List D → Bool
  | _, [] => true
  | n, d :: ds => isVal n d && isValL n ds
end
def intsD (ns : List Int) : D := .lst (ns.map .int)
def spEncode (n : Nat) : PSp := fun ds Q => ∃ d, ds = [d] ∧ isVal n d = true ∧ (enc d).length ≤ 10000 ∧ Q (intsD (enc d))
def digI (b m : Int) (ns : List Int) : Int := ((ns.foldl (fun f n => (f * b + n + 1) % m) (1 % m)) * b + (ns.length : Int)) % m
def dig (b m : Int) (v : D) : Int := digI b m (enc v)
/-- a rule -/
def isRule (b m : Int) : Prop := 1 ≤ b ∧ b ≤ 10 ^ 18 ∧ 2 ≤ m ∧ m ≤ 10 ^ 18
def ruleD (b m : Int) : D := .tup [.int b, .int m]
def okVal (n : Nat) (d : D) : Prop := isVal n d = true ∧ (enc d).length ≤ 10000
def spDigest : PSp := fun ds Q => ∃ b m v, ds = [ruleD b m, v] ∧ isRule b m ∧ okVal 8 v ∧ Q (.int (dig b m v))
theorem isRule.mul {b m : Int} (h : isRule b m) (i : Int) : CMulX i b := by
  have e : (10 : Int) ^ 18 < 2 ^ 64 := by decide
  obtain ⟨h1, h2, _⟩ := h
  exact mulR' (by constructor <;> omega)
/-- the signs of keys -/
def sign (c : Nat) : Bool := (decide (97 ≤ c) && decide (c ≤ 122)) || (decide (48 ≤ c) && decide (c ≤ 57))
def isKey (x : Str) : Prop := 1 ≤ x.cps.toList.length ∧ x.cps.toList.length ≤ 8 ∧ x.cps.toList.all sign = true
theorem app_l (x y : Str) : (x ++ y).cps.toList = x.cps.toList ++ y.cps.toList := by
  show (x.cps ++ y.cps).toList = _
  simp
theorem all_sign {x : Str} {i : Nat} {c : Nat} (h : x.cps.toList.all sign = true) (e : x.cps.toList[i]? = some c) : ([c] : List Nat).all sign = true := by
  have := List.all_eq_true.mp h c (List.mem_of_getElem? e)
  simp [this]
theorem isKey1 {c : Nat} (h : ([c] : List Nat).all sign = true) : isKey ⟨#[c]⟩ := ⟨by simp, by simp, h⟩
theorem isKey2 {c d : Nat} (h : ([c] : List Nat).all sign = true) (g : ([d] : List Nat).all sign = true) : isKey ((⟨#[c]⟩ : Str) ++ ⟨#[d]⟩) := by
  have e : ((⟨#[c]⟩ : Str) ++ ⟨#[d]⟩).cps.toList = [c] ++ [d] := app_l _ _
  exact ⟨by rw [e]; simp, by rw [e]; simp, by rw [e, List.all_append, h, g]; rfl⟩
def isRow (r : List Int) : Prop := 1 ≤ r.length ∧ r.length ≤ 3 ∧ ∀ i ∈ r, 0 ≤ i ∧ i ≤ 65535
def rowD (r : List Int) : D := .tup (r.map .int)
theorem row_of : ∀ ds : List D, (∀ d ∈ ds, ∃ i : Int, 0 ≤ i ∧ i ≤ 65535 ∧ d = .int i) → ∃ r : List Int, ds = r.map D.int ∧ ∀ i ∈ r, 0 ≤ i ∧ i ≤ 65535
  | [], _ => ⟨[], rfl, by simp⟩
  | d :: ds, h => by
    obtain ⟨i, h0, h1, rfl⟩ := h d List.mem_cons_self
    obtain ⟨r, e, hr⟩ := row_of ds fun x hx => h x (List.mem_cons_of_mem _ hx)
    subst e
    refine ⟨i :: r, rfl, fun j hj => ?_⟩
    rcases List.mem_cons.mp hj with q | q
    · subst q; exact ⟨h0, h1⟩
    · exact hr j q
theorem newL_scr {ns : List Int} {S : Sto} {Kp : WK} (h : Kp (.fz (intsD ns)) S) : newL false (ns.map fun n => W.fz (.int n)) S Kp := by
  have e : (ns.map fun n => W.fz (D.int n)) = (ns.map D.int).map W.fz := by simp
  rw [e]
  exact newL_F h
theorem onO_scr {ns : List Int} {k : List D → Prop} (h : k (ns.map .int)) : onO (fzL (ns.map fun n => W.fz (.int n))) k := by
  have e : (ns.map fun n => W.fz (D.int n)) = (ns.map D.int).map W.fz := by simp
  rw [e, fzL_map]
  exact h
theorem onO_fzL {ds : List D} {k : List D → Prop} (h : k ds) : onO (fzL (ds.map W.fz)) k := by
  rw [fzL_map]
  exact h
theorem ifB_ne {a b : D} {A B : Prop} (h : eqD a b = true) (k : B) : ifB (!eqD a b) A B := by rw [h]; exact k
theorem ifB_T {b : Bool} {A B : Prop} (h : b = true) (k : A) : ifB b A B := by rw [h]; exact k
theorem ifB_F {b : Bool} {A B : Prop} (h : b = false) (k : B) : ifB b A B := by rw [h]; exact k
theorem dig_range {b m : Int} (h : isRule b m) (v : D) : 0 ≤ dig b m v ∧ dig b m v < m := by
  have hm : 0 < m := by have := h.2.2.1; omega
  exact ⟨Int.emod_nonneg _ (by omega), Int.emod_lt_of_pos _ hm⟩
theorem eqD_int (i : Int) : eqD (.int i) (.int i) = true := by simp [eqD, toPy, PyData.eqv]
theorem enc_str (x : Str) : (enc (.str x)).length = 2 + x.cps.toList.length := by simp [enc, codes]; omega
theorem encL_ints : ∀ r : List Int, (encL (r.map D.int)).length = 2 * r.length
  | [] => rfl
  | i :: r => by
    simp only [List.map_cons, encL, List.length_append, encL_ints r, enc, List.length_cons, List.length_nil]
    omega
theorem enc_row (r : List Int) : (enc (rowD r)).length = 2 + 2 * r.length := by
  simp only [rowD, enc, List.length_cons, encL_ints]
  omega
theorem isValL_ints (n : Nat) : ∀ r : List Int, isValL (n + 1) (r.map D.int) = true
  | [] => rfl
  | i :: r => by
    simp only [List.map_cons, isValL, isVal, isValL_ints n r, Bool.and_self]
theorem okVal_node {k : Str} {r : List Int} (hk : isKey k) (hr : isRow r) (x y : Int) : okVal 8 (.tup [.str "node", .str k, rowD r, .tup [.int x, .int y, .tup [.int 0, .int 1, .int 2]]]) := by
  obtain ⟨h1, h2, _⟩ := hk
  obtain ⟨h3, h4, _⟩ := hr
  refine ⟨?_, ?_⟩
  · have e1 : k.length ≤ 1000 := by
      have : k.length = k.cps.toList.length := by simp [Str.length]
      omega
    have e2 : (r.map D.int).length ≤ 1000 := by rw [List.length_map]; omega
    have e3 : ("node" : Str).length ≤ 1000 := by decide
    simp only [isVal, isValL, rowD, decide_eq_true e1, decide_eq_true e2, decide_eq_true e3, isValL_ints, Bool.and_true, Bool.true_and, List.length_cons, List.length_nil]
    rfl
  · have e := enc_row r
    have e4 := enc_str k
    have e5 : (enc (.str "node")).length = 6 := by decide
    have e6 : (enc (.tup [.int x, .int y, .tup [.int 0, .int 1, .int 2]])).length = 14 := rfl
    show (2 :: 4 :: (enc (.str "node") ++ (enc (.str k) ++ (enc (rowD r) ++ (enc (.tup [.int x, .int y, .tup [.int 0, .int 1, .int 2]]) ++ []))))).length ≤ _
    simp only [List.length_append, List.length_cons, List.length_nil, e, e4, e5, e6]
    omega
theorem okVal_key {k : Str} (hk : isKey k) : okVal 8 (.str k) := by
  obtain ⟨h1, h2, _⟩ := hk
  have e : k.length = k.cps.toList.length := by simp [Str.length]
  have e4 := enc_str k
  exact ⟨by simp only [isVal, decide_eq_true_eq]; omega, by omega⟩
theorem isRule.pos {b m : Int} (h : isRule b m) : 0 < m := by have := h.2.2.1; omega
end DL
/-! M2: tables -/
namespace DL
open PySem PySem.Spec PyProof.Rows L2

mutual
theorem eqv_refl : ∀ d : D, PyData.eqv (toPy d) (toPy d) = true
  | .non => rfl
  | .bl b => by show (b == b) = true; simp
  | .int i => by show (i == i) = true; simp
  | .str x => by show (x == x) = true; simp
  | .tup ds => eqvL_refl ds
  | .lst ds => eqvL_refl ds
  | .obj _ _ => rfl
  | .scr _ => rfl
  | .ty _ => rfl
theorem eqvL_refl : ∀ ds : List D, PyData.eqvAll (toPyL ds) (toPyL ds) = true
  | [] => rfl
  | d :: ds => by
    show (PyData.eqv (toPy d) (toPy d) && PyData.eqvAll (toPyL ds) (toPyL ds)) = true
    rw [eqv_refl d, eqvL_refl ds]
    rfl
end
theorem eqD_refl (d : D) : eqD d d = true := eqv_refl d
theorem eqD_str (a b : Str) : eqD (.str a) (.str b) = decide (a = b) := by
  show (a == b) = _
  by_cases h : a = b
  · subst h; simp
  · simp [h]
/-! ### tables -/
abbrev Tab := List (Str × List Int)
def tabR (r : Str × List Int) : D := .tup [.str r.1, rowD r.2]
def tabD (rows : Tab) : D := .lst (rows.map tabR)
def isTab (rows : Tab) : Prop := rows.Pairwise (fun a b => strLt a.1 b.1 = true) ∧ ∀ r ∈ rows, isKey r.1 ∧ isRow r.2
def kvF (r : Str × List Int) : Key × W := (.inr r.1, .fz (rowD r.2))
theorem put_tab (rows : Tab) (k : Str) (r : List Int) (h : (rows.map (·.1)).Nodup) : ∃ rows' : Tab, putW (rows.map kvF) (.inr k) (.fz (rowD r)) = rows'.map kvF ∧ (rows'.map (·.1)).Nodup ∧ (∀ x ∈ rows', x ∈ rows ∨ x = (k, r)) ∧ rows'.length ≤ rows.length + 1 := by
  by_cases hk : k ∈ rows.map (·.1)
  · refine ⟨rows.map fun p => if p.1 = k then (p.1, r) else p, ?_, ?_, fun x hx => ?_, by rw [List.length_map]; exact Nat.le_succ _⟩
    · unfold putW
      rw [if_pos]
      · rw [List.map_map, List.map_map]
        refine List.map_congr_left fun p _ => ?_
        show (if (kvF p).1 = Sum.inr k then ((kvF p).1, W.fz (rowD r)) else kvF p) = kvF (if p.1 = k then (p.1, r) else p)
        by_cases e : p.1 = k
        · have e2 : (kvF p).1 = Sum.inr k := by show Sum.inr p.1 = _; rw [e]
          rw [if_pos e, if_pos e2]; rfl
        · have e2 : ¬ (kvF p).1 = Sum.inr k := fun z => e (Sum.inr.inj z)
          rw [if_neg e, if_neg e2]
      · obtain ⟨p, hp, e⟩ := List.mem_map.mp hk
        exact List.any_eq_true.mpr ⟨kvF p, List.mem_map_of_mem hp, decide_eq_true (by show Sum.inr p.1 = _; rw [e])⟩
    · rw [List.map_map]
      have : ((fun x : Str × List Int => x.1) ∘ fun p : Str × List Int => if p.1 = k then (p.1, r) else p) = fun x => x.1 := by
        funext p
        show (if p.1 = k then (p.1, r) else p).1 = p.1
        split <;> rfl
      rw [this]
      exact h
    · obtain ⟨p, hp, e⟩ := List.mem_map.mp hx
      split at e
      · rename_i ek
        exact .inr (by rw [← e, ek])
      · exact .inl (e ▸ hp)
  · refine ⟨rows ++ [(k, r)], ?_, ?_, fun x hx => ?_, by rw [List.length_append]; exact Nat.le_refl _⟩
    · unfold putW
      rw [if_neg, List.map_append]
      · rfl
      · intro z
        obtain ⟨p, hp, e⟩ := List.any_eq_true.mp z
        obtain ⟨q, hq, rfl⟩ := List.mem_map.mp hp
        have e2 : Sum.inr q.1 = (Sum.inr k : Key) := of_decide_eq_true e
        exact hk (List.mem_map.mpr ⟨q, hq, Sum.inr.inj e2⟩)
    · rw [List.map_append, List.nodup_append]
      refine ⟨h, by simp, fun a ha b hb => ?_⟩
      simp at hb
      subst hb
      intro e
      exact hk (e ▸ ha)
    · rcases List.mem_append.mp hx with hx | hx
      · exact .inl hx
      · exact .inr (List.mem_singleton.mp hx)
theorem keysS_tab : ∀ rows : Tab, keysS (rows.map kvF) = some (rows.map (·.1))
  | [] => rfl
  | r :: rows => by show (keysS (rows.map kvF)).map (r.1 :: ·) = _; rw [keysS_tab rows]; rfl
def getT (rows : Tab) (k : Str) : List Int := ((rows.find? fun r => decide (r.1 = k)).map (·.2)).getD []
theorem valW_tab {k : Str} : ∀ {rows : Tab}, k ∈ rows.map (·.1) → valW (rows.map kvF) (.inr k) = some (.fz (rowD (getT rows k)))
  | [], h => by simp at h
  | r :: rows, h => by
    by_cases e : r.1 = k
    · have : getT (r :: rows) k = r.2 := by unfold getT; rw [List.find?_cons_of_pos (by simpa using e)]; rfl
      rw [this]
      unfold valW
      rw [List.map_cons, List.find?_cons_of_pos (by exact decide_eq_true (show Sum.inr r.1 = (Sum.inr k : Key) by rw [e]))]
      rfl
    · have e1 : getT (r :: rows) k = getT rows k := by unfold getT; rw [List.find?_cons_of_neg (by simpa using e)]
      rw [e1, ← valW_tab (rows := rows) ((List.mem_cons.mp h).resolve_left fun z => e z.symm)]
      unfold valW
      rw [List.map_cons, List.find?_cons_of_neg]
      intro z
      have e2 : Sum.inr r.1 = (Sum.inr k : Key) := of_decide_eq_true z
      exact e (Sum.inr.inj e2)
theorem getT_mem {k : Str} {rows : Tab} (h : k ∈ rows.map (·.1)) : (k, getT rows k) ∈ rows := by
  obtain ⟨r, hr, e⟩ := List.mem_map.mp h
  unfold getT
  cases q : rows.find? fun r => decide (r.1 = k) with
  | none =>
    have := List.find?_eq_none.mp q r hr
    simp [e] at this
  | some s =>
    have h1 := List.mem_of_find?_eq_some q
    have h3 := List.find?_some q
    have h2 : s.1 = k := of_decide_eq_true h3
    show (k, s.2) ∈ rows
    rw [← h2]
    exact h1
theorem risingS_le : ∀ (p : Str) (l : List Str), risingS p l = true → (p :: l).Pairwise fun a b => strLt b a = false
  | p, [], _ => List.pairwise_singleton _ _
  | p, x :: r, h => by
    simp only [risingS, Bool.and_eq_true, Bool.not_eq_true'] at h
    have ih := risingS_le x r h.2
    have h1 : strLt x p = false := by rw [strLt_eq]; exact h.1
    refine List.pairwise_cons.mpr ⟨fun y hy => ?_, ih⟩
    rcases List.mem_cons.mp hy with rfl | hy
    · exact h1
    · exact strLt_neg_trans h1 ((List.pairwise_cons.mp ih).1 y hy)
theorem sortedS_lt {l : List Str} (h : sortedS l = true) (hn : l.Nodup) : l.Pairwise fun a b => strLt a b = true := by
  have h1 : l.Pairwise fun a b => strLt b a = false := by
    cases l with
    | nil => exact .nil
    | cons x r => exact risingS_le x r h
  refine (h1.and hn).imp fun {a b} h => ?_
  rcases strLt_or h.2 with q | q
  · exact q
  · rw [h.1] at q; cases q
/-- sorted keys with their rows are a table -/
theorem tab_of {rows : Tab} {ys : List Str} (hr : ∀ r ∈ rows, isKey r.1 ∧ isRow r.2) (hn : (rows.map (·.1)).Nodup) (pm : ys.Perm (rows.map (·.1))) (hs : sortedS ys = true) : isTab (ys.map fun y => (y, getT rows y)) := by
  refine ⟨List.pairwise_map.mpr (sortedS_lt hs (pm.nodup_iff.mpr hn)), fun r h => ?_⟩
  obtain ⟨y, hy, rfl⟩ := List.mem_map.mp h
  exact hr _ (getT_mem (pm.mem_iff.mp hy))
/-! ### two lists in strict order with the same items are equal -/
theorem strict_eq {α : Type} {lt : α → α → Prop} (as : ∀ x y, lt x y → ¬ lt y x) : ∀ {a b : List α}, a.Pairwise lt → b.Pairwise lt → a.Perm b → a = b
  | [], b, _, _, p => (List.nil_perm.mp p).symm
  | x :: a, [], _, _, p => by have := p.length_eq; simp at this
  | x :: a, y :: b, ha, hb, p => by
    obtain ⟨ha1, ha2⟩ := List.pairwise_cons.mp ha
    obtain ⟨hb1, hb2⟩ := List.pairwise_cons.mp hb
    have hx : x ∈ y :: b := p.mem_iff.mp List.mem_cons_self
    have hy : y ∈ x :: a := p.mem_iff.mpr List.mem_cons_self
    have e : x = y := by
      rcases List.mem_cons.mp hx with e | h1
      · exact e
      · rcases List.mem_cons.mp hy with e | h2
        · exact e.symm
        · exact absurd (ha1 y h2) (as _ _ (hb1 x h1))
    subst e
    rw [strict_eq as ha2 hb2 ((List.perm_cons x).mp p)]
/-! ### changes -/
inductive Ch where
  | put (k : Str) (r : List Int) | rem (k : Str)
def Ch.key : Ch → Str
  | .put k _ => k
  | .rem k => k
def chD : Ch → D
  | .put k r => .tup [.str "put", .str k, rowD r]
  | .rem k => .tup [.str "remove", .str k]
def isCh : Ch → Prop
  | .put k r => isKey k ∧ isRow r
  | .rem k => isKey k
def chMid : Ch → Tab
  | .put k r => [(k, r)]
  | .rem _ => []
def chg (rows : Tab) (c : Ch) : Tab := (rows.filter fun p => strLt p.1 c.key) ++ chMid c ++ rows.filter fun p => strLt c.key p.1
theorem chMid_key {c : Ch} {x : Str × List Int} (h : x ∈ chMid c) : x.1 = c.key := by
  cases c with
  | put k r => cases List.mem_singleton.mp h; rfl
  | rem k => cases h
theorem chg_tab {rows : Tab} {c : Ch} (h : isTab rows) (hc : isCh c) : isTab (chg rows c) := by
  refine ⟨?_, fun r hr => ?_⟩
  · unfold chg
    have pw : (chMid c).Pairwise fun a b => strLt a.1 b.1 = true := by cases c <;> simp [chMid]
    refine List.pairwise_append.mpr ⟨List.pairwise_append.mpr ⟨h.1.filter _, pw, fun a ha b hb => ?_⟩, h.1.filter _, fun a ha b hb => ?_⟩
    · rw [chMid_key hb]; exact (List.mem_filter.mp ha).2
    · have h2 := (List.mem_filter.mp hb).2
      rcases List.mem_append.mp ha with ha | ha
      · exact strLt_trans (List.mem_filter.mp ha).2 h2
      · rw [chMid_key ha]; exact h2
  · unfold chg at hr
    rcases List.mem_append.mp hr with hr | hr
    · rcases List.mem_append.mp hr with hr | hr
      · exact h.2 r (List.mem_filter.mp hr).1
      · cases c with
        | put k q => cases List.mem_singleton.mp hr; exact hc
        | rem k => cases hr
    · exact h.2 r (List.mem_filter.mp hr).1
theorem chMid_len (c : Ch) : (chMid c).length ≤ 1 := by cases c <;> simp [chMid]
theorem filt_split (rows : Tab) (k : Str) : ((rows.filter fun p => strLt p.1 k) ++ rows.filter fun p => strLt k p.1).Perm (rows.filter fun p => !decide (p.1 = k)) := by
  have e1 : (rows.filter fun p => strLt p.1 k) = (rows.filter fun p => !decide (p.1 = k)).filter fun p => strLt p.1 k := by
    rw [List.filter_filter]
    refine List.filter_congr fun p _ => ?_
    by_cases h : p.1 = k
    · simp [h, strLt_irrefl]
    · simp [h]
  have e2 : (rows.filter fun p => strLt k p.1) = (rows.filter fun p => !decide (p.1 = k)).filter fun p => !strLt p.1 k := by
    rw [List.filter_filter]
    refine List.filter_congr fun p _ => ?_
    by_cases h : p.1 = k
    · simp [h, strLt_irrefl]
    · rcases strLt_or h with q | q
      · simp [q, strLt_asym q, h]
      · simp [q, strLt_asym q, h]
  rw [e1, e2]
  exact List.filter_append_perm _ _
theorem chg_len (rows : Tab) (c : Ch) : (chg rows c).length ≤ rows.length + 1 := by
  have h1 := (filt_split rows c.key).length_eq
  have h2 : (rows.filter fun p => !decide (p.1 = c.key)).length ≤ rows.length := List.length_filter_le _ _
  have h3 := chMid_len c
  unfold chg
  rw [List.length_append, List.length_append]
  rw [List.length_append] at h1
  omega
/-- what changed_table sorts, as its sort sees it -/
def rowK (r : Str × List Int) : Str × List D := (r.1, [rowD r.2])
theorem chg_sorted {rows : Tab} {c : Ch} (h : isTab rows) (hc : isCh c) {rs : List (Str × List D)} (p : rs.Perm (((rows.filter fun p => !decide (p.1 = c.key)) ++ chMid c).map rowK)) (hs : rs.Pairwise fun a b => strLt a.1 b.1 = true) : rs = (chg rows c).map rowK := by
  refine strict_eq (fun x y h => by intro g; rw [strLt_asym h] at g; cases g) hs (List.pairwise_map.mpr (chg_tab h hc).1) (p.trans ?_)
  refine List.Perm.map _ ?_
  unfold chg
  refine ((filt_split rows c.key).symm.append_right _).trans ?_
  rw [List.append_assoc, List.append_assoc]
  exact List.Perm.append_left _ List.perm_append_comm
theorem left_nodup {rows : Tab} {c : Ch} (h : isTab rows) : ((((rows.filter fun p => !decide (p.1 = c.key)) ++ chMid c).map rowK).map (·.1)).Nodup := by
  rw [List.map_map, List.map_append]
  have e : ((fun x : Str × List D => x.1) ∘ rowK) = fun r : Str × List Int => r.1 := rfl
  rw [e, List.nodup_append]
  refine ⟨?_, ?_, fun a ha b hb => ?_⟩
  · refine List.pairwise_map.mpr ((h.1.filter _).imp fun {a b} h => strLt_ne h)
  · cases c <;> simp [chMid]
  · obtain ⟨x, hx, rfl⟩ := List.mem_map.mp ha
    obtain ⟨y, hy, rfl⟩ := List.mem_map.mp hb
    rw [chMid_key hy]
    have := (List.mem_filter.mp hx).2
    simpa using this
/-! ### tables as data -/
theorem sign_ok {l : List Nat} (h : l.all sign = true) : ∀ c ∈ l, c < 128 := fun c hc => by
  have := List.all_eq_true.mp h c hc
  simp [sign] at this
  omega
theorem key_ok {k : Str} (h : isKey k) : PyData.strOk k = true := by
  show (k.cps.all fun c => decide (c < 1114112)) = true
  rw [← Array.all_toList]
  exact List.all_eq_true.mpr fun c hc => decide_eq_true (by have := sign_ok h.2.2 c hc; omega)
theorem okDL_ints (n : Nat) : ∀ r : List Int, okDL n (r.map D.int) = true
  | [] => rfl
  | i :: r => by
    show (okD n (.int i) && okDL n (r.map D.int)) = true
    rw [okDL_ints n r]
    cases n <;> rfl
theorem ok_row (n : Nat) (r : List Int) : okD (n + 1) (rowD r) = true := okDL_ints n r
theorem ok_str {n : Nat} {x : Str} (h : PyData.strOk x = true) : okD n (.str x) = true := by cases n <;> exact h
theorem ok_tabR {n : Nat} {r : Str × List Int} (h : isKey r.1) : okD (n + 2) (tabR r) = true := by
  show (okD (n + 1) (.str r.1) && (okD (n + 1) (rowD r.2) && true)) = true
  rw [ok_str (key_ok h), ok_row]
  rfl
theorem okDL_of {n : Nat} : ∀ {ds : List D}, (∀ d ∈ ds, okD n d = true) → okDL n ds = true
  | [], _ => rfl
  | d :: ds, h => by
    show (okD n d && okDL n ds) = true
    rw [h d List.mem_cons_self, okDL_of fun e he => h e (List.mem_cons_of_mem _ he)]
    rfl
theorem ok_tab {rows : Tab} (h : isTab rows) : okD 64 (tabD rows) = true := by
  show okDL 63 (rows.map tabR) = true
  refine okDL_of fun d hd => ?_
  obtain ⟨r, hr, rfl⟩ := List.mem_map.mp hd
  exact ok_tabR (h.2 r hr).1
theorem onO_texts {o : OD} {rows : Tab} {k : List Str → Prop} (h : k (rows.map (·.1))) : onO (textsOf [o, .dic (rows.map kvF)] (.hd 1)) k := by
  show onO (keysS (rows.map kvF)) k
  rw [keysS_tab]
  exact h
theorem newL_strs {ys : List Str} {S : Sto} {Kp : WK} (h : Kp (.fz (.lst (ys.map D.str))) S) : newL false (ys.map fun y => W.fz (.str y)) S Kp := by
  have e : (ys.map fun y => W.fz (.str y)) = (ys.map D.str).map W.fz := by simp
  rw [e]
  exact newL_F h
theorem onO_val {rows : Tab} {y : Str} {k : W → Prop} (hy : y ∈ rows.map (·.1)) (h : k (.fz (rowD (getT rows y)))) : onO (valW (rows.map kvF) (.inr y)) k := by
  rw [valW_tab hy]
  exact h
/-! ### the promises -/
def spTable : PSp := fun ds Q => ∃ n : Int, ds = [.int n] ∧ 0 ≤ n ∧ n ≤ 20 ∧ ∀ rows : Tab, isTab rows → (rows.length : Int) ≤ n → Q (tabD rows)
def spSomeKey : PSp := fun ds Q => ∃ rows, ds = [tabD rows] ∧ isTab rows ∧ rows.length ≤ 100 ∧ ∀ k, isKey k → Q (.str k)
def spChange : PSp := fun ds Q => ∃ rows, ds = [tabD rows] ∧ isTab rows ∧ rows.length ≤ 100 ∧ ∀ c, isCh c → Q (chD c)
def spChanged : PSp := fun ds Q => ∃ rows c, ds = [tabD rows, chD c] ∧ isTab rows ∧ isCh c ∧ rows.length ≤ 100 ∧ Q (tabD (chg rows c))
theorem m_spChanged : ∀ (ds : List D) (A B : D → Prop), (∀ d, A d → B d) → spChanged ds A → spChanged ds B := fun ds A B h ⟨rows, c, e, h1, h2, h3, h4⟩ => ⟨rows, c, e, h1, h2, h3, h _ h4⟩
/-- a comprehension over a table's rows, some of them left out -/
theorem lcW_rows {g : DG} {tt : DT} {te : DE} {env0 : En} {S : Sto} (p : Str × List Int → Bool) : ∀ {rows : Tab} {Kp : List W → Sto → Prop},
    (∀ r ∈ rows, ∀ (A : WK) (Bf : Sto → Prop), (p r = true → A (.fz (tabR r)) S) → (p r = false → Bf S) → g (.fz (tabR r)) env0 S fun env1 S1 => tt env1 S1 fun b S2 => ifB b (te env1 S2 A) (Bf S2)) →
    Kp (((rows.filter p).map tabR).map W.fz) S → lcW g tt te env0 ((rows.map tabR).map W.fz) S Kp
  | [], _, _, hk => hk
  | r :: rows, Kp, h, hk => by
    refine h r List.mem_cons_self (fun y S3 => lcW g tt te env0 ((rows.map tabR).map W.fz) S3 fun ys S4 => Kp (y :: ys) S4) (fun S2 => lcW g tt te env0 ((rows.map tabR).map W.fz) S2 Kp) (fun hp => ?_) (fun hp => ?_)
    · refine lcW_rows p (fun q hq => h q (List.mem_cons_of_mem _ hq)) ?_
      rw [List.filter_cons_of_pos hp] at hk
      exact hk
    · refine lcW_rows p (fun q hq => h q (List.mem_cons_of_mem _ hq)) ?_
      rw [List.filter_cons_of_neg (by rw [hp]; exact Bool.false_ne_true)] at hk
      exact hk
theorem rowW_tab (l : Tab) : (l.map tabR).map W.fz = (l.map rowK).map rowW := by
  rw [List.map_map, List.map_map]
  rfl
theorem onO_rows {l : Tab} {k : List (Str × List D) → Prop} (h : k (l.map rowK)) : onO (rowsOf ((l.map tabR).map W.fz)) k := by
  rw [rowW_tab, rowsOf_map]
  exact h
end DL
/-! M3: trees -/
namespace DL
open PySem PySem.Spec PyProof.Rows L2

def cellI (r : List Int) (k : Nat) : Int := r.getD k 0
def rankI (k : Str) : Int := (codes k).foldl (fun f c => (f * 131 + c) % 1000003) 7
def rowAt (rows : Tab) (i : Nat) : Str × List Int := rows.getD i ("", [])
def topN (rows : Tab) : Nat := (List.range rows.length).foldl (fun b k => if rankI (rowAt rows b).1 < rankI (rowAt rows k).1 then k else b) 0
theorem top_aux (rows : Tab) : ∀ (l : List Nat) (b : Nat), (∀ k ∈ l, k < rows.length) → b < rows.length → l.foldl (fun b k => if rankI (rowAt rows b).1 < rankI (rowAt rows k).1 then k else b) b < rows.length
  | [], b, _, h => h
  | k :: l, b, hl, h => by
    rw [List.foldl_cons]
    refine top_aux rows l _ (fun j hj => hl j (List.mem_cons_of_mem _ hj)) ?_
    split
    · exact hl k List.mem_cons_self
    · exact h
theorem top_lt {rows : Tab} (h : rows ≠ []) : topN rows < rows.length :=
  top_aux rows _ 0 (fun k hk => List.mem_range.mp hk) (by cases rows with | nil => exact absurd rfl h | cons _ _ => exact Nat.succ_pos _)
theorem rowAt_get {rows : Tab} {i : Nat} (h : i < rows.length) : rows[i]? = some (rowAt rows i) := by
  unfold rowAt
  rw [List.getD_eq_getElem?_getD, List.getElem?_eq_getElem h]
  rfl
structure Link where
  d : Int
  n : Int
  a : Int
  b : Int
  c : Int
def linkD (l : Link) : D := .tup [.int l.d, .int l.n, .tup [.int l.a, .int l.b, .int l.c]]
def entD (k : Str) (r : List Int) (x y : Link) : D := .tup [.str k, rowD r, linkD x, linkD y]
def nodeD (k : Str) (r : List Int) (x y : Link) : D := .tup [.str "node", .str k, rowD r, linkD x, linkD y]
def linkOf (b m : Int) (k : Str) (r : List Int) (x y : Link) : Link := ⟨dig b m (nodeD k r x y), 1 + x.n + y.n, cellI r 0 + x.a + y.a, cellI r 1 + x.b + y.b, cellI r 2 + x.c + y.c⟩
def emptyD : D := .tup [.str "empty"]
def link0 (b m : Int) : Link := ⟨dig b m emptyD, 0, 0, 0, 0⟩
inductive Tr where
  | nil | node (k : Str) (r : List Int) (x y : Tr)
def linkT (b m : Int) : Tr → Link
  | .nil => link0 b m
  | .node k r x y => linkOf b m k r (linkT b m x) (linkT b m y)
def treeF : Nat → Tab → Tr
  | 0, _ => .nil
  | n + 1, rows => if rows.isEmpty then .nil else .node (rowAt rows (topN rows)).1 (rowAt rows (topN rows)).2 (treeF n (rows.take (topN rows))) (treeF n (rows.drop (topN rows + 1)))
theorem treeF_fuel : ∀ (n k : Nat) (rows : Tab), rows.length ≤ n → rows.length ≤ k → treeF n rows = treeF k rows
  | 0, 0, _, _, _ => rfl
  | 0, k + 1, rows, h, _ => by
    have : rows = [] := List.eq_nil_of_length_eq_zero (by omega)
    subst this
    rfl
  | n + 1, 0, rows, _, h => by
    have : rows = [] := List.eq_nil_of_length_eq_zero (by omega)
    subst this
    rfl
  | n + 1, k + 1, rows, h1, h2 => by
    unfold treeF
    cases e : rows.isEmpty with
    | true => rfl
    | false =>
      have ht := top_lt (rows := rows) (by intro z; subst z; cases e)
      rw [if_neg Bool.false_ne_true, if_neg Bool.false_ne_true]
      rw [treeF_fuel n k (rows.take (topN rows)) (by rw [List.length_take]; omega) (by rw [List.length_take]; omega), treeF_fuel n k (rows.drop (topN rows + 1)) (by rw [List.length_drop]; omega) (by rw [List.length_drop]; omega)]
def treeT (rows : Tab) : Tr := treeF rows.length rows
theorem treeT_nil : treeT [] = .nil := rfl
theorem treeT_node {rows : Tab} (h : rows ≠ []) : treeT rows = .node (rowAt rows (topN rows)).1 (rowAt rows (topN rows)).2 (treeT (rows.take (topN rows))) (treeT (rows.drop (topN rows + 1))) := by
  have ht := top_lt h
  have e : treeT rows = treeF (rows.length + 1) rows := treeF_fuel _ _ _ (Nat.le_refl _) (Nat.le_succ _)
  rw [e, treeF, if_neg (by cases rows with | nil => exact absurd rfl h | cons _ _ => exact Bool.false_ne_true)]
  unfold treeT
  rw [treeF_fuel rows.length (rows.take (topN rows)).length (rows.take (topN rows)) (by rw [List.length_take]; omega) (Nat.le_refl _), treeF_fuel rows.length (rows.drop (topN rows + 1)).length (rows.drop (topN rows + 1)) (by rw [List.length_drop]; omega) (Nat.le_refl _)]
/-- the tree as the law lays it -/
def treeD (b m : Int) : Tr → D
  | .nil => .lst [linkD (link0 b m), .non, .non, .non]
  | .node k r x y => .lst [linkD (linkOf b m k r (linkT b m x) (linkT b m y)), entD k r (linkT b m x) (linkT b m y), treeD b m x, treeD b m y]
theorem isTab.take {rows : Tab} (h : isTab rows) (n : Nat) : isTab (rows.take n) := ⟨h.1.sublist (List.take_sublist _ _), fun r hr => h.2 r (List.mem_of_mem_take hr)⟩
theorem isTab.drop {rows : Tab} (h : isTab rows) (n : Nat) : isTab (rows.drop n) := ⟨h.1.sublist (List.drop_sublist _ _), fun r hr => h.2 r (List.mem_of_mem_drop hr)⟩
theorem isTab.at {rows : Tab} (h : isTab rows) {i : Nat} (hi : i < rows.length) : isKey (rowAt rows i).1 ∧ isRow (rowAt rows i).2 := h.2 _ (List.mem_of_getElem? (rowAt_get hi))
/-! ### what is digested is a value -/
theorem enc_len_tup (ds : List D) : (enc (.tup ds)).length = 2 + (encL ds).length := by simp [enc]; omega
theorem encL_len_cons (d : D) (ds : List D) : (encL (d :: ds)).length = (enc d).length + (encL ds).length := by simp [encL]
theorem encL_len_nil : (encL []).length = 0 := rfl
theorem enc_len_int (i : Int) : (enc (.int i)).length = 2 := rfl
theorem val_int (n : Nat) (i : Int) : isVal (n + 1) (.int i) = true := rfl
theorem val_str (n : Nat) {x : Str} (h : x.length ≤ 1000) : isVal (n + 1) (.str x) = true := decide_eq_true h
theorem val_tup (n : Nat) {ds : List D} (h : ds.length ≤ 1000) (g : isValL n ds = true) : isVal (n + 1) (.tup ds) = true := by
  show (decide (ds.length ≤ 1000) && isValL n ds) = true
  rw [decide_eq_true h, g]
  rfl
theorem valL_cons (n : Nat) {d : D} {ds : List D} (h : isVal n d = true) (g : isValL n ds = true) : isValL n (d :: ds) = true := by
  show (isVal n d && isValL n ds) = true
  rw [h, g]
  rfl
theorem valL_nil (n : Nat) : isValL n [] = true := by cases n <;> rfl
theorem key_len {k : Str} (h : isKey k) : k.length ≤ 8 := by
  have e : k.length = k.cps.toList.length := by simp [Str.length]
  have := h.2.1
  omega
theorem val_row (n : Nat) {r : List Int} (h : isRow r) : isVal (n + 2) (rowD r) = true := val_tup _ (by rw [List.length_map]; have := h.2.1; omega) (isValL_ints n r)
theorem val_link (n : Nat) (l : Link) : isVal (n + 3) (linkD l) = true := rfl
theorem enc_link (l : Link) : (enc (linkD l)).length = 14 := rfl
theorem enc_key {k : Str} (h : isKey k) : (enc (.str k)).length ≤ 10 := by rw [enc_str]; have := h.2.1; omega
theorem enc_row8 {r : List Int} (h : isRow r) : (enc (rowD r)).length ≤ 8 := by rw [enc_row]; have := h.2.1; omega
theorem ok_nodeD {k : Str} {r : List Int} (hk : isKey k) (hr : isRow r) (x y : Link) : okVal 8 (nodeD k r x y) := by
  refine ⟨val_tup 7 (by decide : 5 ≤ 1000) (valL_cons _ (val_str 6 (by decide)) (valL_cons _ (val_str 6 (Nat.le_trans (key_len hk) (by decide))) (valL_cons _ (val_row 5 hr) (valL_cons _ (val_link 4 x) (valL_cons _ (val_link 4 y) (valL_nil _)))))), ?_⟩
  unfold nodeD
  have h1 := enc_key hk
  have h2 := enc_row8 hr
  have h3 : (enc (.str "node")).length = 6 := by decide
  rw [enc_len_tup, encL_len_cons, encL_len_cons, encL_len_cons, encL_len_cons, encL_len_cons, encL_len_nil, h3, enc_link, enc_link]
  omega
theorem ok_emptyD : okVal 8 emptyD := ⟨by decide, by decide⟩
/-! ### the promises -/
def spCell : PSp := fun ds Q => ∃ r k, ds = [rowD r, .int k] ∧ isRow r ∧ 0 ≤ k ∧ Q (.int (cellI r k.toNat))
def spRank : PSp := fun ds Q => ∃ k, ds = [.str k] ∧ isKey k ∧ Q (.int (rankI k))
def spTop : PSp := fun ds Q => ∃ rows, ds = [tabD rows] ∧ isTab rows ∧ rows ≠ [] ∧ rows.length ≤ 100 ∧ Q (.int (topN rows))
def spLink : PSp := fun ds Q => ∃ b m k r x y, ds = [ruleD b m, entD k r x y] ∧ isRule b m ∧ isKey k ∧ isRow r ∧ Q (linkD (linkOf b m k r x y))
def spTree (n : Nat) : PSp := fun ds Q => ∃ b m rows, ds = [ruleD b m, tabD rows] ∧ isRule b m ∧ isTab rows ∧ rows.length ≤ n ∧ n ≤ 100 ∧ Q (treeD b m (treeT rows))
theorem treeD_link (b m : Int) (t : Tr) : ∃ a c d, treeD b m t = .lst [linkD (linkT b m t), a, c, d] := by
  cases t with
  | nil => exact ⟨_, _, _, rfl⟩
  | node k r x y => exact ⟨_, _, _, rfl⟩
theorem eqD_ii (i j : Int) : eqD (.int i) (.int j) = decide (i = j) := by
  show (i == j) = _
  by_cases h : i = j
  · subst h; simp
  · simp [h]
theorem cut_take {α : Type} (l : List α) {n : Nat} (h : n ≤ l.length) : cutL l none (some (n : Int)) = l.take n := by
  unfold cutL
  rw [HT.sIx_none, HT.sIx_nat, Nat.min_eq_left h, List.drop_zero, Nat.sub_zero]
theorem cut_drop {α : Type} (l : List α) {n : Nat} (h : n ≤ l.length) : cutL l (some (n : Int)) none = l.drop n := by
  unfold cutL
  rw [HT.sIx_none, HT.sIx_nat, Nat.min_eq_left h]
  exact List.take_of_length_le (by rw [List.length_drop]; exact Nat.le_refl _)
theorem newL_take {rows : Tab} {n : Nat} {S : Sto} {Kp : WK} (h : n ≤ rows.length) (k : Kp (.fz (tabD (rows.take n))) S) : newL false (cutL ((rows.map tabR).map W.fz) none (some (n : Int))) S Kp := by
  rw [cut_take _ (by simpa using h), ← List.map_take, ← List.map_take]
  exact newL_F k
theorem newL_drop {rows : Tab} {n : Nat} {S : Sto} {Kp : WK} (h : n ≤ rows.length) (k : Kp (.fz (tabD (rows.drop n))) S) : newL false (cutL ((rows.map tabR).map W.fz) (some (n : Int)) none) S Kp := by
  rw [cut_drop _ (by simpa using h), ← List.map_drop, ← List.map_drop]
  exact newL_F k
theorem onO_row {rows : Tab} {i : Nat} {k : W → Prop} (hi : i < rows.length) (h : k (W.fz (tabR (rowAt rows i)))) : onO (atI ((rows.map tabR).map W.fz) (i : Int)) k := by
  refine onO_at (Int.natCast_nonneg _) (by simpa using hi) fun x hx => ?_
  rw [List.getElem?_map, List.getElem?_map, show ((i : Int)).toNat = i from rfl, rowAt_get hi] at hx
  cases hx
  exact h
/-! (stated at the place where the readings stand still: fzL) -/
theorem onO_take {rows : Tab} {n : Nat} {k : List D → Prop} (h : n ≤ rows.length) (g : k ((rows.take n).map tabR)) : onO (fzL (cutL ((rows.map tabR).map W.fz) none (some (n : Int)))) k := by
  rw [cut_take _ (by simpa using h), ← List.map_take, ← List.map_take]
  exact onO_fzL g
theorem onO_drop {rows : Tab} {n : Nat} {k : List D → Prop} (h : n ≤ rows.length) (g : k ((rows.drop n).map tabR)) : onO (fzL (cutL ((rows.map tabR).map W.fz) (some (n : Int)) none)) k := by
  rw [cut_drop _ (by simpa using h), ← List.map_drop, ← List.map_drop]
  exact onO_fzL g
end DL
/-! M4: chains, cards, seals -/
namespace DL
open PySem PySem.Spec PyProof.Rows L2

structure Wh where
  n : Int
  d : Int
  w : Int
def whD (x : Wh) : D := .tup [.int x.n, .int x.d, .int x.w]
def chainV (x : Wh) (s f : Int) : D := .tup [.str "chain", .int x.n, .int x.d, .int x.w, .int s, .int f]
def chainI (b m : Int) (x : Wh) (i : Int) (n : Nat) (f : Int) : Int := (List.range n).foldl (fun f k => dig b m (chainV x (i + (k : Nat)) f)) f
def secretI (b m : Int) (s : Int) (x : Wh) : Int := dig b m (.tup [.str "secret", .int s, .int x.n, .int x.d, .int x.w])
def sealedV (n : Int) (v : D) : D := .tup [.str "sealed", .int n, v]
def hgt (b m : Int) (n : Int) (v : D) : Int := dig b m (sealedV n v) % 256
def whs (n : Int) : List Wh := [⟨n, 0, 0⟩, ⟨n, 0, 1⟩, ⟨n, 1, 0⟩, ⟨n, 1, 1⟩]
def hts (b m n : Int) (v : D) : List Int := [hgt b m n v % 16, 15 - hgt b m n v % 16, hgt b m n v / 16, 15 - hgt b m n v / 16]
def cardL (b m s n : Int) : List Int := (whs n).map fun x => chainI b m x 0 15 (secretI b m s x)
def sealL (b m s n : Int) (v : D) : List Int := ((whs n).zip (hts b m n v)).map fun p => chainI b m p.1 0 (p.2 - 0).toNat (secretI b m s p.1)
theorem hgt_range (b m n : Int) (v : D) : 0 ≤ hgt b m n v ∧ hgt b m n v < 256 := ⟨Int.emod_nonneg _ (by decide), Int.emod_lt_of_pos _ (by decide)⟩
theorem ok_chainV (x : Wh) (s f : Int) : okVal 8 (chainV x s f) := by
  refine ⟨val_tup 7 (by decide : 6 ≤ 1000) (valL_cons _ (val_str 6 (by decide)) rfl), ?_⟩
  have h3 : (enc (.str "chain")).length = 7 := by decide
  unfold chainV
  rw [enc_len_tup, encL_len_cons, h3]
  show 2 + (7 + 10) ≤ 10000
  omega
theorem ok_secretV (s : Int) (x : Wh) : okVal 8 (.tup [.str "secret", .int s, .int x.n, .int x.d, .int x.w]) := by
  refine ⟨val_tup 7 (by decide : 5 ≤ 1000) (valL_cons _ (val_str 6 (by decide)) rfl), ?_⟩
  have h3 : (enc (.str "secret")).length = 8 := by decide
  rw [enc_len_tup, encL_len_cons, h3]
  show 2 + (8 + 8) ≤ 10000
  omega
/-- what can be sealed -/
def okSealed (v : D) : Prop := isVal 7 v = true ∧ (enc v).length ≤ 5000
theorem ok_sealedV {v : D} (h : okSealed v) (n : Int) : okVal 8 (sealedV n v) := by
  refine ⟨val_tup 7 (by decide : 3 ≤ 1000) (valL_cons _ (val_str 6 (by decide)) (valL_cons _ (val_int 6 n) (valL_cons _ h.1 (valL_nil _)))), ?_⟩
  have h3 : (enc (.str "sealed")).length = 8 := by decide
  have h4 := h.2
  unfold sealedV
  rw [enc_len_tup, encL_len_cons, encL_len_cons, encL_len_cons, encL_len_nil, h3, enc_len_int]
  omega
theorem chainI_succ (b m : Int) (x : Wh) (i : Int) (n : Nat) (f : Int) : chainI b m x i (n + 1) f = dig b m (chainV x (i + (n : Nat)) (chainI b m x i n f)) := by
  unfold chainI
  rw [List.range_succ, List.foldl_append]
  rfl
theorem chain_range {b m : Int} (h : isRule b m) (x : Wh) (i : Int) (n : Nat) (f : Int) (hn : 0 < n) : 0 ≤ chainI b m x i n f ∧ chainI b m x i n f < m := by
  cases n with
  | zero => omega
  | succ n => rw [chainI_succ]; exact dig_range h _
def spChain : PSp := fun ds Q => ∃ b m x i j f, ds = [ruleD b m, whD x, .int i, .int j, .int f] ∧ isRule b m ∧ 0 ≤ i ∧ i ≤ 100 ∧ 0 ≤ j ∧ j ≤ 100 ∧ Q (.int (chainI b m x i (j - i).toNat f))
def spPlaces : PSp := fun ds Q => ∃ n, ds = [.int n] ∧ Q (.lst ((whs n).map whD))
def spHeights : PSp := fun ds Q => ∃ b m n v, ds = [ruleD b m, .int n, v] ∧ isRule b m ∧ okSealed v ∧ Q (intsD (hts b m n v))
def spSecret : PSp := fun ds Q => ∃ b m s x, ds = [ruleD b m, .int s, whD x] ∧ isRule b m ∧ Q (.int (secretI b m s x))
def spCard : PSp := fun ds Q => ∃ b m s n, ds = [ruleD b m, .int s, .int n] ∧ isRule b m ∧ Q (rowD (cardL b m s n))
def spSeal : PSp := fun ds Q => ∃ b m s n v, ds = [ruleD b m, .int s, .int n, v] ∧ isRule b m ∧ okSealed v ∧ Q (rowD (sealL b m s n v))
theorem chain_add (b m : Int) (x : Wh) (n k : Nat) (f : Int) : chainI b m x (n : Nat) k (chainI b m x 0 n f) = chainI b m x 0 (n + k) f := by
  induction k with
  | zero => rfl
  | succ k ih => 
    rw [chainI_succ, ih, show n + (k + 1) = (n + k) + 1 from rfl, chainI_succ]
    have e : ((n : Nat) : Int) + (k : Nat) = 0 + ((n + k : Nat) : Int) := by omega
    rw [e]
theorem hgt_16 (b m n : Int) (v : D) : hgt b m n v / 16 % 16 = hgt b m n v / 16 := by
  have ⟨h0, h1⟩ := hgt_range b m n v
  omega
def fit4 (b m n : Int) (v : D) (p q r s : Int) : List Int :=
  [chainI b m ⟨n, 0, 0⟩ (hgt b m n v % 16) (15 - hgt b m n v % 16).toNat p, chainI b m ⟨n, 0, 1⟩ (15 - hgt b m n v % 16) (15 - (15 - hgt b m n v % 16)).toNat q,
    chainI b m ⟨n, 1, 0⟩ (hgt b m n v / 16) (15 - hgt b m n v / 16).toNat r, chainI b m ⟨n, 1, 1⟩ (15 - hgt b m n v / 16) (15 - (15 - hgt b m n v / 16)).toNat s]
/-- a seal leads to the card -/
def sealOk (b m : Int) (card : D) (n : Int) (v : D) (given : List Int) : Bool := match given with
  | [p, q, r, s] => eqD (rowD (fit4 b m n v p q r s)) card
  | _ => false
theorem chain_end (b m : Int) (x : Wh) (j f : Int) (h0 : 0 ≤ j) (h1 : j ≤ 15) : chainI b m x j (15 - j).toNat (chainI b m x 0 (j - 0).toNat f) = chainI b m x 0 15 f := by
  obtain ⟨k, rfl⟩ := Int.eq_ofNat_of_zero_le h0
  have e : ((k : Int) - 0).toNat = k := by omega
  rw [e, chain_add]
  congr 1
  omega
theorem sealOk_right (b m s n : Int) (v : D) : sealOk b m (rowD (cardL b m s n)) n v (sealL b m s n v) = true := by
  have ⟨h0, h1⟩ := hgt_range b m n v
  have e : fit4 b m n v (chainI b m ⟨n, 0, 0⟩ 0 (hgt b m n v % 16 - 0).toNat (secretI b m s ⟨n, 0, 0⟩)) (chainI b m ⟨n, 0, 1⟩ 0 (15 - hgt b m n v % 16 - 0).toNat (secretI b m s ⟨n, 0, 1⟩))
      (chainI b m ⟨n, 1, 0⟩ 0 (hgt b m n v / 16 - 0).toNat (secretI b m s ⟨n, 1, 0⟩)) (chainI b m ⟨n, 1, 1⟩ 0 (15 - hgt b m n v / 16 - 0).toNat (secretI b m s ⟨n, 1, 1⟩)) = cardL b m s n := by
    unfold fit4
    rw [chain_end _ _ _ _ _ (by omega) (by omega), chain_end _ _ _ _ _ (by omega) (by omega), chain_end _ _ _ _ _ (by omega) (by omega), chain_end _ _ _ _ _ (by omega) (by omega)]
    rfl
  show eqD (rowD (fit4 b m n v _ _ _ _)) _ = true
  rw [e]
  exact eqD_refl _
def spChainP : PSp := fun ds Q => ∃ b m x i j f, ds = [ruleD b m, whD x, .tup [.int i, .int j], .int f] ∧ isRule b m ∧ 0 ≤ i ∧ i ≤ 100 ∧ 0 ≤ j ∧ j ≤ 100 ∧ Q (.int (chainI b m x i (j - i).toNat f))
def spIsSealed : PSp := fun ds Q => ∃ b m card n v given, ds = [ruleD b m, rowD card, .int n, v, rowD given] ∧ isRule b m ∧ okSealed v ∧ Q (.bl (sealOk b m (rowD card) n v given))
theorem loop_cong {g : DG} {tb : DS} {E : DEnds} (ws' : List W) {ws : List W} {env : En} {S : Sto} (e : ws = ws') (h : loop g tb E ws' env S) : loop g tb E ws env S := by
  rw [e]
  exact h
theorem loop_at {g : DG} {tb : DS} {E : DEnds} (ws' : List W) (env' : En) (S' : Sto) {ws : List W} {env : En} {S : Sto} (e1 : ws = ws') (e2 : env = env') (e3 : S = S') (h : loop g tb E ws' env' S') : loop g tb E ws env S := by
  rw [e1, e2, e3]
  exact h
theorem okS_int (i : Int) : okSealed (.int i) := ⟨rfl, by rw [enc_len_int]; decide⟩
theorem okS_version (n : Int) (l : Link) (k : Int) : okSealed (.tup [.int n, linkD l, .int k]) := ⟨rfl, by
  rw [enc_len_tup, encL_len_cons, encL_len_cons, encL_len_cons, encL_len_nil, enc_link, enc_len_int, enc_len_int]
  omega⟩
theorem okS_word : okSealed (.str "word") := ⟨by decide, by decide⟩
theorem okS_pair : okSealed (.tup [.str "a", .tup [.int 1, .int 2]]) := ⟨by decide, by decide⟩
def fitT (b m n t1 t2 t3 t4 p q r s : Int) : List Int := [chainI b m ⟨n, 0, 0⟩ t1 (15 - t1).toNat p, chainI b m ⟨n, 0, 1⟩ t2 (15 - t2).toNat q, chainI b m ⟨n, 1, 0⟩ t3 (15 - t3).toNat r, chainI b m ⟨n, 1, 1⟩ t4 (15 - t4).toNat s]
theorem fit_T (b m n : Int) (v : D) (p q r s : Int) : fit4 b m n v p q r s = fitT b m n (hgt b m n v % 16) (15 - hgt b m n v % 16) (hgt b m n v / 16) (15 - hgt b m n v / 16) p q r s := rfl
theorem mem2 {a b x : W} {i : Nat} (h : [a, b][i]? = some x) : x = a ∨ x = b := by
  have h := List.mem_of_getElem? h
  simpa using h
theorem mem3 {a b c x : W} {i : Nat} (h : [a, b, c][i]? = some x) : x = a ∨ x = b ∨ x = c := by
  have h := List.mem_of_getElem? h
  simpa using h
theorem mem5 {a b c d e x : W} {i : Nat} (h : [a, b, c, d, e][i]? = some x) : x = a ∨ x = b ∨ x = c ∨ x = d ∨ x = e := by
  have h := List.mem_of_getElem? h
  simpa using h
theorem tupleW_F {ds : List D} {S : Sto} {Kp : WK} (h : Kp (.fz (.tup ds)) S) : tupleW [.fz (.lst ds)] S Kp := by
  show Kp (mkT (ds.map W.fz)) S
  rw [mkT_fz]
  exact h
/-! ### versions, sealed versions -/
structure Ver where
  n : Int
  l : Link
  k : Int
def verD (v : Ver) : D := .tup [.int v.n, linkD v.l, .int v.k]
def sealedD (v : Ver) (g : List Int) : D := .tup [verD v, rowD g]
theorem okS_ver (v : Ver) : okSealed (verD v) := okS_version v.n v.l v.k
/-- a double, by the document -/
def dblOk (b m : Int) (cards : List (List Int)) (v1 : Ver) (g1 : List Int) (v2 : Ver) (g2 : List Int) : Bool :=
  decide (v1.n = v2.n) && (!eqD (verD v1) (verD v2) && (decide (0 ≤ v1.n ∧ v1.n < cards.length) && (sealOk b m (rowD (cards.getD v1.n.toNat [])) v1.n (verD v1) g1 && sealOk b m (rowD (cards.getD v1.n.toNat [])) v1.n (verD v2) g2)))
def spDouble : PSp := fun ds Q => ∃ b m cards v1 g1 v2 g2, ds = [ruleD b m, .lst (cards.map rowD), sealedD v1 g1, sealedD v2 g2] ∧ isRule b m ∧ Q (.bl (dblOk b m cards v1 g1 v2 g2))
def spSealed : PSp := fun ds Q => ∃ b m s rows n, ds = [ruleD b m, .int s, tabD rows, .int n] ∧ isRule b m ∧ isTab rows ∧ (rows.length : Int) ≤ 3 ∧ ∀ l k p q r t, Q (sealedD ⟨n, l, k⟩ [p, q, r, t])
theorem onO_card {cards : List (List Int)} {i : Int} {k : W → Prop} (h0 : 0 ≤ i) (h1 : i < cards.length) (h : k (.fz (rowD (cards.getD i.toNat [])))) : onO (atI ((cards.map rowD).map W.fz) i) k := by
  refine onO_at h0 (by simpa using h1) fun x hx => ?_
  rw [List.getElem?_map, List.getElem?_map] at hx
  have hl : i.toNat < cards.length := by omega
  rw [List.getElem?_eq_getElem hl] at hx
  cases hx
  rw [List.getD_eq_getElem?_getD, List.getElem?_eq_getElem hl] at h
  exact h
theorem onO_tabs {r1 r2 : Tab} (h1 : isTab r1) (h2 : isTab r2) (l1 : (r1.length : Int) ≤ 3) (l2 : (r2.length : Int) ≤ 3) {i : Int} (h0 : 0 ≤ i) (hi : i < 2) {k : W → Prop}
    (h : ∀ rows, isTab rows → (rows.length : Int) ≤ 3 → k (.fz (tabD rows))) : onO (atI [W.fz (tabD r1), W.fz (tabD r2)] i) k := by
  refine onO_at h0 hi fun x hx => ?_
  rcases mem2 hx with e | e
  · subst e; exact h _ h1 l1
  · subst e; exact h _ h2 l2
/-- what the law reckons before it looks at the seals -/
def dbl0 (cards : List (List Int)) (v1 v2 : Ver) : Bool := decide (v1.n = v2.n) && (!eqD (verD v1) (verD v2) && decide (v1.n < cards.length))
theorem dblOk_0 {b m : Int} {cards : List (List Int)} {v1 v2 : Ver} {g1 g2 : List Int} (h : 0 ≤ v1.n) : dblOk b m cards v1 g1 v2 g2 = (dbl0 cards v1 v2 && (sealOk b m (rowD (cards.getD v1.n.toNat [])) v1.n (verD v1) g1 && sealOk b m (rowD (cards.getD v1.n.toNat [])) v1.n (verD v2) g2)) := by
  unfold dblOk dbl0
  have e : decide (0 ≤ v1.n ∧ v1.n < (cards.length : Int)) = decide (v1.n < (cards.length : Int)) := decide_eq_decide.mpr ⟨fun z => z.2, fun z => ⟨h, z⟩⟩
  rw [e, Bool.and_assoc, Bool.and_assoc]
end DL
/-! M5: lists of sealed versions, parting -/
namespace DL
open PySem PySem.Spec PyProof.Rows L2

theorem valW_cons (p : Key × W) (kvs : List (Key × W)) (k : Key) : valW (p :: kvs) k = if p.1 = k then some p.2 else valW kvs k := by
  by_cases h : p.1 = k
  · rw [if_pos h]; simp [valW, List.find?_cons, h]
  · rw [if_neg h]; simp [valW, List.find?_cons, h]
theorem valW_any (k : Key) : ∀ kvs : List (Key × W), (kvs.any fun kv => decide (kv.1 = k)) = (valW kvs k).isSome
  | [] => rfl
  | p :: kvs => by
    rw [List.any_cons, valW_cons, valW_any k kvs]
    by_cases h : p.1 = k
    · rw [if_pos h, decide_eq_true h]; rfl
    · rw [if_neg h, decide_eq_false h]; rfl
theorem valW_map (k j : Key) (y : W) : ∀ kvs : List (Key × W), valW (kvs.map fun kv => if kv.1 = k then (kv.1, y) else kv) j = (valW kvs j).map fun x => if j = k then y else x
  | [] => rfl
  | p :: kvs => by
    rw [List.map_cons, valW_cons, valW_cons, valW_map k j y kvs]
    by_cases h : p.1 = k
    · rw [if_pos h]
      dsimp only
      by_cases g : p.1 = j
      · rw [if_pos g, if_pos g, Option.map_some, if_pos (g.symm.trans h)]
      · rw [if_neg g, if_neg g]
    · rw [if_neg h]
      by_cases g : p.1 = j
      · rw [if_pos g, if_pos g, Option.map_some, if_neg (fun z => h (g.trans z))]
      · rw [if_neg g, if_neg g]
theorem valW_snoc (k j : Key) (y : W) : ∀ kvs : List (Key × W), valW kvs k = none → valW (kvs ++ [(k, y)]) j = if j = k then some y else valW kvs j
  | [], _ => by
    rw [List.nil_append, valW_cons]
    by_cases h : k = j
    · rw [if_pos h, if_pos h.symm]
    · rw [if_neg h, if_neg (fun z => h z.symm)]
  | p :: kvs, h => by
    rw [valW_cons] at h
    by_cases g : p.1 = k
    · rw [if_pos g] at h; cases h
    · rw [if_neg g] at h
      rw [List.cons_append, valW_cons, valW_cons, valW_snoc k j y kvs h]
      by_cases q : p.1 = j
      · rw [if_pos q, if_pos q, if_neg (fun z => g (q.trans z))]
      · rw [if_neg q, if_neg q]
theorem valW_put (kvs : List (Key × W)) (k j : Key) (y : W) : valW (putW kvs k y) j = if j = k then some y else valW kvs j := by
  unfold putW
  rw [valW_any]
  cases h : valW kvs k with
  | none =>
    rw [if_neg (by simp)]
    exact valW_snoc k j y kvs h
  | some x =>
    rw [if_pos (by simp), valW_map]
    by_cases g : j = k
    · subst g; rw [h, if_pos rfl, Option.map_some, if_pos rfl]
    · rw [if_neg g]
      cases valW kvs j with
      | none => rfl
      | some z => rw [Option.map_some, if_neg g]
theorem length_putW (kvs : List (Key × W)) (k : Key) (v : W) : (putW kvs k v).length ≤ kvs.length + 1 := by
  unfold putW
  split
  · rw [List.length_map]; omega
  · rw [List.length_append]; exact Nat.le_refl _
/-! ### sealed versions by their number -/
abbrev SV := Ver × List Int
def sx (x : SV) : D := sealedD x.1 x.2
def at_ (l : List SV) (n : Int) : Option SV := l.find? fun x => decide (x.1.n = n)
theorem at_cons (x : SV) (l : List SV) (n : Int) : at_ (x :: l) n = if x.1.n = n then some x else at_ l n := by
  unfold at_
  rw [List.find?_cons]
  by_cases h : x.1.n = n
  · rw [if_pos h, decide_eq_true h]
  · rw [if_neg h, decide_eq_false h]
theorem at_none {l : List SV} {n : Int} (h : n ∉ l.map (·.1.n)) : at_ l n = none := by
  induction l with
  | nil => rfl
  | cons x l ih =>
    rw [List.map_cons, List.mem_cons, not_or] at h
    rw [at_cons, if_neg (fun z => h.1 z.symm)]
    exact ih h.2
theorem at_mem {l : List SV} {n : Int} {x : SV} (h : at_ l n = some x) : x ∈ l ∧ x.1.n = n := ⟨List.mem_of_find?_eq_some h, by simpa using List.find?_some h⟩
theorem at_of {l : List SV} (hn : (l.map (·.1.n)).Nodup) {x : SV} (hx : x ∈ l) : at_ l x.1.n = some x := by
  induction l with
  | nil => cases hx
  | cons y l ih =>
    rw [List.map_cons, List.nodup_cons] at hn
    rw [at_cons]
    rcases List.mem_cons.mp hx with rfl | hx
    · rw [if_pos rfl]
    · rw [if_neg (fun z => hn.1 (by rw [z]; exact List.mem_map_of_mem hx))]
      exact ih hn.2 hx
theorem at_perm {l l' : List SV} (p : l.Perm l') (hn : (l.map (·.1.n)).Nodup) (n : Int) : at_ l n = at_ l' n := by
  cases h : at_ l n with
  | some x =>
    obtain ⟨hx, e⟩ := at_mem h
    subst e
    exact (at_of ((p.map _).nodup_iff.mp hn) (p.mem_iff.mp hx)).symm
  | none =>
    cases h' : at_ l' n with
    | none => rfl
    | some x =>
      obtain ⟨hx, e⟩ := at_mem h'
      subst e
      rw [at_of hn (p.mem_iff.mpr hx)] at h
      cases h
theorem filter_at {l : List SV} (hn : (l.map (·.1.n)).Nodup) (n : Int) : l.filter (fun x => decide (x.1.n = n)) = (at_ l n).toList := by
  induction l with
  | nil => rfl
  | cons x l ih =>
    rw [List.map_cons, List.nodup_cons] at hn
    rw [List.filter_cons, at_cons]
    by_cases h : x.1.n = n
    · rw [if_pos (by simpa using h), if_pos h, ih hn.2, at_none (h ▸ hn.1)]
      rfl
    · rw [if_neg (by simpa using h), if_neg h]
      exact ih hn.2
def putS (kvs : List (Key × W)) (x : SV) : List (Key × W) := putW kvs (.inl x.1.n) (.fz (sx x))
theorem val_putS : ∀ (l : List SV) (kvs : List (Key × W)) (n : Int), (l.map (·.1.n)).Nodup → valW (l.foldl putS kvs) (.inl n) = ((at_ l n).map fun x => W.fz (sx x)).or (valW kvs (.inl n))
  | [], kvs, n, _ => rfl
  | x :: l, kvs, n, h => by
    rw [List.map_cons, List.nodup_cons] at h
    rw [List.foldl_cons, val_putS l _ n h.2, at_cons]
    unfold putS
    rw [valW_put]
    by_cases e : x.1.n = n
    · subst e
      rw [if_pos rfl, if_pos rfl, at_none h.1]
      rfl
    · rw [if_neg e, if_neg (fun z => e (by injection z with z; exact z.symm))]
/-! ### the order -/
theorem alike_ints : ∀ g h : List Int, PySem.W.alikeAll (toPyL (g.map D.int)) (toPyL (h.map D.int)) = true
  | [], _ => rfl
  | _ :: _, [] => rfl
  | a :: g, b :: h => by
    show (PySem.W.alike (.int a) (.int b) && PySem.W.alikeAll (toPyL (g.map D.int)) (toPyL (h.map D.int))) = true
    rw [alike_ints g h]
    rfl
theorem alike_sx (x y : SV) : PySem.W.alike (toPy (sx x)) (toPy (sx y)) = true := by
  show (PySem.W.alike (toPy (verD x.1)) (toPy (verD y.1)) && (PySem.W.alikeAll (toPyL (x.2.map D.int)) (toPyL (y.2.map D.int)) && true)) = true
  rw [alike_ints]
  rfl
theorem okD_ver (v : Ver) (n : Nat) : okD (n + 3) (verD v) = true := rfl
theorem okD_sx (x : SV) (n : Nat) : okD (n + 4) (sx x) = true := by
  show (okD (n + 3) (verD x.1) && (okDL (n + 2) (x.2.map D.int) && true)) = true
  rw [okDL_ints]
  rfl
theorem okDL_sx : ∀ (l : List SV) (n : Nat), okDL (n + 4) (l.map sx) = true
  | [], _ => rfl
  | x :: l, n => by
    show (okD (n + 4) (sx x) && okDL (n + 4) (l.map sx)) = true
    rw [okD_sx, okDL_sx l n]
    rfl
theorem okD_lsx (l : List SV) (n : Nat) : okD (n + 5) (.lst (l.map sx)) = true := okDL_sx l n
theorem leD_sx {x y : SV} (h : leD (sx x) (sx y) = true) : x.1.n ≤ y.1.n := by
  refine Int.not_lt.mp fun z => ?_
  unfold leD leP PySem.W.dataLt at h
  have e : ∀ u : SV, ∃ r, PySem.W.keyToks (toPy (sx u)) = Sum.inl 1 :: Sum.inl 1 :: Sum.inl u.1.n :: r := fun u => ⟨_, rfl⟩
  obtain ⟨r1, e1⟩ := e x
  obtain ⟨r2, e2⟩ := e y
  rw [e1, e2] at h
  rw [lex_self, lex_self, lex_cons] at h
  have b : itemOrd.blt (Sum.inl y.1.n) (Sum.inl x.1.n) = true := decide_eq_true z
  rw [b] at h
  cases h
/-- the sealed versions by their numbers -/
theorem sortD_sx (l : List SV) (hn : (l.map (·.1.n)).Nodup) : ∃ l' : List SV, sortD (l.map sx) = l'.map sx ∧ l'.Perm l ∧ l'.Pairwise fun x y => x.1.n < y.1.n := by
  refine ⟨l.mergeSort fun a b => leD (sx a) (sx b), (map_mergeSort sx leD l).symm, List.mergeSort_perm _ _, ?_⟩
  have h1 := List.pairwise_mergeSort (le := fun a b : SV => leD (sx a) (sx b)) (fun a b c => leP_trans _ _ _) (fun a b => leP_total _ _) l
  have pm := List.mergeSort_perm l fun a b => leD (sx a) (sx b)
  have h2 : ((l.mergeSort fun a b => leD (sx a) (sx b)).map (·.1.n)).Nodup := (pm.map _).nodup_iff.mpr hn
  have h3 := List.pairwise_map.mp h2
  refine (h1.and h3).imp fun {a b} q => ?_
  have := leD_sx q.1
  have := q.2
  omega
/-! ### parting -/
def partF (l1 : List SV) (x : SV) : Option D := match at_ l1 x.1.n with
  | some y => if eqD (verD y.1) (verD x.1) = true then none else some (.tup [sx y, sx x])
  | none => none
def partN (l1 l2 : List SV) (n : Int) : Option D := (at_ l2 n).bind (partF l1)
def partV (l1 l2 : List SV) : Option D := ((List.range 5).map fun k => ((k : Nat) : Int)).findSome? (partN l1 l2)
structure OkL (l : List SV) : Prop where
  lo : ∀ x ∈ l, 0 ≤ x.1.n ∧ x.1.n < 5
  nd : (l.map (·.1.n)).Nodup
  le : l.length ≤ 5
def upto (a : Int) : Nat → List Int
  | 0 => []
  | k + 1 => a :: upto (a + 1) k
theorem find_ints (F : SV → Option D) : ∀ (k : Nat) (a : Int) (l : List SV), l.Pairwise (fun x y => x.1.n < y.1.n) → (∀ x ∈ l, a ≤ x.1.n ∧ x.1.n < a + k) → l.findSome? F = (upto a k).findSome? fun n => (at_ l n).bind F
  | 0, a, l, _, h => by
    cases l with
    | nil => rfl
    | cons x l => have := h x List.mem_cons_self; omega
  | k + 1, a, l, hp, h => by
    show _ = List.findSome? _ (a :: upto (a + 1) k)
    rw [List.findSome?_cons]
    have tail : ∀ l' : List SV, l'.Pairwise (fun x y => x.1.n < y.1.n) → (∀ x ∈ l', a + 1 ≤ x.1.n ∧ x.1.n < a + ((k + 1 : Nat) : Int)) → l'.findSome? F = (upto (a + 1) k).findSome? fun n => (at_ l' n).bind F := fun l' p q => find_ints F k (a + 1) l' p fun x hx => by
      have := q x hx
      omega
    cases l with
    | nil =>
      have := tail [] .nil (fun x hx => by cases hx)
      show _ = (match ((at_ [] a).bind F) with | some b => some b | none => _)
      exact this
    | cons x l =>
      obtain ⟨h1, h2⟩ := List.pairwise_cons.mp hp
      have hx := h x List.mem_cons_self
      by_cases e : x.1.n = a
      · rw [at_cons, if_pos e, List.findSome?_cons]
        rw [Option.bind_some]
        cases F x with
        | some b => rfl
        | none =>
          show l.findSome? F = _
          rw [tail l h2 fun y hy => by have := h1 y hy; have := h y (List.mem_cons_of_mem _ hy); omega]
          have cong : ∀ (ns : List Int), (∀ n ∈ ns, a < n) → (ns.findSome? fun n => (at_ l n).bind F) = ns.findSome? fun n => (at_ (x :: l) n).bind F := fun ns => by
            induction ns with
            | nil => intro _; rfl
            | cons n ns ih =>
              intro hh
              have hn := hh n List.mem_cons_self
              rw [List.findSome?_cons, List.findSome?_cons, at_cons, if_neg (by omega), ih fun m hm => hh m (List.mem_cons_of_mem _ hm)]
          refine cong _ ?_
          have mem : ∀ (j : Nat) (b : Int), a < b → ∀ n ∈ upto b j, a < n := fun j => by
            induction j with
            | zero => intro b _ n hn; cases hn
            | succ j ih =>
              intro b hb n hn
              rcases List.mem_cons.mp hn with rfl | hn
              · exact hb
              · exact ih (b + 1) (by omega) n hn
          exact mem k (a + 1) (by omega)
      · have e0 : at_ (x :: l) a = none := at_none fun z => by
          obtain ⟨y, hy, ey⟩ := List.mem_map.mp z
          rcases List.mem_cons.mp hy with rfl | hy
          · exact e ey
          · have := h1 y hy; omega
        rw [e0]
        show (x :: l).findSome? F = _
        refine tail (x :: l) hp fun y hy => ?_
        have := h y hy
        rcases List.mem_cons.mp hy with rfl | hy
        · omega
        · have := h1 y hy; omega
theorem part_sorted {l1 l2 l' : List SV} (h2 : OkL l2) (p : l'.Perm l2) (hp : l'.Pairwise fun x y => x.1.n < y.1.n) : l'.findSome? (partF l1) = partV l1 l2 := by
  have nd : (l'.map (·.1.n)).Nodup := (p.map _).nodup_iff.mpr h2.nd
  rw [find_ints (partF l1) 5 0 l' hp fun x hx => by have := h2.lo x (p.mem_iff.mp hx); omega]
  have e : (fun n => (at_ l' n).bind (partF l1)) = partN l1 l2 := by
    funext n
    unfold partN
    rw [at_perm p nd]
  rw [e]
  rfl
def spParting : PSp := fun ds Q => ∃ l1 l2, ds = [.lst (l1.map sx), .lst (l2.map sx)] ∧ OkL l1 ∧ OkL l2 ∧ Q ((partV l1 l2).getD .non)
def spSList : PSp := fun ds Q => ∃ b m r1 r2, ds = [ruleD b m, .lst [tabD r1, tabD r2]] ∧ isRule b m ∧ isTab r1 ∧ isTab r2 ∧ (r1.length : Int) ≤ 3 ∧ (r2.length : Int) ≤ 3 ∧ ∀ l : List SV, OkL l → Q (.lst (l.map sx))
theorem alike_all (l : List SV) : PySem.W.AllAlike ((l.map sx).map toPy) := fun d hd d' hd' => by
  rw [List.map_map] at hd hd'
  obtain ⟨x, _, rfl⟩ := List.mem_map.mp hd
  obtain ⟨y, _, rfl⟩ := List.mem_map.mp hd'
  exact alike_sx x y
theorem sortable_sx (l : List SV) : PySem.W.Sortable ((l.map sx).map toPy) := .inl fun d hd => by
  rw [List.map_map] at hd
  obtain ⟨x, _, rfl⟩ := List.mem_map.mp hd
  exact ⟨_, _, rfl⟩
theorem onO_dropD {ds : List D} {n : Nat} {k : List D → Prop} (h : n ≤ ds.length) (g : k (ds.drop n)) : onO (fzL (cutL (ds.map W.fz) (some (n : Int)) none)) k := by
  rw [cut_drop _ (by rw [List.length_map]; exact h), ← List.map_drop]
  exact onO_fzL g
theorem onO_takeD {ds : List D} {n : Nat} {k : List D → Prop} (h : n ≤ ds.length) (g : k (ds.take n)) : onO (fzL (cutL (ds.map W.fz) none (some (n : Int)))) k := by
  rw [cut_take _ (by rw [List.length_map]; exact h), ← List.map_take]
  exact onO_fzL g
theorem onO_appD {ds es : List D} {k : List D → Prop} (g : k (ds ++ es)) : onO (fzL (ds.map W.fz ++ es.map W.fz)) k := by
  rw [← List.map_append]
  exact onO_fzL g
theorem newL_app {ds es : List D} {S : Sto} {Kp : WK} (k : Kp (.fz (.lst (ds ++ es))) S) : newL false (ds.map W.fz ++ es.map W.fz) S Kp := by
  rw [← List.map_append]
  exact newL_F k
theorem OkL.perm {l l' : List SV} (h : OkL l) (p : l'.Perm l) : OkL l' := ⟨fun x hx => h.lo x (p.mem_iff.mp hx), (p.map _).nodup_iff.mpr h.nd, by rw [p.length_eq]; exact h.le⟩
theorem rot_perm {α : Type} (l : List α) (n : Nat) : (l.drop n ++ l.take n).Perm l := by
  have h := List.perm_append_comm (l₁ := l.drop n) (l₂ := l.take n)
  rw [List.take_append_drop] at h
  exact h
theorem lcW_sx {g : DG} {tt : DT} {te : DE} {env0 : En} {S : Sto} (p : SV → Bool) : ∀ {l : List SV} {Kp : List W → Sto → Prop},
    (∀ x ∈ l, ∀ (A : WK) (Bf : Sto → Prop), (if p x = true then A (.fz (sx x)) S else Bf S) → g (.fz (sx x)) env0 S fun env1 S1 => tt env1 S1 fun b S2 => ifB b (te env1 S2 A) (Bf S2)) →
    Kp (((l.filter p).map sx).map .fz) S → lcW g tt te env0 ((l.map sx).map .fz) S Kp
  | [], _, _, hk => hk
  | x :: l, Kp, h, hk => by
    refine h x List.mem_cons_self (fun y S3 => lcW g tt te env0 ((l.map sx).map .fz) S3 fun ys S4 => Kp (y :: ys) S4) (fun S2 => lcW g tt te env0 ((l.map sx).map .fz) S2 Kp) ?_
    by_cases hp : p x = true
    · rw [if_pos hp]
      refine lcW_sx p (fun u hu => h u (List.mem_cons_of_mem _ hu)) ?_
      rw [List.filter_cons_of_pos hp] at hk
      exact hk
    · rw [if_neg hp]
      refine lcW_sx p (fun u hu => h u (List.mem_cons_of_mem _ hu)) ?_
      rw [List.filter_cons_of_neg hp] at hk
      exact hk
theorem lcW_at {g : DG} {tt : DT} {te : DE} {env0 : En} {S : Sto} {l : List SV} (hn : (l.map (·.1.n)).Nodup) (n : Int) {Kp : List W → Sto → Prop}
    (h : ∀ x ∈ l, ∀ (A : WK) (Bf : Sto → Prop), (if decide (x.1.n = n) = true then A (.fz (sx x)) S else Bf S) → g (.fz (sx x)) env0 S fun env1 S1 => tt env1 S1 fun b S2 => ifB b (te env1 S2 A) (Bf S2))
    (hk : Kp (((at_ l n).toList.map sx).map .fz) S) : lcW g tt te env0 ((l.map sx).map .fz) S Kp := by
  refine lcW_sx (fun x => decide (x.1.n = n)) h ?_
  rw [filter_at hn]
  exact hk
theorem okPart (l1 l2 : List SV) (od : Option D) (h : od = none ∨ ∃ x y, od = some (.tup [sx x, sx y])) : okD 64 (od.getD .non) = true := by
  rcases h with rfl | ⟨x, y, rfl⟩
  · rfl
  · show (okD (59 + 4) (sx x) && (okD (59 + 4) (sx y) && true)) = true
    rw [okD_sx, okD_sx]
    rfl
end DL
/-! M6: versions -/
namespace DL
open PySem PySem.Spec PyProof.Rows L2

theorem onO_fzE {ws : List W} (ds : List D) {k : List D → Prop} (e : ws = ds.map W.fz) (h : k ds) : onO (fzL ws) k := by
  rw [e]
  exact onO_fzL h
theorem allG_map {α : Type} (F : α → W) (p : α → Bool) {g : DG} {tt : DT} {te : DE} {env0 : En} {S : Sto} {Kp : Bool → Sto → Prop} : ∀ {l : List α},
    (∀ a ∈ l, ∀ (X Y : Sto → Prop), ifB (p a) (X S) (Y S) → g (F a) env0 S fun env1 S1 => tt env1 S1 fun b S2 => ifB b (te env1 S2 fun y S3 => onB y fun k => ifB k (X S3) (Y S3)) (X S2)) →
    Kp (l.all p) S → allG g tt te env0 (l.map F) S Kp
  | [], _, hk => hk
  | a :: l, h, hk => by
    refine h a List.mem_cons_self (fun S3 => allG g tt te env0 (l.map F) S3 Kp) (fun S3 => Kp false S3) ?_
    rw [List.all_cons] at hk
    cases e : p a with
    | true =>
      rw [e] at hk
      exact allG_map F p (fun b hb => h b (List.mem_cons_of_mem _ hb)) hk
    | false =>
      rw [e] at hk
      exact hk
theorem allG_range (p : Nat → Bool) {g : DG} {tt : DT} {te : DE} {env0 : En} {S : Sto} {Kp : Bool → Sto → Prop} {j : Int} (n : Nat) (e : j.toNat = n)
    (h : ∀ k, k < n → ∀ (X Y : Sto → Prop), ifB (p k) (X S) (Y S) → g (.fz (.int (0 + (k : Nat)))) env0 S fun env1 S1 => tt env1 S1 fun b S2 => ifB b (te env1 S2 fun y S3 => onB y fun k => ifB k (X S3) (Y S3)) (X S2))
    (hk : Kp ((List.range n).all p) S) : allG g tt te env0 ((List.range j.toNat).map fun i => W.fz (.int (0 + (i : Nat)))) S Kp := by
  rw [e]
  exact allG_map (fun i : Nat => W.fz (.int (0 + (i : Nat)))) p (fun k hm X Y q => h k (List.mem_range.mp hm) X Y q) hk
/-- every two neighbours -/
def adj {α : Type} (f : α → α → Bool) : List α → Bool
  | x :: y :: r => f x y && adj f (y :: r)
  | _ => true
theorem adj_range {α : Type} (f : α → α → Bool) (d : α) : ∀ l : List α, (List.range (l.length - 1)).all (fun k => f (l.getD k d) (l.getD (k + 1) d)) = adj f l
  | [] => rfl
  | [_] => rfl
  | x :: y :: r => by
    have ih := adj_range f d (y :: r)
    show (List.range (r.length + 1)).all _ = (f x y && adj f (y :: r))
    rw [List.range_succ_eq_map, List.all_cons, List.all_map, ← ih]
    rfl
def verV (v : Ver) : D := .tup [.str "version", .int v.n, linkD v.l, .int v.k]
def vdig (b m : Int) (v : Ver) : Int := dig b m (verV v)
theorem ok_verV (v : Ver) : okVal 8 (verV v) := by
  refine ⟨val_tup 7 (by decide : 4 ≤ 1000) (valL_cons _ (val_str 6 (by decide)) rfl), ?_⟩
  have h3 : (enc (.str "version")).length = 9 := by decide
  unfold verV
  rw [enc_len_tup, encL_len_cons, encL_len_cons, encL_len_cons, encL_len_cons, encL_len_nil, h3, enc_len_int, enc_len_int, enc_link]
  omega
def leadsB (b m : Int) (u v : Ver) : Bool := decide (v.n = u.n + 1) && decide (v.k = vdig b m u)
def leadsL (b m : Int) (vs : List Ver) : Bool := adj (leadsB b m) vs
def histG (b m : Int) : Ver → List Link → List Ver
  | _, [] => []
  | u, l :: r => ⟨u.n + 1, l, vdig b m u⟩ :: histG b m ⟨u.n + 1, l, vdig b m u⟩ r
def histL (b m : Int) (l : Link) (r : List Link) : List Ver := ⟨0, l, 0⟩ :: histG b m ⟨0, l, 0⟩ r
theorem histG_len (b m : Int) : ∀ (r : List Link) (u : Ver), (histG b m u r).length = r.length
  | [], _ => rfl
  | _ :: r, u => by show (histG b m _ r).length + 1 = _; rw [histG_len b m r]; rfl
def spFirst : PSp := fun ds Q => ∃ l, ds = [linkD l] ∧ Q (verD ⟨0, l, 0⟩)
def spNext : PSp := fun ds Q => ∃ b m v l, ds = [ruleD b m, verD v, linkD l] ∧ isRule b m ∧ Q (verD ⟨v.n + 1, l, vdig b m v⟩)
def spVDig : PSp := fun ds Q => ∃ b m v, ds = [ruleD b m, verD v] ∧ isRule b m ∧ Q (.int (vdig b m v))
def spLeads : PSp := fun ds Q => ∃ b m u v, ds = [ruleD b m, verD u, verD v] ∧ isRule b m ∧ Q (.bl (leadsB b m u v))
def spFollows : PSp := fun ds Q => ∃ b m u v p, ds = [ruleD b m, verD u, verD v, .lst (p.map verD)] ∧ isRule b m ∧ p.length ≤ 100 ∧ Q (.bl (leadsL b m (u :: (p ++ [v]))))
def spLLeads : PSp := fun ds Q => ∃ b m vs, ds = [ruleD b m, .lst (vs.map verD)] ∧ isRule b m ∧ vs.length ≤ 200 ∧ Q (.bl (leadsL b m vs))
def spHist : PSp := fun ds Q => ∃ b m l r, ds = [ruleD b m, .lst ((l :: r).map linkD)] ∧ isRule b m ∧ r.length ≤ 20 ∧ Q (.lst ((histL b m l r).map verD))
def spHeads : PSp := fun ds Q => ∃ b m n, ds = [ruleD b m, .int n] ∧ 0 < n ∧ n ≤ 10 ∧ ∀ (t : Tab) (ts : List Tab), (∀ x ∈ t :: ts, isTab x ∧ x.length ≤ 15) → ts.length < n → Q (.lst ((t :: ts).map tabD))
theorem onO_ver {vs : List Ver} (i : Nat) {j : Int} {k : W → Prop} (d : Ver) (e : j = (i : Int)) (hi : i < vs.length) (h : k (.fz (verD (vs.getD i d)))) : onO (atI ((vs.map verD).map W.fz) j) k := by
  subst e
  refine onO_at (by omega) (by rw [List.length_map, List.length_map]; omega) fun x hx => ?_
  rw [show ((i : Int)).toNat = i from rfl, List.getElem?_map, List.getElem?_map, List.getElem?_eq_getElem hi] at hx
  cases hx
  rw [List.getD_eq_getElem?_getD, List.getElem?_eq_getElem hi] at h
  exact h
theorem onO_lastV {pre : List Ver} {u : Ver} {j : Int} {k : W → Prop} (e : j = -1) (h : k (.fz (verD u))) : onO (atI (((pre ++ [u]).map verD).map W.fz) j) k := by
  subst e
  rw [List.map_append, List.map_append]
  show onO (atI (_ ++ [W.fz (verD u)]) (-1)) k
  rw [atI_last]
  exact h
theorem dW_own {S : Sto} {n : Nat} {ws : List W} (ds : List D) {k : D → Prop} (hs : S[n]? = some (.lst ws)) (e : ws = ds.map W.fz) (h : k (.lst ds)) : onO (dW S (.hd n)) k := by
  subst e
  unfold dW
  simp only [hs, fzL_map]
  exact h
theorem onO_at0 {α : Type} {x : α} {xs : List α} {k : α → Prop} (h : k x) : onO (atI (x :: xs) 0) k := by
  have e : atI (x :: xs) 0 = some x := atI_nat (j := 0) rfl
  rw [e]
  exact h
theorem cut_map {α β : Type} (f : α → β) (l : List α) (lo hi : Option Int) : cutL (l.map f) lo hi = (cutL l lo hi).map f := by
  unfold cutL
  rw [List.length_map, List.map_take, List.map_drop]
theorem cut_len {α : Type} (l : List α) (lo hi : Option Int) : (cutL l lo hi).length ≤ l.length := by
  unfold cutL
  rw [List.length_take, List.length_drop]
  omega
theorem onO_cutV {vs : List Ver} {lo hi : Option Int} {k : List D → Prop} (g : k ((cutL vs lo hi).map verD)) : onO (fzL (cutL ((vs.map verD).map W.fz) lo hi)) k := by
  rw [cut_map, cut_map]
  exact onO_fzL g
theorem onO_appV {xs ys : List Ver} {k : List D → Prop} (g : k ((xs ++ ys).map verD)) : onO (fzL ((xs.map verD).map W.fz ++ (ys.map verD).map W.fz)) k := by
  refine onO_fzE _ ?_ g
  rw [List.map_append, List.map_append]
theorem szV {xs ys : List Ver} (h : xs.length + ys.length ≤ 1000) : ((xs.map verD).map W.fz).length + ((ys.map verD).map W.fz).length ≤ sizeLine := by
  rw [List.length_map, List.length_map, List.length_map, List.length_map]
  exact Nat.le_trans h (by decide)
theorem okDL_ver : ∀ (l : List Ver) (n : Nat), okDL (n + 3) (l.map verD) = true
  | [], _ => rfl
  | x :: l, n => by
    show (okD (n + 3) (verD x) && okDL (n + 3) (l.map verD)) = true
    rw [okD_ver, okDL_ver l n]
    rfl
theorem okD_lver (l : List Ver) (n : Nat) : okD (n + 4) (.lst (l.map verD)) = true := okDL_ver l n
theorem mem4 {a b c d x : W} {i : Nat} (h : [a, b, c, d][i]? = some x) : x = a ∨ x = b ∨ x = c ∨ x = d := by
  have h := List.mem_of_getElem? h
  simpa using h
end DL
/-! M7: right keys, rows, tables -/
namespace DL
open PySem PySem.Spec PyProof.Rows L2
def lettersS : Str := "abcdefghijklmnopqrstuvwxyz0123456789"
def keyB (k : Str) : Bool := (decide (1 ≤ ((k.length : Nat) : Int)) && decide (((k.length : Nat) : Int) ≤ 8)) && k.cps.toList.all fun c => decide (c ∈ lettersS.cps.toList)
def rowB (r : List Int) : Bool := (decide (1 ≤ ((r.length : Nat) : Int)) && decide (((r.length : Nat) : Int) ≤ 3)) && r.all fun i => decide (0 ≤ i) && decide (i ≤ 65535)
def tabB (rows : Tab) : Bool := decide (rows.length ≤ 100) && (rows.all (fun r => keyB r.1 && rowB r.2) && adj (fun a b => strLt a.1 b.1) rows)
def spKeyB : PSp := fun ds Q => ∃ k : Str, ds = [.str k] ∧ k.length ≤ 1000 ∧ Q (.bl (keyB k))
def spRowB : PSp := fun ds Q => ∃ r : List Int, ds = [rowD r] ∧ r.length ≤ 1000 ∧ Q (.bl (rowB r))
def spTabB : PSp := fun ds Q => ∃ rows : Tab, ds = [tabD rows] ∧ rows.length ≤ 1000 ∧ (∀ r ∈ rows, r.1.length ≤ 1000 ∧ r.2.length ≤ 1000) ∧ Q (.bl (tabB rows))
theorem allG_eq {g : DG} {tt : DT} {te : DE} {env0 : En} {ws ws' : List W} {S : Sto} {Kp : Bool → Sto → Prop} (e : ws = ws') (h : allG g tt te env0 ws' S Kp) : allG g tt te env0 ws S Kp := by
  rw [e]
  exact h
theorem onO_tabR {rows : Tab} (i : Nat) {j : Int} {k : W → Prop} (d : Str × List Int) (e : j = (i : Int)) (hi : i < rows.length) (h : k (.fz (tabR (rows.getD i d)))) : onO (atI ((rows.map tabR).map W.fz) j) k := by
  subst e
  refine onO_at (by omega) (by rw [List.length_map, List.length_map]; omega) fun x hx => ?_
  rw [show ((i : Int)).toNat = i from rfl, List.getElem?_map, List.getElem?_map, List.getElem?_eq_getElem hi] at hx
  cases hx
  rw [List.getD_eq_getElem?_getD, List.getElem?_eq_getElem hi] at h
  exact h
theorem len_l (k : Str) : k.length = k.cps.toList.length := by simp [Str.length]
theorem sign_letters : ∀ c : Nat, sign c = true → c ∈ lettersS.cps.toList := fun c h => by
  have h2 : c < 128 := by simp [sign] at h; omega
  have h3 : ∀ c : Fin 128, sign c.val = true → c.val ∈ lettersS.cps.toList := by decide +kernel
  exact h3 ⟨c, h2⟩ h
theorem keyB_of {k : Str} (h : isKey k) : keyB k = true := by
  obtain ⟨h1, h2, h3⟩ := h
  unfold keyB
  rw [len_l, decide_eq_true (by omega), decide_eq_true (by omega), Bool.true_and, Bool.true_and]
  exact List.all_eq_true.mpr fun c hc => decide_eq_true (sign_letters c (List.all_eq_true.mp h3 c hc))
theorem rowB_of {r : List Int} (h : isRow r) : rowB r = true := by
  obtain ⟨h1, h2, h3⟩ := h
  unfold rowB
  rw [decide_eq_true (by omega), decide_eq_true (by omega), Bool.true_and, Bool.true_and]
  refine List.all_eq_true.mpr fun i hi => ?_
  obtain ⟨a, b⟩ := h3 i hi
  rw [decide_eq_true a, decide_eq_true b]
  rfl
theorem adj_pw {α : Type} {f : α → α → Bool} : ∀ {l : List α}, l.Pairwise (fun a b => f a b = true) → adj f l = true
  | [], _ => rfl
  | [_], _ => rfl
  | x :: y :: r, h => by
    obtain ⟨h1, h2⟩ := List.pairwise_cons.mp h
    show (f x y && adj f (y :: r)) = true
    rw [h1 y List.mem_cons_self, adj_pw h2]
    rfl
theorem pw_adj {α : Type} {f : α → α → Bool} (tr : ∀ a b c, f a b = true → f b c = true → f a c = true) : ∀ {l : List α}, adj f l = true → l.Pairwise (fun a b => f a b = true)
  | [], _ => .nil
  | [_], _ => List.pairwise_singleton _ _
  | x :: y :: r, h => by
    have h' : (f x y && adj f (y :: r)) = true := h
    rw [Bool.and_eq_true] at h'
    have ih := pw_adj tr h'.2
    refine List.pairwise_cons.mpr ⟨fun z hz => ?_, ih⟩
    rcases List.mem_cons.mp hz with rfl | hz
    · exact h'.1
    · exact tr _ _ _ h'.1 ((List.pairwise_cons.mp ih).1 z hz)
theorem tabB_of {rows : Tab} (h : isTab rows) (hl : rows.length ≤ 100) : tabB rows = true := by
  unfold tabB
  rw [decide_eq_true hl, adj_pw h.1, Bool.true_and, Bool.and_true]
  refine List.all_eq_true.mpr fun r hr => ?_
  rw [keyB_of (h.2 r hr).1, rowB_of (h.2 r hr).2]
  rfl
theorem tabB_all {rows : Tab} (h : tabB rows = true) : ∀ r ∈ rows, keyB r.1 = true ∧ rowB r.2 = true := fun r hr => by
  unfold tabB at h
  rw [Bool.and_eq_true, Bool.and_eq_true] at h
  have := List.all_eq_true.mp h.2.1 r hr
  rwa [Bool.and_eq_true] at this
theorem tabB_pw {rows : Tab} (h : tabB rows = true) : rows.Pairwise fun a b => strLt a.1 b.1 = true := by
  unfold tabB at h
  rw [Bool.and_eq_true, Bool.and_eq_true] at h
  exact pw_adj (f := fun a b : Str × List Int => strLt a.1 b.1) (fun a b c h g => strLt_trans h g) h.2.2
theorem notB {b : Bool} (h : b = true → False) : b = false := by
  cases b with
  | false => rfl
  | true => exact (h rfl).elim
theorem tabB_bad {rows : Tab} {r : Str × List Int} (hr : r ∈ rows) (h : keyB r.1 = false ∨ rowB r.2 = false) : tabB rows = false := notB fun q => by
  obtain ⟨a, b⟩ := tabB_all q r hr
  rcases h with h | h
  · rw [h] at a; cases a
  · rw [h] at b; cases b
/-- two rows that stand the wrong way round -/
theorem tabB_two {A B C : Tab} {x y : Str × List Int} (h : strLt x.1 y.1 = false) : tabB (A ++ x :: (B ++ y :: C)) = false := notB fun q => by
  have pw := tabB_pw q
  rw [List.pairwise_append] at pw
  have := (List.pairwise_cons.mp pw.2.1).1 y (by simp)
  rw [h] at this
  cases this
/-- a list of rows whose texts are right -/
def okT (rows : Tab) : Prop := rows.length ≤ 200 ∧ ∀ r ∈ rows, r.1.length ≤ 100 ∧ r.2.length ≤ 100 ∧ PyData.strOk r.1 = true
theorem okT.okD {rows : Tab} (h : okT rows) : DL.okD 64 (tabD rows) = true := by
  show okDL 63 (rows.map tabR) = true
  refine okDL_of fun d hd => ?_
  obtain ⟨r, hr, rfl⟩ := List.mem_map.mp hd
  show (DL.okD 62 (.str r.1) && (DL.okD 62 (rowD r.2) && true)) = true
  rw [ok_str (h.2 r hr).2.2, ok_row]
  rfl
theorem okT_tab {rows : Tab} (h : isTab rows) (hl : rows.length ≤ 100) : okT rows := ⟨by omega, fun r hr => by
  obtain ⟨⟨a1, a2, a3⟩, b1, b2, b3⟩ := h.2 r hr
  exact ⟨by rw [len_l]; omega, by omega, key_ok ⟨a1, a2, a3⟩⟩⟩
theorem okT.app {a b : Tab} (h : okT a) (g : okT b) (hl : a.length + b.length ≤ 200) : okT (a ++ b) := ⟨by rw [List.length_append]; exact hl, fun r hr => by
  rcases List.mem_append.mp hr with hr | hr
  · exact h.2 r hr
  · exact g.2 r hr⟩
theorem okT.sub {a b : Tab} (h : okT b) (s : ∀ r ∈ a, r ∈ b) (hl : a.length ≤ b.length) : okT a := ⟨Nat.le_trans hl h.1, fun r hr => h.2 r (s r hr)⟩
theorem cut_mem {α : Type} {l : List α} {lo hi : Option Int} {x : α} (h : x ∈ cutL l lo hi) : x ∈ l := List.mem_of_mem_drop (List.mem_of_mem_take h)
theorem okT.cut {b : Tab} (h : okT b) (lo hi : Option Int) : okT (cutL b lo hi) := h.sub (fun _ hr => cut_mem hr) (cut_len _ _ _)
theorem onO_cutT {rows : Tab} {lo hi : Option Int} {k : List D → Prop} (g : k ((cutL rows lo hi).map tabR)) : onO (fzL (cutL ((rows.map tabR).map W.fz) lo hi)) k := by
  rw [cut_map, cut_map]
  exact onO_fzL g
theorem onO_appT {xs ys : Tab} {k : List D → Prop} (g : k ((xs ++ ys).map tabR)) : onO (fzL ((xs.map tabR).map W.fz ++ (ys.map tabR).map W.fz)) k := by
  refine onO_fzE _ ?_ g
  rw [List.map_append, List.map_append]
theorem szT {xs ys : Tab} (h : xs.length + ys.length ≤ 1000) : ((xs.map tabR).map W.fz).length + ((ys.map tabR).map W.fz).length ≤ sizeLine := by
  rw [List.length_map, List.length_map, List.length_map, List.length_map]
  exact Nat.le_trans h (by decide)
/-! texts -/
theorem slice_mem {x : Str} {l u : Option Int} {c : Nat} (h : c ∈ (Txt.slice x l u).cps.toList) : c ∈ x.cps.toList := by
  unfold Txt.slice at h
  split at h
  · exact h
  · simp only [List.mem_filterMap] at h
    obtain ⟨i, _, e⟩ := h
    rw [← Array.getElem?_toList] at e
    exact List.mem_of_getElem? e
theorem slice_ok {x : Str} {l u : Option Int} (h : ∀ c ∈ x.cps.toList, c < 128) : ∀ c ∈ (Txt.slice x l u).cps.toList, c < 128 := fun c hc => h c (slice_mem hc)
theorem strOk_of {x : Str} (h : ∀ c ∈ x.cps.toList, c < 128) : PyData.strOk x = true := by
  show (x.cps.all fun c => decide (c < 1114112)) = true
  rw [← Array.all_toList]
  exact List.all_eq_true.mpr fun c hc => decide_eq_true (by have := h c hc; omega)
theorem signs_bad {s : Str} {i : Nat} {c : Nat} (hx : s.cps.toList[i]? = some c) (hs : (s.cps.toList.all fun c => decide (c < 128) && !decide (c ∈ lettersS.cps.toList)) = true) : c < 128 ∧ ¬ c ∈ lettersS.cps.toList := by
  have := List.all_eq_true.mp hs c (List.mem_of_getElem? hx)
  rw [Bool.and_eq_true] at this
  exact ⟨of_decide_eq_true this.1, of_decide_eq_false (by simpa using this.2)⟩
theorem keyB_bad {x y : Str} {c : Nat} (h : ¬ c ∈ lettersS.cps.toList) : keyB (x ++ ⟨#[c]⟩ ++ y) = false := notB fun q => by
  unfold keyB at q
  rw [Bool.and_eq_true] at q
  have := List.all_eq_true.mp q.2 c (by rw [app_l, app_l]; simp)
  exact h (of_decide_eq_true this)
theorem rowB_bad {r : List Int} {i : Int} (hi : i ∈ r) (h : ¬ (0 ≤ i ∧ i ≤ 65535)) : rowB r = false := notB fun q => by
  unfold rowB at q
  rw [Bool.and_eq_true] at q
  have := List.all_eq_true.mp q.2 i hi
  rw [Bool.and_eq_true] at this
  exact h ⟨of_decide_eq_true this.1, of_decide_eq_true this.2⟩
/-! what is put into a list of wrong tables -/
def Wr (rows x : Tab) : Prop := okT x ∧ (x = rows ∨ tabB x = false)
theorem wr_dup {rows : Tab} {n : Nat} (hn : n ≤ rows.length) {v : Int} (hv : v = ((n - 1 : Nat) : Int)) :
    cutL rows none (some (n : Int)) ++ cutL rows (some v) (some (n : Int)) ++ cutL rows (some v) none = rows ∨ tabB (cutL rows none (some (n : Int)) ++ cutL rows (some v) (some (n : Int)) ++ cutL rows (some v) none) = false := by
  subst hv
  cases n with
  | zero =>
    refine .inl ?_
    rw [cut_take rows hn, show ((0 - 1 : Nat) : Int) = ((0 : Nat) : Int) from rfl, cut_drop rows hn]
    have e : cutL rows (some ((0 : Nat) : Int)) (some ((0 : Nat) : Int)) = [] := by
      unfold cutL
      rw [Nat.sub_eq_zero_of_le (by rw [HT.sIx_nat, HT.sIx_nat]; exact Nat.le_refl _), List.take_zero]
    rw [e]
    rfl
  | succ m =>
    refine .inr ?_
    have e0 : ((m + 1 - 1 : Nat) : Int) = ((m : Nat) : Int) := rfl
    rw [e0, cut_take rows hn, cut_drop rows (by omega)]
    have hm : m < rows.length := by omega
    rw [List.take_succ_eq_append_getElem hm, List.drop_eq_getElem_cons hm, List.append_assoc, List.append_assoc]
    exact tabB_two (strLt_irrefl _)
theorem wr_first {rows : Tab} (h : 0 < rows.length) : tabB (rows ++ cutL rows none (some 1)) = false := by
  cases rows with
  | nil => cases h
  | cons x r =>
    have e : cutL (x :: r) none (some ((1 : Nat) : Int)) = [x] := by rw [cut_take _ (by rw [List.length_cons]; omega)]; rfl
    rw [show (1 : Int) = ((1 : Nat) : Int) from rfl, e]
    exact tabB_two (A := []) (B := r) (C := []) (strLt_irrefl _)
theorem pw_at {rows : Tab} (ht : isTab rows) {i j : Nat} (h : i < j) (hj : j < rows.length) : strLt (rows[i]).1 (rows[j]).1 = true := List.pairwise_iff_getElem.mp ht.1 i j (by omega) hj h
theorem wr_swap {rows : Tab} (ht : isTab rows) {p : Nat} (hp : p + 1 < rows.length) (d : Str × List Int) {v : Int} : tabB (cutL rows none (some (p : Int)) ++ [rows.getD (p + 1) d, rows.getD p d] ++ cutL rows (some v) none) = false := by
  rw [List.getD_eq_getElem?_getD, List.getD_eq_getElem?_getD, List.getElem?_eq_getElem hp, List.getElem?_eq_getElem (show p < rows.length by omega), List.append_assoc]
  exact tabB_two (B := []) (strLt_asym (pw_at ht (Nat.lt_succ_self p) hp))
theorem wr_rot {rows : Tab} (ht : isTab rows) (h : 1 < rows.length) : tabB (cutL rows (some 1) none ++ cutL rows none (some 1)) = false := by
  rw [show (1 : Int) = ((1 : Nat) : Int) from rfl, cut_take _ (by omega), cut_drop _ (by omega)]
  match rows, h with
  | x :: y :: r, _ => exact tabB_two (A := []) (B := r) (C := []) (strLt_asym ((List.pairwise_cons.mp ht.1).1 y List.mem_cons_self))
def manyR : Tab := (List.range 101).map fun k => (("k" : Str) ++ (toString (100 + (0 + ((k : Nat) : Int)))), [0 + ((k : Nat) : Int)])
theorem many_false : tabB manyR = false := by
  unfold tabB
  rw [decide_eq_false (by unfold manyR; rw [List.length_map, List.length_range]; decide)]
  rfl
theorem many_true : tabB (cutL manyR none (some 100)) = true := by decide +kernel
theorem many_ok : (manyR.all fun r => decide (r.1.length ≤ 100) && (decide (r.2.length ≤ 100) && PyData.strOk r.1)) = true := by decide +kernel
theorem okT_many : okT manyR := ⟨by unfold manyR; rw [List.length_map, List.length_range]; decide, fun r hr => by
  have := List.all_eq_true.mp many_ok r hr
  rw [Bool.and_eq_true, Bool.and_eq_true] at this
  exact ⟨of_decide_eq_true this.1, of_decide_eq_true this.2.1, this.2.2⟩⟩
theorem wr_S (wr : List Tab) (a b : Tab) : ((wr ++ [a] ++ [b]).map tabD).map W.fz = (wr.map tabD).map W.fz ++ [W.fz (tabD a)] ++ [W.fz (tabD b)] := by simp
theorem lcW_mapF {α : Type} (F G : α → W) {g : DG} {tt : DT} {te : DE} {env0 : En} {S : Sto} : ∀ {l : List α} {Kp : List W → Sto → Prop},
    (∀ a ∈ l, ∀ (A : WK) (Bf : Sto → Prop), A (G a) S → g (F a) env0 S fun env1 S1 => tt env1 S1 fun b S2 => ifB b (te env1 S2 A) (Bf S2)) →
    Kp (l.map G) S → lcW g tt te env0 (l.map F) S Kp
  | [], _, _, hk => hk
  | x :: l, Kp, h, hk => by
    refine h x List.mem_cons_self (fun y S3 => lcW g tt te env0 (l.map F) S3 fun ys S4 => Kp (y :: ys) S4) (fun S2 => lcW g tt te env0 (l.map F) S2 Kp) ?_
    exact lcW_mapF F G (fun u hu => h u (List.mem_cons_of_mem _ hu)) hk
theorem many_eq : (List.range 101).map (fun k => W.fz (tabR (("k" : Str) ++ (toString (100 + (0 + ((k : Nat) : Int)))), [0 + ((k : Nat) : Int)]))) = (manyR.map tabR).map W.fz := by
  unfold manyR
  rw [List.map_map, List.map_map]
  rfl
theorem many_num : ∀ k : Nat, k < 101 → (100 + (0 + ((k : Nat) : Int))).natAbs.log2 < 1920 ∧ ("k" : Str).length + (Str.ofString (toString (100 + (0 + ((k : Nat) : Int))))).length ≤ 1000 := fun k hk => by
  have h : ∀ k : Fin 101, (100 + (0 + ((k.val : Nat) : Int))).natAbs.log2 < 1920 ∧ ("k" : Str).length + (Str.ofString (toString (100 + (0 + ((k.val : Nat) : Int))))).length ≤ 1000 := by decide +kernel
  exact h ⟨k, hk⟩
theorem many_all : ∃ mr : Tab, mr = manyR ∧ tabB mr = false ∧ okT mr ∧ tabB (cutL mr none (some 100)) = true := ⟨manyR, rfl, many_false, okT_many, many_true⟩
theorem newL_E {ws : List W} (ds : List D) {S : Sto} {Kp : WK} (e : ws = ds.map W.fz) (h : Kp (.fz (.lst ds)) S) : newL false ws S Kp := by
  rw [e]
  exact newL_F h
end DL
/-! M8: paths of versions -/
namespace DL
open PySem PySem.Spec PyProof.Rows L2
theorem eqD_tup3 (a b c a' b' c' : D) : eqD (.tup [a, b, c]) (.tup [a', b', c']) = (eqD a a' && (eqD b b' && eqD c c')) := by
  show PyData.eqvAll _ _ = _
  rw [toPyL, toPyL, toPyL, toPyL, toPyL, toPyL, toPyL, toPyL]
  rw [PyData.eqvAll, PyData.eqvAll, PyData.eqvAll, PyData.eqvAll, Bool.and_true]
  rfl
theorem eqD_link {x y : Link} (h : eqD (linkD x) (linkD y) = true) : x = y := by
  unfold linkD at h
  rw [eqD_tup3, eqD_tup3, eqD_ii, eqD_ii, eqD_ii, eqD_ii, eqD_ii] at h
  simp only [Bool.and_eq_true, decide_eq_true_eq] at h
  obtain ⟨h1, h2, h3, h4, h5⟩ := h
  cases x; cases y
  simp_all
theorem eqD_ver {x y : Ver} (h : eqD (verD x) (verD y) = true) : x = y := by
  unfold verD at h
  rw [eqD_tup3, eqD_ii, eqD_ii] at h
  simp only [Bool.and_eq_true, decide_eq_true_eq] at h
  obtain ⟨h1, h2, h3⟩ := h
  have := eqD_link h2
  cases x; cases y
  simp_all
def clashG (b m : Int) : List (Ver × Ver) → D
  | [] => .non
  | (x, y) :: r => if eqD (verD x) (verD y) = true then clashG b m r else if vdig b m x = vdig b m y then .tup [verD x, verD y] else .non
def clashV (b m : Int) (h g : List Ver) : D := clashG b m (h.reverse.zip g.reverse)
theorem clashG_ok (b m : Int) : ∀ l, okD 64 (clashG b m l) = true
  | [] => rfl
  | (x, y) :: r => by
    unfold clashG
    split
    · exact clashG_ok b m r
    · split
      · rfl
      · rfl
def spClashP : PSp := fun ds Q => ∃ b m h g, ds = [ruleD b m, .lst (h.map verD), .lst (g.map verD)] ∧ isRule b m ∧ h.length ≤ 100 ∧ g.length ≤ 100 ∧ Q (clashV b m h g)
theorem zipR_eq (h g : List Ver) : (((h.map verD).reverse.zip (g.map verD).reverse).map fun p => W.fz (.tup [p.1, p.2])) = (h.reverse.zip g.reverse).map fun p => W.fz (.tup [verD p.1, verD p.2]) := by
  rw [← List.map_reverse, ← List.map_reverse, List.zip_map, List.map_map]
  rfl
/-! what the chain of digests gives -/
def back (b m : Int) : List Ver → Bool := adj fun x y => leadsB b m y x
theorem adj_append {α : Type} {f : α → α → Bool} : ∀ {l r : List α} {x : α}, adj f (l ++ x :: r) = (adj f (l ++ [x]) && adj f (x :: r))
  | [], r, x => by
    cases r with
    | nil => rfl
    | cons y r => show (f x y && _) = (true && (f x y && _)); rw [Bool.true_and]
  | [y], r, x => by
    show (f y x && adj f (x :: r)) = ((f y x && adj f [x]) && adj f (x :: r))
    show _ = ((f y x && true) && adj f (x :: r))
    rw [Bool.and_true]
  | y :: z :: l, r, x => by
    have ih := adj_append (f := f) (l := z :: l) (r := r) (x := x)
    show (f y z && adj f (z :: l ++ x :: r)) = ((f y z && adj f (z :: l ++ [x])) && adj f (x :: r))
    rw [ih, Bool.and_assoc]
theorem adj_rev {α : Type} {f : α → α → Bool} : ∀ l : List α, adj (fun x y => f y x) l.reverse = adj f l
  | [] => rfl
  | [_] => rfl
  | x :: y :: l => by
    have ih := adj_rev (f := f) (y :: l)
    rw [List.reverse_cons, List.reverse_cons, List.append_assoc]
    show adj _ (l.reverse ++ y :: [x]) = (f x y && adj f (y :: l))
    rw [adj_append, ← ih, List.reverse_cons, Bool.and_comm]
    show (f x y && true && _) = _
    rw [Bool.and_true]
theorem clash_back {b m : Int} : ∀ (hr gr : List Ver) (v : Ver), back b m (v :: hr) = true → back b m (v :: gr) = true → gr.length ≤ hr.length → clashG b m (hr.zip gr) = .non → gr = hr.take gr.length
  | _, [], _, _, _, _, _ => rfl
  | [], _ :: _, _, _, _, h, _ => by cases h
  | x :: hr, y :: gr, v, h1, h2, hl, hc => by
    have a1 : (leadsB b m x v && back b m (x :: hr)) = true := h1
    have a2 : (leadsB b m y v && back b m (y :: gr)) = true := h2
    rw [Bool.and_eq_true] at a1 a2
    rw [List.zip_cons_cons, clashG] at hc
    by_cases e : eqD (verD x) (verD y) = true
    · rw [if_pos e] at hc
      have exy := eqD_ver e
      subst exy
      rw [List.length_cons, List.take_succ_cons, ← clash_back hr gr x a1.2 a2.2 (by simpa using hl) hc]
    · rw [if_neg e] at hc
      have b1 := a1.1
      have b2 := a2.1
      unfold leadsB at b1 b2
      rw [Bool.and_eq_true] at b1 b2
      have c1 := of_decide_eq_true b1.2
      have c2 := of_decide_eq_true b2.2
      rw [if_pos (c1.symm.trans c2)] at hc
      cases hc
/-- the law of the paths -/
theorem clash_told {b m : Int} {h g : List Ver} (hh : leadsL b m h = true) (hg : leadsL b m g = true) (hl : g.length ≤ h.length) {ph pg : List Ver} {u : Ver} (eh : h = ph ++ [u]) (eg : g = pg ++ [u]) (hc : clashV b m h g = .non) : g = h.drop (h.length - g.length) := by
  unfold clashV at hc
  have rh : h.reverse = u :: ph.reverse := by rw [eh]; simp
  have rg : g.reverse = u :: pg.reverse := by rw [eg]; simp
  have bh : back b m (u :: ph.reverse) = true := by rw [← rh]; unfold back; rw [adj_rev]; exact hh
  have bg : back b m (u :: pg.reverse) = true := by rw [← rg]; unfold back; rw [adj_rev]; exact hg
  have hl2 : pg.length ≤ ph.length := by rw [eh, eg] at hl; simpa using hl
  rw [rh, rg, List.zip_cons_cons, clashG, if_pos (eqD_refl _)] at hc
  have := clash_back ph.reverse pg.reverse u bh bg (by simpa using hl2) hc
  have e1 : pg = ph.drop (ph.length - pg.length) := by
    have q := congrArg List.reverse this
    rw [List.reverse_reverse, List.length_reverse, List.reverse_take, List.reverse_reverse, List.length_reverse] at q
    exact q
  rw [eh, eg, List.length_append, List.length_append]
  show pg ++ [u] = (ph ++ [u]).drop (ph.length + 1 - (pg.length + 1))
  rw [Nat.add_sub_add_right, List.drop_append_of_le_length (by omega), ← e1]
theorem hist_leads (b m : Int) : ∀ (r : List Link) (u : Ver), leadsL b m (u :: histG b m u r) = true
  | [], _ => rfl
  | l :: r, u => by
    show (leadsB b m u ⟨u.n + 1, l, vdig b m u⟩ && leadsL b m (_ :: histG b m _ r)) = true
    rw [hist_leads b m r]
    unfold leadsB
    rw [decide_eq_true rfl, decide_eq_true rfl]
    rfl
theorem adj_take {α : Type} {f : α → α → Bool} : ∀ {l : List α} {n : Nat}, adj f l = true → adj f (l.take n) = true
  | [], n, _ => by rw [List.take_nil]; rfl
  | [x], 0, _ => rfl
  | [x], n + 1, _ => by rw [List.take_succ_cons, List.take_nil]; rfl
  | x :: y :: l, 0, _ => rfl
  | x :: y :: l, 1, _ => rfl
  | x :: y :: l, n + 2, h => by
    have h' : (f x y && adj f (y :: l)) = true := h
    rw [Bool.and_eq_true] at h'
    have ih := adj_take (n := n + 1) h'.2
    rw [List.take_succ_cons] at ih ⊢
    rw [List.take_succ_cons]
    show (f x y && adj f (y :: l.take n)) = true
    rw [h'.1, ih]
    rfl
theorem min_nat (x y : Nat) : (if (y : Int) < (x : Int) then (y : Int) else (x : Int)).toNat = min x y := by
  split <;> omega
theorem zip_back {h g : List Ver} {j : Nat} (d : Ver) (hj : j < min h.length g.length) : (h.reverse.zip g.reverse).drop j = (h.getD (h.length - 1 - j) d, g.getD (g.length - 1 - j) d) :: (h.reverse.zip g.reverse).drop (j + 1) := by
  have hl : j < (h.reverse.zip g.reverse).length := by rw [List.length_zip, List.length_reverse, List.length_reverse]; exact hj
  rw [List.drop_eq_getElem_cons hl]
  congr 1
  have a : h.length - 1 - j < h.length := by omega
  have b : g.length - 1 - j < g.length := by omega
  rw [List.getD_eq_getElem?_getD, List.getD_eq_getElem?_getD, List.getElem?_eq_getElem a, List.getElem?_eq_getElem b, List.getElem_zip, List.getElem_reverse, List.getElem_reverse]
  rfl
theorem zip_end {h g : List Ver} : (h.reverse.zip g.reverse).drop (min h.length g.length) = [] := List.drop_eq_nil_of_le (by rw [List.length_zip, List.length_reverse, List.length_reverse]; exact Nat.le_refl _)
theorem range_drop {n j : Nat} (h : j < n) : (List.range n).drop j = j :: (List.range n).drop (j + 1) := by
  have hl : j < (List.range n).length := by rw [List.length_range]; exact h
  rw [List.drop_eq_getElem_cons hl, List.getElem_range]
theorem onO_mapAt {α : Type} (f : α → D) {l : List α} {i : Int} {k : W → Prop} (h0 : 0 ≤ i) (h1 : i < ((l.map f).map W.fz).length) (h : ∀ a ∈ l, k (.fz (f a))) : onO (atI ((l.map f).map W.fz) i) k := by
  refine onO_at h0 h1 fun x hx => ?_
  have := List.mem_of_getElem? hx
  obtain ⟨d, hd, rfl⟩ := List.mem_map.mp this
  obtain ⟨a, ha, rfl⟩ := List.mem_map.mp hd
  exact h a ha
theorem cut_len2 {α : Type} {l : List α} {s t : Nat} {j : Int} (e : j = (t : Int)) (hs : s ≤ t) (ht : t ≤ l.length) : (cutL l (some (s : Int)) (some j)).length = t - s := by
  subst e
  unfold cutL
  rw [HT.sIx_nat, HT.sIx_nat, List.length_take, List.length_drop]
  omega
theorem set_len {p : List Ver} {n : Nat} {o : Ver} {j : Int} (e : j = ((n + 1 : Nat) : Int)) (h : n < p.length) : (cutL p none (some (n : Int)) ++ [o] ++ cutL p (some j) none).length = p.length := by
  subst e
  rw [cut_take p (by omega), cut_drop p (by omega), List.length_append, List.length_append, List.length_take, List.length_drop]
  show min n p.length + 1 + _ = _
  omega
theorem cut_mid (x u : Ver) (mid : List Ver) {j : Int} (e : j = -1) : cutL (x :: (mid ++ [u])) (some 1) (some j) = mid := by
  subst e
  unfold cutL
  have h1 : HT.sIx (x :: (mid ++ [u])).length 0 (some 1) = 1 := by
    rw [show (1 : Int) = ((1 : Nat) : Int) from rfl, HT.sIx_nat, List.length_cons]
    omega
  have h2 : HT.sIx (x :: (mid ++ [u])).length (x :: (mid ++ [u])).length (some (-1)) = mid.length + 1 := by
    show (if (-1 : Int) < 0 then ((-1 : Int) + ((x :: (mid ++ [u])).length : Int)).toNat else min (-1 : Int).toNat (x :: (mid ++ [u])).length) = _
    rw [if_pos (by decide), List.length_cons, List.length_append]
    show ((-1 : Int) + ((mid.length + 1 + 1 : Nat) : Int)).toNat = _
    omega
  rw [h1, h2]
  show ((mid ++ [u]).take (mid.length + 1 - 1)) = mid
  rw [Nat.add_sub_cancel, List.take_left']
  rfl
theorem isNone_non {d : D} (h : isNoneW (.fz d) = true) : d = .non := by
  cases d <;> first | rfl | cases h
theorem okD_l2 (a c : List Ver) : okD 64 (.lst [.lst (a.map verD), .lst (c.map verD)]) = true := by
  show (okD (59 + 4) (.lst (a.map verD)) && (okD (59 + 4) (.lst (c.map verD)) && true)) = true
  rw [okD_lver, okD_lver]
  rfl
theorem clashV_nil (b m : Int) (vs : List Ver) : clashV b m vs [] = .non := by
  unfold clashV
  rw [List.reverse_nil, List.zip_nil_right]
  rfl
end DL
/-! M9: the library's own trees -/
namespace DL
open PySem PySem.Spec PyProof.Rows L2
def treeO (C : Addr) (b m : Int) : Tr → D
  | .nil => .obj C [("link", linkD (link0 b m)), ("entry", .non), ("left", .non), ("right", .non)]
  | .node k r x y => .obj C [("link", linkD (linkOf b m k r (linkT b m x) (linkT b m y))), ("entry", entD k r (linkT b m x) (linkT b m y)), ("left", treeO C b m x), ("right", treeO C b m y)]
theorem treeO_link (C : Addr) (b m : Int) (t : Tr) : ∃ fs, treeO C b m t = .obj C fs ∧ fs.lookup ("link" : Str) = some (linkD (linkT b m t)) := by
  cases t with
  | nil => exact ⟨_, rfl, rfl⟩
  | node k r x y => exact ⟨_, rfl, rfl⟩
theorem onO_some {α : Type} {o : Option α} {x : α} {k : α → Prop} (e : o = some x) (h : k x) : onO o k := by
  rw [e]
  exact h
def outB (one two : Str) : Bool := PySem.W.dataLt (toPy (.tup [.int (rankI two), .str one])) (toPy (.tup [.int (rankI one), .str two]))
theorem outB_eq {one two : Str} (h : strLt two one = true) : outB one two = decide (rankI two < rankI one) := by
  have e : ∀ (i : Int) (s : Str), PySem.W.keyToks (toPy (.tup [.int i, .str s])) = [Sum.inl 1, Sum.inl i, Sum.inl 1, Sum.inr s.cps.toList, Sum.inl 0] := fun _ _ => rfl
  unfold outB PySem.W.dataLt
  rw [e, e, lex_self, lex_cons, lex_self, lex_cons]
  have b1 : itemOrd.blt (Sum.inl (rankI two)) (Sum.inl (rankI one)) = decide (rankI two < rankI one) := rfl
  have b2 : itemOrd.blt (Sum.inr one.cps.toList) (Sum.inr two.cps.toList) = false := by
    have q : strLt one two = false := strLt_asym h
    exact q
  rw [b1, b2, Bool.false_or, lex_irrefl, Bool.and_false, Bool.and_false, Bool.or_false]
def spOut : PSp := fun ds Q => ∃ one two : Str, ds = [.str one, .str two] ∧ isKey one ∧ isKey two ∧ Q (.bl (outB one two))
def spELink : PSp := fun ds Q => ∃ b m, ds = [ruleD b m] ∧ isRule b m ∧ Q (linkD (link0 b m))
def spETree (C : Addr) : PSp := fun ds Q => ∃ b m, ds = [ruleD b m] ∧ isRule b m ∧ Q (treeO C b m .nil)
def spNodeO (C : Addr) : PSp := fun ds Q => ∃ b m k r x y, ds = [ruleD b m, .str k, rowD r, treeO C b m x, treeO C b m y] ∧ isRule b m ∧ isKey k ∧ isRow r ∧ Q (treeO C b m (.node k r x y))
def spTreeO (C : Addr) (n : Nat) : PSp := fun ds Q => ∃ b m rows, ds = [ruleD b m, tabD rows] ∧ isRule b m ∧ isTab rows ∧ rows.length ≤ n ∧ n ≤ 100 ∧ Q (treeO C b m (treeT rows))
def spHead (n : Nat) : PSp := fun ds Q => ∃ b m rows, ds = [ruleD b m, tabD rows] ∧ isRule b m ∧ isTab rows ∧ rows.length ≤ n ∧ n ≤ 100 ∧ Q (linkD (linkT b m (treeT rows)))
theorem top_from1 {rows : Tab} (h : 0 < rows.length) : (List.range (rows.length - 1)).foldl (fun b k => if rankI (rowAt rows b).1 < rankI (rowAt rows (k + 1)).1 then k + 1 else b) 0 = topN rows := by
  unfold topN
  obtain ⟨n, e⟩ : ∃ n, rows.length = n + 1 := ⟨rows.length - 1, by omega⟩
  rw [e, Nat.add_sub_cancel, List.range_succ_eq_map, List.foldl_cons, if_neg (Int.lt_irrefl _), List.foldl_map]
end DL
/-! M10: questions of a table, their answers -/
namespace DL
open PySem PySem.Spec PyProof.Rows L2
def inB (lo hi : Str) (r : Str × List Int) : Bool := !strLt r.1 lo && strLt r.1 hi
inductive Qy where
  | get (k : Str) | rng (lo hi : Str) | nxt (b : Str) (n : Int) | cnt (lo hi : Str) | sm (c : Int) (lo hi : Str) | plc (b : Str) | at (i : Int)
def qD : Qy → D
  | .get k => .tup [.str "get", .str k]
  | .rng lo hi => .tup [.str "range", .str lo, .str hi]
  | .nxt b n => .tup [.str "next", .str b, .int n]
  | .cnt lo hi => .tup [.str "count", .str lo, .str hi]
  | .sm c lo hi => .tup [.str "sum", .int c, .str lo, .str hi]
  | .plc b => .tup [.str "place", .str b]
  | .at i => .tup [.str "at", .int i]
def isBd (s : Str) : Prop := PyData.strOk s = true ∧ s.length ≤ 100
def isQ : Qy → Prop
  | .get k => isBd k
  | .rng lo hi => isBd lo ∧ isBd hi
  | .nxt b n => isBd b ∧ 0 ≤ n ∧ n ≤ 1000
  | .cnt lo hi => isBd lo ∧ isBd hi
  | .sm c lo hi => (0 ≤ c ∧ c ≤ 2) ∧ isBd lo ∧ isBd hi
  | .plc b => isBd b
  | .at i => 0 ≤ i ∧ i ≤ 1000
def getD (rows : Tab) (k : Str) : D := match rows.find? fun r => decide (r.1 = k) with
  | some r => rowD r.2
  | none => .non
def ansD (rows : Tab) : Qy → D
  | .get k => getD rows k
  | .rng lo hi => tabD (rows.filter (inB lo hi))
  | .nxt b n => tabD ((rows.filter fun r => strLt b r.1).take n.toNat)
  | .cnt lo hi => .int ((rows.filter (inB lo hi)).length : Nat)
  | .sm c lo hi => .int ((rows.filter (inB lo hi)).map fun r => cellI r.2 c.toNat).sum
  | .plc b => .int ((rows.filter fun r => strLt r.1 b).length : Nat)
  | .at i => match rows[i.toNat]? with
    | some r => tabR r
    | none => .non
def spWithin : PSp := fun ds Q => ∃ rows lo hi, ds = [tabD rows, .str lo, .str hi] ∧ rows.length ≤ 100 ∧ Q (tabD (rows.filter (inB lo hi)))
theorem m_spWithin : ∀ (ds : List D) (A B : D → Prop), (∀ d, A d → B d) → spWithin ds A → spWithin ds B := fun ds A B h ⟨rows, lo, hi, e, h1, h4⟩ => ⟨rows, lo, hi, e, h1, h _ h4⟩
def spAns : PSp := fun ds Q => ∃ rows q, ds = [tabD rows, qD q] ∧ isTab rows ∧ rows.length ≤ 100 ∧ isQ q ∧ Q (ansD rows q)
theorem m_spAns : ∀ (ds : List D) (A B : D → Prop), (∀ d, A d → B d) → spAns ds A → spAns ds B := fun ds A B h ⟨rows, q, e, h1, h2, h3, h4⟩ => ⟨rows, q, e, h1, h2, h3, h _ h4⟩
def spBound : PSp := fun ds Q => ∃ rows, ds = [tabD rows] ∧ isTab rows ∧ rows.length ≤ 100 ∧ ∀ b, isBd b → Q (.str b)
def spQuery : PSp := fun ds Q => ∃ rows, ds = [tabD rows] ∧ isTab rows ∧ rows.length ≤ 100 ∧ ∀ q, isQ q → Q (qD q)
theorem newL_L {Kp : D → Prop} {S : Sto} {ds : List D} (h : Kp (.lst ds)) : newL true (ds.map W.fz) S (fun u S' => retL Kp u S') := by
  show onO (lstAt (S ++ [OD.lst (ds.map W.fz)]) S.length) _
  exact lstAt_last (onO_fz h)
theorem newL_M {Kp : D → Prop} {S : Sto} {ds : List D} (h : Kp (.lst ds)) : newL true (ds.map W.fz) S (fun u S' => retM Kp u S') := by
  show onO (lstAt (S ++ [OD.lst (ds.map W.fz)]) S.length) _
  exact lstAt_last (onO_fz h)
theorem key_lt {k : Str} (h : isKey k) : ∀ c ∈ k.cps.toList, c < 128 := fun c hc => by
  have := List.all_eq_true.mp h.2.2 c hc
  simp [sign] at this
  omega
theorem key_bd {k : Str} (h : isKey k) : isBd k := ⟨key_ok h, by have := h.1; have := h.2.1; rw [len_l]; omega⟩
theorem bd_app {k s : Str} (h : isKey k) (hs : s = "" ∨ s = "0") : isBd (k ++ s) := by
  have h8 : k.cps.toList.length ≤ 8 := h.2.1
  have hs1 : s.cps.toList.length ≤ 1 ∧ ∀ c ∈ s.cps.toList, c < 128 := by
    rcases hs with rfl | rfl
    · decide +kernel
    · decide +kernel
  refine ⟨strOk_of fun c hc => ?_, ?_⟩
  · rw [app_l] at hc
    rcases List.mem_append.mp hc with hc | hc
    · exact key_lt h c hc
    · exact hs1.2 c hc
  · rw [len_l, app_l, List.length_append]
    omega
theorem cut_takeA {α : Type} (l : List α) (m : Nat) {j : Int} (e : j = (m : Int)) : cutL l none (some j) = l.take m := by
  subst e
  by_cases h : m ≤ l.length
  · exact cut_take l h
  · unfold cutL
    rw [HT.sIx_nat]
    show (l.drop 0).take (min m l.length - 0) = _
    rw [List.drop_zero, Nat.sub_zero, List.take_of_length_le (show l.length ≤ min m l.length by omega), List.take_of_length_le (by omega)]
theorem lcW_eq {g : DG} {tt : DT} {te : DE} {env0 : En} {ws ws' : List W} {S : Sto} {Kp : List W → Sto → Prop} (e : ws = ws') (h : lcW g tt te env0 ws' S Kp) : lcW g tt te env0 ws S Kp := by
  rw [e]
  exact h
theorem mapR (l : Tab) : (l.map tabR).map W.fz = l.map fun r => W.fz (tabR r) := by
  rw [List.map_map]
  rfl
theorem tab_lenI (l : Tab) : ((((l.map tabR).map W.fz).length : Nat) : Int) = ((l.length : Nat) : Int) := by rw [List.length_map, List.length_map]
theorem tab_lenN (l : Tab) : ((l.map tabR).map W.fz).length = l.length := by rw [List.length_map, List.length_map]
theorem kp_int {Kp : D → Prop} {a b : Int} (e : a = b) (h : Kp (.int b)) : Kp (.int a) := by
  rw [e]
  exact h
theorem isTab.filter {rows : Tab} (h : isTab rows) (p : Str × List Int → Bool) : ∀ r ∈ rows.filter p, isKey r.1 ∧ isRow r.2 := fun r hr => h.2 r ((List.mem_filter.mp hr).1)
theorem getD_pos {r : Str × List Int} {rs : Tab} {k : Str} (h : decide (r.1 = k) = true) : getD (r :: rs) k = rowD r.2 := by
  unfold getD
  rw [List.find?_cons]
  simp only [h]
theorem getD_neg {r : Str × List Int} {rs : Tab} {k : Str} (h : decide (r.1 = k) = false) : getD (r :: rs) k = getD rs k := by
  unfold getD
  rw [List.find?_cons]
  simp only [h]
theorem sumG_map {α : Type} {g : DG} {tt : DT} {te : DE} {env0 : En} {S : Sto} (F : α → W) (f : α → Int) : ∀ {l : List α} {z : Int} {Kp : Int → Sto → Prop},
    (∀ a ∈ l, ∀ (A : WK) (Bf : Sto → Prop), A (.fz (.int (f a))) S → g (F a) env0 S fun env1 S1 => tt env1 S1 fun b S2 => ifB b (te env1 S2 A) (Bf S2)) →
    Kp (z + (l.map f).sum) S → sumG g tt te env0 (l.map F) S z Kp
  | [], z, Kp, _, hk => by
    rw [List.map_nil, List.sum_nil, Int.add_zero] at hk
    exact hk
  | x :: l, z, Kp, h, hk => by
    refine h x List.mem_cons_self (fun y S3 => onI y fun k => sumG g tt te env0 (l.map F) S3 (z + k) Kp) (fun S2 => sumG g tt te env0 (l.map F) S2 z Kp) ?_
    rw [List.map_cons, List.sum_cons, ← Int.add_assoc] at hk
    exact sumG_map F f (fun a ha => h a (List.mem_cons_of_mem _ ha)) hk
theorem sumG_count {α : Type} {g : DG} {tt : DT} {te : DE} {env0 : En} {S : Sto} (F : α → W) (p : α → Bool) : ∀ {l : List α} {z : Int} {Kp : Int → Sto → Prop},
    (∀ a ∈ l, ∀ (A : WK) (Bf : Sto → Prop), (p a = true → A (.fz (.int 1)) S) → (p a = false → Bf S) → g (F a) env0 S fun env1 S1 => tt env1 S1 fun b S2 => ifB b (te env1 S2 A) (Bf S2)) →
    Kp (z + ((l.filter p).length : Nat)) S → sumG g tt te env0 (l.map F) S z Kp
  | [], z, Kp, _, hk => by
    have e : z + ((([] : List α).filter p).length : Nat) = z := by simp
    rw [e] at hk
    exact hk
  | x :: l, z, Kp, h, hk => by
    refine h x List.mem_cons_self (fun y S3 => onI y fun k => sumG g tt te env0 (l.map F) S3 (z + k) Kp) (fun S2 => sumG g tt te env0 (l.map F) S2 z Kp) (fun hp => ?_) (fun hp => ?_)
    · have e : z + (((x :: l).filter p).length : Nat) = z + 1 + ((l.filter p).length : Nat) := by rw [List.filter_cons_of_pos hp, List.length_cons]; omega
      rw [e] at hk
      exact sumG_count F p (fun a ha => h a (List.mem_cons_of_mem _ ha)) hk
    · rw [List.filter_cons_of_neg (by rw [hp]; exact Bool.false_ne_true)] at hk
      exact sumG_count F p (fun a ha => h a (List.mem_cons_of_mem _ ha)) hk
theorem sumG_eq {g : DG} {tt : DT} {te : DE} {env0 : En} {ws ws' : List W} {S : Sto} {z : Int} {Kp : Int → Sto → Prop} (e : ws = ws') (h : sumG g tt te env0 ws' S z Kp) : sumG g tt te env0 ws S z Kp := by
  rw [e]
  exact h
theorem lcW_rowsG {g : DG} {tt : DT} {te : DE} {env0 : En} {S : Sto} (p : Str × List Int → Bool) (G : Str × List Int → W) : ∀ {rows : Tab} {Kp : List W → Sto → Prop},
    (∀ r ∈ rows, ∀ (A : WK) (Bf : Sto → Prop), (p r = true → A (G r) S) → (p r = false → Bf S) → g (.fz (tabR r)) env0 S fun env1 S1 => tt env1 S1 fun b S2 => ifB b (te env1 S2 A) (Bf S2)) →
    Kp ((rows.filter p).map G) S → lcW g tt te env0 ((rows.map tabR).map W.fz) S Kp
  | [], _, _, hk => hk
  | r :: rows, Kp, h, hk => by
    refine h r List.mem_cons_self (fun y S3 => lcW g tt te env0 ((rows.map tabR).map W.fz) S3 fun ys S4 => Kp (y :: ys) S4) (fun S2 => lcW g tt te env0 ((rows.map tabR).map W.fz) S2 Kp) (fun hp => ?_) (fun hp => ?_)
    · refine lcW_rowsG p G (fun q hq => h q (List.mem_cons_of_mem _ hq)) ?_
      rw [List.filter_cons_of_pos hp] at hk
      exact hk
    · refine lcW_rowsG p G (fun q hq => h q (List.mem_cons_of_mem _ hq)) ?_
      rw [List.filter_cons_of_neg (by rw [hp]; exact Bool.false_ne_true)] at hk
      exact hk
theorem getD_filter (rows : Tab) (k : Str) : getD rows k = match rows.filter fun r => decide (r.1 = k) with
    | [] => .non
    | r :: _ => rowD r.2 := by
  induction rows with
  | nil => rfl
  | cons r rs ih =>
    cases h : decide (r.1 = k) with
    | true =>
      rw [getD_pos h]
      simp only [List.filter_cons, h, if_true]
    | false =>
      rw [getD_neg h, ih]
      simp only [List.filter_cons, h, Bool.false_eq_true, if_false]
end DL
/-! DC4: sets of texts: sorted(set(xs)) -/
namespace DL
open PySem PySem.Spec PyProof.Rows L2

def keySt (e : Int × Value) : Str := match e.2 with | .str k _ => k | _ => Str.empty
def GoodSt (w : World) (e : Int × Value) : Prop := ∃ (k : Str) (tk : Tok), e.2 = Value.str k tk ∧ e.1 = hashStr w k
/-- the set of texts at a: its members, in some order -/
def SetSR (w : World) (h : Heap) (a : Addr) (L : List Str) : Prop :=
  ∃ o es ep t, h.get? a = some o ∧ o.ExactSet ∧ o.data = .set es ep t ∧ (∀ e ∈ es.toList, GoodSt w e) ∧ (es.toList.map keySt).Perm L ∧ L.Nodup ∧
    es.size < scanBound ∧ t.fits es.size = true ∧ Ris t.place.toList ∧ (w.params.followText "set-order" = true ∨ t.led = true)
section
variable {P : Program} {w : World} {A : Around} {E : Value → Shared → Prop} {s : Shared} {a : Addr} {L : List Str} {h h' : Heap}
theorem SetSR.at (R : SetSR w h a L) (k : ∀ o, h.get? a = some o → h'.get? a = some o) : SetSR w h' a L := by
  obtain ⟨o, es, ep, t, ho, r⟩ := R
  exact ⟨o, es, ep, t, k o ho, r⟩
theorem is_st (k : Str) (u : Tok) : (strKind P w).is k (.str k u) = true := by
  show Value.isStrOf k (.str k u) = true
  simp [Value.isStrOf]
theorem goodS_elems {l : List (Int × Value)} (g : ∀ e ∈ l, GoodSt w e) : ElemsOf (strKind P w) l := fun e he => by
  obtain ⟨k, tk, h1, h2⟩ := g e he
  exact ⟨⟨k, by rw [h1]; exact is_st k tk, h2⟩, by rw [h1] <;> rfl⟩
theorem goodS_is {e : Int × Value} (g : GoodSt w e) (k : Str) : (strKind P w).is k e.2 = true ↔ keySt e = k := by
  obtain ⟨k0, tk, h1, _⟩ := g
  unfold keySt
  rw [h1]
  constructor
  · intro h
    exact ((strKind P w).inj (.str k0 tk) k k0 h (is_st k0 tk)).symm
  · intro h
    show (strKind P w).is k (.str k0 tk) = true
    rw [← h]
    exact is_st k0 tk
theorem goodS_mem {l : List (Int × Value)} (g : ∀ e ∈ l, GoodSt w e) (k : Str) : k ∈ l.map keySt ↔ ∃ e ∈ l, (strKind P w).is k e.2 = true := by
  rw [List.mem_map]
  constructor
  · rintro ⟨e, he, q⟩
    exact ⟨e, he, (goodS_is (g e he) k).2 q⟩
  · rintro ⟨e, he, q⟩
    exact ⟨e, he, (goodS_is (g e he) k).1 q⟩
theorem setS_add_tail {g : Bool → Sem Unit} (hg : ∀ (b : Bool) (s₁ : Shared) (Q' : Unit → Shared → Prop), Q' () s₁ → wpAny (model P w) A (g b) Q' E s₁)
    {o : Obj} {es : Array (Int × Value)} {ep : Nat} {t : SetTable} (ho : s.heap.get? a = some o) (hex : o.ExactSet) (hd : o.data = .set es ep t)
    {es1 : Array (Int × Value)} {t2 : SetTable} {L' : List Str} (g1 : ∀ e ∈ es1.toList, GoodSt w e) (pm1 : (es1.toList.map keySt).Perm L') (nd1 : L'.Nodup)
    (hb1 : es1.size < scanBound) (hf2 : t2.fits es1.size = true) (hr : Ris t2.place.toList) (hl : w.params.followText "set-order" = true ∨ t2.led = true) {wasDummy : Bool} {R : Option Bool → Shared → Prop}
    (hR : ∀ h', Heap.SameBut a s.heap h' → SetSR w h' a L' → R (some true) { s with heap := h' }) :
    wpAny (model P w) A (do
        storeSet a es1 t2
        if (!wasDummy && t2.tooFull) = true then do
            g (relayAll t2 es1 (SetTable.grown es1.size)).2.2
            storeSet a (relayAll t2 es1 (SetTable.grown es1.size)).1 (relayAll t2 es1 (SetTable.grown es1.size)).2.1
            pure (some true)
          else pure (some true)) R E s := by
  refine wpAny_bind (wpAny_storeSet_of ho hd ?_ (fits_of_scanBound hb1))
  have ho1 := store_at (es' := es1) (t' := t2) ho hd
  have sb1 := Heap.SameBut.update s.heap a (Obj.putSet es1 t2)
  split
  · have pm := relayAll_perm t2 es1 (SetTable.grown es1.size)
    have hf3 := relayAll_fits t2 es1 (SetTable.grown es1.size)
    have hr3 := relayAll_ris t2 es1 (SetTable.grown es1.size)
    have hl3 := relayAll_led t2 es1 (SetTable.grown es1.size)
    generalize relayAll t2 es1 (SetTable.grown es1.size) = Z at pm hf3 hr3 hl3 ⊢
    obtain ⟨es2, t3, gave⟩ := Z
    dsimp only at pm hf3 hr3 hl3 ⊢
    have hsz : es2.size = es1.size := by rw [← Array.length_toList, pm.length_eq, Array.length_toList]
    have hb2 : es2.size < scanBound := by rw [hsz]; exact hb1
    refine wpAny_bind (hg _ _ _ ?_)
    refine wpAny_bind (wpAny_storeSet_of ho1 rfl ?_ (fits_of_scanBound hb2))
    have ho2 := store_at (es' := es2) (t' := t3) ho1 rfl
    refine wpAny_pure (hR _ (sb1.trans (Heap.SameBut.update _ a _)) ?_)
    exact ⟨_, es2, _, t3, ho2, hex, rfl, fun e he => g1 e (pm.mem_iff.mp he), (pm.map keySt).trans pm1, nd1, hb2, hf3, hr3, hl.imp id fun z => by rw [hl3]; exact z⟩
  · exact wpAny_pure (hR _ sb1 ⟨_, es1, _, t2, ho1, hex, rfl, g1, pm1, nd1, hb1, hf2, hr, hl⟩)
theorem setS_add_hashed {k : Str} {tk : Tok} {Q : Bool → Shared → Prop} (R : SetSR w s.heap a L) (room : L.length + 1 < scanBound)
    (hQ : ∀ (b : Bool) h' L', Heap.SameBut a s.heap h' → SetSR w h' a L' → (k ∈ L → L' = L) → (k ∉ L → L' = k :: L) → Q b { s with heap := h' }) :
    wpAny (model P w) A (setAddHashed a (.str k tk) ((strKind P w).hash k)) Q E s := by
  obtain ⟨o, es, ep, t, ho, hex, hd, g, pmL, nd, hb, hf, hr, hl⟩ := R
  have hkey : (strKind P w).is k (.str k tk) = true := is_st k tk
  have hsc : (Value.str k tk).scannable = true := rfl
  have hel : ElemsOf (strKind P w) es.toList := goodS_elems g
  unfold setAddHashed setAddHashedIn
  refine wpAny_holding (wpAny_bind (wpAny_setState_of ho hd hf ?_))
  dsimp only
  rw [byScan_of hsc hb hel]
  simp only [↓reduceIte]
  unfold setAddByScan
  refine wpAny_bind ?_
  refine wpAny_bind (wpAny_rule ?_)
  refine wpAny_bind (wpAny_setScan_of hkey ho hd hf hel ?_)
  cases hfi : List.findIdx? (fun e => (strKind P w).is k e.2) es.toList with
  | some j =>
    dsimp only
    obtain ⟨hj, pj, _⟩ := List.findIdx?_eq_some_iff_getElem.mp hfi
    have hm : k ∈ L := pmL.mem_iff.mp ((goodS_mem (P := P) (w := w) g k).2 ⟨es.toList[j], List.getElem_mem hj, pj⟩)
    refine wpAny_pure (wpAny_pure ?_)
    exact hQ _ s.heap L (Heap.SameBut.refl a s.heap) ⟨o, es, ep, t, ho, hex, hd, g, pmL, nd, hb, hf, hr, hl⟩ (fun _ => rfl) fun z => absurd hm z
  | none =>
    dsimp only
    have hnk : k ∉ L := fun z => by
      obtain ⟨e, he, q⟩ := (goodS_mem (P := P) (w := w) g k).1 (pmL.mem_iff.mpr z)
      have c := List.findIdx?_eq_none_iff.mp hfi e he
      rw [q] at c
      cases c
    have hgw : ∀ (b : Bool) {s₁ : Shared} {Q' : Unit → Shared → Prop}, Q' () s₁ → wpAny (model P w) A (match b with | true => rule "set.scan.the-table-gave-way" | false => pure ()) Q' E s₁ :=
      fun b s₁ Q' q => by cases b <;> first | exact wpAny_pure q | exact wpAny_rule q
    have pm := layNew_perm t es ((strKind P w).hash k) (.str k tk)
    have hf1 := layNew_fits t es ((strKind P w).hash k) (.str k tk)
    have hr1 := layNew_ris t es ((strKind P w).hash k) (.str k tk) hr
    have hl1 := layNew_led t es ((strKind P w).hash k) (.str k tk)
    generalize layNew t es ((strKind P w).hash k) (.str k tk) = Z at pm hf1 hr1 hl1 ⊢
    obtain ⟨es1, t1, wasDummy, gave⟩ := Z
    dsimp only at pm hf1 hr1 hl1 ⊢
    rw [Array.toList_push] at pm
    have pc : es1.toList.Perm (((strKind P w).hash k, Value.str k tk) :: es.toList) := pm.trans (List.perm_append_singleton _ _)
    have pk : (es1.toList.map keySt).Perm (k :: es.toList.map keySt) := pc.map keySt
    have g1 : ∀ e ∈ es1.toList, GoodSt w e := fun e he => by
      rcases List.mem_cons.mp (pc.mem_iff.mp he) with z | z
      · rw [z]; exact ⟨k, tk, rfl, rfl⟩
      · exact g e z
    have nd1 : (k :: L).Nodup := List.nodup_cons.mpr ⟨hnk, nd⟩
    have pk2 : (es1.toList.map keySt).Perm (k :: L) := pk.trans (pmL.cons k)
    have hsz : es1.size = L.length + 1 := by
      have := pk2.length_eq
      rw [List.length_map, Array.length_toList] at this
      exact this
    have hb1 : es1.size < scanBound := by rw [hsz]; exact room
    have hled : w.params.followText "set-order" = true ∨ t1.led = true := hl.imp id fun z => by rw [hl1]; exact z
    have fin : ∀ h', Heap.SameBut a s.heap h' → SetSR w h' a (k :: L) → Q true { s with heap := h' } := fun h' sb r => hQ _ h' _ sb r (fun z => absurd z hnk) fun _ => rfl
    refine wpAny_bind (hgw _ ?_)
    split
    · refine wpAny_bind ?_
      rw [hashByValue_scannable 8 hsc]
      refine wpAny_pure ?_
      refine setS_add_tail ?_ ho hex hd g1 pk2 nd1 hb1 ?_ ?_ ?_ ?_
      · intro b s₁ Q' q; cases b <;> first | exact wpAny_pure q | exact wpAny_rule q
      · first | (split <;> first | exact hf1 | exact SetTable.fits_plain_off hf1) | exact hf1
      · first | (split <;> exact hr1) | exact hr1
      · first | (split <;> exact hled) | exact hled
      · intro h' sb r; dsimp only; exact wpAny_pure (fin h' sb r)
    · refine wpAny_bind (wpAny_pure ?_)
      simp only [↓reduceIte]
      refine setS_add_tail ?_ ho hex hd g1 pk2 nd1 hb1 hf1 hr1 hled ?_
      · intro b s₁ Q' q; cases b <;> first | exact wpAny_pure q | exact wpAny_rule q
      · intro h' sb r; dsimp only; exact wpAny_pure (fin h' sb r)
theorem setS_fresh {h : Heap} {a : Addr} (ho : h.get? a = some { cls := .type "set", dict := none, data := .set #[] 0 (.fresh 0 0 (!w.params.followText "set-order")) }) : SetSR w h a [] :=
  ⟨_, #[], 0, _, ho, ⟨rfl, rfl, rfl⟩, rfl, (fun e he => by simp at he), .nil, List.nodup_nil, (by decide), (by rfl), List.Pairwise.nil, by
    show _ ∨ (!w.params.followText "set-order") = true
    cases w.params.followText "set-order"
    · exact .inr rfl
    · exact .inl rfl⟩
/-- what the set has got from the first i texts -/
def GotS (xs : List Str) (i : Nat) (L : List Str) : Prop := (∀ x : Str, x ∈ L ↔ x ∈ xs.take i) ∧ L.length ≤ i
theorem GotS.next {xs L L' : List Str} {i : Nat} {x : Str} (g : GotS xs i L) (h : xs[i]? = some x) (h1 : x ∈ L → L' = L) (h2 : x ∉ L → L' = x :: L) : GotS xs (i + 1) L' := by
  have et : xs.take (i + 1) = xs.take i ++ [x] := by rw [List.take_succ, h]; rfl
  by_cases hm : x ∈ L
  · rw [h1 hm]
    refine ⟨fun y => ?_, Nat.le_succ_of_le g.2⟩
    rw [et, List.mem_append, List.mem_singleton, ← g.1 y]
    exact ⟨.inl, fun z => z.elim id fun e => e ▸ hm⟩
  · rw [h2 hm]
    refine ⟨fun y => ?_, Nat.succ_le_succ g.2⟩
    rw [et, List.mem_append, List.mem_singleton, List.mem_cons, ← g.1 y]
    exact Or.comm
theorem set_update_strs {I : Addr} {fp wr : List Addr} {G : Array GenState → Array GenState → Prop} {n : Nat} {Pv : Nat → Value → Prop} {St : Nat → Shared → Prop} {R : Result → Shared → Prop}
    (W : WalksS P w A.in1 I fp wr G n Pv St) (S : Addr) (hSf : S ∉ fp) (xs : List Str) (hn : n = xs.length) (hfew : n + 1 < scanBound) (hval : ∀ i v, Pv i v → ∃ x t, xs[i]? = some x ∧ v = .str x t) :
    ∀ (k i : Nat) (s : Shared), n - i = k → i ≤ n → St i s → (∃ L, SetSR w s.heap S L ∧ GotS xs i L) →
      (∀ s' L, Moved (S :: wr) G s s' → SetSR w s'.heap S L → GotS xs n L → R (.ok (.ret .none)) s') →
      codeAny (model P w) A (.builtin "set.update.loop" ⟨[.ref S, .ref I], []⟩) R s := by
  have hSw : S ∉ wr := fun h => hSf (W.sub _ h)
  have hsub : ∀ b ∈ wr, b ∈ S :: wr := fun b hb => List.mem_cons_of_mem _ hb
  intro k
  induction k with
  | zero =>
    intro i s hk' hi hst ⟨L, hS, g⟩ hR
    have hin : i = n := by omega
    subst hin
    refine codeAny_builtin PyProof.Rows.F.entry_set_update_loop ?_
    rw [Around.under_plainId PyProof.Rows.F.plain_set_update_loop _]
    show wpAny _ A.in1 (pyNext (.ref I) >>= _) _ _ s
    refine wpAny_bind (W.done s _ _ hst fun s' hm => ?_)
    show wpAny _ A.in1 (ret Value.none) _ _ s'
    exact wpAny_pure (hR s' L (hm.mono hsub) (hS.at fun o e => hm.heap S o hSw e) g)
  | succ k ih =>
    intro i s hk' hi hst ⟨L, hS, g⟩ hR
    have hlt : i < n := by omega
    refine codeAny_builtin PyProof.Rows.F.entry_set_update_loop ?_
    rw [Around.under_plainId PyProof.Rows.F.plain_set_update_loop _]
    show wpAny _ A.in1 (pyNext (.ref I) >>= _) _ _ s
    refine wpAny_bind (W.item i s _ _ hlt hst fun v s' hP hst' hm => ?_)
    obtain ⟨x, tk, hx, rfl⟩ := hval i v hP
    have hS' : SetSR w s'.heap S L := hS.at fun o e => hm.heap S o hSw e
    show wpAny _ A.in1 (holding [Value.str x tk] (setAdd S (.str x tk)) >>= _) _ _ s'
    refine wpAny_bind (wpAny_holding ?_)
    unfold setAdd
    refine wpAny_holding ?_
    refine wpAny_bind ((strKind P w).pyHash (k := x) (is_st x tk) ?_)
    refine setS_add_hashed (s := { s' with toks := s'.toks + 1 }) hS' (by have := g.2; omega) fun b h' L' hsb hS2 c1 c2 => ?_
    refine wpAny_pure ⟨plainId_quiet PyProof.Rows.F.plain_set_update_loop _, ih (i + 1) _ (by omega) hlt (W.frame _ s' _ _ hst' (Nat.le_succ _) fun b hb o e => ?_) ⟨L', hS2, g.next hx c1 c2⟩ fun s'' L2 hm'' hS'' g'' => ?_⟩
    · rw [hsb.2 b (fun h : b = S => hSf (by rw [← h]; exact hb))]; exact e
    · refine hR s'' L2 (Moved.trans W.gtrans ((hm.mono hsub).then_heap (Nat.le_succ _) fun b o hb e => ?_) hm'') hS'' g''
      rw [hsb.2 b (fun h : b = S => hb (by rw [h]; exact List.mem_cons_self))]; exact e
set_option maxHeartbeats 3200000 in
theorem call_set_strs {l : Addr} {items : Array Value} (xs : List Str) {Q : Value → Shared → Prop} (hh : A.handled = none) (hl : s.heap.IsList l items) (hi : StrsAre items.toList xs) (hfew : xs.length + 1 < scanBound)
    (h : ∀ (h' : Heap) (tk : Nat) (L : List Str), SetSR w h' s.heap.objs.size L → GotS xs xs.length L → (∀ b o, b < s.heap.objs.size → s.heap.get? b = some o → h'.get? b = some o) → Q (.ref s.heap.objs.size) { s with heap := h', toks := tk }) :
    wpAny (model P w) A (call (.type "set") [.ref l]) Q E s := by
  have hisz : items.size = xs.length := by rw [← StrsAre.len_eq hi, Array.length_toList]
  obtain ⟨c, tl, hmro⟩ := PySem.F.called_set.mro
  have hmade := PySem.F.called_set.made
  have hsub := PySem.F.called_set.sub
  refine wpAny_call (codeAny_of_tree ?_)
  show wpAny _ _ (callAny (.type "set") _) _ _ _
  refine wpAny_pure ⟨Code.quiet_builtin _ (by decide +kernel), codeAny_builtin PySem.F.entry_type_call ?_⟩
  rw [Around.under_plain (weight_type_call_type "set" [.ref l] []) rfl]
  have h1 := PySem.F.called_set.notType
  have h2 := PySem.F.called_set.canCreate
  have hct := PySem.F.typeCall_set_1 (.ref l)
  repeat (any_goals (first | assumption | wp_step))

  refine codeAny_mono (code_set_led1 (.ref l) (E := E) (Q₁ := fun obj s₁ => obj = .ref s.heap.objs.size ∧ s₁ = { s with heap := s.heap.push { cls := .type "set", dict := none, data := .set #[] 0 (.fresh 0 0 (!w.params.followText "set-order")) } }) ⟨rfl, rfl⟩) fun r s₁ hr => ?_
  cases r with
  | error e => exact hr
  | ok fl =>
    cases fl with
    | ret obj =>
      obtain ⟨rfl, rfl⟩ := hr
      have hS : (s.heap.push { cls := .type "set", dict := none, data := .set #[] 0 (.fresh 0 0 (!w.params.followText "set-order")) }).get? s.heap.objs.size = some { cls := .type "set", dict := none, data := .set #[] 0 (.fresh 0 0 (!w.params.followText "set-order")) } := Heap.get?_push_size _ rfl
      have hT : Shared.TypeIs { s with heap := s.heap.push { cls := .type "set", dict := none, data := .set #[] 0 (.fresh 0 0 (!w.params.followText "set-order")) } } (.ref s.heap.objs.size) "set" := ⟨_, hS, rfl⟩
      have hli := PySem.F.called_set.init.lookup
      have hbi := PySem.F.called_set.init.bind (.ref s.heap.objs.size)
      repeat (any_goals (first | assumption | wp_step))

      refine codeAny_mono (codeAny_call_builtin (R := wants (fun r s₂ => r = .none ∧ ∃ h' tk L, s₂ = { s with heap := h', toks := tk } ∧ SetSR w h' s.heap.objs.size L ∧ GotS xs xs.length L ∧
          (∀ b o, b < s.heap.objs.size → s.heap.get? b = some o → h'.get? b = some o)) E) PySem.F.called_set.init.plain PySem.F.entry_set_init (check_set_init_1 hT ?_)) fun r₂ s₂ hr₂ => ?_
      · obtain ⟨ol, hol, hcl, nl, hdl⟩ := hl
        obtain ⟨ocls, odict, odata, oslots⟩ := ol
        simp only at hcl hdl
        subst hcl; subst hdl
        have hol' : (s.heap.push { cls := .type "set", dict := none, data := .set #[] 0 (.fresh 0 0 (!w.params.followText "set-order")) }).get? l = some { cls := .type "list", dict := odict, data := .seq items nl, slots := oslots } := Heap.get?_push_of_some _ hol
        have hsls := PySem.F.sub_list_set
        have hslf := PySem.F.sub_list_frozenset
        have hne : (Value.type "list" == Value.type "dict") = false := by decide
        have hl1 : (s.heap.push { cls := .type "set", dict := none, data := .set #[] 0 (.fresh 0 0 (!w.params.followText "set-order")) }).IsList l items := ⟨_, hol', rfl, nl, rfl⟩
        unfold Builtin.«set.__init__» noKeywords Builtin.Frozenset.updateFrom
        generalize hPI : pyIter = PI
        wp_walk
        subst hPI

        refine wpAny_pyIter_list hl1 ?_
        refine wpAny_bind (wpAny_runValue ?_)
        have hlS : l < s.heap.objs.size := Heap.lt_size hol
        have hh3 : A.in1.in1.in1.handled = none := by simp [hh]
        have hneI : l ≠ (s.heap.push { cls := .type "set", dict := none, data := .set #[] 0 (.fresh 0 0 (!w.params.followText "set-order")) }).objs.size := by
          rw [Heap.size_push]; exact Nat.ne_of_lt (Nat.lt_succ_of_lt hlS)
        have hSf : s.heap.objs.size ∉ [(s.heap.push { cls := .type "set", dict := none, data := .set #[] 0 (.fresh 0 0 (!w.params.followText "set-order")) }).objs.size, l] := by
          rw [Heap.size_push]; simp only [List.mem_cons, List.mem_singleton, List.not_mem_nil, or_false, not_or]
          exact ⟨Nat.ne_of_lt (Nat.lt_succ_self _), Nat.ne_of_gt hlS⟩
        have hval : ∀ (i : Nat) (v : Value), items[i]? = some v → ∃ x t, xs[i]? = some x ∧ v = .str x t := fun i v hv => by
          have hv' : items.toList[i]? = some v := by rw [Array.getElem?_toList]; exact hv
          obtain ⟨t, e⟩ := SS.strs_at hi i v hv'
          have hlt : i < xs.length := by rw [← hisz]; exact (Array.getElem?_eq_some_iff.mp hv).1
          exact ⟨_, t, List.getElem?_eq_getElem hlt, by rw [e, List.getD_eq_getElem?_getD, List.getElem?_eq_getElem hlt]; rfl⟩
        refine set_update_strs ((Walks.list hh3 _ l hneI items).toS) s.heap.objs.size
          hSf xs hisz (by rw [hisz]; exact hfew) hval (items.size - 0) 0 _ (by omega) (Nat.zero_le _)
          ⟨⟨_, Heap.get?_push_size _ rfl, rfl, rfl⟩, (hl1.push _)⟩ ?hS0 ?hR
        case hS0 =>
          have hget : ((s.heap.push { cls := .type "set", dict := none, data := .set #[] 0 (.fresh 0 0 (!w.params.followText "set-order")) }).push { cls := .type "list_iterator", data := .fields #[.ref l, .int 0 0] }).get? s.heap.objs.size
              = some { cls := .type "set", dict := none, data := .set #[] 0 (.fresh 0 0 (!w.params.followText "set-order")) } := Heap.get?_push_of_some _ hS
          exact ⟨[], setS_fresh hget, fun x => by simp, Nat.zero_le _⟩
        case hR =>
          intro s' L hm hS' g'
          obtain ⟨h', g2, d', tk', os'⟩ := s'
          have eg : g2 = s.gens := hm.gens
          have ed : d' = s.drawn := hm.drawn
          have eo : os' = s.os := hm.os
          subst eg; subst ed; subst eo
          show wpAny _ _ _ _ _ _
          refine wpAny_pure ?_
          show wpAny _ _ (ret Value.none) _ _ _
          rw [hisz] at g'
          refine wpAny_pure ⟨rfl, h', tk', L, rfl, hS', g', fun b o hb e => ?_⟩
          have hb1 : b ≠ s.heap.objs.size := Nat.ne_of_lt hb
          have hb2 : b ≠ (s.heap.push { cls := .type "set", dict := none, data := .set #[] 0 (.fresh 0 0 (!w.params.followText "set-order")) }).objs.size := by
            rw [Heap.size_push]; exact Nat.ne_of_lt (Nat.lt_succ_of_lt hb)
          exact hm.heap b o (by simp only [List.mem_cons, List.mem_singleton, List.not_mem_nil, or_false, not_or]; exact ⟨hb1, hb2⟩) (Heap.get?_push_of_some _ (Heap.get?_push_of_some _ e))

      · cases r₂ with
        | error e => exact hr₂
        | ok fl₂ =>
          cases fl₂ with
          | ret r =>
            obtain ⟨rfl, h', tk, L, rfl, hS', g', hk'⟩ := hr₂
            repeat (any_goals (first | assumption | wp_step))
            exact h _ _ _ hS' g' hk'
          | _ => exact hr₂.elim
    | _ => exact hr.elim
end
end DL
/-! DC5: sorted(set(xs)), dict(pairs), list(dict) -/
namespace DL
open PySem PySem.Spec PyProof.Rows L2
/-- the set of texts at a -/
def SetT (w : World) (a : Addr) (L : List Str) : HO := .ext fun h => SetSR w h a L
theorem setT_new {w : World} {P : Program} {H : Hp} {h : Heap} {a : Addr} {L : List Str} (R : SetSR w h a L) : ObjOk P w H h a (SetT w a L) := by
  have ⟨o, _, _, _, ho, _⟩ := R
  exact ⟨R, ⟨o, ho⟩, fun h1 h2 p k => p.at k⟩
section
variable {X : Cx}
theorem setT_get {pins : List (Addr × Obj)} {σ : L2.St} {H : Hp} {s : Shared} {a : Addr} {L : List Str} (I : Inv X pins σ H s) (ha : H a = some (SetT X.w a L)) : SetSR X.w s.heap a L := (I.hok a _ ha).1
def rSetT (K : PySem.W.Frag) (w : World) : List V → Hp → VK → Prop := fun vs H Q => ∃ (a : Addr) (xs : List Str), vs = [.ref a] ∧ SqL K H a (xs.map V.str) ∧ xs.length < 64 ∧
  ∀ (p : Addr) (L : List Str), H p = none → L.Nodup → (∀ x : Str, x ∈ L ↔ x ∈ xs) → L.length ≤ xs.length → Q (.ref p) (upd H p (SetT w p L))
theorem cr_setT (hc : X.calm = true) : CallR X (.type "set") (rSetT X.K X.w) := by
  intro pins s σ H vs us Q I r h
  obtain ⟨a, xs, rfl, hs, hz, q⟩ := h
  obtain ⟨u, eu, rx⟩ := vals1 r
  subst eu
  cases rx
  obtain ⟨its, rv, pl, hzz⟩ := I.list hs
  have hS := rv.strs
  refine call_set_strs xs (I.ok.hd hc) pl.isList hS (Nat.lt_of_lt_of_le (Nat.succ_lt_succ hz) (by decide)) fun h' tk L hL hg hk => ?_
  have nd : L.Nodup := by
    obtain ⟨_, _, _, _, _, _, _, _, _, nd, _⟩ := hL
    exact nd
  refine ⟨.ref s.heap.objs.size, upd H s.heap.objs.size (SetT X.w s.heap.objs.size L), I.laid (t' := tk) (fun b u e => hk b u (Heap.lt_size e) e) (Nat.le_refl _) (setT_new hL), rfl, q _ L (I.hok.fresh (Nat.le_refl _)) nd (fun x => ?_) hg.2⟩
  have := hg.1 x
  rw [List.take_length] at this
  exact this
def rSortedT (w : World) : List V → Hp → VK → Prop := fun vs H Q => ∃ (a : Addr) (L : List Str), vs = [.ref a] ∧ H a = some (SetT w a L) ∧ L.length < 64 ∧
  ∀ (ys : List Str) (p : Addr), ys.Perm L → sortedS ys = true → H p = none → Q (.ref p) (upd H p (.lst (ys.map V.str)))
theorem cr_sortedT (hc : X.calm = true) : CallR X (.builtin "sorted") (rSortedT X.w) := by
  intro pins s σ H vs us Q I r h
  obtain ⟨a, L, rfl, ha, h64, q⟩ := h
  obtain ⟨u, eu, rx⟩ := vals1 r
  subst eu
  cases rx
  obtain ⟨o, es, ep, t, ho, hex, hd, g, pmL, nd, hb, hf, hr, hl⟩ := setT_get I ha
  refine Calls.call_function_entry PyProof.Rows.kind_sorted PyProof.Rows.plain_sorted PyProof.Rows.entry_sorted (PyProof.Rows.args_sorted1 _) ?_
  unfold Builtin.«sorted»
  refine wpAny_bind (m := checkCount "sorted" 1 1 _) (wpAny_pure ?_)
  refine wpAny_bind (collect_set (A := X.A.in1) (I.ok.hd hc) ⟨o, ho, hex.1, hd⟩ hf hb hr hl fun s1 vs k1 hz g1 o1 pm => ?_)
  -- the texts of what was gathered
  have ex : ∃ ks : List Str, StrsAre vs ks ∧ ks.Perm L := by
    let un : Value → Str := fun v => match v with | .str x _ => x | _ => Str.empty
    refine ⟨vs.map un, ?_, ?_⟩
    · have hv : ∀ v ∈ vs, ∃ x t, v = Value.str x t := fun v hv => by
        obtain ⟨e, he, q⟩ := List.mem_map.mp (pm.mem_iff.mp hv)
        obtain ⟨k, tk, h1, _⟩ := g e he
        exact ⟨k, tk, by rw [← q]; exact h1⟩
      clear pm
      induction vs with
      | nil => exact .nil
      | cons v vs ih =>
        obtain ⟨x, t, rfl⟩ := hv v List.mem_cons_self
        exact .cons x t (ih fun u hu => hv u (List.mem_cons_of_mem _ hu))
    · have h2 := pm.map un
      rw [List.map_map] at h2
      exact h2.trans pmL
  obtain ⟨ks, hS, pk⟩ := ex
  have hal : vs.length = ks.length := StrsAre.len_eq hS
  have hkl : ks.length < 64 := by rw [pk.length_eq]; exact h64
  refine wpAny_bind (wpAny_newList ?_ (by rw [hal, sizeLine_eq]; omega))
  have hoL : (s1.heap.push (seqObj "list" vs.toArray 0)).get? s1.heap.objs.size = some (seqObj "list" vs.toArray 0) := Heap.get?_push_size _ rfl
  refine wpAny_bind (wpAny_holding (wpAny_call_entry PyProof.Rows.slot_list_sort ⟨_, hoL, rfl⟩ PyProof.Rows.entry_list_sort
    (list_sort_treeK strKind_oneLt (s := { s1 with heap := s1.heap.push (seqObj "list" vs.toArray 0) }) hoL hS.keysOf (fun v₁ v₂ rest e => keyKind_strs (by rw [← e]; exact hS)) (by rw [hal]; exact hkl) fun st' hp hs => ⟨_, rfl, ?_⟩)
    (PyProof.Rows.args_list_sort _)))
  obtain ⟨ys, q1, q2, q3⟩ := sorted_out_str hS hp hs
  obtain ⟨e', he'⟩ := PyProof.Rows.sortedHeap_at (vs := vs) (out := (arrOf st').map (·.2)) hoL
  have hlen : (ys.map V.str).length ≤ sizeLine := by
    rw [List.length_map, q2.length_eq]
    exact Nat.le_trans (Nat.le_of_lt hkl) (by decide)
  refine wpAny_pure ⟨_, rfl, ?_⟩
  obtain ⟨sh, sg, sd, st0, so⟩ := s
  obtain ⟨h1, g2, d2, t2, o2⟩ := s1
  replace g1 : g2 = sg := g1
  replace o1 : o2 = so := o1
  subst g1; subst o1
  have kk : ∀ b u, sh.get? b = some u → (sortedHeap (h1.push (seqObj "list" vs.toArray 0)) h1.objs.size vs ((arrOf st').map (·.2))).get? b = some u := fun b u e => by
    have e2 := k1 b u e
    have hb : b < h1.objs.size := Heap.lt_size e2
    rw [PyProof.Rows.sortedHeap_old (Nat.ne_of_lt hb) (by rw [size_push']; exact Nat.lt_succ_of_lt hb)]
    exact Heap.get?_push_of_some _ e2
  have hn : H h1.objs.size = none := I.hok.fresh hz
  have J := I.call (ch := []) (g' := g2) (t' := t2) (d' := d2) (Un.laid kk hz hn) (I.hok.laid kk hz (show ObjOk X.prog X.w _ _ _ (.lst (ys.map V.str)) from ⟨hlen, ((arrOf st').map (·.2)).toList, e', vals_of_strs q1, by rw [Array.toArray_toList]; exact he'⟩)) I.bare (fun _ z => nomatch z)
  exact ⟨.ref h1.objs.size, upd H h1.objs.size (.lst (ys.map V.str)), J, rfl, q ys _ (q2.trans pk) q3 hn⟩
end
/-! ### the readings -/
def dSSet (own : Bool) (de : DE) : DE := fun env S Kp => de env S fun x S1 => onO (vL S1 x) fun ys => onO (strsOf ys) fun xs => xs.length < 64 ∧
  ∀ zs : List Str, zs.Nodup → (∀ y : Str, y ∈ zs ↔ y ∈ xs) → zs.length ≤ xs.length → sortedS zs = true → newL own (zs.map fun y => .fz (.str y)) S1 Kp
def kW : Key → W
  | .inl i => .fz (.int i)
  | .inr x => .fz (.str x)
def pairsOf : List W → Option (List (Key × W))
  | [] => some []
  | .fz (.tup [.str k, d]) :: ws => (pairsOf ws).map ((.inr k, .fz d) :: ·)
  | .fz (.tup [.int k, d]) :: ws => (pairsOf ws).map ((.inl k, .fz d) :: ·)
  | _ :: _ => none
def dictPW : DRL := fun ws S Kp => match ws with
  | [x] => onO (vL S x) fun ys => onO (pairsOf ys) fun kvs => (kvs.map (·.1)).Nodup ∧ Kp (.hd S.length) (S ++ [.dic kvs])
  | _ => False
def listDW (own : Bool) : DRL := fun ws S Kp => match ws with
  | [x] => onO (dicAt S x) fun p => newL own (p.2.map fun kv => kW kv.1) S Kp
  | _ => False
theorem putK_new {kvs : List (Key × V)} {k : Key} {v : V} (h : k ∉ kvs.map (·.1)) : putK kvs k v = kvs ++ [(k, v)] := by
  unfold putK
  rw [if_neg]
  intro z
  obtain ⟨kv, hm, e⟩ := List.any_eq_true.mp z
  exact h (List.mem_map.mpr ⟨kv, hm, of_decide_eq_true e⟩)
theorem mergeK_nodup : ∀ (more kvs : List (Key × V)), ((kvs ++ more).map (·.1)).Nodup → mergeK kvs more = kvs ++ more
  | [], kvs, _ => by rw [List.append_nil]; rfl
  | kv :: more, kvs, h => by
    have h1 : kv.1 ∉ kvs.map (·.1) := fun z => by
      rw [List.map_append, List.nodup_append] at h
      exact h.2.2 _ z _ (List.mem_map_of_mem List.mem_cons_self) rfl
    show mergeK (putK kvs kv.1 kv.2) more = _
    rw [putK_new h1, mergeK_nodup more _ (by rw [List.append_assoc]; exact h), List.append_assoc]
    rfl
section
variable {X : Cx} {Ξ : Xt} {e : Expr} {es : List Expr} {p p' pos pos' : Pos} {de : DE} {das : DA}
theorem rwl_pairs {K : PySem.W.Frag} {B H : Hp} {m : List Addr} (sub : Sub B H) : ∀ {ws : List W} {kvs : List (Key × W)} {vs : List V}, pairsOf ws = some kvs → RWL K B m ws vs → ∃ (ps : List Addr) (rs : List (Key × V)), vs = ps.map V.ref ∧ Paired (fun p kv => SqT K H p [kV kv.1, kv.2]) ps rs ∧ FK K B m kvs rs
  | [], kvs, _, h, .nil => by cases h; exact ⟨[], [], rfl, .nil, .nil⟩
  | w :: ws, kvs, _, h, .cons r t => by
    unfold pairsOf at h
    split at h
    · rename_i e; cases e
    · rename_i k d ws' e
      cases e
      cases q : pairsOf ws with
      | none => rw [q] at h; cases h
      | some ys =>
        rw [q] at h
        cases h
        obtain ⟨ps, rs, e1, pr, fk⟩ := rwl_pairs sub q t
        cases r with | fz r => cases r with
          | tup s u =>
            rename_i a vs0
            cases u with | cons u1 u2 => cases u2 with | cons u2 u3 => cases u3; cases u1; exact ⟨a :: ps, (.inr k, _) :: rs, by rw [e1]; rfl, .cons (sub.seqT s) pr, .cons ⟨rfl, .fz u2⟩ fk⟩
    · rename_i k d ws' e
      cases e
      cases q : pairsOf ws with
      | none => rw [q] at h; cases h
      | some ys =>
        rw [q] at h
        cases h
        obtain ⟨ps, rs, e1, pr, fk⟩ := rwl_pairs sub q t
        cases r with | fz r => cases r with
          | tup s u =>
            rename_i a vs0
            cases u with | cons u1 u2 => cases u2 with | cons u2 u3 => cases u3; cases u1; exact ⟨a :: ps, (.inl k, _) :: rs, by rw [e1]; rfl, .cons (sub.seqT s) pr, .cons ⟨rfl, .fz u2⟩ fk⟩
    · cases h
theorem cd_dictP (hc : X.calm = true) : CallD X (.type "dict") dictPW := fun F => CallR.imp (call_dictP hc) fun xs H Q ⟨B, m, S, ws, Kp, cf, r, h0, k⟩ => by
  unfold dictPW at h0
  split at h0
  rotate_left
  · exact h0.elim
  obtain ⟨ys, e1, h1⟩ := onO_ex h0
  obtain ⟨kvs, e2, nd, h⟩ := onO_ex h1
  obtain ⟨v, e, rv⟩ := r.one
  subst e
  obtain ⟨a, vs, ea, hs, rr⟩ := vL_ok cf rv e1
  subst ea
  obtain ⟨ps, rs, e3, pr, fk⟩ := rwl_pairs cf.sub e2 rr
  subst e3
  refine ⟨a, ps, rs, rfl, .of hs, pr, fun p hp => ?_⟩
  rw [mergeK_nodup rs [] (by rw [List.nil_append, ← fk.keys]; exact nd), List.nil_append]
  have n2 := cf.allocO (od := .dic kvs) (o := .dK rs) hp ⟨rs, rfl, fk⟩
  refine k _ _ h _ _ _ _ n2 (.hd ?_)
  rw [← cf.len, List.getElem?_append_right (Nat.le_refl _), Nat.sub_self]
  rfl
theorem rwl_keys {K : PySem.W.Frag} {B : Hp} {m : List Addr} : ∀ {kvs : List (Key × W)} {rs : List (Key × V)}, FK K B m kvs rs → RWL K B m (kvs.map fun kv => kW kv.1) (rs.map fun kv => kV kv.1)
  | _, _, .nil => .nil
  | (.inl i, _) :: _, (_, _) :: _, .cons ⟨e, _⟩ t => by cases e; exact .cons (.fz .int) (rwl_keys t)
  | (.inr i, _) :: _, (_, _) :: _, .cons ⟨e, _⟩ t => by cases e; exact .cons (.fz .str) (rwl_keys t)
theorem cd_listD (own : Bool) (hc : X.calm = true) : CallD X (.type "list") (listDW own) := fun F => CallR.imp (call_listD hc) fun xs H Q ⟨B, m, S, ws, Kp, cf, r, h0, k⟩ => by
  unfold listDW at h0
  split at h0
  rotate_left
  · exact h0.elim
  obtain ⟨⟨n, kvs⟩, e1, h⟩ := onO_ex h0
  obtain ⟨v, e, rv⟩ := r.one
  subst e
  obtain ⟨ex, es⟩ := dicAt_eq e1
  subst ex
  obtain ⟨a, vs, ea, _, hd, fk⟩ := cf.dic rv es
  subst ea
  exact ⟨a, vs, rfl, .inl hd, fun p hp => newL_ok cf (rwl_keys fk) h k hp⟩
theorem e_dictP (bi : Bi X.mg) (hc : X.calm = true) (ha : DPA X Ξ (e :: es) das) (hg : Gl X "dict" := by rfl) (he : starEach (e :: es) X.env = (false, eval e X.env) :: starEach es X.env := by rfl) (hpl : (backTo pos (starEach es X.env)).any (·.1) = false := by rfl) : DPE X Ξ (.Call (.Name "dict" p) (e :: es) [] pos) (dCB dictPW das) := dpe_callTy (cd_dictP hc) hg bi.dict (by first | exact PyProof.Rows.boot_dict | exact PySem.boot_dict | rfl) ha (by decide) (by decide) he hpl
theorem e_listD (own : Bool) (bi : Bi X.mg) (hc : X.calm = true) (ha : DPA X Ξ (e :: es) das) (hg : Gl X "list" := by rfl) (he : starEach (e :: es) X.env = (false, eval e X.env) :: starEach es X.env := by rfl) (hpl : (backTo pos (starEach es X.env)).any (·.1) = false := by rfl) : DPE X Ξ (.Call (.Name "list" p) (e :: es) [] pos) (dCB (listDW own) das) := dpe_callTy (cd_listD own hc) hg bi.list PyProof.Rows.boot_list ha (by decide) (by decide) he hpl
/-- sorted(set(e)) -/
theorem e_sset (own : Bool) (bi : Bi X.mg) (hc : X.calm = true) (he : DPE X Ξ e de) (hg : Gl X "sorted" := by rfl) (hg2 : Gl X "set" := by rfl)
    (he1 : starEach [e] X.env = (false, eval e X.env) :: starEach [] X.env := by rfl) (hpl1 : (backTo pos' (starEach [] X.env)).any (·.1) = false := by rfl)
    (he2 : starEach [Expr.Call (.Name "set" p') [e] [] pos'] X.env = (false, eval (Expr.Call (.Name "set" p') [e] [] pos') X.env) :: starEach [] X.env := by rfl) (hpl2 : (backTo pos (starEach [] X.env)).any (·.1) = false := by rfl) :
    DPE X Ξ (.Call (.Name "sorted" p) [.Call (.Name "set" p') [e] [] pos'] [] pos) (dSSet own de) := ⟨fun F ok =>
  PE.imp (pe_callB (cr_sortedT hc) hg bi.sorted PyProof.Rows.boot_sorted (pa_cons (pe_callTy (cr_setT hc) hg2 bi.set (by first | exact PyProof.Rows.boot_set | exact PySem.boot_set | rfl) (pa_cons (he.run F ok) pa_nil he1) (by decide) (by decide) he1 hpl1) pa_nil he2) (by decide) (by decide) he2 hpl2) fun σ H Q ⟨B, m, S, env, Kp, cf, er, h, k⟩ => by
    refine ⟨B, m, S, env, _, cf, er, h, fun x S1 h0 v H1 B1 m1 n1 r => ?_⟩
    obtain ⟨ys, e1, h1⟩ := onO_ex h0
    obtain ⟨xs, e2, hz, h2⟩ := onO_ex h1
    obtain ⟨a, vs, ea, hs, rr⟩ := vL_ok n1.cf r e1
    subst ea
    rw [strsOf_eq e2] at rr
    rw [rwl_strs_of rr] at hs
    refine ⟨a, xs, rfl, .of hs, hz, fun q L hq nd hm hl => ?_⟩
    refine ⟨q, L, rfl, upd_same, Nat.lt_of_le_of_lt hl hz, fun zs p2 pm hso hp2 => ?_⟩
    obtain ⟨fb, fm, ft, fh⟩ := n1.cf.fresh hq
    have n2 := Nx.side (o := SetT X.w q L) n1.cf.nx fh ft hq fb fm
    exact newL_ok n2.cf (rwl_strs zs) (h2 zs (pm.nodup_iff.mpr nd) (fun y => (pm.mem_iff).trans (hm y)) (by rw [pm.length_eq]; exact hl) hso) (k.nx (n1.trans n2)) hp2⟩
end
end DL
/-! M11: two tables -/
namespace DL
open PySem PySem.Spec PyProof.Rows L2
abbrev keysT (t : Tab) : List Str := t.map (·.1)
/-- zs: the keys of both, in order -/
def isKeys (t u : Tab) (zs : List Str) : Prop := zs.Pairwise (fun a b => strLt a b = true) ∧ ∀ y : Str, y ∈ zs ↔ y ∈ keysT t ++ keysT u
theorem isKeys.eq {t u : Tab} {zs ys : List Str} (h : isKeys t u zs) (g : isKeys t u ys) : zs = ys := by
  refine strict_eq (fun x y h => by intro g; rw [strLt_asym h] at g; cases g) h.1 g.1 ?_
  refine (List.perm_ext_iff_of_nodup (h.1.imp fun {a b} q => strLt_ne q) (g.1.imp fun {a b} q => strLt_ne q)).mpr fun y => (h.2 y).trans (g.2 y).symm
theorem isKeys.of {t u : Tab} {zs : List Str} (nd : zs.Nodup) (hm : ∀ y : Str, y ∈ zs ↔ y ∈ keysT t ++ keysT u) (hs : sortedS zs = true) : isKeys t u zs := ⟨sortedS_lt hs nd, hm⟩
def difB (t u : Tab) (k : Str) : Bool := !eqD (getD t k) (getD u k)
def difR (t u : Tab) (k : Str) : D := .tup [.str k, getD t k, getD u k]
def difL (t u : Tab) (zs : List Str) : D := .lst ((zs.filter (difB t u)).map (difR t u))
def spDif : PSp := fun ds Q => ∃ t u, ds = [tabD t, tabD u] ∧ isTab t ∧ isTab u ∧ t.length + u.length < 64 ∧ ∀ zs, isKeys t u zs → Q (difL t u zs)
def jnB (u : Tab) (lo hi : Str) (r : Str × List Int) : Bool := inB lo hi r && (keysT u).contains r.1
def jnR (u : Tab) (r : Str × List Int) : D := .tup [.str r.1, rowD r.2, getD u r.1]
def jnL (t u : Tab) (lo hi : Str) : D := .lst ((t.filter (jnB u lo hi)).map (jnR u))
def spJn : PSp := fun ds Q => ∃ t u lo hi, ds = [tabD t, tabD u, .str lo, .str hi] ∧ isTab t ∧ isTab u ∧ t.length ≤ 50 ∧ u.length ≤ 50 ∧ Q (jnL t u lo hi)
def spSecond : PSp := fun ds Q => ∃ t, ds = [tabD t] ∧ isTab t ∧ t.length ≤ 9 ∧ ∀ u, isTab u → u.length ≤ 20 → Q (tabD u)
/-! facts -/
theorem pairsOf_tab : ∀ t : Tab, pairsOf ((t.map tabR).map W.fz) = some (t.map kvF)
  | [] => rfl
  | r :: t => by show (pairsOf ((t.map tabR).map W.fz)).map (kvF r :: ·) = _; rw [pairsOf_tab t]; rfl
theorem tab_nodup {t : Tab} (h : isTab t) : ((t.map kvF).map (·.1)).Nodup := by
  rw [List.map_map]
  refine List.pairwise_map.mpr (h.1.imp fun {a b} q e => ?_)
  exact strLt_ne q (Sum.inr.inj e)
theorem keys_kW (t : Tab) : ((t.map kvF).map fun kv => kW kv.1) = (keysT t).map fun x => .fz (.str x) := by
  rw [List.map_map, List.map_map]
  rfl
theorem valW_getD (t : Tab) (k : Str) : (valW (t.map kvF) (.inr k)).getD (.fz .non) = .fz (getD t k) := by
  induction t with
  | nil => rfl
  | cons r t ih =>
    by_cases e : r.1 = k
    · rw [getD_pos (decide_eq_true e)]
      unfold valW
      rw [List.map_cons, List.find?_cons_of_pos (by exact decide_eq_true (show Sum.inr r.1 = (Sum.inr k : Key) by rw [e]))]
      rfl
    · rw [getD_neg (decide_eq_false e), ← ih]
      unfold valW
      rw [List.map_cons, List.find?_cons_of_neg]
      intro z
      have e2 : Sum.inr r.1 = (Sum.inr k : Key) := of_decide_eq_true z
      exact e (Sum.inr.inj e2)
theorem valW_some (t : Tab) (k : Str) : (valW (t.map kvF) (.inr k)).isSome = (keysT t).contains k := by
  induction t with
  | nil => rfl
  | cons r t ih =>
    show _ = (r.1 :: keysT t).contains k
    rw [List.contains_cons, ← ih]
    unfold valW
    by_cases e : r.1 = k
    · rw [List.map_cons, List.find?_cons_of_pos (by exact decide_eq_true (show Sum.inr r.1 = (Sum.inr k : Key) by rw [e]))]
      simp [e]
    · rw [List.map_cons, List.find?_cons_of_neg]
      · have : (k == r.1) = false := by simpa using fun z => e z.symm
        rw [this]; rfl
      · intro z
        have e2 : Sum.inr r.1 = (Sum.inr k : Key) := of_decide_eq_true z
        exact e (Sum.inr.inj e2)
theorem getD_cases (t : Tab) (k : Str) : (getD t k = .non ∧ (keysT t).contains k = false) ∨ ∃ r : List Int, getD t k = rowD r ∧ (keysT t).contains k = true := by
  induction t with
  | nil => exact .inl ⟨rfl, rfl⟩
  | cons r t ih =>
    by_cases e : r.1 = k
    · exact .inr ⟨r.2, getD_pos (decide_eq_true e), by show (r.1 :: keysT t).contains k = true; rw [List.contains_cons]; simp [e]⟩
    · rw [getD_neg (decide_eq_false e)]
      have : (keysT (r :: t)).contains k = (keysT t).contains k := by
        show (r.1 :: keysT t).contains k = _
        rw [List.contains_cons]
        have : (k == r.1) = false := by simpa using fun z => e z.symm
        rw [this]; rfl
      rw [this]
      exact ih
theorem ok_getD (t : Tab) (k : Str) : okD 64 (getD t k) = true := by
  rcases getD_cases t k with ⟨e, _⟩ | ⟨r, e, _⟩
  · rw [e]; rfl
  · rw [e]; exact ok_row 63 _
theorem lcW_strs {g : DG} {tt : DT} {te : DE} {env0 : En} {S : Sto} (p : Str → Bool) (G : Str → W) : ∀ {zs : List Str} {Kp : List W → Sto → Prop},
    (∀ k ∈ zs, ∀ (A : WK) (Bf : Sto → Prop), (p k = true → A (G k) S) → (p k = false → Bf S) → g (.fz (.str k)) env0 S fun env1 S1 => tt env1 S1 fun b S2 => ifB b (te env1 S2 A) (Bf S2)) →
    Kp ((zs.filter p).map G) S → lcW g tt te env0 (zs.map fun x => .fz (.str x)) S Kp
  | [], _, _, hk => hk
  | r :: zs, Kp, h, hk => by
    refine h r List.mem_cons_self (fun y S3 => lcW g tt te env0 (zs.map fun x => .fz (.str x)) S3 fun ys S4 => Kp (y :: ys) S4) (fun S2 => lcW g tt te env0 (zs.map fun x => .fz (.str x)) S2 Kp) (fun hp => ?_) (fun hp => ?_)
    · refine lcW_strs p G (fun q hq => h q (List.mem_cons_of_mem _ hq)) ?_
      rw [List.filter_cons_of_pos hp] at hk
      exact hk
    · refine lcW_strs p G (fun q hq => h q (List.mem_cons_of_mem _ hq)) ?_
      rw [List.filter_cons_of_neg (by rw [hp]; exact Bool.false_ne_true)] at hk
      exact hk
theorem ok_difR {t u : Tab} {k : Str} (h : PyData.strOk k = true) : okD 63 (difR t u k) = true := by
  show (okD 62 (.str k) && (okD 62 (getD t k) && (okD 62 (getD u k) && true))) = true
  have g : ∀ t : Tab, okD 62 (getD t k) = true := fun t => by
    rcases getD_cases t k with ⟨e, _⟩ | ⟨r, e, _⟩
    · rw [e]; rfl
    · rw [e]; exact ok_row 61 _
  rw [ok_str h, g, g]
  rfl
theorem ok_difL {t u : Tab} {zs : List Str} (ht : isTab t) (hu : isTab u) (h : isKeys t u zs) (hl : t.length + u.length < 64) : okD 64 (difL t u zs) = true := by
  refine okDL_of fun d hd => ?_
  obtain ⟨k, hk, rfl⟩ := List.mem_map.mp hd
  have hk := (h.2 k).mp (List.mem_filter.mp hk).1
  refine ok_difR ?_
  rcases List.mem_append.mp hk with hk | hk
  · obtain ⟨r, hr, rfl⟩ := List.mem_map.mp hk
    exact key_ok (ht.2 r hr).1
  · obtain ⟨r, hr, rfl⟩ := List.mem_map.mp hk
    exact key_ok (hu.2 r hr).1
theorem ok_jnL {t u : Tab} {lo hi : Str} (ht : isTab t) : okD 64 (jnL t u lo hi) = true := by
  refine okDL_of fun d hd => ?_
  obtain ⟨r, hr, rfl⟩ := List.mem_map.mp hd
  have hk := (ht.2 r (List.mem_filter.mp hr).1).1
  show (okD 62 (.str r.1) && (okD 62 (rowD r.2) && (okD 62 (getD u r.1) && true))) = true
  have g : okD 62 (getD u r.1) = true := by
    rcases getD_cases u r.1 with ⟨e, _⟩ | ⟨r, e, _⟩
    · rw [e]; rfl
    · rw [e]; exact ok_row 61 _
  rw [ok_str (key_ok hk), g, ok_row]
  rfl
theorem onO_pairs {t : Tab} {k : List (Key × W) → Prop} (h : k (t.map kvF)) : onO (pairsOf ((t.map tabR).map W.fz)) k := by
  rw [pairsOf_tab]
  exact h
theorem onO_strs {xs : List Str} {k : List Str → Prop} (h : k xs) : onO (strsOf (xs.map fun x => .fz (.str x))) k := by
  rw [strsOf_map]
  exact h
theorem onO_strsD {xs : List Str} {k : List Str → Prop} (h : k xs) : onO (strsOf ((xs.map D.str).map W.fz)) k := by
  rw [List.map_map]
  exact onO_strs h
theorem valW_has {t : Tab} {k : Str} (h : (keysT t).contains k = true) : valW (t.map kvF) (.inr k) = some (.fz (getD t k)) := by
  have h1 := valW_some t k
  have h2 := valW_getD t k
  rw [h] at h1
  cases q : valW (t.map kvF) (.inr k) with
  | none => rw [q] at h1; cases h1
  | some w =>
    rw [q] at h2
    exact congrArg some h2
theorem jn_filter (t u : Tab) (lo hi : Str) : (t.filter (inB lo hi)).filter (fun r => (keysT u).contains r.1) = t.filter (jnB u lo hi) := by
  rw [List.filter_filter]
  refine List.filter_congr fun r _ => ?_
  unfold jnB
  exact Bool.and_comm _ _
theorem filter_yes {α : Type} (l : List α) : (l.filter fun _ => true) = l := List.filter_eq_self.mpr fun _ _ => rfl
theorem ok_tab2 {t u : Tab} (ht : isTab t) (hu : isTab u) : okD 64 (.lst [tabD t, tabD u]) = true := by
  have g : ∀ v : Tab, isTab v → okD 63 (tabD v) = true := fun v h => by
    show okDL 62 (v.map tabR) = true
    refine okDL_of fun d hd => ?_
    obtain ⟨r, hr, rfl⟩ := List.mem_map.mp hd
    exact ok_tabR (h.2 r hr).1
  show (okD 63 (tabD t) && (okD 63 (tabD u) && true)) = true
  rw [g t ht, g u hu]
  rfl
theorem dif_self (t : Tab) (zs : List Str) : difL t t zs = .lst [] := by
  have e : zs.filter (difB t t) = [] := List.filter_eq_nil_iff.mpr fun k _ h => by
    unfold difB at h
    rw [eqD_refl] at h
    cases h
  unfold difL
  rw [e]
  rfl
theorem jn_nil (t : Tab) (lo hi : Str) : jnL t [] lo hi = .lst [] := by
  have e : t.filter (jnB [] lo hi) = [] := List.filter_eq_nil_iff.mpr fun k _ h => by
    unfold jnB at h
    rw [show (keysT []).contains k.1 = false from rfl, Bool.and_false] at h
    cases h
  unfold jnL
  rw [e]
  rfl
end DL
/-! DC6: calls that lend the whole store, and may let an exception out; objects of one's own: fields, methods -/
namespace DL
open PySem PySem.Spec PyProof.Rows L2

section
variable {K : PySem.W.Frag} {F : Fx} {B B' : Hp} {m m' : List Addr} {S S' : Sto} {H H' : Hp} {T : Addr → Prop}
/-- everything is lent -/
theorem Cf.self (c : Cf K F B m S H) : Cf K ⟨B, H, m, F.T⟩ B m S H :=
  ⟨.refl, c.sub, fun _ _ h => .inl h, fun _ _ h _ _ => h, fun _ h => h, c.len, fun _ _ h => h, fun _ _ h => .inl h, c.nd, c.own, c.tab⟩
theorem Cf.backG (c : Cf K F B m S H) (x : Nx K ⟨B, H, m, F.T⟩ B m H B' m' S' H') : Nx K F B m H B' m' S' H' := by
  obtain ⟨c', sb, pr, kp, nw, dm, bn⟩ := x
  refine ⟨⟨c.b0.trans sb, c'.sub, fun a o e => ?_, fun a o e nl nt => ?_, fun a e => c.dom a (c'.dom a e), c'.len, fun n a e => pr n a (c.pre n a e), fun n a e => ?_, c'.nd, c'.own, c'.tab⟩, sb, pr, kp, nw, dm, bn⟩
  · rcases c'.bnew a o e with z | z
    · exact c.bnew a o z
    · exact .inr (c.dom a z)
  · have h1 := c.fr a o e nl nt
    refine c'.fr a o h1 (fun z => ?_) nt
    obtain ⟨n, hn⟩ := List.getElem?_of_mem z
    rcases c.new n a hn with q | q
    · exact nl (List.mem_of_getElem? q)
    · rw [q] at e; cases e
  · rcases c'.new n a e with z | z
    · exact c.new n a z
    · exact .inr (c.dom a z)
/-- from the entry to here -/
theorem Cf.nxE (c : Cf K ⟨B, H, m, T⟩ B' m' S' H') : Nx K ⟨B, H, m, T⟩ B m H B' m' S' H' :=
  ⟨c, c.b0, c.pre, fun a o e n nt => c.fr a o e (fun z => by
    obtain ⟨i, hi⟩ := List.getElem?_of_mem z
    exact n i hi) nt, c.new, c.dom, fun a o e => (c.bnew a o e).imp id .inl⟩
end
/-- a promise over the whole store; what may be let out -/
abbrev GSp := List W → Sto → WK → XWK → Prop
def spG (K : PySem.W.Frag) (T : Addr → Prop) (g : GSp) : Sp := fun vs H Q E => ∃ (B : Hp) (m : List Addr) (ws : List W) (S : Sto) (Kp : WK) (Xp : XWK), Cf K ⟨B, H, m, T⟩ B m S H ∧ RWL K B m ws vs ∧ g ws S Kp Xp ∧ KW K ⟨B, H, m, T⟩ Kp B m H Q ∧
  ∀ (x : XD) (S' : Sto), Xp x S' → ∀ (H' B' : Hp) (m' : List Addr) (d : Option Addr), Nx K ⟨B, H, m, T⟩ B m H B' m' S' H' → RX K B' x.fs d → E x.cls d H'
/-- a def of the module, by its name -/
structure CalX (P : Program) (w : World) (K : PySem.W.Frag) (T : Addr → Prop) (mg : Str → Option Value) (base : Heap) (k : Nat) (x : Str) (g : GSp) : Prop where
  ex : ∃ (f : Addr) (fd : FuncData) (ps : List Str), FnOk P w K mg base (L2.CX P w) k f fd ps (spG K T g) ∧ mg x = some (.ref f) ∧ PySem.W.keepIn K (.ref f) = true ∧ Binds K fd ps []
/-- a method of the class at C -/
structure MetX (P : Program) (w : World) (K : PySem.W.Frag) (T : Addr → Prop) (mg : Str → Option Value) (base : Heap) (k : Nat) (C : Addr) (m : Str) (g : GSp) : Prop where
  ex : ∃ (f : Addr) (fd : FuncData) (ps : List Str), Cls K C ∧ Meth K C m f ∧ FnOk P w K mg base (L2.CX P w) k f fd ps (spG K T g) ∧ Binds K fd ps []
theorem CalX.mono {P : Program} {w : World} {K : PySem.W.Frag} {T : Addr → Prop} {mg : Str → Option Value} {base : Heap} {j k : Nat} {x : Str} {g : GSp} (c : CalX P w K T mg base j x g) (h : j ≤ k) : CalX P w K T mg base k x g := by
  obtain ⟨f, fd, ps, F, r⟩ := c.ex
  exact ⟨f, fd, ps, F.mono h, r⟩
theorem MetX.mono {P : Program} {w : World} {K : PySem.W.Frag} {T : Addr → Prop} {mg : Str → Option Value} {base : Heap} {j k : Nat} {C : Addr} {m : Str} {g : GSp} (c : MetX P w K T mg base j C m g) (h : j ≤ k) : MetX P w K T mg base k C m g := by
  obtain ⟨f, fd, ps, a, b, F, r⟩ := c.ex
  exact ⟨f, fd, ps, a, b, F.mono h, r⟩
theorem CalX.imp {P : Program} {w : World} {K : PySem.W.Frag} {T : Addr → Prop} {mg : Str → Option Value} {base : Heap} {k : Nat} {x : Str} {g g' : GSp} (c : CalX P w K T mg base k x g) (h : ∀ ws S Kp Xp, g' ws S Kp Xp → g ws S Kp Xp) : CalX P w K T mg base k x g' := by
  obtain ⟨f, fd, ps, F, r⟩ := c.ex
  exact ⟨f, fd, ps, F.imp fun vs H Q E ⟨B, m, ws, S, Kp, Xp, a, b, c, d⟩ => ⟨B, m, ws, S, Kp, Xp, a, b, h _ _ _ _ c, d⟩, r⟩
/-! ### readings -/
def dCallG (g : GSp) (xw : XWK) (da : DA) : DE := fun env S Kp => da env S fun ws S1 => g ws S1 Kp xw
def insAt (S : Sto) : W → Option (Nat × Addr × List (Str × W))
  | .hd n => match S[n]? with
    | some (.ins C fs) => some (n, C, fs)
    | _ => none
  | _ => none
theorem insAt_eq {S : Sto} {x : W} {n : Nat} {C : Addr} {fs : List (Str × W)} (h : insAt S x = some (n, C, fs)) : x = .hd n ∧ S[n]? = some (.ins C fs) := by
  unfold insAt at h
  split at h
  · split at h
    · cases h; exact ⟨rfl, by assumption⟩
    · cases h
  · cases h
/-- a field may be read and written -/
structure FldOk (K : PySem.W.Frag) (C : Addr) (f : Str) : Prop where
  cls : Cls K C
  na : NoAttr K C f
def fldW (S : Sto) (x : W) (f : Str) : Option (Addr × W) := match x with
  | .hd n => (insAt S (.hd n)).bind fun p => (p.2.2.lookup f).map fun w => (p.2.1, w)
  | .fz (.obj C fs) => (fs.lookup f).map fun d => (C, .fz d)
  | _ => none
def dFld (K : PySem.W.Frag) (f : Str) (de : DE) : DE := fun env S Kp => de env S fun x S1 => onO (fldW S1 x f) fun p => FldOk K p.1 f ∧ Kp p.2 S1
def putFW (f : Str) (v : W) : List (Str × W) → List (Str × W)
  | [] => [(f, v)]
  | (g, x) :: r => if g = f then (g, v) :: r else (g, x) :: putFW f v r
def dFSet (K : PySem.W.Frag) (f : Str) (d dv : DE) : DS := fun D env S => dv env S fun w S1 => d env S1 fun x S2 => onO (insAt S2 x) fun p => (FldOk K p.2.1 f ∧ p.2.2.length < 1000) ∧ D.nx env (S2.set p.1 (.ins p.2.1 (putFW f w p.2.2)))
def dMakeO (C : Addr) (names : List Str) (da : DA) : DE := fun env S Kp => da env S fun ws S1 => ws.length = names.length ∧ Kp (.hd S1.length) (S1 ++ [.ins C (names.zip ws)])
def dMeth (C : Addr) (m : Str) (g : GSp) (xw : XWK) (de : DE) (da : DA) : DE := fun env S Kp => de env S fun x S1 => onO (insAt S1 x) fun p => (p.2.1 = C ∧ p.2.2.lookup m = none) ∧ da env S1 fun ws S2 => g (x :: ws) S2 Kp xw
section
variable {K : PySem.W.Frag} {F : Fx} {B : Hp} {m : List Addr} {S : Sto} {H : Hp}
theorem Cf.insA (c : Cf K F B m S H) {n : Nat} {C : Addr} {fs : List (Str × W)} {x : V} (r : RW K B m (.hd n) x) (h : S[n]? = some (.ins C fs)) : ∃ a dx vs, x = .ref a ∧ m[n]? = some a ∧ H a = some (.ins C dx vs) ∧ FF K B m fs vs := by
  cases r with
  | hd e =>
    obtain ⟨o, h1, ⟨dx, vs, h2, h3⟩, _⟩ := c.own _ _ _ e h
    subst h2
    exact ⟨_, dx, vs, rfl, e, h1, h3⟩
theorem FF.look {f : Str} : ∀ {fs : List (Str × W)} {vs : List (Str × V)}, FF K B m fs vs → match fs.lookup f with
    | some w => ∃ v, vs.lookup f = some v ∧ RW K B m w v
    | none => vs.lookup f = none
  | _, _, .nil => rfl
  | (g, w0) :: fs, (_, v0) :: vs, .cons ⟨e0, r⟩ t => by
    cases e0
    rw [List.lookup_cons, List.lookup_cons]
    by_cases e : f = g
    · subst e
      rw [beq_self_eq_true]
      exact ⟨_, rfl, r⟩
    · have e' : (f == g) = false := by simpa using e
      rw [e']
      exact FF.look t
theorem FF.put {f : Str} {w : W} {v : V} (rv : RW K B m w v) : ∀ {fs : List (Str × W)} {vs : List (Str × V)}, FF K B m fs vs → FF K B m (putFW f w fs) (putF f v vs)
  | _, _, .nil => .cons ⟨rfl, rv⟩ .nil
  | (g, w0) :: fs, (_, v0) :: vs, .cons ⟨e0, r⟩ t => by
    cases e0
    unfold putFW putF
    split
    · exact .cons ⟨rfl, rv⟩ t
    · exact .cons ⟨rfl, r⟩ (FF.put rv t)
theorem FF.length {fs : List (Str × W)} {vs : List (Str × V)} (r : FF K B m fs vs) : fs.length = vs.length := Paired.length r
theorem FF.zip : ∀ {ns : List Str} {ws : List W} {vs : List V}, RWL K B m ws vs → FF K B m (ns.zip ws) (ns.zip vs)
  | [], _, _, _ => .nil
  | _ :: _, _, _, .nil => .nil
  | _ :: _, _, _, .cons r t => .cons ⟨rfl, r⟩ (FF.zip t)
end
section
variable {X : Cx} {Ξ : Xt} {g : GSp} {C : Addr} {names : List Str} {j k : Nat} {x f mt : Str} {e o value : Expr} {es : List Expr} {da : DA} {de dv : DE} {p pos pos' apos : Pos}
/-- what a call lets out is taken -/
theorem TakesD.passes {F : Fx} {xw : XWK} (tk : TakesD X F xw) : ∃ W : WX, (∀ σ, PassesAt (L2.CX X.prog X.w) X σ (WE W σ)) ∧ ∀ (x : XD) (S' : Sto), xw x S' → ∀ (σ' : L2.St) (H' B' : Hp) (m' : List Addr) (d : Option Addr), Cf X.K F B' m' S' H' → RX X.K B' x.fs d → W x.cls d σ' H' := by
  obtain ⟨W, t, h⟩ := tk
  exact ⟨W, fun σ => passAt t σ, h⟩
theorem e_callG (c : CalX X.prog X.w X.K Ξ.T X.mg X.base k x g) (hr : Room j X.A) (hk : k ≤ j) (hg : Gl X x) (ha : DPA X Ξ (e :: es) da)
    (hdb : (x == ("__debug__" : Str)) = false := by decide) (he : starEach (e :: es) X.env = (false, eval e X.env) :: starEach es X.env := by rfl) (hpl : (backTo pos (starEach es X.env)).any (·.1) = false := by rfl) :
    DPE X Ξ (.Call (.Name x p) (e :: es) [] pos) (dCallG g Ξ.xw da) := ⟨fun F ok => by
  obtain ⟨W, hp, hw⟩ := ok.x.passes
  obtain ⟨f, fd, ps, Fn, hm, kp, b⟩ := c.ex
  refine PE.imp (pe_callS Fn (hr.mono hk) hg hm kp b hp (ha.run F ok) hdb he hpl) fun σ H Q ⟨B, m, S, env, Kp, cf, er, h, kw⟩ => ?_
  refine ⟨B, m, S, env, _, cf, er, h, fun ws S1 h1 vs H1 B1 m1 n1 r => ?_⟩
  rw [← ok.t]
  refine ⟨B1, m1, ws, S1, Kp, Ξ.xw, n1.cf.self, r, h1, fun w S2 h2 v H2 B2 m2 n2 r2 => ?_, fun y S2 h2 H2 B2 m2 d n2 rx => ?_⟩
  · exact kw _ _ h2 _ _ _ _ (n1.trans (n1.cf.backG n2)) r2
  · exact hw _ _ h2 _ _ _ _ _ (n1.cf.backG n2).cf rx⟩
/-- o.m(e, ..) -/
theorem e_mt {pl : Sem Bool} (c : MetX X.prog X.w X.K Ξ.T X.mg X.base k C mt g) (hr : Room j X.A) (hk : k ≤ j) (ho : DPE X Ξ o de) (ha : DPA X Ξ (e :: es) da)
    (hst : starEach (e :: es) X.env = (false, eval e X.env) :: starEach es X.env := by rfl) (hpl : (backTo pos (starEach es X.env)).any (·.1) = false := by rfl)
    (ht : eval (.Call (.Attribute o mt apos) (e :: es) [] pos) X.env = (do
      let ov ← eval o X.env
      standAt apos.atName
      let (f, first) ← holding [ov] (getMethod ov mt pl)
      callWith pos f first (backTo pos (starEach (e :: es) X.env)) (backToKw pos (keywordEach [] X.env))) := by rfl) :
    DPE X Ξ (.Call (.Attribute o mt apos) (e :: es) [] pos) (dMeth C mt g Ξ.xw de da) := ⟨fun F ok => by
  obtain ⟨W, hp, hw⟩ := ok.x.passes
  obtain ⟨f, fd, ps, hc, hm, Fn, b⟩ := c.ex
  refine ⟨fun pins s σ H Q I ⟨B, m, S, env, Kp, cf, er, h, kw⟩ => ?_⟩
  refine PySem.W.methodCall_KW (pl := pl) (thn ((ho.run F ok).run pins s σ H (fun x H1 => ∃ a dx fs, x = .ref a ∧ H1 a = some (.ins C dx fs) ∧ fs.lookup mt = none ∧ lA X.K F da σ H1 fun vs H2 => spG X.K Ξ.T g (x :: vs) H2 Q fun cls d H => W cls d σ H) I ?_) fun u s1 ⟨x, H1, I1, rx, a, dx, fs, ex, ea, l, q⟩ => ?_) ht
  · refine ⟨B, m, S, env, _, cf, er, h, fun w S1 h1 v H1 B1 m1 n1 r => ?_⟩
    obtain ⟨⟨n, C', fs⟩, e1, ⟨eC, hl⟩, h2⟩ := onO_ex h1
    obtain ⟨ew, es'⟩ := insAt_eq e1
    subst ew
    have eC : C' = C := eC
    subst eC
    obtain ⟨a, dx, vs, ea, em, hH, ff⟩ := n1.cf.insA r es'
    have q := ff.look (f := mt)
    rw [show fs.lookup mt = none from hl] at q
    refine ⟨a, dx, vs, ea, hH, q, B1, m1, S1, env, _, n1.cf, er.nx n1, h2, fun ws S2 h3 vs2 H2 B2 m2 n2 r2 => ?_⟩
    rw [← ok.t]
    refine ⟨B2, m2, .hd n :: ws, S2, Kp, Ξ.xw, n2.cf.self, .cons (r.nx n2) r2, h3, fun w S3 h4 v3 H3 B3 m3 n3 r3 => ?_, fun y S3 h4 H3 B3 m3 d n3 rx => ?_⟩
    · exact kw _ _ h4 _ _ _ _ ((n1.trans n2).trans (n2.cf.backG n3)) r3
    · exact hw _ _ h4 _ _ _ _ _ (n2.cf.backG n3).cf rx
  · subst ex
    obtain rfl : u = Value.ref a := rx
    refine getmeth_ok I1 ea hc hm l ?_
    refine PySem.W.callWith_K (first := [.ref a]) (h₀ := X.base) I.ok.mod.kin hm.kp (thn ((ha.run F ok).run pos pins s1 σ H1 _ I1 q) fun us s2 ⟨vs, H2, I2, r, q2⟩ => ⟨I2.kIn, ?_⟩) hst hpl
    exact run_fnS (E := fun σ => WE W σ) (us := .ref a :: us) (vs := .ref a :: vs) Fn (hr.mono hk) b (hp σ) I2 (.cons rfl r) q2⟩
/-- o.m() -/
theorem e_mt0 {pl : Sem Bool} (c : MetX X.prog X.w X.K Ξ.T X.mg X.base k C mt g) (hr : Room j X.A) (hk : k ≤ j) (ho : DPE X Ξ o de)
    (ht : eval (.Call (.Attribute o mt apos) [] [] pos) X.env = (do
      let ov ← eval o X.env
      standAt apos.atName
      let (f, first) ← holding [ov] (getMethod ov mt pl)
      callWith pos f first (backTo pos (starEach [] X.env)) (backToKw pos (keywordEach [] X.env))) := by rfl) :
    DPE X Ξ (.Call (.Attribute o mt apos) [] [] pos) (dMeth C mt g Ξ.xw de dNil) := ⟨fun F ok => by
  obtain ⟨W, hp, hw⟩ := ok.x.passes
  obtain ⟨f, fd, ps, hc, hm, Fn, b⟩ := c.ex
  refine ⟨fun pins s σ H Q I ⟨B, m, S, env, Kp, cf, er, h, kw⟩ => ?_⟩
  refine PySem.W.methodCall_KW (pl := pl) (thn ((ho.run F ok).run pins s σ H (fun x H1 => ∃ a dx fs, x = .ref a ∧ H1 a = some (.ins C dx fs) ∧ fs.lookup mt = none ∧ spG X.K Ξ.T g [x] H1 Q fun cls d H => W cls d σ H) I ?_) fun u s1 ⟨x, H1, I1, rx, a, dx, fs, ex, ea, l, q⟩ => ?_) ht
  · refine ⟨B, m, S, env, _, cf, er, h, fun w S1 h1 v H1 B1 m1 n1 r => ?_⟩
    obtain ⟨⟨n, C', fs⟩, e1, ⟨eC, hl⟩, h2⟩ := onO_ex h1
    obtain ⟨ew, es'⟩ := insAt_eq e1
    subst ew
    have eC : C' = C := eC
    subst eC
    obtain ⟨a, dx, vs, ea, em, hH, ff⟩ := n1.cf.insA r es'
    have q := ff.look (f := mt)
    rw [show fs.lookup mt = none from hl] at q
    refine ⟨a, dx, vs, ea, hH, q, ?_⟩
    rw [← ok.t]
    refine ⟨B1, m1, [.hd n], S1, Kp, Ξ.xw, n1.cf.self, .cons r .nil, h2, fun w S3 h4 v3 H3 B3 m3 n3 r3 => ?_, fun y S3 h4 H3 B3 m3 d n3 rx => ?_⟩
    · exact kw _ _ h4 _ _ _ _ (n1.trans (n1.cf.backG n3)) r3
    · exact hw _ _ h4 _ _ _ _ _ (n1.cf.backG n3).cf rx
  · subst ex
    obtain rfl : u = Value.ref a := rx
    refine getmeth_ok I1 ea hc hm l ?_
    exact PySem.W.callWith_K0 (first := [.ref a]) I1.kIn hm.kp (run_fnS (E := fun σ => WE W σ) (us := [.ref a]) (vs := [.ref a]) Fn (hr.mono hk) b (hp σ) I1 (.cons rfl .nil) q)⟩
/-- e.f -/
theorem e_fld (K : PySem.W.Frag) (he : DPE X Ξ e de) (hK : X.K = K := by rfl) (hb : attributeBase e f X.env (eval e X.env) = eval e X.env := by rfl) : DPE X Ξ (.Attribute e f pos) (dFld K f de) := by
  subst hK
  exact ⟨fun F ok => PE.imp (pe_fld (he.run F ok) hb) fun σ H Q ⟨B, m, S, env, Kp, cf, er, h, k⟩ => by
  refine ⟨B, m, S, env, _, cf, er, h, fun w S1 h0 v H1 B1 m1 n1 r => ?_⟩
  obtain ⟨⟨C, w'⟩, e1, fo, h1⟩ := onO_ex h0
  unfold fldW at e1
  split at e1
  · rename_i n
    cases q : insAt S1 (.hd n) with
    | none => rw [q] at e1; cases e1
    | some p =>
      obtain ⟨n', C', fs⟩ := p
      rw [q] at e1
      obtain ⟨ew, es'⟩ := insAt_eq q
      cases ew
      obtain ⟨a, dx, vs, ea, em, hH, ff⟩ := n1.cf.insA r es'
      have ql := ff.look (f := f)
      cases z : fs.lookup f with
      | none => have e1' : (fs.lookup f).map (fun w => (C', w)) = some (C, w') := e1; rw [z] at e1'; cases e1'
      | some w0 =>
        have e1' : (fs.lookup f).map (fun w => (C', w)) = some (C, w') := e1
        rw [z] at e1' ql
        cases e1'
        obtain ⟨u, lu, ru⟩ := ql
        exact ⟨a, C, dx, vs, u, ea, hH, fo.cls, fo.na, lu, k _ _ h1 _ _ _ _ n1 ru⟩
  · rename_i C' fs
    cases z : fs.lookup f with
    | none => rw [z] at e1; cases e1
    | some d =>
      rw [z] at e1
      cases e1
      cases r with | fz r => cases r with | obj hB rf =>
        obtain ⟨u, lu, ru⟩ := rpf_look rf z
        exact ⟨_, _, _, _, u, rfl, n1.cf.sub _ _ hB, fo.cls, fo.na, lu, k _ _ h1 _ _ _ _ n1 (.fz ru)⟩
  · cases e1⟩
/-- o.f = e -/
theorem s_fld (K : PySem.W.Frag) (ho : DPE X Ξ o de) (hv : DPE X Ξ value dv) (hK : X.K = K := by rfl) (hs : swapsWith value (some (.Attribute o f pos')) pos.line X.env = pure false := by rfl) : DPS X Ξ (.Assign [.Attribute o f pos'] value pos) (dFSet K f de dv) := by
  subst hK
  exact ⟨fun F ok => PS.imp (ps_fld (ho.run F ok) (hv.run F ok) hs) fun D σ H ⟨B, m, S, env, E, cf, er, h, k1, k2, k3, k4⟩ => by
  refine ⟨B, m, S, env, _, cf, er, h, fun w S1 h1 v H1 B1 m1 n1 rv => ⟨B1, m1, S1, env, _, n1.cf, er.nx n1, h1, fun x S2 h0 u H2 B2 m2 n2 rx => ?_⟩⟩
  obtain ⟨⟨n, C, fs⟩, e1, ⟨fo, hz⟩, h3⟩ := onO_ex h0
  obtain ⟨ex, es'⟩ := insAt_eq e1
  subst ex
  have nn := n1.trans n2
  obtain ⟨a, dx, vs, ea, em, hH, ff⟩ := nn.cf.insA rx es'
  have n4 := nn.cf.write (o := .ins C dx (putF f v vs)) (od := .ins C (putFW f w fs)) em es' (fun z => nomatch z) ⟨dx, _, rfl, ff.put (rv.nx n2)⟩
  exact ⟨a, C, dx, vs, ea, hH, fo.cls, fo.na, by rw [← ff.length]; exact hz, k1 _ _ h3 _ _ _ _ (nn.trans n4) ((er.nx nn).nx n4)⟩⟩
/-- C(e, ..): an object of one's own -/
theorem e_makeO (R : RecC X.prog X.w X.K X.mg X.base x names C) (hr : Room j X.A) (hk : 2 ≤ j) (hg : Gl X x) (ha : DPA X Ξ (e :: es) da)
    (hdb : (x == ("__debug__" : Str)) = false := by decide) (he : starEach (e :: es) X.env = (false, eval e X.env) :: starEach es X.env := by rfl) (hpl : (backTo pos (starEach es X.env)).any (·.1) = false := by rfl) :
    DPE X Ξ (.Call (.Name x p) (e :: es) [] pos) (dMakeO C names da) := ⟨fun F ok => PE.imp (C8.pe_mk R.mak hr hk hg (ha.run F ok) hdb he hpl) fun σ H Q ⟨B, m, S, env, Kp, cf, er, h, k⟩ => by
  refine ⟨B, m, S, env, _, cf, er, h, fun ws S1 h0 vs H1 B1 m1 n1 r => fun a dx ha hdx ne => ?_⟩
  obtain ⟨hl, h1⟩ := h0
  refine ⟨a, dx, vs, by rw [List.append_nil], ?_, upd_same, rfl, ?_⟩
  · rw [← r.length, hl]
  rw [upd_upd]
  obtain ⟨fb, fm, ft, fh⟩ := n1.cf.fresh hdx
  have n2 := Nx.side (o := .own a) n1.cf.nx fh ft hdx fb fm
  have n3 := n2.cf.allocO (p := a) (o := .ins C dx (names.zip vs)) (od := .ins C (names.zip ws)) (by rw [upd_ne (fun z => ne z.symm)]; exact ha) ⟨dx, _, rfl, FF.zip r⟩
  refine k _ _ h1 _ _ _ _ ((n1.trans n2).trans n3) (.hd ?_)
  rw [← n1.cf.len, List.getElem?_append_right (Nat.le_refl _), Nat.sub_self]
  rfl⟩
end
/-! ### the rule for a def -/
section
variable {P : Program} {w : World} {K : PySem.W.Frag} {T : Addr → Prop} {mg : Str → Option Value} {base : Heap}
theorem fnX {x qual : Str} {st : Stmt} {f : Addr} {fd : FuncData} {N ps : List Str} {k : Nat} {g : GSp} {ds : XWK → DS} (Fn : C8.Fun K x qual st f fd) (S : FnScope N ps (C8.fnScope st)) (len : ∀ ws S Kp Xp, g ws S Kp Xp → ws.length = ps.length)
    (hbody : ∀ (xw : XWK) (cdv : Value) (A : Around) (outer : List Env) (s : Shared) (H : Hp) (E : XK), Room k (A.deeper (envOfC qual (C8.fnScope st) s.heap.objs.size f cdv)) →
      PassesOwn (model P w) (cxOf (L2.CX P w) P w K mg base N qual (C8.fnScope st) f cdv A outer s H E).A (cxOf (L2.CX P w) P w K mg base N qual (C8.fnScope st) f cdv A outer s H E).env (cxOf (L2.CX P w) P w K mg base N qual (C8.fnScope st) f cdv A outer s H E).xe →
      DPSs (cxOf (L2.CX P w) P w K mg base N qual (C8.fnScope st) f cdv A outer s H E) ⟨T, xw, none⟩ (C8.fnBody st) (ds xw))
    (hread : ∀ ws S Kp Xp, g ws S Kp Xp → ds Xp ⟨fun _ S' => Kp (.fz .non) S', Kp, fun _ _ => False, fun _ _ => False⟩ (startD N ws) S) : FnOk P w K mg base (L2.CX P w) (k + 1) f fd ps (spG K T g) := by
  obtain ⟨oc, od, dV, kV, doc, pm, an, cdv, ct, osl, rfl, lk, hcd⟩ := Fn.ex
  refine fn_of lk hcd S (fun vs H Q E ⟨B, m, ws, S, Kp, Xp, _, r, h, _⟩ => by rw [← r.length]; exact len _ _ _ _ h) fun A outer s H vs Q E hr ⟨B, m, ws, S0, Kp, Xp, c, r, h, kw, kx⟩ => ?_
  have hb := hbody Xp cdv A outer s H E hr (passes_of rfl)
  have tk : Takes (cxOf (L2.CX P w) P w K mg base N qual (C8.fnScope st) f cdv A outer s H E) (fun cls d _ H => E cls d H) := takes_of rfl rfl rfl rfl
  refine ⟨_, hb.run ⟨B, H, m, T⟩ ⟨rfl, ⟨_, tk, fun x S' hx σ' H' B' m' d cf rx => kx x S' hx H' B' m' d cf.nxE rx⟩, fun _ z => nomatch z⟩, B, m, S0, _, _, c, ER.start r, hread ws S0 Kp Xp h, ?_, ?_, fun _ _ z => z.elim, fun _ _ z => z.elim⟩
  · rintro env S' hk σ' H' B' m' n er
    exact kw _ _ hk _ _ _ _ n (.fz .non)
  · rintro u S' hk v H' B' m' n r'
    exact kw _ _ hk _ _ _ _ n r'
end
end DL
/-! DC7: an __init__ that begins with super().__init__(..), of an own class -/
namespace DL
open PySem PySem.Spec PyProof.Rows L2

/-- the words of such a def -/
structure ScopeS (N ps : List Str) (sc : Scope) : Prop where
  kind : sc.kind = .function
  co : sc.isCoroutine = false
  gen : sc.isGenerator = false
  nd : N.Nodup
  pre : N.take ps.length = ps
  par : ∀ x ∈ ps, sc.names.lookup x = some .local
  nocell : ∀ x ∈ sc.names, x.2 ≠ .cell
  fr : ∀ x ∈ sc.names, x.2 = .free → x.1 = "__class__"
  sup : sc.names.lookup ("super" : Str) = some .globalImplicit
  cls : sc.names.lookup ("__class__" : Str) = some .free
def scS (N P : List Str) (sc : Scope) : Bool :=
  decide (sc.kind = .function) && !sc.isCoroutine && !sc.isGenerator && decide N.Nodup && decide (N.take P.length = P) && P.all (fun x => decide (sc.names.lookup x = some .local)) && sc.names.all (fun y => !decide (y.2 = .cell)) && sc.names.all (fun y => !decide (y.2 = .free) || decide (y.1 = "__class__")) &&
    decide (sc.names.lookup ("super" : Str) = some .globalImplicit) && decide (sc.names.lookup ("__class__" : Str) = some .free)
theorem scopeS_by {N P : List Str} {sc : Scope} (h : scS N P sc = true) : ScopeS N P sc := by
  unfold scS at h
  simp only [Bool.and_eq_true, Bool.not_eq_true', Bool.or_eq_true, decide_eq_true_eq, List.all_eq_true, decide_eq_false_iff_not] at h
  obtain ⟨⟨⟨⟨⟨⟨⟨⟨⟨h1, h2⟩, h3⟩, h4⟩, h5⟩, h6⟩, h7⟩, h8⟩, h9⟩, h10⟩ := h
  exact ⟨h1, h2, h3, h4, h5, h6, h7, fun x hx e => (h8 x hx).resolve_left fun z => z e, h9, h10⟩
/-- the context of its body -/
def cxS (CX : CXT) (P : Program) (w : World) (K : PySem.W.Frag) (mg : Str → Option Value) (base : Heap) (N : List Str) (qual : Str) (scope : Scope) (f : Addr) (cd : Value) (cc : Addr) (A : Around) (outer : List Env) (s : Shared) (H : Hp) (E : XK) : Cx where
  prog := P
  w := w
  K := K
  mg := mg
  base := base
  A := A.deeper (PySem.W.ksEnv qual scope s.heap.objs.size f cd cc)
  N := N
  s_0 := s
  H_0 := H
  env := PySem.W.ksEnv qual scope s.heap.objs.size f cd cc
  outer := outer
  stack := PySem.W.ksEnv qual scope s.heap.objs.size f cd cc :: outer
  ex := []
  calm := true
  fn := fun y => !(y == "__class__")
  pn := []
  xe := fun e s' => wpAny (model P w) (A.deeper (PySem.W.ksEnv qual scope s.heap.objs.size f cd cc)) (leaving (PySem.W.ksEnv qual scope s.heap.objs.size f cd cc) e) (fun _ s'' => CX outer H s E e s'') (fun e' s'' => CX outer H s E e' s'') s'
theorem look1 {cc c : Addr} {y : Str} (h : ([("__class__", cc)] : List (Str × Addr)).lookup y = some c) : y = "__class__" ∧ c = cc := by
  rw [List.lookup_cons] at h
  by_cases e : y = "__class__"
  · subst e
    rw [beq_self_eq_true] at h
    exact ⟨rfl, (Option.some.inj h).symm⟩
  · have e' : (y == ("__class__" : Str)) = false := by simpa using e
    rw [e'] at h
    cases h
theorem lookup_of_nodup {α β : Type} [DecidableEq α] [BEq α] [LawfulBEq α] : ∀ {l : List (α × β)} {x : α} {u : β}, (l.map (·.1)).Nodup → (x, u) ∈ l → l.lookup x = some u
  | [], _, _, _, h => by cases h
  | (y, v) :: l, x, u, nd, h => by
    rw [List.map_cons, List.nodup_cons] at nd
    rw [List.lookup_cons]
    rcases List.mem_cons.mp h with e | h
    · cases e
      rw [beq_self_eq_true]
    · have ne : x ≠ y := fun e => nd.1 (by rw [← e]; exact List.mem_map_of_mem (f := (·.1)) h)
      have e' : (x == y) = false := by simpa using ne
      rw [e']
      exact lookup_of_nodup nd.2 h
theorem zip_fst {α β : Type} : ∀ {l : List α} {m : List β}, l.length = m.length → (l.zip m).map (·.1) = l
  | [], [], _ => rfl
  | a :: l, b :: m, h => by
    rw [List.zip_cons_cons, List.map_cons, zip_fst (by simpa using h)]
  | [], _ :: _, h => by simp at h
  | _ :: _, [], h => by simp at h
theorem zip_get {α β : Type} : ∀ {l : List α} {m : List β} {i : Nat} {a : α} {b : β}, l[i]? = some a → m[i]? = some b → (a, b) ∈ l.zip m
  | [], _, i, _, _, h, _ => by simp at h
  | _ :: _, [], i, _, _, _, h => by simp at h
  | x :: l, y :: m, 0, a, b, h1, h2 => by
    simp at h1 h2
    subst h1; subst h2
    exact List.mem_cons_self
  | x :: l, y :: m, i + 1, a, b, h1, h2 => List.mem_cons_of_mem _ (zip_get (i := i) (by simpa using h1) (by simpa using h2))
theorem inv_startS {CX : CXT} {P : Program} {w : World} {K : PySem.W.Frag} {mg : Str → Option Value} {base : Heap} {N ps : List Str} {qual : Str} {scope : Scope} {f cc : Addr} {cd : Value} {A : Around} {outer : List Env} {s : Shared} {H : Hp} {E : XK} {us : List Value} {vs : List V} {h1 : Heap} {tk : Nat} {cl : Value} {cld : Option Addr} {cv : Option Value} {csl : Array (Option Value)}
    (S : ScopeS N ps scope) (hd : A.handled = none) (e0 : Env0 P w K mg base A outer s H) (hl : vs.length = ps.length) (r : Vals vs us) (hcc : K.lookup cc = some ⟨cl, cld, .cell cv, csl⟩)
    (hns : h1.Ns s.heap.objs.size (fun x => (ps.zip us).reverse.lookup x)) (hk : ∀ b o, s.heap.get? b = some o → h1.get? b = some o) :
    Inv (cxS CX P w K mg base N qual scope f cd cc A outer s H E) [] (L2.start N vs) H { s with heap := h1, toks := tk } := by
  have hpl : ps.length ≤ N.length := by have := congrArg List.length S.pre; rw [List.length_take] at this; omega
  have noA : ∀ b : Addr, b ∉ (cxS CX P w K mg base N qual scope f cd cc A outer s H E).ex := fun b z => absurd (show b ∈ ([] : List Addr) from z) (by simp)
  have hlu : us.length = ps.length := by rw [← r.length, hl]
  have ndP : ps.Nodup := by rw [← S.pre]; exact S.nd.sublist (List.take_sublist _ _)
  refine ⟨⟨e0.mod, S.kind, rfl, rfl, Nat.le_refl _, fun y z c h1 h2 => ?_, fun y hy => ?_, fun y c hf h => ?_, fun _ => hd, Around.frames_deeper e0.frames, .inr ⟨rfl, rfl⟩, fun b z => absurd z (noA b), e0.bs, e0.bsz, fun b _ _ => noA b, fun b z => absurd z (noA b), e0.funs, e0.frf⟩,
    rfl, e0.bare, Un.kept hk, ⟨_, hns, fun i y v h1 h2 h3 => ?_⟩, fun y c h => ?_, e0.hok.fresh (Nat.le_refl _), fun y c h => ?_, fun p hp => absurd (show p ∈ ([] : List (Addr × Obj)) from hp) (by simp), e0.hok.kept hk, ?_⟩
  · rw [(look1 h1).1, (look1 h2).1]
  · have hy : scope.names.lookup y = some .cell ∨ scope.names.lookup y = some .free := hy
    rcases hy with hy | hy
    · exact absurd rfl (S.nocell _ (PySem.mem_of_lookup hy))
    · have e := S.fr _ (PySem.mem_of_lookup hy) rfl
      have e : y = "__class__" := e
      subst e
      exact ⟨cc, rfl⟩
  · rw [(look1 h).1] at hf
    have hf : (!(("__class__" : Str) == "__class__")) = true := hf
    rw [beq_self_eq_true] at hf
    cases hf
  · have hi : i < vs.length := by
      unfold L2.start at h2
      by_cases hi : i < vs.length
      · exact hi
      · rw [List.getElem?_append_right (by simpa using hi)] at h2
        rw [List.getElem?_replicate] at h2
        split at h2 <;> cases h2
    have ha : vs[i]? = some v := by
      unfold L2.start at h2
      rw [List.getElem?_append_left (by simpa using hi), List.getElem?_map] at h2
      cases e : vs[i]? with
      | none => rw [e] at h2; cases h2
      | some a => rw [e] at h2; cases h2; rfl
    obtain ⟨u, hu, rv⟩ := r.get ha
    have hp : ps[i]? = some y := by
      rw [← S.pre, List.getElem?_take_of_lt (by omega)]; exact h1
    refine ⟨u, rv, .inl ⟨S.par y (List.mem_of_getElem? hp), ?_⟩⟩
    refine lookup_of_nodup ?_ (List.mem_reverse.mpr (zip_get hp hu))
    rw [List.map_reverse, zip_fst hlu.symm]
    exact (List.reverse_perm _).nodup_iff.mpr ndP
  · rw [(look1 h).2]
    have := e0.mod.kin _ _ hcc
    exact ⟨cv, _, hk _ _ (e0.bs _ _ this).1, rfl⟩
  · rw [(look1 h).2]
    exact (e0.bs _ _ (e0.mod.kin _ _ hcc)).2
  · unfold L2.start
    show _ = N.length
    rw [List.length_append, List.length_map, List.length_replicate]
    omega
/-- what is known of such an __init__: its code, the cell of its class, the next __init__ -/
structure SupF (P : Program) (K : PySem.W.Frag) (qual : Str) (st : Stmt) (C f f2 : Addr) : Prop where
  ex : ∃ (oc : Value) (od : Option Addr) (kV doc pm : Value) (an : Option Addr) (cda : Addr) (ct : Value) (cc : Addr) (osl : Array (Option Value)) (ccl : Value) (cdd : Option Addr) (vs : Array Value) (ccs : Array (Option Value)) (file : Str) (tf : Tok) (cl : Value) (cld : Option Addr) (csl : Array (Option Value)),
    K.lookup f = some ⟨oc, od, .func (PySem.W.ksFn "__init__" qual (C8.fnArgs st) (C8.fnBody st) (C8.fnScope st) .none kV doc pm an (.ref cda) ct cc), osl⟩ ∧ PySem.W.codeIn K (.ref cda) qual = true ∧
    K.lookup cda = some ⟨ccl, cdd, .fields vs, ccs⟩ ∧ vs[2]? = some (.str file tf) ∧ ((P.main.file : Str) == file) = true ∧ K.lookup cc = some ⟨cl, cld, .cell (some (.ref C)), csl⟩
  cls : ∃ cd, PySem.W.clsIn K C = some cd
  sub : PySem.W.mroIn K C (.ref C) = some true
  top : (P.main.scope.names.lookup ("super" : Str)).isSome = false
  any : PySem.W.nsIn K cStatics "thirdparty.any" = some none
  nxt : PySem.W.ks_superIn K C C "__init__" = some (some (.ref f2))
  ty : PySem.W.typeIn K (.ref f2) = some (.type "function")
  fi : PySem.W.fnIn K f2 = true
/-- super().__init__(e, ..), the first words of the body -/
theorem sup_call {X : Cx} {pins : List (Addr × Obj)} {σ : L2.St} {H : Hp} {s : Shared} {a C dx f f2 cc cda : Addr} {fs : List (Str × V)} {qual : Str} {scope : Scope} {L : Addr} {body : List Stmt} {p0 p1 apos pos : Pos} {e : Expr} {es : List Expr} {t : TA} {sp2 : Sp} {fd2 : FuncData} {ps2 : List Str} {k : Nat} {Q : VK} {ar : Arg} {fd : FuncData}
    {oc : Value} {od : Option Addr} {osl : Array (Option Value)} {ccl : Value} {cdd : Option Addr} {vs : Array Value} {ccs : Array (Option Value)} {file : Str} {tf : Tok} {cl : Value} {cld : Option Addr} {csl : Array (Option Value)} {cdD : ClassData}
    (he : X.env = PySem.W.ksEnv qual scope L f (.ref cda) cc) (I : Inv X pins σ H s) (hN : X.N[0]? = some ar.arg) (h0 : σ[0]? = some (some (.ref a))) (ha : H a = some (.ins C dx fs))
    (lk : X.K.lookup f = some ⟨oc, od, .func fd, osl⟩) (hp : (fd.params.posonlyargs ++ fd.params.args).head? = some ar) (hcode : X.K.lookup cda = some ⟨ccl, cdd, .fields vs, ccs⟩) (hvs : vs[2]? = some (.str file tf)) (hfile : ((X.prog.main.file : Str) == file) = true)
    (hcell : X.K.lookup cc = some ⟨cl, cld, .cell (some (.ref C)), csl⟩) (hD : PySem.W.clsIn X.K C = some cdD) (hsub : PySem.W.mroIn X.K C (.ref C) = some true) (hm : X.mg "super" = none) (htop : (X.prog.main.scope.names.lookup ("super" : Str)).isSome = false)
    (hany : PySem.W.nsIn X.K cStatics "thirdparty.any" = some none) (hnx : PySem.W.ks_superIn X.K C C "__init__" = some (some (.ref f2))) (hty : PySem.W.typeIn X.K (.ref f2) = some (.type "function")) (hfi : PySem.W.fnIn X.K f2 = true)
    (hks : scope.names.lookup ("super" : Str) = some .globalImplicit) (hkc : scope.names.lookup ("__class__" : Str) = some .free) (hka : scope.names.lookup ar.arg = some .local) (hk : scope.kind = .function)
    (F2 : FnOk X.prog X.w X.K X.mg X.base C8.CX0 k f2 fd2 ps2 sp2) (hb2 : Binds X.K fd2 ps2 []) (hr : Room k X.A) (hPA : PA X (e :: es) t)
    (hq : ∀ q, H q = none → t σ (upd H q (.met f2 a)) fun ws H2 => H2 q = some (.met f2 a) ∧ sp2 (.ref a :: ws) H2 Q C8.E0)
    (hs1 : starEach (e :: es) X.env = (false, eval e X.env) :: starEach es X.env) (hpl : (backTo pos (starEach es X.env)).any (·.1) = false)
    (hev : eval (.Call (.Attribute (.Call (.Name "super" p0) [] [] p1) "__init__" apos) (e :: es) [] pos) X.env = (do
      let ov ← attributeBase (.Call (.Name "super" p0) [] [] p1) "__init__" X.env (eval (.Call (.Name "super" p0) [] [] p1) X.env)
      standAt apos.atName
      let (f, first) ← holding [ov] (getMethod ov "__init__" (pure false))
      callWith pos f first (backTo pos (starEach (e :: es) X.env)) [])) :
    PySem.wpAt (model X.prog X.w) X.A (.func body X.env) (eval (.Call (.Attribute (.Call (.Name "super" p0) [] [] p1) "__init__" apos) (e :: es) [] pos) X.env) (EP X pins σ Q) X.xe s := by
  refine PySem.ks_wpAt_MethodCall (pl := pure false) ?_ hev
  have KX := I.kIn
  obtain ⟨oD, hD1, hD2⟩ : ∃ oD, s.heap.get? C = some oD ∧ oD.data = .cls cdD := by
    unfold PySem.W.clsIn at hD
    split at hD
    · rename_i c d cd' sl ho
      cases hD
      exact ⟨_, KX _ _ ho, rfl⟩
    · cases hD
  obtain ⟨mA, O, _, _, _, _⟩ := ins_get I.hok ha
  obtain ⟨odx, J, _⟩ := O.look
  have hks' : X.env.kindOf "super" = some .globalImplicit := by rw [he]; exact hks
  have hkc' : X.env.kindOf "__class__" = some .free := by rw [he]; exact hkc
  have hka' : X.env.kindOf ar.arg = some .local := by rw [he]; exact hka
  have hk' : X.env.scope.kind = .function := by rw [he]; exact hk
  refine PySem.ks_wpAt_super_base hks' hkc' rfl (show X.env.func = some f by rw [he]) (KX _ _ lk) rfl hp (show X.env.code = .ref cda by rw [he]) (KX _ _ hcode) rfl hvs hfile htop ?_
  obtain ⟨mb, b1, b2⟩ := I.mod.blt
  refine PySem.W.ks_loadName_global hk' hks' (Calls.loadGlobal_builtin (by rw [I.ok.glob]; exact I.mod.glob.keeps I.bk) hm (by rw [I.ok.blt]; exact b1.keeps I.bk) ((b2 "super" (by decide)).trans (by first | exact PyProof.Rows.boot_super | exact PySem.boot_super | decide +kernel)) ⟨rfl, ?_⟩)
  have hcl : X.env.cells.lookup ("__class__" : Str) = some cc := by rw [he]; rfl
  refine wpAny_loadName_free hk' hkc' hcl ⟨_, KX _ _ hcell, rfl⟩ ?_
  obtain ⟨m, hn, hlk⟩ := id I.loc
  obtain ⟨u, ru, hlook⟩ := hlk 0 ar.arg (.ref a) hN h0 (by rw [he]; exact .inl hka)
  have hmv : m ar.arg = some u := by
    rcases hlook with ⟨_, h⟩ | ⟨h | h, _⟩
    · exact h
    · rw [hka'] at h; cases h
    · rw [hka'] at h; cases h
  obtain rfl : u = Value.ref a := ru
  refine wpAny_loadName_local hk' hka' hn hmv ?_
  obtain ⟨hh, g, d, tk, os⟩ := s
  refine PySem.ks_wpAny_isType_cls hD1 hD2 ⟨rfl, ?_⟩
  refine PySem.ks_wpAny_call_super hD1 hD2 J.at_ J.cls (fun c e => ?_) (PySem.W.looks_mroIn KX hsub) (fun h' e1 k1 => ?_)
  · have := J.no
    unfold PySem.W.notCls at this
    rw [e] at this
    exact Bool.noConfusion this
  -- the super object stands
  have I1 : Inv X pins σ H ⟨h', g, d, tk, os⟩ := I.kept (t' := tk) k1
  have KX1 := I1.kIn
  unfold PySem.W.ks_superIn at hnx
  rw [hD] at hnx
  obtain ⟨of, hof, hofc⟩ : ∃ of, h'.get? f2 = some of ∧ of.cls = .type "function" := by
    have ht' : (X.K.lookup f2).map (·.cls) = some (.type "function") := hty
    cases z : X.K.lookup f2 with
    | none => rw [z] at ht'; cases ht'
    | some of => rw [z] at ht'; exact ⟨of, KX1 _ _ z, Option.some.inj ht'⟩
  have J1 : PySem.W.InstAt h' a (PySem.W.instObj C dx) C (some odx) := by
    obtain ⟨mA1, O1, _, _, _, _⟩ := ins_get I1.hok ha
    obtain ⟨odx1, J1, _⟩ := O1.look
    exact ⟨k1 _ _ J.at_, J.cls, J.no, by
      have := J.dict
      exact k1 _ _ this⟩
  refine PySem.ks_wpAny_getMethod_super e1 (PySem.W.looks_opaque KX1 hany) (l₀ := cdD.mro) ?_ rfl KX1 hnx hof hofc (PySem.W.ks_ne KX1 J1 hD) rfl ?_
  · exact fun A Q E s k q => wpAny_bind ((PySem.W.looks_clsIn KX1 hD) A _ E s k (wpAny_pure q))
  have hnq : H h'.objs.size = none := I1.hok.fresh (Nat.le_refl _)
  have I2 : Inv X pins σ (upd H h'.objs.size (.met f2 a)) ⟨h'.push (PySem.W.methodObj (.ref f2) (.ref a)), g, d, tk + 1, os⟩ :=
    I1.laid (t' := tk + 1) (a := h'.objs.size) (o := .met f2 a) (fun b u z => Heap.get?_push_of_some _ z) (Nat.le_refl _) (show (h'.push (PySem.W.methodObj (.ref f2) (.ref a))).get? h'.objs.size = some (PySem.W.methodObj (.ref f2) (.ref a)) from Heap.get?_push_size h' rfl)
  show wpAny _ _ (callWith pos (.ref h'.objs.size) [] (backTo pos (starEach (e :: es) X.env)) []) _ _ _
  rw [hs1]
  refine callwith_met (a := a) (first := []) (by show ((false || (backTo pos (starEach es X.env)).any (·.1)) || false) = false; rw [hpl]; rfl) hfi ?_
  refine Calls.evalArgs_plain ?_
  have hA := hPA.run pos pins _ σ _ _ I2 (hq _ hnq)
  rw [hs1] at hA
  refine thn hA fun us s3 ⟨ws, H3, I3, r, hmet, hsp⟩ => ⟨met_P I3 hmet, ?_⟩
  refine wpAny_call (call_met I3 hmet ?_)
  exact run_fnR (us := Value.ref a :: us) (vs := V.ref a :: ws) ((F2.raw hb2 .nil).imp fun vs H Q E h => by rw [List.append_nil]; exact h) hr C8.pass0 I3 (.cons rfl r) hsp
/-- THE RULE for such an __init__ -/
theorem fnSup {CX : CXT} {P : Program} {w : World} {K : PySem.W.Frag} {mg : Str → Option Value} {base : Heap} {N ps : List Str} {qual : Str} {st : Stmt} {C f f2 : Addr} {fd2 : FuncData} {ps2 : List Str} {k : Nat} {sp sp2 : Sp} {p0 p1 apos pos pos2 : Pos} {e : Expr} {es : List Expr} {rest : List Stmt} {ar : Arg}
    (SF : SupF P K qual st C f f2) (hmsup : mg "super" = none) (hst : C8.fnBody st = .Expr (.Call (.Attribute (.Call (.Name "super" p0) [] [] p1) "__init__" apos) (e :: es) [] pos) pos2 :: rest) (S : ScopeS N ps (C8.fnScope st))
    (har : ((C8.fnArgs st).posonlyargs ++ (C8.fnArgs st).args).head? = some ar) (hN0 : N[0]? = some ar.arg) (hpar : (C8.fnScope st).names.lookup ar.arg = some .local) (F2 : FnOk P w K mg base C8.CX0 k f2 fd2 ps2 sp2) (hb2 : Binds K fd2 ps2 [])
    (hb : ∀ (kV doc pm : Value) (an : Option Addr) (cdv ct : Value) (cc : Addr) (us : List Value), us.length = ps.length → bindArgs (PySem.W.ksFn "__init__" qual (C8.fnArgs st) (C8.fnBody st) (C8.fnScope st) .none kV doc pm an cdv ct cc) ⟨us, []⟩ = pure (ps.zip us))
    (len : ∀ vs H Q E, sp vs H Q E → vs.length = ps.length)
    (hs1 : ∀ (L f : Addr) (cd : Value) (cc : Addr), starEach (e :: es) (PySem.W.ksEnv qual (C8.fnScope st) L f cd cc) = (false, eval e (PySem.W.ksEnv qual (C8.fnScope st) L f cd cc)) :: starEach es (PySem.W.ksEnv qual (C8.fnScope st) L f cd cc))
    (hpl : ∀ (L f : Addr) (cd : Value) (cc : Addr), (backTo pos (starEach es (PySem.W.ksEnv qual (C8.fnScope st) L f cd cc))).any (·.1) = false)
    (hev : ∀ (L f : Addr) (cd : Value) (cc : Addr), eval (.Call (.Attribute (.Call (.Name "super" p0) [] [] p1) "__init__" apos) (e :: es) [] pos) (PySem.W.ksEnv qual (C8.fnScope st) L f cd cc) = (do
      let ov ← attributeBase (.Call (.Name "super" p0) [] [] p1) "__init__" (PySem.W.ksEnv qual (C8.fnScope st) L f cd cc) (eval (.Call (.Name "super" p0) [] [] p1) (PySem.W.ksEnv qual (C8.fnScope st) L f cd cc))
      standAt apos.atName
      let (g, first) ← holding [ov] (getMethod ov "__init__" (pure false))
      callWith pos g first (backTo pos (starEach (e :: es) (PySem.W.ksEnv qual (C8.fnScope st) L f cd cc))) []))
    (hsw : ∀ (L f : Addr) (cd : Value) (cc : Addr), swapsWith (.Call (.Attribute (.Call (.Name "super" p0) [] [] p1) "__init__" apos) (e :: es) [] pos) none pos2.line (PySem.W.ksEnv qual (C8.fnScope st) L f cd cc) = pure false)
    (hbody : ∀ (cdv : Value) (cc : Addr) (A : Around) (outer : List Env) (s : Shared) (H : Hp) (vs : List V) (Q : VK) (E : XK), Room k (A.deeper (PySem.W.ksEnv qual (C8.fnScope st) s.heap.objs.size f cdv cc)) → sp vs H Q E →
      ∃ (t : TA) (u : TS) (a dx : Addr) (fs : List (Str × V)) (vs' : List V), PA (cxS CX P w K mg base N qual (C8.fnScope st) f cdv cc A outer s H E) (e :: es) t ∧ PSs (cxS CX P w K mg base N qual (C8.fnScope st) f cdv cc A outer s H E) rest u ∧ vs = .ref a :: vs' ∧ H a = some (.ins C dx fs) ∧
        ∀ q, H q = none → t (L2.start N vs) (upd H q (.met f2 a)) fun ws H2 => H2 q = some (.met f2 a) ∧ sp2 (.ref a :: ws) H2 (fun _ H3 => u { nx := fun _ H' => Q .non H', rt := Q } (L2.start N vs) H3) C8.E0) :
    ∃ fd : FuncData, FnOk P w K mg base CX (k + 1) f fd ps sp ∧ Binds K fd ps [] := by
  obtain ⟨oc, od, kV, doc, pm, an, cda, ct, cc, osl, ccl, cdd, vs0, ccs, file, tf, cl, cld, csl, lk, hcd, hcode, hvs, hfile, hcell⟩ := SF.ex
  obtain ⟨cdD, hD⟩ := SF.cls
  refine ⟨_, ⟨len, fun A outer s H args us vs Q E hr e0 hb' r hsp => ?_⟩, Binds.all fun us hl => hb kV doc pm an (.ref cda) ct cc us hl⟩
  have hl := len _ _ _ _ hsp
  have hlu : us.length = ps.length := by rw [← r.length, hl]
  have KX : K.In s.heap := e0.mod.kin.keeps fun b o e => (e0.bs b o e).1
  have lim : s.heap.NoLimit := e0.mod.nolimit.keeps fun b o e => (e0.bs b o e).1
  refine PySem.ks_codeAny_call_defAt (fd := PySem.W.ksFn "__init__" qual (C8.fnArgs st) (C8.fnBody st) (C8.fnScope st) .none kV doc pm an (.ref cda) ct cc) (body := C8.fnBody st) (binds := ps.zip us) hr.depth (KX _ _ lk) rfl lim (PySem.W.codeRec_of KX hcd) rfl hb' S.nocell (fun y hy => S.par y.1 (List.of_mem_zip hy).1) (fun h₁ hns hk₁ => ?_) S.co S.gen S.kind
  obtain ⟨t, u, a, dx, fs, vs', hPA, hPS, hvs1, ha, hq⟩ := hbody (.ref cda) cc A outer s H vs Q E (hr.deeper _) hsp
  have I : Inv (cxS CX P w K mg base N qual (C8.fnScope st) f (.ref cda) cc A outer s H E) [] (L2.start N vs) H { s with heap := h₁, toks := s.toks + (ps.zip us).length } := inv_startS S hr.hd e0 hl r hcell hns hk₁
  have fin : ∀ {σ' : L2.St} {H' : Hp} {v : V} {u : Value} {s' : Shared}, Inv (cxS CX P w K mg base N qual (C8.fnScope st) f (.ref cda) cc A outer s H E) [] σ' H' s' → RelV v u → Q v H' → CE outer P w H s Q u s' :=
    fun {σ' H' v u s'} J rv q => ⟨v, H', J.os, J.bare, J.base, J.hok, rv, q⟩
  rw [hst]
  refine PySem.ks_wpAt_execs_cons ?_
  refine PySem.ks_wpAt_Expr_any ?_ (by show interactive _ = false; exact I.quiet) (hsw _ _ _ _)
  refine PySem.wpAt_mono (sup_call (X := cxS CX P w K mg base N qual (C8.fnScope st) f (.ref cda) cc A outer s H E) (p0 := p0) (p1 := p1) (apos := apos) (pos := pos) (e := e) (es := es) (t := t) (Q := fun _ H3 => u { nx := fun _ H' => Q .non H', rt := Q } (L2.start N vs) H3) rfl I (ar := ar) hN0 (by rw [hvs1]; rfl) ha lk har hcode hvs hfile hcell hD SF.sub hmsup SF.top SF.any SF.nxt SF.ty SF.fi S.sup S.cls hpar S.kind F2 hb2 (hr.deeper _) hPA hq (hs1 _ _ _ _) (hpl _ _ _ _) (hev _ _ _ _)) (fun v s2 hv => ?_) fun _ _ x => x
  obtain ⟨v', H3, I3, _, q3⟩ := hv
  refine PySem.wpAt_of_wpAny (wpAny_mono (hPS.run [] s2 _ H3 _ I3 q3) (fun fl s' hs => ?_) fun _ _ x => x)
  cases fl with
  | ret u =>
    obtain ⟨v, σ', H', J, rv, q⟩ := hs
    exact fin J rv q
  | next =>
    obtain ⟨σ', H', J, q⟩ := hs
    exact fin (v := V.non) (u := Value.none) J rfl q
  | brk =>
    obtain ⟨_, _, _, q⟩ := hs
    exact False.elim q
  | cont =>
    obtain ⟨_, _, _, q⟩ := hs
    exact False.elim q
end DL
/-! DC8: classes with methods; an __init__ over the whole store; a tuple of lists that is returned as data -/
namespace DL
open PySem PySem.Spec PyProof.Rows L2

/-! ### a class that is made by an __init__ of any kind -/
structure MakX (P : Program) (w : World) (K : PySem.W.Frag) (T : Addr → Prop) (mg : Str → Option Value) (base : Heap) (k : Nat) (x : Str) (C : Addr) (g : GSp) : Prop where
  ex : ∃ (f : Addr) (fd : FuncData) (ps : List Str), Mk K C f ∧ FnOk P w K mg base (L2.CX P w) k f fd ps (spG K T g) ∧ mg x = some (.ref C) ∧ Binds K fd ps []
def dMakeG (C : Addr) (g : GSp) (da : DA) : DE := fun env S Kp => da env S fun ws S1 => g (.hd S1.length :: ws) (S1 ++ [.ins C []]) (fun w S2 => w = .fz .non ∧ Kp (.hd S1.length) S2) (fun _ _ => False)
theorem fzNon {K : PySem.W.Frag} {B : Hp} {m : List Addr} {v : V} (r : RW K B m (.fz .non) v) : v = .non := by
  cases r with | fz r => cases r; rfl
section
variable {X : Cx} {Ξ : Xt} {g : GSp} {C : Addr} {j k : Nat} {x : Str} {e : Expr} {es : List Expr} {da : DA} {p pos : Pos}
theorem passes_E0 {P : Program} {w : World} (hp : P = X.prog) (hw : w = X.w) : Passes (L2.CX P w) X C8.E0 := fun _ _ _ _ _ _ _ ⟨_, _, _, _, _, _, _, _, _, _, _, _, z⟩ => z.elim
theorem e_makeG (M : MakX X.prog X.w X.K Ξ.T X.mg X.base k x C g) (hr : Room j X.A) (hk : k + 1 ≤ j) (hg : Gl X x) (ha : DPA X Ξ (e :: es) da)
    (hdb : (x == ("__debug__" : Str)) = false := by decide) (he : starEach (e :: es) X.env = (false, eval e X.env) :: starEach es X.env := by rfl) (hpl : (backTo pos (starEach es X.env)).any (·.1) = false := by rfl) :
    DPE X Ξ (.Call (.Name x p) (e :: es) [] pos) (dMakeG C g da) := ⟨fun F ok => by
  obtain ⟨f, fd, ps, Mm, Fn, hm, b⟩ := M.ex
  refine PE.imp (pe_make (dvs := []) (ds := []) (E := C8.E0) Mm Fn (hr.mono hk) hg hm b .nil (passes_E0 rfl rfl) (ha.run F ok) hdb he hpl) fun σ H Q ⟨B, m, S, env, Kp, cf, er, h, k⟩ => ?_
  refine ⟨B, m, S, env, _, cf, er, h, fun ws S1 h0 vs H1 B1 m1 n1 r => fun a dx ha hdx ne => ?_⟩
  obtain ⟨fb, fm, ft, fh⟩ := n1.cf.fresh hdx
  have n2 := Nx.side (o := .own a) n1.cf.nx fh ft hdx fb fm
  have n3 := n2.cf.allocO (p := a) (o := .ins C dx []) (od := .ins C []) (by rw [upd_ne (fun z => ne z.symm)]; exact ha) ⟨dx, _, rfl, .nil⟩
  have nn := (n1.trans n2).trans n3
  have ra : RW X.K B1 (m1 ++ [a]) (.hd S1.length) (.ref a) := .hd (by rw [← n1.cf.len, List.getElem?_append_right (Nat.le_refl _), Nat.sub_self]; rfl)
  rw [← ok.t, List.append_nil]
  refine ⟨B1, m1 ++ [a], .hd S1.length :: ws, S1 ++ [.ins C []], _, _, n3.cf.self, .cons ra (r.mono .refl .app), h0, fun w S2 hk2 v H2 B2 m2 n4 r2 => ?_, fun _ _ z => z.elim⟩
  obtain ⟨ew, hk2⟩ := hk2
  subst ew
  have n5 := n3.cf.backG n4
  exact ⟨fzNon r2, k _ _ hk2 _ _ _ _ (nn.trans n5) (ra.nx n5)⟩⟩
end
section
variable {P : Program} {w : World} {K : PySem.W.Frag} {T : Addr → Prop} {mg : Str → Option Value} {base : Heap}
/-- THE RULE for an __init__ that begins with super().__init__(..) of a record -/
theorem initS {N ps names : List Str} {qual : Str} {st : Stmt} {C f f2 : Addr} {fd2 : FuncData} {ps2 : List Str} {k : Nat} {g : GSp} {p0 p1 apos pos pos2 : Pos} {e : Expr} {es : List Expr} {rest : List Stmt} {ar : Arg} {da : DA} {ds : XWK → DS}
    (SF : SupF P K qual st C f f2) (hmsup : mg "super" = none) (hst : C8.fnBody st = .Expr (.Call (.Attribute (.Call (.Name "super" p0) [] [] p1) "__init__" apos) (e :: es) [] pos) pos2 :: rest) (S : ScopeS N ps (C8.fnScope st))
    (har : ((C8.fnArgs st).posonlyargs ++ (C8.fnArgs st).args).head? = some ar) (hN0 : N[0]? = some ar.arg) (hpar : (C8.fnScope st).names.lookup ar.arg = some .local) (F2 : FnOk P w K mg base C8.CX0 k f2 fd2 ps2 (spInit C names)) (hb2 : Binds K fd2 ps2 [])
    (hb : ∀ (kV doc pm : Value) (an : Option Addr) (cdv ct : Value) (cc : Addr) (us : List Value), us.length = ps.length → bindArgs (PySem.W.ksFn "__init__" qual (C8.fnArgs st) (C8.fnBody st) (C8.fnScope st) .none kV doc pm an cdv ct cc) ⟨us, []⟩ = pure (ps.zip us))
    (len : ∀ ws S Kp Xp, g ws S Kp Xp → ws.length = ps.length)
    (hs1 : ∀ (L f : Addr) (cd : Value) (cc : Addr), starEach (e :: es) (PySem.W.ksEnv qual (C8.fnScope st) L f cd cc) = (false, eval e (PySem.W.ksEnv qual (C8.fnScope st) L f cd cc)) :: starEach es (PySem.W.ksEnv qual (C8.fnScope st) L f cd cc))
    (hpl : ∀ (L f : Addr) (cd : Value) (cc : Addr), (backTo pos (starEach es (PySem.W.ksEnv qual (C8.fnScope st) L f cd cc))).any (·.1) = false)
    (hev : ∀ (L f : Addr) (cd : Value) (cc : Addr), eval (.Call (.Attribute (.Call (.Name "super" p0) [] [] p1) "__init__" apos) (e :: es) [] pos) (PySem.W.ksEnv qual (C8.fnScope st) L f cd cc) = (do
      let ov ← attributeBase (.Call (.Name "super" p0) [] [] p1) "__init__" (PySem.W.ksEnv qual (C8.fnScope st) L f cd cc) (eval (.Call (.Name "super" p0) [] [] p1) (PySem.W.ksEnv qual (C8.fnScope st) L f cd cc))
      standAt apos.atName
      let (g, first) ← holding [ov] (getMethod ov "__init__" (pure false))
      callWith pos g first (backTo pos (starEach (e :: es) (PySem.W.ksEnv qual (C8.fnScope st) L f cd cc))) []))
    (hsw : ∀ (L f : Addr) (cd : Value) (cc : Addr), swapsWith (.Call (.Attribute (.Call (.Name "super" p0) [] [] p1) "__init__" apos) (e :: es) [] pos) none pos2.line (PySem.W.ksEnv qual (C8.fnScope st) L f cd cc) = pure false)
    (hbody : ∀ (xw : XWK) (cdv : Value) (cc : Addr) (A : Around) (outer : List Env) (s : Shared) (H : Hp) (E : XK), Room k (A.deeper (PySem.W.ksEnv qual (C8.fnScope st) s.heap.objs.size f cdv cc)) →
      DPA (cxS (L2.CX P w) P w K mg base N qual (C8.fnScope st) f cdv cc A outer s H E) ⟨T, xw, none⟩ (e :: es) da ∧ DPSs (cxS (L2.CX P w) P w K mg base N qual (C8.fnScope st) f cdv cc A outer s H E) ⟨T, xw, none⟩ rest (ds xw))
    (hread : ∀ ws S Kp Xp, g ws S Kp Xp → ∃ n ws', ws = .hd n :: ws' ∧ S[n]? = some (.ins C []) ∧ da (startD N ws) S fun vs S1 => (vs.length = names.length ∧ S1[n]? = some (.ins C [])) ∧ ds Xp ⟨fun _ S' => Kp (.fz .non) S', Kp, fun _ _ => False, fun _ _ => False⟩ (startD N ws) (S1.set n (.ins C (names.zip vs)))) :
    ∃ fd : FuncData, FnOk P w K mg base (L2.CX P w) (k + 1) f fd ps (spG K T g) ∧ Binds K fd ps [] := by
  refine fnSup SF hmsup hst S har hN0 hpar F2 hb2 hb (fun vs H Q E ⟨B, m, ws, S, Kp, Xp, _, r, h, _⟩ => by rw [← r.length]; exact len _ _ _ _ h) hs1 hpl hev hsw fun cdv cc A outer s H vs Q E hr ⟨B, m, ws, S0, Kp, Xp, c, r, h, kw, kx⟩ => ?_
  obtain ⟨hda, hds⟩ := hbody Xp cdv cc A outer s H E hr
  have tk : Takes (cxS (L2.CX P w) P w K mg base N qual (C8.fnScope st) f cdv cc A outer s H E) (fun cls d _ H => E cls d H) := takes_of rfl rfl rfl rfl
  have okf : Okf (cxS (L2.CX P w) P w K mg base N qual (C8.fnScope st) f cdv cc A outer s H E) ⟨T, Xp, none⟩ ⟨B, H, m, T⟩ := ⟨rfl, ⟨_, tk, fun x S' hx σ' H' B' m' d cf rx => kx x S' hx H' B' m' d cf.nxE rx⟩, fun _ z => nomatch z⟩
  obtain ⟨n, ws', ew, hn, hread⟩ := hread ws S0 Kp Xp h
  subst ew
  obtain ⟨vs', ev⟩ : ∃ vs', vs = .ref ((m[n]?).getD 0) :: vs' := by
    cases r with
    | cons r1 r2 =>
      cases r1 with
      | hd e => exact ⟨_, by rw [e]; rfl⟩
  have r0 := r
  rw [ev] at r0
  cases r0 with
  | cons r1 r2 =>
    have er : ER K B m (startD N (.hd n :: ws')) (L2.start N vs) := ER.start r
    obtain ⟨a, dx, fs, ea, em, hH, ff⟩ := c.insA r1 hn
    cases ff
    injection ea with ea
    refine ⟨_, _, a, dx, [], vs', hda.run _ okf, hds.run _ okf, by rw [ev, ea], hH, fun q hq => ?_⟩
    obtain ⟨fb, fm, ft, fh⟩ := c.fresh hq
    have n1 := Nx.side (o := .met f2 a) c.nx fh ft hq fb fm
    refine ⟨B, m, S0, _, _, n1.cf, er, hread, fun us S1 ⟨⟨hl, h1⟩, h2⟩ vs2 H2 B2 m2 n2 r3 => ?_⟩
    have em2 : m2[n]? = some a := n2.pr n a em
    obtain ⟨o2, z1, ⟨dx2, vs3, z2, z3⟩, _⟩ := n2.cf.own n a _ em2 h1
    cases z3
    subst z2
    refine ⟨n2.kp q _ upd_same fm ft, a, dx2, vs2, rfl, by rw [← r3.length]; exact hl, z1, ?_⟩
    have n3 := n2.cf.write (o := .ins C dx2 (names.zip vs2)) (od := .ins C (names.zip us)) em2 h1 (fun z => nomatch z) ⟨dx2, _, rfl, FF.zip r3⟩
    have nn := (n1.trans n2).trans n3
    refine ⟨B2, m2, _, _, _, n3.cf, er.nx nn, h2, ?_, ?_, fun _ _ z => z.elim, fun _ _ z => z.elim⟩
    · rintro env S' hk σ' H' B' m' n4 er4
      exact kw _ _ hk _ _ _ _ (nn.trans n4) (.fz .non)
    · rintro u S' hk v H' B' m' n4 r'
      exact kw _ _ hk _ _ _ _ (nn.trans n4) r'
end
/-! ### data out of a tuple of lists -/
def goneAt (S : Sto) : W → Sto
  | .hd n => S.set n .gone
  | _ => S
def frzL (S : Sto) : List W → Option (List D)
  | [] => some []
  | w :: ws => (dW S w).bind fun d => (frzL (goneAt S w) ws).map (d :: ·)
def frzT (S : Sto) : W → Option D
  | .tp ws => (frzL S ws).map D.tup
  | w => dW S w
section
variable {K : PySem.W.Frag} {F : Fx} {B : Hp} {m : List Addr} {S : Sto} {H : Hp}
theorem Cf.frz1 (c : Cf K F B m S H) (hL : F.L = []) {w : W} {v : V} {d : D} (r : RW K B m w v) (h : dW S w = some d) : ∃ B', Nx K F B m H B' m (goneAt S w) H ∧ Rp K B' d v := by
  unfold dW at h
  split at h
  · cases h
    cases r with
    | fz r => exact ⟨B, c.nx, r⟩
  · split at h
    · rename_i n _ ws e
      cases q : fzL ws with
      | none => rw [q] at h; cases h
      | some ds =>
        rw [q] at h
        cases h
        obtain ⟨a, vs, e1, em, h1, h2⟩ := c.lst r e
        subst e1
        have n1 := c.freezeIn (n := n) (by rw [hL]; exact Nat.zero_le _) em e h1
        refine ⟨_, n1, ?_⟩
        have h3 := h2.mono n1.sb .refl (m' := m)
        rw [fzL_eq q] at h3
        exact .lst upd_same h3.fz
    · cases h
  · cases h
  · cases h
theorem Cf.frzs : ∀ {ws : List W} {vs : List V} {ds : List D} {B : Hp} {S : Sto}, Cf K F B m S H → F.L = [] → RWL K B m ws vs → frzL S ws = some ds → ∃ B' S', Nx K F B m H B' m S' H ∧ RpL K B' ds vs
  | [], _, ds, B, S, c, _, .nil, h => by cases h; exact ⟨B, S, c.nx, .nil⟩
  | w :: ws, _, ds, B, S, c, hL, .cons r t, h => by
    unfold frzL at h
    cases q : dW S w with
    | none => rw [q] at h; cases h
    | some d =>
      rw [q] at h
      obtain ⟨B1, n1, rd⟩ := c.frz1 hL r q
      cases q2 : frzL (goneAt S w) ws with
      | none => have h' : (frzL (goneAt S w) ws).map (d :: ·) = some ds := h; rw [q2] at h'; cases h'
      | some es =>
        have h' : (frzL (goneAt S w) ws).map (d :: ·) = some ds := h
        rw [q2] at h'
        cases h'
        obtain ⟨B2, S2, n2, rl⟩ := Cf.frzs n1.cf hL (t.mono n1.sb .refl) q2
        exact ⟨B2, S2, n1.trans n2, .cons (rd.mono n2.sb) rl⟩
theorem Cf.frz (c : Cf K F B m S H) (hL : F.L = []) {w : W} {v : V} {d : D} (r : RW K B m w v) (h : frzT S w = some d) : ∃ B' S', Nx K F B m H B' m S' H ∧ Rp K B' d v := by
  unfold frzT at h
  split at h
  · rename_i ws
    cases q : frzL S ws with
    | none => rw [q] at h; cases h
    | some ds =>
      rw [q] at h
      cases h
      cases r with
      | tp s t =>
        obtain ⟨B', S', n, rl⟩ := Cf.frzs c hL t q
        exact ⟨B', S', n, .tup (n.sb.seqT s) rl⟩
  · obtain ⟨B', n, rd⟩ := c.frz1 hL r h
    exact ⟨B', _, n, rd⟩
end
section
variable {P : Program} {w : World} {K : PySem.W.Frag} {T : Addr → Prop} {mg : Str → Option Value} {base : Heap}
/-- data in, data out; what is returned may be a tuple of lists of one's own -/
theorem Df.calT {x : Str} {st : Stmt} {N ps : List Str} {k : Nat} {Q : PSp} {ds : DS} (D : Df K mg x st) (hb : ∀ (kV doc pm : Value) (an : Option Addr) (cdv ct : Value) (us : List Value), us.length = ps.length → bindArgs (PySem.W.fnOf x x (C8.fnArgs st) (C8.fnBody st) (C8.fnScope st) .none kV doc pm an cdv ct) ⟨us, []⟩ = pure (ps.zip us))
    (S : FnScope N ps (C8.fnScope st)) (len : ∀ xs Kp, Q xs Kp → xs.length = ps.length)
    (hbody : ∀ (f : Addr) (cdv : Value) (A : Around) (outer : List Env) (s : Shared) (H : Hp) (E : XK), Room k (A.deeper (envOfC x (C8.fnScope st) s.heap.objs.size f cdv)) → DPSs (cxOf CX0 P w K mg base N x (C8.fnScope st) f cdv A outer s H E).nox (Xt.of T) (C8.fnBody st) ds)
    (hread : ∀ xs Kp, Q xs Kp → ds ⟨fun _ _ => Kp .non, fun u S' => onO (frzT S' u) fun d => Kp d, fun _ _ => False, fun _ _ => False⟩ (startD N (xs.map W.fz)) []) : CalP P w K T mg base (k + 1) x Q := by
  obtain ⟨f, fd, F, df⟩ := D.ex
  refine C8.cal0 F (F.fn.binds df hb) .nil S (fun vs H Q' E ⟨B, L, ws, lent, Kp, _, r, ⟨xs, e, _, h⟩, _⟩ => by rw [← r.length, e, List.length_map]; exact len _ _ h) fun cdv A outer s H vs Q' E hr ⟨B, L, ws, lent, Kp, c, r, ⟨xs, e, e2, h⟩, kw⟩ => ?_
  subst e; subst e2
  have hL : L = [] := List.eq_nil_of_length_eq_zero c.len
  subst hL
  refine ⟨_, (hbody f cdv A outer s H E hr).run ⟨B, H, [], T⟩ (.of rfl), B, [], [], _, _, c, ER.start r, hread xs _ h, ?_, ?_, fun _ _ z => z.elim, fun _ _ z => z.elim⟩
  · rintro env S' hk σ' H' B' m' n er
    have n2 := Nx.cut (S1 := []) (S2 := S') n (Nat.le_refl _) rfl (Nat.le_refl _)
    rw [List.length_nil, List.take_zero] at n2
    exact kw _ _ hk _ _ _ _ n2 (.fz .non)
  · rintro u S' hk v H' B' m' n r'
    obtain ⟨d, hd, hk⟩ := onO_ex hk
    obtain ⟨B2, S2, n2, rd⟩ := n.cf.frz rfl r' hd
    have n3 := Nx.cut (S1 := []) (S2 := S2) (n.trans n2) (Nat.le_refl _) rfl (Nat.le_refl _)
    rw [List.length_nil, List.take_zero] at n3
    exact kw _ _ hk _ _ _ _ n3 (.fz rd)
/-- a def over the whole store -/
theorem Df.calX {x : Str} {st : Stmt} {N ps : List Str} {k : Nat} {g : GSp} {ds : XWK → DS} (D : Df K mg x st) (hb : ∀ (kV doc pm : Value) (an : Option Addr) (cdv ct : Value) (us : List Value), us.length = ps.length → bindArgs (PySem.W.fnOf x x (C8.fnArgs st) (C8.fnBody st) (C8.fnScope st) .none kV doc pm an cdv ct) ⟨us, []⟩ = pure (ps.zip us))
    (S : FnScope N ps (C8.fnScope st)) (len : ∀ ws S Kp Xp, g ws S Kp Xp → ws.length = ps.length)
    (hbody : ∀ (xw : XWK) (f : Addr) (cdv : Value) (A : Around) (outer : List Env) (s : Shared) (H : Hp) (E : XK), Room k (A.deeper (envOfC x (C8.fnScope st) s.heap.objs.size f cdv)) →
      PassesOwn (model P w) (cxOf (L2.CX P w) P w K mg base N x (C8.fnScope st) f cdv A outer s H E).A (cxOf (L2.CX P w) P w K mg base N x (C8.fnScope st) f cdv A outer s H E).env (cxOf (L2.CX P w) P w K mg base N x (C8.fnScope st) f cdv A outer s H E).xe →
      DPSs (cxOf (L2.CX P w) P w K mg base N x (C8.fnScope st) f cdv A outer s H E) ⟨T, xw, none⟩ (C8.fnBody st) (ds xw))
    (hread : ∀ ws S Kp Xp, g ws S Kp Xp → ds Xp ⟨fun _ S' => Kp (.fz .non) S', Kp, fun _ _ => False, fun _ _ => False⟩ (startD N ws) S) : CalX P w K T mg base (k + 1) x g := by
  obtain ⟨f, fd, F, df⟩ := D.ex
  exact ⟨f, fd, ps, fnX F.fn S len (fun xw => hbody xw f) hread, F.mgf, F.kp, F.fn.binds df hb⟩
/-- a promise that nobody can ask for -/
theorem Df.botX {x : Str} {st : Stmt} {ps : List Str} {g : GSp} (D : Df K mg x st) (hb : ∀ (kV doc pm : Value) (an : Option Addr) (cdv ct : Value) (us : List Value), us.length = ps.length → bindArgs (PySem.W.fnOf x x (C8.fnArgs st) (C8.fnBody st) (C8.fnScope st) .none kV doc pm an cdv ct) ⟨us, []⟩ = pure (ps.zip us))
    (h : ∀ ws S Kp Xp, ¬ g ws S Kp Xp) : CalX P w K T mg base 0 x g := by
  obtain ⟨f, fd, F, df⟩ := D.ex
  exact ⟨f, fd, ps, ⟨fun vs H Q E ⟨_, _, _, _, _, _, _, _, z, _⟩ => (h _ _ _ _ z).elim, fun A outer s H args us vs Q E _ _ _ _ ⟨_, _, _, _, _, _, _, _, z, _⟩ => (h _ _ _ _ z).elim⟩, F.mgf, F.kp, F.fn.binds df hb⟩
end
/-! ### what the top has written of a method -/
structure MtIn (K : PySem.W.Frag) (x m qual : Str) (st : Stmt) : Prop where
  ex : ∃ (C f : Addr) (od an : Option Addr) (sl : Array (Option Value)) (oc kV dc pm cd ct : Value), PySem.W.nsIn K mainGlobals x = some (some (.ref C)) ∧ Cls K C ∧ Meth K C m f ∧
    K.lookup f = some ⟨oc, od, .func (PySem.W.fnOf m qual (C8.fnArgs st) (C8.fnBody st) (C8.fnScope st) .none kV dc pm an cd ct), sl⟩ ∧ PySem.W.codeIn K cd qual = true
theorem mtI {K : PySem.W.Frag} {x m qual : Str} {st : Stmt} {C f : Addr} {od an : Option Addr} {sl : Array (Option Value)} {oc kV dc pm cd ct : Value} (a : PySem.W.nsIn K mainGlobals x = some (some (.ref C)))
    (g1 : PySem.W.plainGet K C Str.empty = true) (g2 : PySem.W.hasDictIn K C = true) (g3 : PySem.W.plainOver K C = true) (g4 : PySem.W.findIn K (.ref C) "__setattr__" = some (some (.builtin "object.__setattr__")))
    (m1 : PySem.W.findIn K (.ref C) m = some (some (.ref f))) (m2 : PySem.W.isFn K (.ref f) = true) (m3 : PySem.W.keepIn K (.ref f) = true)
    (l : K.lookup f = some ⟨oc, od, .func (PySem.W.fnOf m qual (C8.fnArgs st) (C8.fnBody st) (C8.fnScope st) .none kV dc pm an cd ct), sl⟩) (k : PySem.W.codeIn K cd qual = true) : MtIn K x m qual st :=
  ⟨C, f, od, an, sl, oc, kV, dc, pm, cd, ct, a, ⟨g1, g2, g3, g4⟩, ⟨m1, m2, m3⟩, l, k⟩
structure MtDf (K : PySem.W.Frag) (C : Addr) (m qual : Str) (st : Stmt) : Prop where
  ex : ∃ (f : Addr) (fd : FuncData), Cls K C ∧ Meth K C m f ∧ C8.Fun K m qual st f fd ∧ fd.defaults = .none
theorem MtIn.df {K : PySem.W.Frag} {x m qual : Str} {st : Stmt} {h : Heap} {mg : Str → Option Value} {C : Addr} (D : MtIn K x m qual st) (X : K.In h) (G : h.Ns mainGlobals mg) (hC : mg x = some (.ref C)) : MtDf K C m qual st := by
  obtain ⟨C', f, od, an, sl, oc, kV, dc, pm, cd, ct, a, c, me, l, k⟩ := D.ex
  have e := PySem.W.mg_of X G a
  rw [hC] at e
  cases e
  exact ⟨f, _, c, me, ⟨oc, od, .none, kV, dc, pm, an, cd, ct, sl, rfl, l, k⟩, rfl⟩
/-- a subclass whose __init__ begins with super().__init__ -/
structure SbIn (P : Program) (K : PySem.W.Frag) (x qual : Str) (st : Stmt) (qual2 : Str) (st2 : Stmt) (names : List Str) : Prop where
  ex : ∃ (C f f2 : Addr) (od2 an2 : Option Addr) (sl2 : Array (Option Value)) (oc2 kV2 dc2 pm2 cd2 ct2 : Value), PySem.W.nsIn K mainGlobals x = some (some (.ref C)) ∧ Mk K C f ∧ Cls K C ∧ (∀ n ∈ names, NoAttr K C n) ∧ SupF P K qual st C f f2 ∧
    K.lookup f2 = some ⟨oc2, od2, .func (PySem.W.fnOf "__init__" qual2 (C8.fnArgs st2) (C8.fnBody st2) (C8.fnScope st2) .none kV2 dc2 pm2 an2 cd2 ct2), sl2⟩ ∧ PySem.W.codeIn K cd2 qual2 = true ∧ PySem.W.nsIn K mainGlobals "super" = some none
theorem sbI {P : Program} {K : PySem.W.Frag} {x qual qual2 : Str} {st st2 : Stmt} {names : List Str} {C f f2 : Addr} {od2 an2 : Option Addr} {sl2 : Array (Option Value)} {oc2 kV2 dc2 pm2 cd2 ct2 : Value}
    {oc : Value} {od : Option Addr} {kV doc pm : Value} {an : Option Addr} {cda : Addr} {ct : Value} {cc : Addr} {osl : Array (Option Value)} {ccl : Value} {cdd : Option Addr} {vs : Array Value} {ccs : Array (Option Value)} {file : Str} {tf : Tok} {cl : Value} {cld : Option Addr} {csl : Array (Option Value)} {cdD : ClassData}
    (a : PySem.W.nsIn K mainGlobals x = some (some (.ref C))) (b : PySem.W.makesIn K C = true) (c : PySem.W.findIn K (.ref C) "__init__" = some (some (.ref f))) (d : PySem.W.isFn K (.ref f) = true) (e : PySem.W.keepIn K (.ref C) = true)
    (g1 : PySem.W.plainGet K C Str.empty = true) (g2 : PySem.W.hasDictIn K C = true) (g3 : PySem.W.plainOver K C = true) (g4 : PySem.W.findIn K (.ref C) "__setattr__" = some (some (.builtin "object.__setattr__"))) (na : ∀ n ∈ names, NoAttr K C n)
    (lk : K.lookup f = some ⟨oc, od, .func (PySem.W.ksFn "__init__" qual (C8.fnArgs st) (C8.fnBody st) (C8.fnScope st) .none kV doc pm an (.ref cda) ct cc), osl⟩) (hcd : PySem.W.codeIn K (.ref cda) qual = true) (hcode : K.lookup cda = some ⟨ccl, cdd, .fields vs, ccs⟩) (hvs : vs[2]? = some (.str file tf))
    (hfile : ((P.main.file : Str) == file) = true) (hcell : K.lookup cc = some ⟨cl, cld, .cell (some (.ref C)), csl⟩) (hD : PySem.W.clsIn K C = some cdD) (hsub : PySem.W.mroIn K C (.ref C) = some true) (htop : (P.main.scope.names.lookup ("super" : Str)).isSome = false) (hany : PySem.W.nsIn K cStatics "thirdparty.any" = some none)
    (hnx : PySem.W.ks_superIn K C C "__init__" = some (some (.ref f2))) (hty : PySem.W.typeIn K (.ref f2) = some (.type "function")) (hfi : PySem.W.fnIn K f2 = true)
    (l2 : K.lookup f2 = some ⟨oc2, od2, .func (PySem.W.fnOf "__init__" qual2 (C8.fnArgs st2) (C8.fnBody st2) (C8.fnScope st2) .none kV2 dc2 pm2 an2 cd2 ct2), sl2⟩) (k2 : PySem.W.codeIn K cd2 qual2 = true) (ns : PySem.W.nsIn K mainGlobals "super" = some none) : SbIn P K x qual st qual2 st2 names :=
  ⟨C, f, f2, od2, an2, sl2, oc2, kV2, dc2, pm2, cd2, ct2, a, ⟨b, c, d, e⟩, ⟨g1, g2, g3, g4⟩, na, ⟨⟨oc, od, kV, doc, pm, an, cda, ct, cc, osl, ccl, cdd, vs, ccs, file, tf, cl, cld, csl, lk, hcd, hcode, hvs, hfile, hcell⟩, ⟨cdD, hD⟩, hsub, htop, hany, hnx, hty, hfi⟩, l2, k2, ns⟩
structure SbDf (P : Program) (K : PySem.W.Frag) (mg : Str → Option Value) (x qual : Str) (st : Stmt) (qual2 : Str) (st2 : Stmt) (names : List Str) (C : Addr) : Prop where
  ex : ∃ (f f2 : Addr) (fd2 : FuncData), Mk K C f ∧ SupF P K qual st C f f2 ∧ C8.Fun K "__init__" qual2 st2 f2 fd2 ∧ fd2.defaults = .none
  mgC : mg x = some (.ref C)
  cls : Cls K C
  na : ∀ n ∈ names, NoAttr K C n
  sup : mg "super" = none
theorem SbIn.df {P : Program} {K : PySem.W.Frag} {x qual qual2 : Str} {st st2 : Stmt} {names : List Str} {h : Heap} {mg : Str → Option Value} (D : SbIn P K x qual st qual2 st2 names) (X : K.In h) (G : h.Ns mainGlobals mg) : ∃ C, SbDf P K mg x qual st qual2 st2 names C := by
  obtain ⟨C, f, f2, od2, an2, sl2, oc2, kV2, dc2, pm2, cd2, ct2, a, M, c, na, sf, l2, k2, ns⟩ := D.ex
  exact ⟨C, ⟨f, f2, _, M, sf, ⟨oc2, od2, .none, kV2, dc2, pm2, an2, cd2, ct2, sl2, rfl, l2, k2⟩, rfl⟩, PySem.W.mg_of X G a, c, na, PySem.W.mg_none_of X G ns⟩
section
variable {P : Program} {w : World} {K : PySem.W.Frag} {T : Addr → Prop} {mg : Str → Option Value} {base : Heap}
/-- a method over the whole store -/
theorem MtDf.metX {C : Addr} {m qual : Str} {st : Stmt} {N ps : List Str} {k : Nat} {g : GSp} {ds : XWK → DS} (D : MtDf K C m qual st) (hb : ∀ (kV doc pm : Value) (an : Option Addr) (cdv ct : Value) (us : List Value), us.length = ps.length → bindArgs (PySem.W.fnOf m qual (C8.fnArgs st) (C8.fnBody st) (C8.fnScope st) .none kV doc pm an cdv ct) ⟨us, []⟩ = pure (ps.zip us))
    (S : FnScope N ps (C8.fnScope st)) (len : ∀ ws S Kp Xp, g ws S Kp Xp → ws.length = ps.length)
    (hbody : ∀ (xw : XWK) (f : Addr) (cdv : Value) (A : Around) (outer : List Env) (s : Shared) (H : Hp) (E : XK), Room k (A.deeper (envOfC qual (C8.fnScope st) s.heap.objs.size f cdv)) →
      PassesOwn (model P w) (cxOf (L2.CX P w) P w K mg base N qual (C8.fnScope st) f cdv A outer s H E).A (cxOf (L2.CX P w) P w K mg base N qual (C8.fnScope st) f cdv A outer s H E).env (cxOf (L2.CX P w) P w K mg base N qual (C8.fnScope st) f cdv A outer s H E).xe →
      DPSs (cxOf (L2.CX P w) P w K mg base N qual (C8.fnScope st) f cdv A outer s H E) ⟨T, xw, none⟩ (C8.fnBody st) (ds xw))
    (hread : ∀ ws S Kp Xp, g ws S Kp Xp → ds Xp ⟨fun _ S' => Kp (.fz .non) S', Kp, fun _ _ => False, fun _ _ => False⟩ (startD N ws) S) : MetX P w K T mg base (k + 1) C m g := by
  obtain ⟨f, fd, c, me, F, df⟩ := D.ex
  exact ⟨f, fd, ps, c, me, fnX F S len (fun xw => hbody xw f) hread, F.binds df hb⟩
end
end DL
/-! M12: parts that are opened; the walks, as functions -/
namespace DL
open PySem PySem.Spec PyProof.Rows L2

/-! ### stores -/
structure Ext (ex : List Nat) (S S' : Sto) : Prop where
  len : S.length ≤ S'.length
  keep : ∀ i, i < S.length → i ∉ ex → S'[i]? = S[i]?
theorem Ext.refl {ex : List Nat} {S : Sto} : Ext ex S S := ⟨Nat.le_refl _, fun _ _ _ => rfl⟩
theorem Ext.trans {a b c : List Nat} {S S' S'' : Sto} (h : Ext a S S') (g : Ext b S' S'') (s1 : ∀ i ∈ a, i ∈ c) (s2 : ∀ i ∈ b, i < S.length → i ∈ c) : Ext c S S'' :=
  ⟨Nat.le_trans h.len g.len, fun i hi hn => by
    rw [g.keep i (Nat.lt_of_lt_of_le hi h.len) fun z => hn (s2 i z hi), h.keep i hi fun z => hn (s1 i z)]⟩
theorem Ext.app {ex : List Nat} {S T : Sto} : Ext ex S (S ++ T) := ⟨by rw [List.length_append]; omega, fun i hi _ => List.getElem?_append_left hi⟩
theorem Ext.get {ex : List Nat} {S S' : Sto} {i : Nat} {o : OD} (h : Ext ex S S') (e : S[i]? = some o) (n : i ∉ ex) : S'[i]? = some o := by
  rw [h.keep i (List.getElem?_eq_some_iff.mp e).1 n, e]
theorem Ext.set {ex : List Nat} {S : Sto} {i : Nat} {o : OD} (h : i ∈ ex) : Ext ex S (S.set i o) := ⟨by rw [List.length_set]; exact Nat.le_refl _, fun j hj hn => by
  rw [List.getElem?_set_ne (fun z : i = j => hn (by rw [← z]; exact h))]⟩
theorem Ext.mono {a b : List Nat} {S S' : Sto} (h : Ext a S S') (s : ∀ i ∈ a, i < S.length → i ∈ b) : Ext b S S' := ⟨h.len, fun i hi hn => h.keep i hi fun z => hn (s i z hi)⟩
/-! ### plain values -/
mutual
def plB : D → Bool
  | .non => true
  | .bl _ => true
  | .int _ => true
  | .str x => PyData.strOk x && decide (x.length ≤ 1000)
  | .tup ds => decide (ds.length ≤ 1000) && plBL ds
  | .lst ds => decide (ds.length ≤ 1000) && plBL ds
  | .obj _ _ => false
  | .scr _ => false
  | .ty _ => false
def plBL : List D → Bool
  | [] => true
  | d :: ds => plB d && plBL ds
end
theorem plBL_iff : ∀ {ds : List D}, plBL ds = true ↔ ∀ d ∈ ds, plB d = true
  | [] => ⟨(fun _ _ h => by cases h), fun _ => rfl⟩
  | d :: ds => by
    rw [plBL, Bool.and_eq_true, plBL_iff]
    refine ⟨fun h x hx => ?_, fun h => ⟨h d List.mem_cons_self, fun x hx => h x (List.mem_cons_of_mem _ hx)⟩⟩
    rcases List.mem_cons.mp hx with e | e
    · rw [e]; exact h.1
    · exact h.2 x e
/-! ### parts and sources -/
structure PI where
  l : Link
  t : Option Tr
inductive SrcS where
  | kn (es : List D) | gv (cs : List D) (n : Nat)
structure Rf where
  word : Str
  num : Int
def Tr.size : Tr → Nat
  | .nil => 0
  | .node _ _ x y => x.size + y.size + 1
def okTr : Tr → Prop
  | .nil => True
  | .node k r x y => isKey k ∧ isRow r ∧ okTr x ∧ okTr y
def linkOfD : D → Option Link
  | .tup [.int d, .int n, .tup [.int a, .int b, .int c]] => if 0 ≤ d ∧ 0 ≤ n ∧ 0 ≤ a ∧ 0 ≤ b ∧ 0 ≤ c then some ⟨d, n, a, b, c⟩ else none
  | _ => none
def intsOfD : List D → Option (List Int)
  | [] => some []
  | .int i :: ds => (intsOfD ds).map (i :: ·)
  | _ :: _ => none
def rowOfD : D → Option (List Int)
  | .tup ds => (intsOfD ds).bind fun r => if 1 ≤ r.length ∧ r.length ≤ 3 ∧ r.all (fun i => decide (0 ≤ i) && decide (i ≤ 65535)) then some r else none
  | _ => none
def keyOfD : D → Option Str
  | .str k => if 1 ≤ k.cps.toList.length ∧ k.cps.toList.length ≤ 8 ∧ k.cps.toList.all sign = true then some k else none
  | _ => none
def entOfD : D → Option (Str × List Int × Link × Link)
  | .tup [k, r, x, y] => (keyOfD k).bind fun k => (rowOfD r).bind fun r => (linkOfD x).bind fun x => (linkOfD y).bind fun y => some (k, r, x, y)
  | _ => none
abbrev Op := Str × List Int × PI × PI
def opn (b m : Int) : SrcS → PI → Except Rf (Op × SrcS)
  | .kn es, pi => match pi.t with
    | some (.node k r x y) => .ok ((k, r, ⟨linkT b m x, some x⟩, ⟨linkT b m y, some y⟩), .kn (es ++ [entD k r (linkT b m x) (linkT b m y)]))
    | _ => .error ⟨"", 0⟩
  | .gv cs n, pi => match cs[n]? with
    | none => .error ⟨"short", n⟩
    | some d => match entOfD d with
      | none => .error ⟨"form", n⟩
      | some (k, r, x, y) =>
        if (linkOf b m k r x y).d = pi.l.d then (if eqD (linkD (linkOf b m k r x y)) (linkD pi.l) then .ok ((k, r, ⟨x, none⟩, ⟨y, none⟩), .gv cs (n + 1)) else .error ⟨"sums", n⟩) else .error ⟨"digest", n⟩
def SrcS.isKn : SrcS → Bool
  | .kn _ => true
  | .gv _ _ => false
/-- what may still be opened -/
def meas : SrcS → PI → Nat
  | .kn _, pi => match pi.t with
    | some t => t.size
    | none => 0
  | .gv cs n, _ => cs.length - n
def okS (b m : Int) : SrcS → PI → Prop
  | .kn es, pi => es.length ≤ 900 ∧ ∃ t, pi.t = some t ∧ pi.l = linkT b m t ∧ okTr t ∧ es.length + t.size ≤ 900
  | .gv cs n, pi => (cs.length ≤ 900 ∧ n ≤ cs.length ∧ plBL cs = true) ∧ pi.t = none ∧ 0 ≤ pi.l.n
/-- how many were opened -/
def SrcS.len : SrcS → Nat
  | .kn es => es.length
  | .gv _ n => n
def PI.tsz (pi : PI) : Nat := match pi.t with
  | some t => t.size
  | none => 0
/-- a later state: what a walk of a part may open -/
def After : SrcS → SrcS → PI → Prop
  | .kn es, .kn fs, pi => es.length ≤ fs.length ∧ fs.length ≤ es.length + pi.tsz
  | .gv cs n, .gv ds k, _ => ds = cs ∧ n ≤ k ∧ k ≤ cs.length
  | _, _, _ => False
def SrcAt (C : Addr) (S : Sto) (s e : Nat) (b m : Int) : SrcS → Prop
  | .kn es => S[s]? = some (.ins C [("rule", .fz (ruleD b m)), ("entries", .hd e)]) ∧ S[e]? = some (.lst (es.map .fz)) ∧ s ≠ e
  | .gv cs n => S[s]? = some (.ins C [("rule", .fz (ruleD b m)), ("certificate", .fz (.lst cs)), ("position", .fz (.int n))]) ∧ s = e
theorem SrcAt.ext {C : Addr} {S S' : Sto} {s e : Nat} {b m : Int} {st : SrcS} {ex : List Nat} (h : SrcAt C S s e b m st) (x : Ext ex S S') (h1 : s ∉ ex) (h2 : e ∉ ex) : SrcAt C S' s e b m st := by
  cases st with
  | kn es => exact ⟨x.get h.1 h1, x.get h.2.1 h2, h.2.2⟩
  | gv cs n => exact ⟨x.get h.1 h1, h.2⟩
theorem SrcAt.lt {C : Addr} {S : Sto} {s e : Nat} {b m : Int} {st : SrcS} (h : SrcAt C S s e b m st) : s < S.length ∧ e < S.length := by
  cases st with
  | kn es => exact ⟨(List.getElem?_eq_some_iff.mp h.1).1, (List.getElem?_eq_some_iff.mp h.2.1).1⟩
  | gv cs n => exact ⟨(List.getElem?_eq_some_iff.mp h.1).1, h.2 ▸ (List.getElem?_eq_some_iff.mp h.1).1⟩
/-- a part that was not opened; CP its class, CT that of trees -/
def trD (CT : Addr) (b m : Int) : Option Tr → D
  | none => .non
  | some t => treeO CT b m t
def PartAt (CP CT : Addr) (b m : Int) (S : Sto) (p : Nat) (pi : PI) : Prop := S[p]? = some (.ins CP [("link", .fz (linkD pi.l)), ("tree", .fz (trD CT b m pi.t)), ("node", .fz .non)])
theorem PartAt.lt {CP CT : Addr} {b m : Int} {S : Sto} {p : Nat} {pi : PI} (h : PartAt CP CT b m S p pi) : p < S.length := (List.getElem?_eq_some_iff.mp h).1
/-- the classes -/
structure Cs where
  P : Addr
  N : Addr
  T : Addr
  R : Addr
def xdOf (R : Addr) (rf : Rf) : XD := ⟨.ref R, [("number", .int rf.num), ("word", .str rf.word)]⟩
/-- a walk may begin -/
structure Wk (c : Cs) (C : Addr) (q : Bool) (S : Sto) (s e p : Nat) (b m : Int) (st : SrcS) (pi : PI) : Prop where
  src : SrcAt C S s e b m st
  part : PartAt c.P c.T b m S p pi
  rule : isRule b m
  ok : okS b m st pi
  kind : st.isKn = q
  ps : p ≠ s
  pe : p ≠ e
/-- a part was opened -/
structure Opd (c : Cs) (C : Addr) (S S' : Sto) (s e p : Nat) (b m : Int) (nd px py : Nat) (o : Op) (st' : SrcS) : Prop where
  src : SrcAt C S' s e b m st'
  ext : Ext [s, e, p] S S'
  node : S'[nd]? = some (.ins c.N [("key", .fz (.str o.1)), ("row", .fz (rowD o.2.1)), ("left", .hd px), ("right", .hd py)])
  xl : PartAt c.P c.T b m S' px o.2.2.1
  yl : PartAt c.P c.T b m S' py o.2.2.2
  hx : S.length ≤ px
  hy : S.length ≤ py
  hn : S.length ≤ nd
  ne : px ≠ py
  nn : px < nd ∧ py < nd
def spOpened (c : Cs) (C : Addr) (q : Bool) : GSp := fun ws S Kp Xp => ∃ s e p b m st pi, ws = [.hd s, .hd p] ∧ Wk c C q S s e p b m st pi ∧ pi.l.n ≠ 0 ∧ match opn b m st pi with
  | .ok (o, st') => ∀ S' nd px py, Opd c C S S' s e p b m nd px py o st' → Kp (.hd nd) S'
  | .error rf => ∀ S', Ext [s, e, p] S S' → Xp (xdOf c.R rf) S'
def spIsEmpty (c : Cs) : GSp := fun ws S Kp _ => ∃ p l fs, ws = [.hd p] ∧ S[p]? = some (.ins c.P (("link", .fz (linkD l)) :: fs)) ∧ Kp (.fz (.bl (decide (l.n = 0)))) S
theorem linkT_n (b m : Int) : ∀ t : Tr, (linkT b m t).n = t.size
  | .nil => rfl
  | .node k r x y => by
    show 1 + (linkT b m x).n + (linkT b m y).n = ((x.size + y.size + 1 : Nat) : Int)
    rw [linkT_n b m x, linkT_n b m y]
    omega
/-- what holds of what was opened -/
theorem keyOfD_ok {d : D} {k : Str} (h : keyOfD d = some k) : isKey k ∧ d = .str k := by
  unfold keyOfD at h
  split at h
  · split at h
    · cases h; exact ⟨by assumption, rfl⟩
    · cases h
  · cases h
theorem intsOfD_ok : ∀ {ds : List D} {r : List Int}, intsOfD ds = some r → ds = r.map D.int
  | [], r, h => by cases h; rfl
  | .int i :: ds, r, h => by
    unfold intsOfD at h
    cases q : intsOfD ds with
    | none => rw [q] at h; cases h
    | some r' => rw [q] at h; cases h; rw [intsOfD_ok q]; rfl
  | .non :: _, _, h => by cases h
  | .bl _ :: _, _, h => by cases h
  | .str _ :: _, _, h => by cases h
  | .tup _ :: _, _, h => by cases h
  | .lst _ :: _, _, h => by cases h
  | .obj _ _ :: _, _, h => by cases h
  | .scr _ :: _, _, h => by cases h
  | .ty _ :: _, _, h => by cases h
theorem rowOfD_ok {d : D} {r : List Int} (h : rowOfD d = some r) : isRow r ∧ d = rowD r := by
  unfold rowOfD at h
  split at h
  · rename_i ds
    cases q : intsOfD ds with
    | none => rw [q] at h; cases h
    | some r' =>
      rw [q] at h
      have h' : (if 1 ≤ r'.length ∧ r'.length ≤ 3 ∧ r'.all (fun i => decide (0 ≤ i) && decide (i ≤ 65535)) then some r' else none) = some r := h
      split at h'
      · cases h'
        rename_i z
        refine ⟨⟨z.1, z.2.1, fun i hi => ?_⟩, by rw [intsOfD_ok q]; rfl⟩
        have := List.all_eq_true.mp z.2.2 i hi
        rw [Bool.and_eq_true, decide_eq_true_eq, decide_eq_true_eq] at this
        exact this
      · cases h'
  · cases h
theorem linkOfD_ok {d : D} {l : Link} (h : linkOfD d = some l) : d = linkD l ∧ 0 ≤ l.d ∧ 0 ≤ l.n ∧ 0 ≤ l.a ∧ 0 ≤ l.b ∧ 0 ≤ l.c := by
  unfold linkOfD at h
  split at h
  · split at h
    · cases h; exact ⟨rfl, by assumption⟩
    · cases h
  · cases h
theorem entOfD_ok {d : D} {k : Str} {r : List Int} {x y : Link} (h : entOfD d = some (k, r, x, y)) : d = entD k r x y ∧ isKey k ∧ isRow r ∧ 0 ≤ x.n ∧ 0 ≤ y.n := by
  unfold entOfD at h
  split at h
  · rename_i k' r' x' y'
    cases q1 : keyOfD k' with
    | none => rw [q1] at h; cases h
    | some k1 =>
    cases q2 : rowOfD r' with
    | none => rw [q1, q2] at h; cases h
    | some r1 =>
    cases q3 : linkOfD x' with
    | none => rw [q1, q2, q3] at h; cases h
    | some x1 =>
    cases q4 : linkOfD y' with
    | none => rw [q1, q2, q3, q4] at h; cases h
    | some y1 =>
      rw [q1, q2, q3, q4] at h
      cases h
      obtain ⟨a1, a2⟩ := keyOfD_ok q1
      obtain ⟨b1, b2⟩ := rowOfD_ok q2
      obtain ⟨c1, c2⟩ := linkOfD_ok q3
      obtain ⟨d1, d2⟩ := linkOfD_ok q4
      exact ⟨by rw [a2, b2, c1, d1]; rfl, a1, b1, c2.2.1, d2.2.1⟩
  · cases h
theorem opn_ok {b m : Int} {st st' : SrcS} {pi : PI} {o : Op} (h : opn b m st pi = .ok (o, st')) (hs : okS b m st pi) :
    isKey o.1 ∧ isRow o.2.1 ∧ okS b m st' o.2.2.1 ∧ okS b m st' o.2.2.2 ∧ meas st' o.2.2.1 < meas st pi ∧ meas st' o.2.2.2 < meas st pi ∧ st'.isKn = st.isKn := by
  cases st with
  | kn es =>
    obtain ⟨h0, t, ht, hl, okt, hz⟩ := hs
    unfold opn at h
    dsimp only at h
    rw [ht] at h
    cases t with
    | nil => cases h
    | node k r x y =>
      cases h
      obtain ⟨a1, a2, a3, a4⟩ := okt
      have e1 : (es ++ [entD k r (linkT b m x) (linkT b m y)]).length = es.length + 1 := by rw [List.length_append]; rfl
      have e2 : (Tr.node k r x y).size = x.size + y.size + 1 := rfl
      rw [e2] at hz
      refine ⟨a1, a2, ⟨by omega, x, rfl, rfl, a3, by omega⟩, ⟨by omega, y, rfl, rfl, a4, by omega⟩, ?_, ?_, rfl⟩
      · show x.size < meas (.kn es) pi
        unfold meas
        dsimp only
        rw [ht]
        show x.size < x.size + y.size + 1
        omega
      · show y.size < meas (.kn es) pi
        unfold meas
        dsimp only
        rw [ht]
        show y.size < x.size + y.size + 1
        omega
  | gv cs n =>
    obtain ⟨h0, ht, hn⟩ := hs
    unfold opn at h
    dsimp only at h
    split at h
    · cases h
    · rename_i d hd
      split at h
      · cases h
      · rename_i k r x y he
        obtain ⟨ed, a1, a2, a3, a4⟩ := entOfD_ok he
        split at h
        · split at h
          · cases h
            have hlt := (List.getElem?_eq_some_iff.mp hd).1
            exact ⟨a1, a2, ⟨⟨h0.1, hlt, h0.2.2⟩, rfl, a3⟩, ⟨⟨h0.1, hlt, h0.2.2⟩, rfl, a4⟩, by show cs.length - (n + 1) < cs.length - n; omega, by show cs.length - (n + 1) < cs.length - n; omega, rfl⟩
          · cases h
        · cases h
theorem okS.len {b m : Int} {st : SrcS} {pi : PI} (h : okS b m st pi) : st.len ≤ 900 := by
  cases st with
  | kn es => exact h.1
  | gv cs n => exact Nat.le_trans h.1.2.1 h.1.1
theorem okS.refl {b m : Int} {st : SrcS} {pi : PI} (h : okS b m st pi) : After st st pi := by
  cases st with
  | kn es => exact ⟨Nat.le_refl _, Nat.le_add_right _ _⟩
  | gv cs n => exact ⟨rfl, Nat.le_refl _, h.1.2.1⟩
theorem After.len {st st' : SrcS} {pi : PI} (h : After st st' pi) : st.len ≤ st'.len := by
  cases st <;> cases st' <;> first | exact h.elim | exact h.1 | exact h.2.1
theorem After.kind {st st' : SrcS} {pi : PI} (h : After st st' pi) : st'.isKn = st.isKn := by
  cases st <;> cases st' <;> first | exact h.elim | rfl
theorem opn_len {b m : Int} {st st' : SrcS} {pi : PI} {o : Op} (h : opn b m st pi = .ok (o, st')) (hs : okS b m st pi) : st'.len = st.len + 1 := by
  cases st with
  | kn es =>
    obtain ⟨h0, t, ht, hl, okt, hz⟩ := hs
    unfold opn at h
    dsimp only at h
    rw [ht] at h
    cases t with
    | nil => cases h
    | node k r x y =>
      cases h
      show (es ++ [entD k r (linkT b m x) (linkT b m y)]).length = _
      rw [List.length_append]
      rfl
  | gv cs n =>
    unfold opn at h
    dsimp only at h
    split at h
    · cases h
    · split at h
      · cases h
      · split at h
        · split at h
          · cases h; rfl
          · cases h
        · cases h
/-- the second part, in a later state -/
theorem opn_right {b m : Int} {st st1 st2 : SrcS} {pi : PI} {o : Op} (h : opn b m st pi = .ok (o, st1)) (hs : okS b m st pi) (a : After st1 st2 o.2.2.1) : okS b m st2 o.2.2.2 ∧ meas st2 o.2.2.2 < meas st pi ∧ ∀ st3, After st2 st3 o.2.2.2 → After st st3 pi := by
  cases st with
  | kn es =>
    obtain ⟨h0, t, ht, hl, okt, hz⟩ := hs
    have htz : pi.tsz = t.size := by unfold PI.tsz; rw [ht]
    unfold opn at h
    dsimp only at h
    rw [ht] at h
    cases t with
    | nil => cases h
    | node k r x y =>
      cases h
      have e1 : (es ++ [entD k r (linkT b m x) (linkT b m y)]).length = es.length + 1 := by rw [List.length_append]; rfl
      have e2 : (Tr.node k r x y).size = x.size + y.size + 1 := rfl
      rw [e2] at hz htz
      cases st2 with
      | gv _ _ => exact a.elim
      | kn fs =>
        obtain ⟨a1, a2⟩ := a
        rw [e1] at a1 a2
        have a2 : fs.length ≤ es.length + 1 + x.size := a2
        refine ⟨⟨by omega, y, rfl, rfl, okt.2.2.2, by omega⟩, ?_, fun st3 a3 => ?_⟩
        · show y.size < meas (.kn es) pi
          unfold meas
          dsimp only
          rw [ht]
          show y.size < x.size + y.size + 1
          omega
        · cases st3 with
          | gv _ _ => exact a3.elim
          | kn gs =>
            obtain ⟨b1, b2⟩ := a3
            have b2 : gs.length ≤ fs.length + y.size := b2
            exact ⟨by omega, by rw [htz]; omega⟩
  | gv cs n =>
    obtain ⟨h0, ht, hn⟩ := hs
    unfold opn at h
    dsimp only at h
    split at h
    · cases h
    · rename_i d hd
      split at h
      · cases h
      · rename_i k r x y he
        obtain ⟨ed, a1, a2, a3, a4⟩ := entOfD_ok he
        split at h
        · split at h
          · cases h
            have hlt := (List.getElem?_eq_some_iff.mp hd).1
            cases st2 with
            | kn _ => exact a.elim
            | gv ds k2 =>
              obtain ⟨c1, c2, c3⟩ := a
              subst c1
              refine ⟨⟨⟨h0.1, c3, h0.2.2⟩, rfl, a4⟩, by show ds.length - k2 < ds.length - n; omega, fun st3 b3 => ?_⟩
              cases st3 with
              | kn _ => exact b3.elim
              | gv es k3 =>
                obtain ⟨d1, d2, d3⟩ := b3
                exact ⟨d1, by omega, d3⟩
          · cases h
        · cases h
/-- the children of what was opened -/
theorem Opd.left {c : Cs} {C : Addr} {q : Bool} {S S' : Sto} {s e p : Nat} {b m : Int} {nd px py : Nat} {o : Op} {st st' : SrcS} {pi : PI} (h : Opd c C S S' s e p b m nd px py o st') (w : Wk c C q S s e p b m st pi) (eo : opn b m st pi = .ok (o, st')) : Wk c C q S' s e px b m st' o.2.2.1 := by
  obtain ⟨_, _, k1, k2, _, _, k3⟩ := opn_ok eo w.ok
  have := w.src.lt
  have := h.hx
  exact ⟨h.src, h.xl, w.rule, k1, k3.trans w.kind, by omega, by omega⟩
theorem Wk.later {c : Cs} {C : Addr} {q : Bool} {S S2 : Sto} {s e p : Nat} {b m : Int} {st st2 : SrcS} {pi : PI} (w : Wk c C q S s e p b m st pi) (hs : SrcAt C S2 s e b m st2) (hp : PartAt c.P c.T b m S2 p pi) (ho : okS b m st2 pi) (hk : st2.isKn = st.isKn) : Wk c C q S2 s e p b m st2 pi := ⟨hs, hp, w.rule, ho, hk.trans w.kind, w.ps, w.pe⟩
theorem Opd.right {c : Cs} {C : Addr} {q : Bool} {S S' : Sto} {s e p : Nat} {b m : Int} {nd px py : Nat} {o : Op} {st st' : SrcS} {pi : PI} (h : Opd c C S S' s e p b m nd px py o st') (w : Wk c C q S s e p b m st pi) (eo : opn b m st pi = .ok (o, st')) : Wk c C q S' s e py b m st' o.2.2.2 := by
  obtain ⟨_, _, k1, k2, _, _, k3⟩ := opn_ok eo w.ok
  have := w.src.lt
  have := h.hy
  exact ⟨h.src, h.yl, w.rule, k2, k3.trans w.kind, by omega, by omega⟩
end DL
namespace DL
open PySem PySem.Spec PyProof.Rows L2
/-- what entry_of gives: the entry, the trees below -/
def optT (CT : Addr) (b m : Int) (pi : PI) : D := trD CT b m pi.t
structure Ent (c : Cs) (C : Addr) (S S' : Sto) (s e : Nat) (b m : Int) (st' : SrcS) : Prop where
  src : SrcAt C S' s e b m st'
  ext : Ext [s, e] S S'
  len : S'.length = S.length
def spEntry (c : Cs) (C : Addr) (q : Bool) : GSp := fun ws S Kp Xp => ∃ s e p b m st pi, ws = [.hd s, .hd p] ∧ Wk c C q S s e p b m st pi ∧ pi.l.n ≠ 0 ∧ match opn b m st pi with
  | .ok (o, st') => ∀ S', Ent c C S S' s e b m st' → Kp (.fz (.tup [entD o.1 o.2.1 o.2.2.1.l o.2.2.2.l, trD c.T b m o.2.2.1.t, trD c.T b m o.2.2.2.t])) S'
  | .error rf => ∀ S', Ext [s, e, p] S S' → Xp (xdOf c.R rf) S'
def spEntryK (c : Cs) (C : Addr) : GSp := spEntry c C true
end DL
namespace DL
open PySem PySem.Spec PyProof.Rows L2
theorem onO_fld {S : Sto} {p : Nat} {C : Addr} {fs : List (Str × W)} {f : Str} {w : W} {k : Addr × W → Prop} (h : S[p]? = some (.ins C fs)) (hl : fs.lookup f = some w) (hk : k (C, w)) : onO (fldW S (.hd p) f) k := by
  have e : insAt S (.hd p) = some (p, C, fs) := by unfold insAt; dsimp only; rw [h]
  have e2 : fldW S (.hd p) f = some (C, w) := by
    show (insAt S (.hd p)).bind (fun p => (p.2.2.lookup f).map fun w => (p.2.1, w)) = _
    rw [e]
    show (fs.lookup f).map (fun w => (C, w)) = _
    rw [hl]
    rfl
  rw [e2]
  exact hk
theorem onO_ins {S : Sto} {p : Nat} {C : Addr} {fs : List (Str × W)} {k : Nat × Addr × List (Str × W) → Prop} (h : S[p]? = some (.ins C fs)) (hk : k (p, C, fs)) : onO (insAt S (.hd p)) k := by
  have e : insAt S (.hd p) = some (p, C, fs) := by unfold insAt; dsimp only; rw [h]
  rw [e]
  exact hk
theorem onO_lst {S : Sto} {n : Nat} {ws : List W} {k : List W → Prop} (h : S[n]? = some (.lst ws)) (hk : k ws) : onO (lstAt S n) k := by
  have e : lstAt S n = some ws := by unfold lstAt; rw [h]
  rw [e]
  exact hk
theorem set_app1 {S : Sto} {o : OD} {n : Nat} (h : n = S.length) : (S ++ [o])[n]? = some o := by
  subst h
  rw [List.getElem?_append_right (Nat.le_refl _), Nat.sub_self]
  rfl
theorem app_get {S : Sto} {i : Nat} {o : OD} {T : Sto} (h : S[i]? = some o) : (S ++ T)[i]? = some o := by
  rw [List.getElem?_append_left (List.getElem?_eq_some_iff.mp h).1]
  exact h
end DL
namespace DL
open PySem PySem.Spec PyProof.Rows L2
theorem SrcAt.ins {C : Addr} {S : Sto} {s e : Nat} {b m : Int} {st : SrcS} (h : SrcAt C S s e b m st) : ∃ fs, S[s]? = some (.ins C fs) ∧ fs.lookup ("rule" : Str) = some (.fz (ruleD b m)) ∧ ∀ n ∈ (["opened", "entry_of", "empty", "made", "root", "finish"] : List Str), fs.lookup n = none := by
  cases st with
  | kn es => exact ⟨_, h.1, rfl, fun n hn => by
    simp only [List.mem_cons, List.not_mem_nil, or_false] at hn
    rcases hn with rfl | rfl | rfl | rfl | rfl | rfl <;> rfl⟩
  | gv cs n => exact ⟨_, h.1, rfl, fun n hn => by
    simp only [List.mem_cons, List.not_mem_nil, or_false] at hn
    rcases hn with rfl | rfl | rfl | rfl | rfl | rfl <;> rfl⟩
theorem Ent.part {c : Cs} {C : Addr} {S S' : Sto} {s e p : Nat} {b m : Int} {st st' : SrcS} {pi : PI} {q : Bool} (h : Ent c C S S' s e b m st') (w : Wk c C q S s e p b m st pi) : PartAt c.P c.T b m S' p pi :=
  h.ext.get w.part (by simp only [List.mem_cons, List.not_mem_nil, or_false, not_or]; exact ⟨w.ps, w.pe⟩)
/-- what stands behind the opening -/
theorem opd_of {c : Cs} {C : Addr} {q : Bool} {S S1 : Sto} {s e p : Nat} {b m : Int} {st st' : SrcS} {pi : PI} {o : Op} {px py nd : Nat} (w : Wk c C q S s e p b m st pi) (h : Ent c C S S1 s e b m st') (eo : opn b m st pi = .ok (o, st')) {S5 : Sto} {P1 P2 Nn Pp : OD}
    (hpx : px = S1.length) (hpy : py = S1.length + 1) (hnd : nd = S1.length + 2)
    (e1 : P1 = .ins c.P [("link", .fz (linkD o.2.2.1.l)), ("tree", .fz (trD c.T b m o.2.2.1.t)), ("node", .fz .non)]) (e2 : P2 = .ins c.P [("link", .fz (linkD o.2.2.2.l)), ("tree", .fz (trD c.T b m o.2.2.2.t)), ("node", .fz .non)])
    (e3 : Nn = .ins c.N [("key", .fz (.str o.1)), ("row", .fz (rowD o.2.1)), ("left", .hd px), ("right", .hd py)]) (e5 : S5 = (S1 ++ [P1] ++ [P2] ++ [Nn]).set p Pp) :
    Opd c C S S5 s e p b m nd px py o st' := by
  have hp : p < S.length := w.part.lt
  have hl := h.len
  have hx : Ext [p] S1 S5 := by
    subst e5
    refine Ext.trans (b := [p]) (a := []) (S' := S1 ++ [P1] ++ [P2] ++ [Nn]) ?_ (.set (by simp)) (by simp) (fun i hi _ => hi)
    rw [List.append_assoc, List.append_assoc]
    exact .app
  have gt : ∀ (i : Nat) (od : OD), (S1 ++ [P1] ++ [P2] ++ [Nn])[i]? = some od → p ≠ i → S5[i]? = some od := fun i od e0 ne => by
    subst e5
    rw [List.getElem?_set_ne ne]
    exact e0
  have a1 : (S1 ++ [P1] ++ [P2] ++ [Nn])[px]? = some P1 := app_get (app_get (set_app1 hpx))
  have a2 : (S1 ++ [P1] ++ [P2] ++ [Nn])[py]? = some P2 := app_get (set_app1 (by rw [List.length_append]; exact hpy))
  have a3 : (S1 ++ [P1] ++ [P2] ++ [Nn])[nd]? = some Nn := set_app1 (by rw [List.length_append, List.length_append]; exact hnd)
  refine ⟨SrcAt.ext h.src hx (by simpa using w.ps.symm) (by simpa using w.pe.symm), ?_, ?_, ?_, ?_, by omega, by omega, by omega, by omega, by omega⟩
  · exact h.ext.trans hx (by simp +contextual) (by simp +contextual)
  · rw [gt _ _ a3 (by omega), e3]
  · unfold PartAt; rw [gt _ _ a1 (by omega), e1]
  · unfold PartAt; rw [gt _ _ a2 (by omega), e2]
end DL
/-! M13: the walks, as functions; their promises -/
namespace DL
open PySem PySem.Spec PyProof.Rows L2
theorem wh_inv {c : DT} {tb : DS} {D : DEnds} (I : Nat → En → Sto → Prop) (h0 : ∀ env S, ¬ I 0 env S)
    (h : ∀ (n : Nat) (env : En) (S : Sto) (N : En → Sto → Prop), I (n + 1) env S → (∀ env' S', I n env' S' → N env' S') → c env S fun b S1 => ifB b (tb { D with nx := N, ct := N, bk := D.nx } env S1) (D.nx env S1)) : ∀ (n : Nat) (env : En) (S : Sto), I n env S → wh c tb D n env S
  | 0, env, S, i => (h0 env S i).elim
  | n + 1, env, S, i => h n env S (wh c tb D n) i fun env' S' i' => wh_inv I h0 h n env' S' i'
/-- how a walk ends -/
def Ends {α : Type} (c : Cs) (C : Addr) (S : Sto) (s e : Nat) (b m : Int) (ex : List Nat) (r : Except Rf (α × SrcS)) (Kp : α → Sto → Prop) (Xp : XWK) : Prop := match r with
  | .ok (a, st') => ∀ S', SrcAt C S' s e b m st' → Ext ex S S' → Kp a S'
  | .error rf => ∀ S', Ext ex S S' → Xp (xdOf c.R rf) S'
theorem Ends.step {α : Type} {c : Cs} {C : Addr} {S S2 : Sto} {s e : Nat} {b m : Int} {ex ex1 ex2 : List Nat} {r : Except Rf (α × SrcS)} {Kp : α → Sto → Prop} {Xp : XWK} (h : Ends c C S s e b m ex r Kp Xp) (x : Ext ex1 S S2) (h1 : ∀ i ∈ ex1, i ∈ ex) (h2 : ∀ i ∈ ex2, i < S.length → i ∈ ex) : Ends c C S2 s e b m ex2 r Kp Xp := by
  unfold Ends at h ⊢
  split
  · exact fun S' a1 a2 => h S' a1 (x.trans a2 h1 h2)
  · exact fun S' a2 => h S' (x.trans a2 h1 h2)
theorem Ends.imp {α : Type} {c : Cs} {C : Addr} {S : Sto} {s e : Nat} {b m : Int} {ex : List Nat} {r : Except Rf (α × SrcS)} {Kp Kq : α → Sto → Prop} {Xp : XWK} (h : Ends c C S s e b m ex r Kp Xp) (g : ∀ a S', Kp a S' → Kq a S') : Ends c C S s e b m ex r Kq Xp := by
  unfold Ends at h ⊢
  split
  · exact fun S' a1 a2 => g _ _ (h S' a1 a2)
  · exact h
/-! ### functions -/
def bnd {α β : Type} (r : Except Rf (α × SrcS)) (k : α → SrcS → Except Rf (β × SrcS)) : Except Rf (β × SrcS) := match r with
  | .error e => .error e
  | .ok (a, st) => k a st
theorem Ends.bnd {α β : Type} {c : Cs} {C : Addr} {S : Sto} {s e : Nat} {b m : Int} {ex : List Nat} {r : Except Rf (α × SrcS)} {k : α → SrcS → Except Rf (β × SrcS)} {Kp : β → Sto → Prop} {Kq : α → Sto → Prop} {Xp : XWK} (h : Ends c C S s e b m ex (bnd r k) Kp Xp)
    (g : ∀ a st' S', Ends c C S s e b m ex (k a st') Kp Xp → SrcAt C S' s e b m st' → Ext ex S S' → r = .ok (a, st') → Kq a S') : Ends c C S s e b m ex r Kq Xp := by
  cases r with
  | error rf => exact h
  | ok x => obtain ⟨a, st'⟩ := x; exact fun S' a1 a2 => g a st' S' h a1 a2 rfl
def mFound (b m : Int) : Nat → SrcS → PI → Str → Except Rf (D × SrcS)
  | 0, st, _, _ => .ok (.non, st)
  | f + 1, st, pi, key => if pi.l.n = 0 then .ok (.non, st) else bnd (opn b m st pi) fun o st' => if key = o.1 then .ok (rowD o.2.1, st') else mFound b m f st' (if strLt key o.1 then o.2.2.1 else o.2.2.2) key
def mPlace (b m : Int) : Nat → SrcS → PI → Str → Int → Except Rf (Int × SrcS)
  | 0, st, _, _, a => .ok (a, st)
  | f + 1, st, pi, key, a => if pi.l.n = 0 then .ok (a, st) else bnd (opn b m st pi) fun o st' => if strLt o.1 key then mPlace b m f st' o.2.2.2 key (a + (1 + o.2.2.1.l.n)) else mPlace b m f st' o.2.2.1 key a
def mAt (b m : Int) : Nat → SrcS → PI → Int → Except Rf (D × SrcS)
  | 0, st, _, _ => .ok (.non, st)
  | f + 1, st, pi, i => if i < pi.l.n then bnd (opn b m st pi) fun o st' => if i = o.2.2.1.l.n then .ok (tabR (o.1, o.2.1), st') else if i < o.2.2.1.l.n then mAt b m f st' o.2.2.1 i else mAt b m f st' o.2.2.2 (i - (o.2.2.1.l.n + 1))
    else .ok (.non, st)
def mBtw (b m : Int) : Nat → SrcS → PI → Str → Str → Except Rf (Tab × SrcS)
  | 0, st, _, _, _ => .ok ([], st)
  | f + 1, st, pi, lo, hi => if pi.l.n = 0 then .ok ([], st) else bnd (opn b m st pi) fun o st1 =>
    bnd (if strLt lo o.1 then mBtw b m f st1 o.2.2.1 lo hi else .ok ([], st1)) fun a st2 =>
    bnd (if strLt o.1 hi then mBtw b m f st2 o.2.2.2 lo hi else .ok ([], st2)) fun d st3 =>
    .ok (a ++ (if inB lo hi (o.1, o.2.1) then [(o.1, o.2.1)] else []) ++ d, st3)
def mNxt (b m : Int) : Nat → SrcS → PI → Str → Int → Int → Except Rf (Tab × SrcS)
  | 0, st, _, _, _, _ => .ok ([], st)
  | f + 1, st, pi, key, cnt, got => if pi.l.n = 0 ∨ cnt ≤ got then .ok ([], st) else bnd (opn b m st pi) fun o st1 =>
    bnd (if strLt key o.1 then bnd (mNxt b m f st1 o.2.2.1 key cnt got) fun a st2 => .ok (if got + (a.length : Nat) < cnt then a ++ [(o.1, o.2.1)] else a, st2) else .ok ([], st1)) fun a st2 =>
    bnd (mNxt b m f st2 o.2.2.2 key cnt (got + (a.length : Nat))) fun d st3 => .ok (a ++ d, st3)
def abB (lo : Str) : Option Str → Bool
  | none => false
  | some y => !strLt y lo
def insideB (lo hi : Str) (ab be : Option Str) : Bool := match be with
  | none => false
  | some x => if strLt hi x then false else (decide (lo = "") || abB lo ab)
theorem insideB_some (lo hi : Str) (ab : Option Str) (x : Str) : insideB lo hi ab (some x) = if strLt hi x then false else (decide (lo = "") || abB lo ab) := rfl
abbrev I4 := Int × Int × Int × Int
def add4 (x y : I4) : I4 := (x.1 + y.1, x.2.1 + y.2.1, x.2.2.1 + y.2.2.1, x.2.2.2 + y.2.2.2)
def own4 (lo hi : Str) (o : Op) : I4 := if inB lo hi (o.1, o.2.1) then (1, cellI o.2.1 0, cellI o.2.1 1, cellI o.2.1 2) else (0, 0, 0, 0)
def mMs (b m : Int) : Nat → SrcS → PI → Str → Str → Option Str → Option Str → Except Rf (I4 × SrcS)
  | 0, st, _, _, _, _, _ => .ok ((0, 0, 0, 0), st)
  | f + 1, st, pi, lo, hi, ab, be => if pi.l.n = 0 then .ok ((0, 0, 0, 0), st) else if insideB lo hi ab be then .ok ((pi.l.n, pi.l.a, pi.l.b, pi.l.c), st) else bnd (opn b m st pi) fun o st1 =>
    bnd (if strLt lo o.1 then bnd (mMs b m f st1 o.2.2.1 lo hi ab (some o.1)) fun x st2 => .ok (add4 (own4 lo hi o) x, st2) else .ok (own4 lo hi o, st1)) fun t st2 =>
    bnd (if strLt o.1 hi then bnd (mMs b m f st2 o.2.2.2 lo hi (some o.1) be) fun x st3 => .ok (add4 t x, st3) else .ok (t, st2)) fun t st3 => .ok (t, st3)
theorem bnd_ok {α β : Type} {r : Except Rf (α × SrcS)} {k : α → SrcS → Except Rf (β × SrcS)} {x : β × SrcS} (h : bnd r k = .ok x) : ∃ a st, r = .ok (a, st) ∧ k a st = .ok x := by
  cases r with
  | error e => cases h
  | ok y => exact ⟨y.1, y.2, rfl, h⟩
theorem ite_ok {β : Type} {p : Prop} [Decidable p] {u v : β} {w : β} (h : (if p then u else v) = w) : (p ∧ u = w) ∨ (¬ p ∧ v = w) := by
  by_cases hp : p
  · rw [if_pos hp] at h; exact .inl ⟨hp, h⟩
  · rw [if_neg hp] at h; exact .inr ⟨hp, h⟩
theorem mBtw_after {b m : Int} {lo hi : Str} : ∀ (n : Nat) (st : SrcS) (pi : PI) (a : Tab) (st' : SrcS), okS b m st pi → mBtw b m n st pi lo hi = .ok (a, st') → After st st' pi ∧ st.len + a.length ≤ st'.len
  | 0, st, pi, a, st', hs, h => by cases h; exact ⟨hs.refl, Nat.le_refl _⟩
  | n + 1, st, pi, a, st', hs, h => by
    rw [mBtw] at h
    rcases ite_ok h with ⟨_, h⟩ | ⟨_, h⟩
    · cases h; exact ⟨hs.refl, Nat.le_refl _⟩
    · obtain ⟨o, st1, eo, h⟩ := bnd_ok h
      obtain ⟨x, st2, e2, h⟩ := bnd_ok h
      obtain ⟨y, st3, e3, h⟩ := bnd_ok h
      cases h
      have l1 := opn_len eo hs
      obtain ⟨_, _, o1, o2, _⟩ := opn_ok eo hs
      have A1 : After st1 st2 o.2.2.1 ∧ st1.len + x.length ≤ st2.len := by
        rcases ite_ok e2 with ⟨_, e2⟩ | ⟨_, e2⟩
        · exact mBtw_after n _ _ _ _ o1 e2
        · cases e2; exact ⟨o1.refl, Nat.le_refl _⟩
      obtain ⟨r1, _, r3⟩ := opn_right eo hs A1.1
      have A2 : After st2 st' o.2.2.2 ∧ st2.len + y.length ≤ st'.len := by
        rcases ite_ok e3 with ⟨_, e3⟩ | ⟨_, e3⟩
        · exact mBtw_after n _ _ _ _ r1 e3
        · cases e3; exact ⟨r1.refl, Nat.le_refl _⟩
      refine ⟨r3 _ A2.1, ?_⟩
      rw [List.length_append, List.length_append]
      have : (if inB lo hi (o.1, o.2.1) then [(o.1, o.2.1)] else ([] : Tab)).length ≤ 1 := by split <;> simp
      have := A1.2
      have := A2.2
      omega
theorem mNxt_after {b m : Int} {key : Str} {cnt : Int} : ∀ (n : Nat) (st : SrcS) (pi : PI) (got : Int) (a : Tab) (st' : SrcS), okS b m st pi → mNxt b m n st pi key cnt got = .ok (a, st') → After st st' pi ∧ st.len + a.length ≤ st'.len
  | 0, st, pi, got, a, st', hs, h => by cases h; exact ⟨hs.refl, Nat.le_refl _⟩
  | n + 1, st, pi, got, a, st', hs, h => by
    rw [mNxt] at h
    rcases ite_ok h with ⟨_, h⟩ | ⟨_, h⟩
    · cases h; exact ⟨hs.refl, Nat.le_refl _⟩
    · obtain ⟨o, st1, eo, h⟩ := bnd_ok h
      obtain ⟨x, st2, e2, h⟩ := bnd_ok h
      obtain ⟨y, st3, e3, h⟩ := bnd_ok h
      cases h
      have l1 := opn_len eo hs
      obtain ⟨_, _, o1, o2, _⟩ := opn_ok eo hs
      have A1 : After st1 st2 o.2.2.1 ∧ st1.len + x.length ≤ st2.len + 1 := by
        rcases ite_ok e2 with ⟨_, e2⟩ | ⟨_, e2⟩
        · obtain ⟨x', st2', e4, e5⟩ := bnd_ok e2
          cases e5
          obtain ⟨q1, q2⟩ := mNxt_after n _ _ _ _ _ o1 e4
          refine ⟨q1, ?_⟩
          split
          · rw [List.length_append]; show st1.len + (x'.length + 1) ≤ _; omega
          · omega
        · cases e2; exact ⟨o1.refl, Nat.le_succ _⟩
      obtain ⟨r1, _, r3⟩ := opn_right eo hs A1.1
      obtain ⟨q1, q2⟩ := mNxt_after n _ _ _ _ _ r1 e3
      refine ⟨r3 _ q1, ?_⟩
      rw [List.length_append]
      have := A1.2
      omega
theorem mMs_after {b m : Int} {lo hi : Str} : ∀ (n : Nat) (st : SrcS) (pi : PI) (ab be : Option Str) (a : I4) (st' : SrcS), okS b m st pi → mMs b m n st pi lo hi ab be = .ok (a, st') → After st st' pi
  | 0, st, pi, ab, be, a, st', hs, h => by cases h; exact hs.refl
  | n + 1, st, pi, ab, be, a, st', hs, h => by
    rw [mMs] at h
    rcases ite_ok h with ⟨_, h⟩ | ⟨_, h⟩
    · cases h; exact hs.refl
    rcases ite_ok h with ⟨_, h⟩ | ⟨_, h⟩
    · cases h; exact hs.refl
    · obtain ⟨o, st1, eo, h⟩ := bnd_ok h
      obtain ⟨x, st2, e2, h⟩ := bnd_ok h
      obtain ⟨y, st3, e3, h⟩ := bnd_ok h
      cases h
      obtain ⟨_, _, o1, o2, _⟩ := opn_ok eo hs
      have A1 : After st1 st2 o.2.2.1 := by
        rcases ite_ok e2 with ⟨_, e2⟩ | ⟨_, e2⟩
        · obtain ⟨x', st2', e4, e5⟩ := bnd_ok e2
          cases e5
          exact mMs_after n _ _ _ _ _ _ o1 e4
        · cases e2; exact o1.refl
      obtain ⟨r1, _, r3⟩ := opn_right eo hs A1
      refine r3 _ ?_
      rcases ite_ok e3 with ⟨_, e3⟩ | ⟨_, e3⟩
      · obtain ⟨x', st2', e4, e5⟩ := bnd_ok e3
        cases e5
        exact mMs_after n _ _ _ _ _ _ r1 e4
      · cases e3; exact r1.refl
/-! ### promises -/
def spFound (c : Cs) (C : Addr) (q : Bool) : GSp := fun ws S Kp Xp => ∃ s e p b m st pi key n, ws = [.hd s, .hd p, .fz (.str key)] ∧ Wk c C q S s e p b m st pi ∧ PyData.strOk key = true ∧ meas st pi < n ∧ Ends c C S s e b m [s, e, p] (mFound b m n st pi key) (fun d S' => Kp (.fz d) S') Xp
def spPlaceW (c : Cs) (C : Addr) (q : Bool) : GSp := fun ws S Kp Xp => ∃ s e p b m st pi key n, ws = [.hd s, .hd p, .fz (.str key)] ∧ Wk c C q S s e p b m st pi ∧ PyData.strOk key = true ∧ meas st pi < n ∧ Ends c C S s e b m [s, e, p] (mPlace b m n st pi key 0) (fun i S' => Kp (.fz (.int i)) S') Xp
def spAtW (c : Cs) (C : Addr) (q : Bool) : GSp := fun ws S Kp Xp => ∃ s e p b m st pi i n, ws = [.hd s, .hd p, .fz (.int i)] ∧ Wk c C q S s e p b m st pi ∧ 0 ≤ i ∧ meas st pi < n ∧ Ends c C S s e b m [s, e, p] (mAt b m n st pi i) (fun d S' => Kp (.fz d) S') Xp
def spBtw (c : Cs) (C : Addr) (q : Bool) (n : Nat) : GSp := fun ws S Kp Xp => ∃ s e p b m st pi lo hi f fs, ws = [.hd s, .hd p, .fz (.str lo), .fz (.str hi), .hd f] ∧ Wk c C q S s e p b m st pi ∧ meas st pi < n ∧ S[f]? = some (.lst ((fs.map tabR).map W.fz)) ∧ f ≠ s ∧ f ≠ e ∧ f ≠ p ∧ fs.length ≤ 100 + st.len ∧
  Ends c C S s e b m [s, e, p, f] (mBtw b m n st pi lo hi) (fun a S' => S'[f]? = some (.lst (((fs ++ a).map tabR).map W.fz)) → Kp (.fz .non) S') Xp
def spNxt (c : Cs) (C : Addr) (q : Bool) (n : Nat) : GSp := fun ws S Kp Xp => ∃ s e p b m st pi key cnt f fs, ws = [.hd s, .hd p, .fz (.str key), .fz (.int cnt), .hd f] ∧ Wk c C q S s e p b m st pi ∧ meas st pi < n ∧ S[f]? = some (.lst ((fs.map tabR).map W.fz)) ∧ f ≠ s ∧ f ≠ e ∧ f ≠ p ∧ fs.length ≤ 100 + st.len ∧
  Ends c C S s e b m [s, e, p, f] (mNxt b m n st pi key cnt (fs.length : Nat)) (fun a S' => S'[f]? = some (.lst (((fs ++ a).map tabR).map W.fz)) → Kp (.fz .non) S') Xp
def optSD : Option Str → D
  | none => .non
  | some x => .str x
def d4 (x : Int × Int × Int × Int) : D := .lst [.int x.1, .int x.2.1, .int x.2.2.1, .int x.2.2.2]
def spMs (c : Cs) (C : Addr) (q : Bool) (n : Nat) : GSp := fun ws S Kp Xp => ∃ s e p b m st pi lo hi ab be, ws = [.hd s, .hd p, .fz (.str lo), .fz (.str hi), .fz (.tup [optSD ab, optSD be])] ∧ Wk c C q S s e p b m st pi ∧ meas st pi < n ∧ PyData.strOk lo = true ∧
  Ends c C S s e b m [s, e, p] (mMs b m n st pi lo hi ab be) (fun x S' => Kp (.fz (d4 x)) S') Xp
def spInside : PSp := fun ds Q => ∃ lo hi ab be, ds = [.str lo, .str hi, optSD ab, optSD be] ∧ PyData.strOk lo = true ∧ Q (.bl (insideB lo hi ab be))
end DL
namespace DL
open PySem PySem.Spec PyProof.Rows L2
theorem onO_vS {S : Sto} {n : Nat} {ws : List W} {k : List W → Prop} (h : S[n]? = some (.lst ws)) (hk : k ws) : onO (vS S (.hd n)) k := by
  have e : vS S (.hd n) = some ws := by
    unfold vS vT vL
    dsimp only
    rw [h]
  rw [e]
  exact hk
end DL
namespace DL
open PySem PySem.Spec PyProof.Rows L2
def spKnown (C : Addr) : GSp := fun ws S Kp _ => ∃ n d, ws = [.hd n, .fz d] ∧ S[n]? = some (OD.ins C []) ∧ Kp (.fz .non) ((S.set n (OD.ins C [("rule", W.fz d)]) ++ [OD.lst []]).set n (OD.ins C [("rule", W.fz d), ("entries", W.hd S.length)]))
def spRootK (c : Cs) (C : Addr) : GSp := fun ws S Kp _ => ∃ s fs b m t, ws = [.hd s, .fz (treeO c.T b m t)] ∧ S[s]? = some (OD.ins C fs) ∧ Kp (.hd S.length) (S ++ [OD.ins c.P [("link", .fz (linkD (linkT b m t))), ("tree", .fz (treeO c.T b m t)), ("node", .fz .non)]])
end DL
/-! M14: the walks over a known tree -/
namespace DL
open PySem PySem.Spec PyProof.Rows L2
def Tr.rows : Tr → Tab
  | .nil => []
  | .node k r x y => x.rows ++ (k, r) :: y.rows
theorem rows_treeT : ∀ (n : Nat) (rows : Tab), rows.length ≤ n → (treeT rows).rows = rows
  | 0, rows, h => by
    have : rows = [] := List.eq_nil_of_length_eq_zero (by omega)
    subst this
    rfl
  | n + 1, rows, h => by
    by_cases e : rows = []
    · subst e; rfl
    · have ht := top_lt e
      rw [treeT_node e]
      show (treeT (rows.take (topN rows))).rows ++ rowAt rows (topN rows) :: (treeT (rows.drop (topN rows + 1))).rows = rows
      rw [rows_treeT n _ (by rw [List.length_take]; omega), rows_treeT n _ (by rw [List.length_drop]; omega)]
      have e1 : rows.drop (topN rows) = rowAt rows (topN rows) :: rows.drop (topN rows + 1) := by
        rw [List.drop_eq_getElem_cons ht]
        have := rowAt_get ht
        rw [List.getElem?_eq_getElem ht] at this
        rw [Option.some.inj this]
      rw [← e1, List.take_append_drop]
theorem rowsT (rows : Tab) : (treeT rows).rows = rows := rows_treeT _ _ (Nat.le_refl _)
theorem size_rows : ∀ t : Tr, t.size = t.rows.length
  | .nil => rfl
  | .node k r x y => by
    show x.size + y.size + 1 = (x.rows ++ (k, r) :: y.rows).length
    rw [size_rows x, size_rows y, List.length_append, List.length_cons]
    omega
theorem okTr_of : ∀ t : Tr, (∀ r ∈ t.rows, isKey r.1 ∧ isRow r.2) → okTr t
  | .nil, _ => True.intro
  | .node k r x y, h => by
    have h0 := h (k, r) (by show (k, r) ∈ x.rows ++ (k, r) :: y.rows; simp)
    exact ⟨h0.1, h0.2, okTr_of x fun u hu => h u (List.mem_append_left _ hu), okTr_of y fun u hu => h u (List.mem_append_right _ (List.mem_cons_of_mem _ hu))⟩
/-- a table that lies in a tree -/
theorem nodeS {k : Str} {r : List Int} {x y : Tr} (h : (Tr.node k r x y).rows.Pairwise fun a b => strLt a.1 b.1 = true) : (x.rows.Pairwise fun a b => strLt a.1 b.1 = true) ∧ (y.rows.Pairwise fun a b => strLt a.1 b.1 = true) ∧ (∀ u ∈ x.rows, strLt u.1 k = true) ∧ ∀ u ∈ y.rows, strLt k u.1 = true := by
  obtain ⟨h1, h2, h3⟩ := List.pairwise_append.mp (show (x.rows ++ (k, r) :: y.rows).Pairwise fun a b => strLt a.1 b.1 = true from h)
  obtain ⟨h4, h5⟩ := List.pairwise_cons.mp h2
  exact ⟨h1, h5, fun u hu => h3 u hu _ (List.mem_cons_self ..), fun u hu => h4 u hu⟩
def srt (t : Tr) : Prop := t.rows.Pairwise fun a b => strLt a.1 b.1 = true
def sum4 (l : Tab) : I4 := ((l.length : Nat), (l.map fun r => cellI r.2 0).sum, (l.map fun r => cellI r.2 1).sum, (l.map fun r => cellI r.2 2).sum)
theorem sum4_app (a b : Tab) : sum4 (a ++ b) = add4 (sum4 a) (sum4 b) := by
  unfold sum4 add4
  rw [List.length_append, List.map_append, List.map_append, List.map_append, List.sum_append, List.sum_append, List.sum_append, Int.natCast_add]
theorem add4_comm (x y : I4) : add4 x y = add4 y x := by
  unfold add4
  rw [Int.add_comm, Int.add_comm x.2.1, Int.add_comm x.2.2.1, Int.add_comm x.2.2.2]
theorem add4_assoc (x y z : I4) : add4 (add4 x y) z = add4 x (add4 y z) := by
  unfold add4
  simp only [Int.add_assoc]
theorem add4_zero (x : I4) : add4 x (sum4 []) = x := by
  unfold add4 sum4
  simp
theorem link_sum (b m : Int) : ∀ t : Tr, ((linkT b m t).n, (linkT b m t).a, (linkT b m t).b, (linkT b m t).c) = sum4 t.rows
  | .nil => rfl
  | .node k r x y => by
    show (1 + (linkT b m x).n + (linkT b m y).n, cellI r 0 + (linkT b m x).a + (linkT b m y).a, cellI r 1 + (linkT b m x).b + (linkT b m y).b, cellI r 2 + (linkT b m x).c + (linkT b m y).c) = sum4 (x.rows ++ ([(k, r)] ++ y.rows))
    rw [sum4_app, sum4_app, ← link_sum b m x, ← link_sum b m y]
    unfold add4 sum4
    simp only [List.length_cons, List.length_nil, List.map_cons, List.map_nil, List.sum_cons, List.sum_nil, Prod.mk.injEq]
    refine ⟨?_, ?_, ?_, ?_⟩ <;> omega
/-! ### what the walks open -/
def entT (b m : Int) (k : Str) (r : List Int) (x y : Tr) : D := entD k r (linkT b m x) (linkT b m y)
def wGet (b m : Int) (key : Str) : Tr → List D
  | .nil => []
  | .node k r x y => entT b m k r x y :: (if strLt key k then wGet b m key x else if strLt k key then wGet b m key y else [])
def wPlc (b m : Int) (key : Str) : Tr → List D
  | .nil => []
  | .node k r x y => entT b m k r x y :: (if strLt k key then wPlc b m key y else wPlc b m key x)
def wAt (b m : Int) : Tr → Int → List D
  | .nil, _ => []
  | .node k r x y, i => if 1 + (linkT b m x).n + (linkT b m y).n ≤ i then [] else entT b m k r x y :: (if i < (linkT b m x).n then wAt b m x i else if (linkT b m x).n < i then wAt b m y (i - (linkT b m x).n - 1) else [])
def wRng (b m : Int) (lo hi : Str) : Tr → List D
  | .nil => []
  | .node k r x y => entT b m k r x y :: ((if strLt lo k then wRng b m lo hi x else []) ++ (if strLt k hi then wRng b m lo hi y else []))
def wNxtL (b m : Int) (key : Str) (cnt : Int) : Tr → Int → Int × List D
  | .nil, got => (got, [])
  | .node k r x y, got => if cnt ≤ got then (got, []) else
    let l : Int × List D := if strLt key k then (if (wNxtL b m key cnt x got).1 < cnt then (wNxtL b m key cnt x got).1 + 1 else (wNxtL b m key cnt x got).1, (wNxtL b m key cnt x got).2) else (got, [])
    ((wNxtL b m key cnt y l.1).1, entT b m k r x y :: (l.2 ++ (wNxtL b m key cnt y l.1).2))
def wSum (b m : Int) (lo hi : Str) : Tr → Option Str → Option Str → List D
  | .nil, _, _ => []
  | .node k r x y, ab, be => if insideB lo hi ab be then [] else entT b m k r x y :: ((if strLt lo k then wSum b m lo hi x ab (some k) else []) ++ (if strLt k hi then wSum b m lo hi y (some k) be else []))
/-! ### known parts -/
def kn (b m : Int) (t : Tr) : PI := ⟨linkT b m t, some t⟩
theorem kn_n (b m : Int) (k : Str) (r : List Int) (x y : Tr) : ¬ (kn b m (.node k r x y)).l.n = 0 := by
  show ¬ (linkT b m (.node k r x y)).n = 0
  rw [linkT_n]
  show ¬ ((x.size + y.size + 1 : Nat) : Int) = 0
  omega
theorem opn_kn (b m : Int) (es : List D) (k : Str) (r : List Int) (x y : Tr) : opn b m (.kn es) (kn b m (.node k r x y)) = .ok ((k, r, kn b m x, kn b m y), .kn (es ++ [entT b m k r x y])) := rfl
theorem szx {k : Str} {r : List Int} {x y : Tr} {n : Nat} (h : (Tr.node k r x y).size < n + 1) : x.size < n ∧ y.size < n := by
  have : (Tr.node k r x y).size = x.size + y.size + 1 := rfl
  omega
theorem getD_left {a c : Tab} {key : Str} (h : ∀ u ∈ c, u.1 ≠ key) : getD (a ++ c) key = getD a key := by
  unfold getD
  rw [List.find?_append]
  have : c.find? (fun r => decide (r.1 = key)) = none := List.find?_eq_none.mpr fun u hu => by rw [decide_eq_true_eq]; exact h u hu
  rw [this, Option.or_none]
theorem getD_right {a c : Tab} {key : Str} (h : ∀ u ∈ a, u.1 ≠ key) : getD (a ++ c) key = getD c key := by
  unfold getD
  rw [List.find?_append]
  have : a.find? (fun r => decide (r.1 = key)) = none := List.find?_eq_none.mpr fun u hu => by rw [decide_eq_true_eq]; exact h u hu
  rw [this, Option.none_or]
theorem mFound_kn {b m : Int} {key : Str} : ∀ (n : Nat) (t : Tr) (es : List D), t.size < n → srt t → mFound b m n (.kn es) (kn b m t) key = .ok (getD t.rows key, .kn (es ++ wGet b m key t))
  | 0, t, es, h, _ => absurd h (Nat.not_lt_zero _)
  | n + 1, .nil, es, h, hs => by
    rw [mFound, if_pos (show (kn b m .nil).l.n = 0 from rfl)]
    show _ = Except.ok (D.non, SrcS.kn (es ++ []))
    rw [List.append_nil]
  | n + 1, .node k r x y, es, h, hs => by
    obtain ⟨hx, hy⟩ := szx h
    obtain ⟨s1, s2, s3, s4⟩ := nodeS hs
    rw [mFound, if_neg (kn_n b m k r x y), opn_kn]
    show (if key = k then Except.ok (rowD r, SrcS.kn (es ++ [entT b m k r x y])) else mFound b m n (.kn (es ++ [entT b m k r x y])) (if strLt key k then kn b m x else kn b m y) key) = .ok (getD (x.rows ++ (k, r) :: y.rows) key, .kn (es ++ entT b m k r x y :: (if strLt key k then wGet b m key x else if strLt k key then wGet b m key y else [])))
    by_cases e : key = k
    · subst e
      rw [if_pos rfl, strLt_irrefl, if_neg Bool.false_ne_true, if_neg Bool.false_ne_true]
      rw [getD_right fun u hu => strLt_ne (s3 u hu)]
      unfold getD
      rw [List.find?_cons_of_pos (by simp)]
    · rw [if_neg e]
      rcases strLt_or e with c | c
      · rw [c, if_pos rfl, if_pos rfl, mFound_kn n x _ hx s1, List.append_assoc, getD_left (a := x.rows) fun u hu => ?_]
        · rfl
        · rcases List.mem_cons.mp hu with z | z
          · rw [z]; exact fun q => e q.symm
          · exact fun q => by have := strLt_trans c (s4 u z); rw [q, strLt_irrefl] at this; cases this
      · rw [strLt_asym c, if_neg Bool.false_ne_true, if_neg Bool.false_ne_true, c, if_pos rfl, mFound_kn n y _ hy s2, List.append_assoc]
        rw [getD_right fun u hu q => by have := strLt_trans (s3 u hu) c; rw [q, strLt_irrefl] at this; cases this]
        have : (k, r) :: y.rows = [(k, r)] ++ y.rows := rfl
        rw [this, getD_right fun u hu q => e (by rw [List.mem_singleton.mp hu] at q; exact q.symm)]
        rfl
theorem filt_all {α : Type} {p : α → Bool} {l : List α} (h : ∀ x ∈ l, p x = true) : l.filter p = l := List.filter_eq_self.mpr h
theorem filt_none {α : Type} {p : α → Bool} {l : List α} (h : ∀ x ∈ l, p x = false) : l.filter p = [] := List.filter_eq_nil_iff.mpr fun x hx => by rw [h x hx]; exact Bool.false_ne_true
theorem nlt_of {a b c : Str} (h : strLt a b = true) (g : strLt c b = false) : strLt c a = false := by
  cases z : strLt c a with
  | false => rfl
  | true => rw [strLt_trans z h] at g; cases g
theorem mPlace_kn {b m : Int} {key : Str} : ∀ (n : Nat) (t : Tr) (es : List D) (a : Int), t.size < n → srt t → mPlace b m n (.kn es) (kn b m t) key a = .ok (a + ((t.rows.filter fun r => strLt r.1 key).length : Nat), .kn (es ++ wPlc b m key t))
  | 0, t, es, a, h, _ => absurd h (Nat.not_lt_zero _)
  | n + 1, .nil, es, a, h, hs => by
    rw [mPlace, if_pos (show (kn b m .nil).l.n = 0 from rfl)]
    show _ = Except.ok (a + 0, SrcS.kn (es ++ []))
    rw [List.append_nil, Int.add_zero]
  | n + 1, .node k r x y, es, a, h, hs => by
    obtain ⟨hx, hy⟩ := szx h
    obtain ⟨s1, s2, s3, s4⟩ := nodeS hs
    rw [mPlace, if_neg (kn_n b m k r x y), opn_kn]
    show (if strLt k key then mPlace b m n (.kn (es ++ [entT b m k r x y])) (kn b m y) key (a + (1 + (linkT b m x).n)) else mPlace b m n (.kn (es ++ [entT b m k r x y])) (kn b m x) key a) = .ok (a + (((x.rows ++ (k, r) :: y.rows).filter fun r => strLt r.1 key).length : Nat), .kn (es ++ entT b m k r x y :: (if strLt k key then wPlc b m key y else wPlc b m key x)))
    rw [List.filter_append, List.length_append]
    by_cases c : strLt k key = true
    · rw [if_pos c, if_pos c, mPlace_kn n y _ _ hy s2, List.append_assoc]
      have e1 : (x.rows.filter fun r => strLt r.1 key) = x.rows := filt_all fun u hu => strLt_trans (s3 u hu) c
      have e2 : (((k, r) :: y.rows).filter fun r => strLt r.1 key) = (k, r) :: y.rows.filter fun r => strLt r.1 key := List.filter_cons_of_pos c
      rw [e1, e2, List.length_cons, linkT_n, size_rows]
      have e : (a + (1 + (x.rows.length : Nat)) + ((y.rows.filter fun r => strLt r.1 key).length : Nat) : Int) = a + ((x.rows.length + ((y.rows.filter fun r => strLt r.1 key).length + 1) : Nat)) := by omega
      rw [e]
      rfl
    · have c0 : strLt k key = false := by cases z : strLt k key with | false => rfl | true => exact absurd z c
      rw [if_neg c, if_neg c, mPlace_kn n x _ _ hx s1, List.append_assoc]
      have e2 : (((k, r) :: y.rows).filter fun r => strLt r.1 key) = [] := filt_none fun u hu => by
        rcases List.mem_cons.mp hu with z | z
        · rw [z]; exact c0
        · cases q : strLt u.1 key with
          | false => rfl
          | true => rw [strLt_trans (s4 u z) q] at c0; cases c0
      rw [e2]
      rfl
def atT (rows : Tab) (i : Int) : D := match rows[i.toNat]? with
  | some r => tabR r
  | none => .non
theorem mAt_kn {b m : Int} : ∀ (n : Nat) (t : Tr) (es : List D) (i : Int), t.size < n → 0 ≤ i → mAt b m n (.kn es) (kn b m t) i = .ok (atT t.rows i, .kn (es ++ wAt b m t i))
  | 0, t, es, i, h, _ => absurd h (Nat.not_lt_zero _)
  | n + 1, .nil, es, i, h, hi => by
    rw [mAt, if_neg (show ¬ i < (kn b m .nil).l.n by show ¬ i < 0; omega)]
    show _ = Except.ok (D.non, SrcS.kn (es ++ []))
    rw [List.append_nil]
  | n + 1, .node k r x y, es, i, h, hi => by
    obtain ⟨hx, hy⟩ := szx h
    have lx : (linkT b m x).n = (x.rows.length : Nat) := by rw [linkT_n, size_rows]
    have ly : (linkT b m y).n = (y.rows.length : Nat) := by rw [linkT_n, size_rows]
    have ln : (kn b m (.node k r x y)).l.n = 1 + (linkT b m x).n + (linkT b m y).n := rfl
    have ew : wAt b m (.node k r x y) i = if 1 + (linkT b m x).n + (linkT b m y).n ≤ i then [] else entT b m k r x y :: (if i < (linkT b m x).n then wAt b m x i else if (linkT b m x).n < i then wAt b m y (i - (linkT b m x).n - 1) else []) := rfl
    have er : (Tr.node k r x y).rows = x.rows ++ (k, r) :: y.rows := rfl
    rw [mAt, opn_kn, ew, er, ln]
    by_cases c : 1 + (linkT b m x).n + (linkT b m y).n ≤ i
    · rw [if_pos c, if_neg (by omega)]
      have : (x.rows ++ (k, r) :: y.rows)[i.toNat]? = none := List.getElem?_eq_none (by rw [List.length_append, List.length_cons]; omega)
      unfold atT
      rw [this, List.append_nil]
    · rw [if_neg c, if_pos (by omega)]
      show (if i = (linkT b m x).n then Except.ok (tabR (k, r), SrcS.kn (es ++ [entT b m k r x y])) else if i < (linkT b m x).n then mAt b m n (.kn (es ++ [entT b m k r x y])) (kn b m x) i else mAt b m n (.kn (es ++ [entT b m k r x y])) (kn b m y) (i - ((linkT b m x).n + 1))) = _
      rcases Int.lt_trichotomy i (linkT b m x).n with d | d | d
      · rw [if_neg (by omega), if_pos d, if_pos d, mAt_kn n x _ _ hx hi, List.append_assoc]
        have : (x.rows ++ (k, r) :: y.rows)[i.toNat]? = x.rows[i.toNat]? := List.getElem?_append_left (by omega)
        unfold atT
        rw [this]
        rfl
      · rw [if_pos d, if_neg (by omega), if_neg (by omega)]
        have : (x.rows ++ (k, r) :: y.rows)[i.toNat]? = some (k, r) := by
          rw [List.getElem?_append_right (by omega), show i.toNat - x.rows.length = 0 by omega]
          rfl
        unfold atT
        rw [this]
      · rw [if_neg (by omega), if_neg (by omega), if_neg (by omega), if_pos d, mAt_kn n y _ _ hy (by omega), List.append_assoc]
        have : (x.rows ++ (k, r) :: y.rows)[i.toNat]? = y.rows[(i - ((linkT b m x).n + 1)).toNat]? := by
          rw [List.getElem?_append_right (by omega), show i.toNat - x.rows.length = (i - ((linkT b m x).n + 1)).toNat + 1 by omega]
          rfl
        unfold atT
        rw [this, show i - (linkT b m x).n - 1 = i - ((linkT b m x).n + 1) by omega]
        rfl
theorem mBtw_kn {b m : Int} {lo hi : Str} : ∀ (n : Nat) (t : Tr) (es : List D), t.size < n → srt t → mBtw b m n (.kn es) (kn b m t) lo hi = .ok (t.rows.filter (inB lo hi), .kn (es ++ wRng b m lo hi t))
  | 0, t, es, h, _ => absurd h (Nat.not_lt_zero _)
  | n + 1, .nil, es, h, hs => by
    rw [mBtw, if_pos (show (kn b m .nil).l.n = 0 from rfl)]
    show _ = Except.ok ([], SrcS.kn (es ++ []))
    rw [List.append_nil]
  | n + 1, .node k r x y, es, h, hs => by
    obtain ⟨hx, hy⟩ := szx h
    obtain ⟨s1, s2, s3, s4⟩ := nodeS hs
    rw [mBtw, if_neg (kn_n b m k r x y), opn_kn]
    show bnd (if strLt lo k then mBtw b m n (.kn (es ++ [entT b m k r x y])) (kn b m x) lo hi else .ok ([], .kn (es ++ [entT b m k r x y]))) (fun a st2 => bnd (if strLt k hi then mBtw b m n st2 (kn b m y) lo hi else .ok ([], st2)) fun d st3 => .ok (a ++ (if inB lo hi (k, r) then [(k, r)] else []) ++ d, st3)) = .ok ((x.rows ++ (k, r) :: y.rows).filter (inB lo hi), .kn (es ++ entT b m k r x y :: ((if strLt lo k then wRng b m lo hi x else []) ++ (if strLt k hi then wRng b m lo hi y else []))))
    have e1 : (if strLt lo k then mBtw b m n (.kn (es ++ [entT b m k r x y])) (kn b m x) lo hi else .ok ([], .kn (es ++ [entT b m k r x y]))) = .ok (x.rows.filter (inB lo hi), .kn (es ++ [entT b m k r x y] ++ (if strLt lo k then wRng b m lo hi x else []))) := by
      cases c : strLt lo k with
      | true => rw [if_pos rfl, if_pos rfl, mBtw_kn n x _ hx s1]
      | false =>
        rw [if_neg Bool.false_ne_true, if_neg Bool.false_ne_true, List.append_nil]
        rw [filt_none fun u hu => ?_]
        unfold inB
        have : strLt u.1 lo = true := by
          rcases Decidable.em (u.1 = lo) with q | q
          · rw [← q, s3 u hu] at c; cases c
          · rcases strLt_or q with z | z
            · exact z
            · rw [strLt_trans z (s3 u hu)] at c; cases c
        rw [this]
        rfl
    rw [e1]
    show bnd (if strLt k hi then mBtw b m n (.kn (es ++ [entT b m k r x y] ++ (if strLt lo k then wRng b m lo hi x else []))) (kn b m y) lo hi else .ok ([], (.kn (es ++ [entT b m k r x y] ++ (if strLt lo k then wRng b m lo hi x else []))))) (fun d st3 => .ok (x.rows.filter (inB lo hi) ++ (if inB lo hi (k, r) then [(k, r)] else []) ++ d, st3)) = _
    have e2 : ∀ fs : List D, (if strLt k hi then mBtw b m n (.kn fs) (kn b m y) lo hi else .ok ([], .kn fs)) = .ok (y.rows.filter (inB lo hi), .kn (fs ++ (if strLt k hi then wRng b m lo hi y else []))) := by
      intro fs
      cases c : strLt k hi with
      | true => rw [if_pos rfl, if_pos rfl, mBtw_kn n y _ hy s2]
      | false =>
        rw [if_neg Bool.false_ne_true, if_neg Bool.false_ne_true, List.append_nil]
        rw [filt_none fun u hu => ?_]
        unfold inB
        have : strLt u.1 hi = false := by
          cases q : strLt u.1 hi with
          | false => rfl
          | true => rw [strLt_trans (s4 u hu) q] at c; cases c
        rw [this, Bool.and_false]
    rw [e2]
    show Except.ok (x.rows.filter (inB lo hi) ++ (if inB lo hi (k, r) then [(k, r)] else []) ++ y.rows.filter (inB lo hi), _) = _
    have e3 : (x.rows ++ (k, r) :: y.rows).filter (inB lo hi) = x.rows.filter (inB lo hi) ++ (if inB lo hi (k, r) then [(k, r)] else []) ++ y.rows.filter (inB lo hi) := by
      rw [List.filter_append, List.filter_cons]
      split
      · rw [List.append_assoc]; rfl
      · rw [List.append_nil]
    rw [e3, List.append_assoc, List.append_assoc, List.append_assoc]
    rfl
theorem mNxt_kn {b m : Int} {key : Str} {cnt : Int} : ∀ (n : Nat) (t : Tr) (es : List D) (got : Int), t.size < n → srt t → mNxt b m n (.kn es) (kn b m t) key cnt got = .ok ((t.rows.filter fun r => strLt key r.1).take (cnt - got).toNat, .kn (es ++ (wNxtL b m key cnt t got).2)) ∧ (wNxtL b m key cnt t got).1 = got + (((t.rows.filter fun r => strLt key r.1).take (cnt - got).toNat).length : Nat)
  | 0, t, es, got, h, _ => absurd h (Nat.not_lt_zero _)
  | n + 1, .nil, es, got, h, hs => by
    rw [mNxt, if_pos (.inl (show (kn b m .nil).l.n = 0 from rfl))]
    refine ⟨?_, ?_⟩
    · show _ = Except.ok (List.take _ [], SrcS.kn (es ++ []))
      rw [List.append_nil, List.take_nil]
    · show got = got + ((List.take _ ([] : Tab)).length : Nat)
      rw [List.take_nil]
      simp
  | n + 1, .node k r x y, es, got, h, hs => by
    obtain ⟨hx, hy⟩ := szx h
    obtain ⟨s1, s2, s3, s4⟩ := nodeS hs
    have ew : wNxtL b m key cnt (.node k r x y) got = if cnt ≤ got then (got, []) else
      ((wNxtL b m key cnt y (if strLt key k then (if (wNxtL b m key cnt x got).1 < cnt then (wNxtL b m key cnt x got).1 + 1 else (wNxtL b m key cnt x got).1, (wNxtL b m key cnt x got).2) else (got, [])).1).1, entT b m k r x y :: ((if strLt key k then (if (wNxtL b m key cnt x got).1 < cnt then (wNxtL b m key cnt x got).1 + 1 else (wNxtL b m key cnt x got).1, (wNxtL b m key cnt x got).2) else (got, [])).2 ++ (wNxtL b m key cnt y (if strLt key k then (if (wNxtL b m key cnt x got).1 < cnt then (wNxtL b m key cnt x got).1 + 1 else (wNxtL b m key cnt x got).1, (wNxtL b m key cnt x got).2) else (got, [])).1).2)) := rfl
    have er : (Tr.node k r x y).rows = x.rows ++ (k, r) :: y.rows := rfl
    rw [er, ew]
    by_cases c : cnt ≤ got
    · rw [mNxt, if_pos (.inr c), if_pos c, show (cnt - got).toNat = 0 by omega, List.take_zero, List.append_nil]
      exact ⟨rfl, by simp⟩
    · rw [mNxt, if_neg (fun z => z.elim (kn_n b m k r x y) c), if_neg c, opn_kn]
      obtain ⟨ih1, ih2⟩ := mNxt_kn n x (es ++ [entT b m k r x y]) got hx s1
      rw [List.filter_append]
      cases d : strLt key k with
      | true =>
        rw [if_pos rfl]
        have e2 : ((k, r) :: y.rows).filter (fun r => strLt key r.1) = (k, r) :: y.rows.filter fun r => strLt key r.1 := List.filter_cons_of_pos d
        rw [e2]
        generalize hfx : (x.rows.filter fun r => strLt key r.1) = fx at *
        generalize hwx : wNxtL b m key cnt x got = wx at *
        obtain ⟨g1, l1⟩ := wx
        dsimp only at ih1 ih2
        subst ih2
        show bnd (if strLt key k then bnd (mNxt b m n (.kn (es ++ [entT b m k r x y])) (kn b m x) key cnt got) fun a st2 => .ok (if got + (a.length : Nat) < cnt then a ++ [(k, r)] else a, st2) else .ok ([], .kn (es ++ [entT b m k r x y]))) (fun a st2 => bnd (mNxt b m n st2 (kn b m y) key cnt (got + (a.length : Nat))) fun d st3 => .ok (a ++ d, st3)) = _ ∧ _
        rw [d, if_pos rfl, ih1]
        show bnd (mNxt b m n (.kn (es ++ [entT b m k r x y] ++ l1)) (kn b m y) key cnt (got + ((if got + ((fx.take (cnt - got).toNat).length : Nat) < cnt then fx.take (cnt - got).toNat ++ [(k, r)] else fx.take (cnt - got).toNat : Tab).length : Nat))) (fun d st3 => .ok ((if got + ((fx.take (cnt - got).toNat).length : Nat) < cnt then fx.take (cnt - got).toNat ++ [(k, r)] else fx.take (cnt - got).toNat) ++ d, st3)) = _ ∧ (wNxtL b m key cnt y (if got + ((fx.take (cnt - got).toNat).length : Nat) < cnt then got + ((fx.take (cnt - got).toNat).length : Nat) + 1 else got + ((fx.take (cnt - got).toNat).length : Nat))).1 = _
        by_cases q : fx.length < (cnt - got).toNat
        · have et : fx.take (cnt - got).toNat = fx := List.take_of_length_le (by omega)
          have eq : got + ((fx.take (cnt - got).toNat).length : Nat) < cnt := by rw [et]; omega
          rw [if_pos eq, if_pos eq, et]
          obtain ⟨j1, j2⟩ := mNxt_kn n y (es ++ [entT b m k r x y] ++ l1) (got + (fx.length : Nat) + 1) hy s2
          have el : (got + ((fx ++ [(k, r)]).length : Nat) : Int) = got + (fx.length : Nat) + 1 := by rw [List.length_append]; show (got + ((fx.length + 1 : Nat) : Int)) = _; omega
          have en : (cnt - got).toNat - fx.length = (cnt - (got + (fx.length : Nat) + 1)).toNat + 1 := by omega
          have e5 : (fx ++ (k, r) :: y.rows.filter fun r => strLt key r.1).take (cnt - got).toNat = fx ++ (k, r) :: (y.rows.filter fun r => strLt key r.1).take (cnt - (got + (fx.length : Nat) + 1)).toNat := by
            rw [List.take_append, et, en, List.take_succ_cons]
          rw [el, j1, e5]
          refine ⟨?_, ?_⟩
          · show Except.ok (fx ++ [(k, r)] ++ _, _) = _
            rw [List.append_assoc, List.append_assoc, List.append_assoc]
            rfl
          · rw [j2, List.length_append, List.length_cons]
            omega
        · have eq : ¬ got + ((fx.take (cnt - got).toNat).length : Nat) < cnt := by rw [List.length_take]; omega
          have en : (got + ((fx.take (cnt - got).toNat).length : Nat) : Int) = cnt := by rw [List.length_take]; omega
          rw [if_neg eq, if_neg eq, en]
          obtain ⟨j1, j2⟩ := mNxt_kn n y (es ++ [entT b m k r x y] ++ l1) cnt hy s2
          have e5 : (fx ++ (k, r) :: y.rows.filter fun r => strLt key r.1).take (cnt - got).toNat = fx.take (cnt - got).toNat := List.take_append_of_le_length (by omega)
          have e6 : (y.rows.filter fun r => strLt key r.1).take (cnt - cnt).toNat = [] := by rw [Int.sub_self]; rfl
          rw [j1, e5, e6]
          rw [e6] at j2
          refine ⟨?_, ?_⟩
          · show Except.ok (fx.take (cnt - got).toNat ++ [], _) = _
            rw [List.append_nil, List.append_assoc, List.append_assoc]
            rfl
          · rw [j2, List.length_take]
            show cnt + ((0 : Nat) : Int) = _
            omega
      | false =>
        rw [if_neg Bool.false_ne_true]
        have e1 : (x.rows.filter fun r => strLt key r.1) = [] := filt_none fun u hu => by
          cases q : strLt key u.1 with
          | false => rfl
          | true => rw [strLt_trans q (s3 u hu)] at d; cases d
        have e2 : ((k, r) :: y.rows).filter (fun r => strLt key r.1) = y.rows.filter fun r => strLt key r.1 := List.filter_cons_of_neg (by rw [d]; exact Bool.false_ne_true)
        rw [e1, e2, List.nil_append]
        show bnd (if strLt key k then bnd (mNxt b m n (.kn (es ++ [entT b m k r x y])) (kn b m x) key cnt got) fun a st2 => .ok (if got + (a.length : Nat) < cnt then a ++ [(k, r)] else a, st2) else .ok ([], .kn (es ++ [entT b m k r x y]))) (fun a st2 => bnd (mNxt b m n st2 (kn b m y) key cnt (got + (a.length : Nat))) fun d st3 => .ok (a ++ d, st3)) = _ ∧ _
        rw [d, if_neg Bool.false_ne_true]
        obtain ⟨j1, j2⟩ := mNxt_kn n y (es ++ [entT b m k r x y]) got hy s2
        show bnd (mNxt b m n (.kn (es ++ [entT b m k r x y])) (kn b m y) key cnt (got + 0)) (fun d st3 => .ok ([] ++ d, st3)) = _ ∧ _
        rw [Int.add_zero, j1]
        refine ⟨?_, j2⟩
        show Except.ok (_, SrcS.kn (es ++ [entT b m k r x y] ++ _)) = _
        rw [List.append_assoc]
        rfl
theorem strLt_empty (u : Str) : strLt u "" = false := by
  rw [strLt_eq]
  cases u.cps.toList <;> rfl
theorem inside_all {lo hi : Str} {ab be : Option Str} {l : Tab} (h : insideB lo hi ab be = true) (ha : ∀ z, ab = some z → ∀ u ∈ l, strLt z u.1 = true) (hb : ∀ z, be = some z → ∀ u ∈ l, strLt u.1 z = true) : l.filter (inB lo hi) = l := by
  refine filt_all fun u hu => ?_
  cases be with
  | none => cases h
  | some x =>
    rw [insideB_some] at h
    split at h
    · cases h
    · rename_i c
      have h1 : strLt u.1 hi = true := by
        cases q : strLt u.1 hi with
        | true => rfl
        | false =>
          have c0 : strLt hi x = false := by cases z : strLt hi x with | false => rfl | true => exact absurd z c
          have := strLt_neg_trans c0 q
          rw [hb x rfl u hu] at this
          cases this
      have h2 : strLt u.1 lo = false := by
        rcases Bool.or_eq_true _ _ |>.mp h with e | e
        · rw [of_decide_eq_true e]; exact strLt_empty _
        · cases ab with
          | none => cases e
          | some z =>
            have e : (!strLt z lo) = true := e
            cases q : strLt u.1 lo with
            | false => rfl
            | true =>
              rw [strLt_trans (ha z rfl u hu) q] at e
              cases e
      unfold inB
      rw [h1, h2]
      rfl
theorem mMs_kn {b m : Int} {lo hi : Str} : ∀ (n : Nat) (t : Tr) (es : List D) (ab be : Option Str), t.size < n → srt t → (∀ z, ab = some z → ∀ u ∈ t.rows, strLt z u.1 = true) → (∀ z, be = some z → ∀ u ∈ t.rows, strLt u.1 z = true) → mMs b m n (.kn es) (kn b m t) lo hi ab be = .ok (sum4 (t.rows.filter (inB lo hi)), .kn (es ++ wSum b m lo hi t ab be))
  | 0, t, es, ab, be, h, _, _, _ => absurd h (Nat.not_lt_zero _)
  | n + 1, .nil, es, ab, be, h, hs, _, _ => by
    rw [mMs, if_pos (show (kn b m .nil).l.n = 0 from rfl)]
    show _ = Except.ok (sum4 [], SrcS.kn (es ++ []))
    rw [List.append_nil]
    rfl
  | n + 1, .node k r x y, es, ab, be, h, hs, ha, hb => by
    obtain ⟨hx, hy⟩ := szx h
    obtain ⟨s1, s2, s3, s4⟩ := nodeS hs
    have ew : wSum b m lo hi (.node k r x y) ab be = if insideB lo hi ab be then [] else entT b m k r x y :: ((if strLt lo k then wSum b m lo hi x ab (some k) else []) ++ (if strLt k hi then wSum b m lo hi y (some k) be else [])) := rfl
    have er : (Tr.node k r x y).rows = x.rows ++ (k, r) :: y.rows := rfl
    rw [mMs, if_neg (kn_n b m k r x y), ew]
    cases c : insideB lo hi ab be with
    | true =>
      rw [if_pos rfl, if_pos rfl, inside_all c ha hb, List.append_nil, ← link_sum b m]
      rfl
    | false =>
      rw [if_neg Bool.false_ne_true, if_neg Bool.false_ne_true, opn_kn]
      rw [er] at ha hb ⊢
      show bnd (if strLt lo k then bnd (mMs b m n (.kn (es ++ [entT b m k r x y])) (kn b m x) lo hi ab (some k)) fun z st2 => .ok (add4 (own4 lo hi (k, r, kn b m x, kn b m y)) z, st2) else .ok (own4 lo hi (k, r, kn b m x, kn b m y), .kn (es ++ [entT b m k r x y]))) (fun t st2 => bnd (if strLt k hi then bnd (mMs b m n st2 (kn b m y) lo hi (some k) be) fun z st3 => .ok (add4 t z, st3) else .ok (t, st2)) fun t st3 => .ok (t, st3)) = _
      have eo : own4 lo hi (k, r, kn b m x, kn b m y) = sum4 (if inB lo hi (k, r) then [(k, r)] else []) := by
        show (if inB lo hi (k, r) then (1, cellI r 0, cellI r 1, cellI r 2) else (0, 0, 0, 0) : I4) = _
        split
        · show _ = ((1 : Int), cellI r 0 + 0, cellI r 1 + 0, cellI r 2 + 0)
          rw [Int.add_zero, Int.add_zero, Int.add_zero]
        · rfl
      rw [eo]
      generalize hO : (if inB lo hi (k, r) then [(k, r)] else [] : Tab) = O
      have e1 : (if strLt lo k then bnd (mMs b m n (.kn (es ++ [entT b m k r x y])) (kn b m x) lo hi ab (some k)) fun z st2 => .ok (add4 (sum4 O) z, st2) else .ok (sum4 O, .kn (es ++ [entT b m k r x y]))) = .ok (add4 (sum4 O) (sum4 (x.rows.filter (inB lo hi))), .kn (es ++ [entT b m k r x y] ++ (if strLt lo k then wSum b m lo hi x ab (some k) else []))) := by
        cases c : strLt lo k with
        | true =>
          rw [if_pos rfl, if_pos rfl, mMs_kn n x _ _ _ hx s1 (fun z hz u hu => ha z hz u (List.mem_append_left _ hu)) (fun z hz u hu => by cases hz; exact s3 u hu)]
          rfl
        | false =>
          rw [if_neg Bool.false_ne_true, if_neg Bool.false_ne_true, List.append_nil]
          rw [filt_none fun u hu => ?_, add4_zero]
          unfold inB
          have : strLt u.1 lo = true := by
            rcases Decidable.em (u.1 = lo) with q | q
            · rw [← q, s3 u hu] at c; cases c
            · rcases strLt_or q with z | z
              · exact z
              · rw [strLt_trans z (s3 u hu)] at c; cases c
          rw [this]
          rfl
      rw [e1]
      show bnd (if strLt k hi then bnd (mMs b m n (.kn (es ++ [entT b m k r x y] ++ (if strLt lo k then wSum b m lo hi x ab (some k) else []))) (kn b m y) lo hi (some k) be) fun z st3 => .ok (add4 (add4 (sum4 O) (sum4 (x.rows.filter (inB lo hi)))) z, st3) else .ok (add4 (sum4 O) (sum4 (x.rows.filter (inB lo hi))), .kn (es ++ [entT b m k r x y] ++ (if strLt lo k then wSum b m lo hi x ab (some k) else [])))) (fun t st3 => .ok (t, st3)) = _
      have e2 : ∀ (fs : List D) (q : I4), (if strLt k hi then bnd (mMs b m n (.kn fs) (kn b m y) lo hi (some k) be) fun z st3 => .ok (add4 q z, st3) else .ok (q, .kn fs)) = .ok (add4 q (sum4 (y.rows.filter (inB lo hi))), .kn (fs ++ (if strLt k hi then wSum b m lo hi y (some k) be else []))) := by
        intro fs q
        cases c : strLt k hi with
        | true =>
          rw [if_pos rfl, if_pos rfl, mMs_kn n y _ _ _ hy s2 (fun z hz u hu => by cases hz; exact s4 u hu) (fun z hz u hu => hb z hz u (List.mem_append_right _ (List.mem_cons_of_mem _ hu)))]
          rfl
        | false =>
          rw [if_neg Bool.false_ne_true, if_neg Bool.false_ne_true, List.append_nil]
          rw [filt_none fun u hu => ?_, add4_zero]
          unfold inB
          have : strLt u.1 hi = false := by
            cases q : strLt u.1 hi with
            | false => rfl
            | true => rw [strLt_trans (s4 u hu) q] at c; cases c
          rw [this, Bool.and_false]
      rw [e2]
      have e3 : (x.rows ++ (k, r) :: y.rows).filter (inB lo hi) = x.rows.filter (inB lo hi) ++ O ++ y.rows.filter (inB lo hi) := by
        rw [List.filter_append, List.filter_cons, ← hO]
        split
        · rw [List.append_assoc]; rfl
        · rw [List.append_nil]
      rw [e3, sum4_app, sum4_app, add4_comm (sum4 O), List.append_assoc, List.append_assoc]
      rfl
/-! ### a walk for a query -/
inductive Rs where
  | d (x : D) | l (t : Tab)
def Rs.D : Rs → D
  | .d x => x
  | .l t => tabD t
def comp4 (c : Int) (x : I4) : Int := if c = 0 then x.2.1 else if c = 1 then x.2.2.1 else x.2.2.2
def mWalk (b m : Int) (n : Nat) (st : SrcS) (pi : PI) : Qy → Except Rf (Rs × SrcS)
  | .get k => bnd (mFound b m n st pi k) fun d st' => .ok (.d d, st')
  | .rng lo hi => bnd (mBtw b m n st pi lo hi) fun a st' => .ok (.l a, st')
  | .nxt k c => bnd (mNxt b m n st pi k c 0) fun a st' => .ok (.l a, st')
  | .cnt lo hi => bnd (mMs b m n st pi lo hi none none) fun x st' => .ok (.d (.int x.1), st')
  | .sm c lo hi => bnd (mMs b m n st pi lo hi none none) fun x st' => .ok (.d (.int (comp4 c x)), st')
  | .plc k => bnd (mPlace b m n st pi k 0) fun i st' => .ok (.d (.int i), st')
  | .at i => bnd (mAt b m n st pi i) fun d st' => .ok (.d d, st')
def rsOf (rows : Tab) : Qy → Rs
  | .rng lo hi => .l (rows.filter (inB lo hi))
  | .nxt b n => .l ((rows.filter fun r => strLt b r.1).take n.toNat)
  | q => .d (ansD rows q)
theorem rsOf_D (rows : Tab) (q : Qy) : (rsOf rows q).D = ansD rows q := by cases q <;> rfl
/-- what a walk opens -/
def certT (b m : Int) (t : Tr) : Qy → List D
  | .get k => wGet b m k t
  | .rng lo hi => wRng b m lo hi t
  | .nxt k c => (wNxtL b m k c t 0).2
  | .cnt lo hi => wSum b m lo hi t none none
  | .sm _ lo hi => wSum b m lo hi t none none
  | .plc k => wPlc b m k t
  | .at i => wAt b m t i
theorem mWalk_kn {b m : Int} {n : Nat} {t : Tr} {q : Qy} (h : t.size < n) (hs : srt t) (hq : isQ q) : mWalk b m n (.kn []) (kn b m t) q = .ok (rsOf t.rows q, .kn (certT b m t q)) := by
  have no : ∀ l : Tab, (∀ z, (none : Option Str) = some z → ∀ u ∈ l, strLt z u.1 = true) ∧ (∀ z, (none : Option Str) = some z → ∀ u ∈ l, strLt u.1 z = true) := fun l => ⟨fun z hz => (nomatch hz), fun z hz => (nomatch hz)⟩
  cases q with
  | get k => rw [mWalk, mFound_kn n t [] h hs]; rfl
  | rng lo hi => rw [mWalk, mBtw_kn n t [] h hs]; rfl
  | nxt k c => rw [mWalk, (mNxt_kn n t [] 0 h hs).1, Int.sub_zero]; rfl
  | cnt lo hi => rw [mWalk, mMs_kn n t [] _ _ h hs (no _).1 (no _).2]; rfl
  | sm c lo hi =>
    rw [mWalk, mMs_kn n t [] _ _ h hs (no _).1 (no _).2]
    show Except.ok (Rs.d (.int (comp4 c (sum4 (t.rows.filter (inB lo hi))))), SrcS.kn _) = Except.ok (Rs.d (.int ((t.rows.filter (inB lo hi)).map fun r => cellI r.2 c.toNat).sum), SrcS.kn _)
    have : c = 0 ∨ c = 1 ∨ c = 2 := by have := hq.1.1; have := hq.1.2; omega
    rcases this with e | e | e <;> subst e <;> rfl
  | plc k => rw [mWalk, mPlace_kn n t [] 0 h hs, Int.zero_add]; rfl
  | «at» i => rw [mWalk, mAt_kn n t [] i h hq.1]; rfl
def spWalk (c : Cs) (C : Addr) (q : Bool) (n : Nat) : GSp := fun ws S Kp Xp => ∃ s e p b m st pi qy, ws = [.hd s, .hd p, .fz (qD qy)] ∧ Wk c C q S s e p b m st pi ∧ isQ qy ∧ meas st pi < n ∧
  Ends c C S s e b m [s, e, p] (mWalk b m n st pi qy) (fun r S' => match r with
    | .d d => Kp (.fz d) S'
    | .l t => ∀ f, S.length ≤ f → S'[f]? = some (.lst ((t.map tabR).map W.fz)) → Kp (.hd f) S') Xp
/-- a query is answered: what comes out -/
def spAnswered (n : Nat) : PSp := fun ds Q => ∃ b m rows q, ds = [ruleD b m, tabD rows, qD q] ∧ isRule b m ∧ isTab rows ∧ rows.length < n ∧ n ≤ 100 ∧ isQ q ∧ Q (.tup [ansD rows q, .lst (certT b m (treeT rows) q)])
end DL
namespace DL
open PySem PySem.Spec PyProof.Rows L2
/-! ### the walks of the law -/
def LwP (S : Sto) (f : Nat) (es : List D) (t : Tr) (n : Nat) : Prop := S[f]? = some (.lst (es.map W.fz)) ∧ es.length + t.size ≤ 900 ∧ okTr t ∧ t.size < n
def LwE (S : Sto) (f : Nat) (es new : List D) (Kp : WK) (d : D) : Prop := Kp (.fz d) (S.set f (.lst ((es ++ new).map W.fz)))
theorem LwE.nil {S : Sto} {f : Nat} {es : List D} {Kp : WK} {d : D} (h : LwE S f es [] Kp d) (e : S[f]? = some (.lst (es.map W.fz))) : Kp (.fz d) S := by
  unfold LwE at h
  rw [List.append_nil] at h
  have hl := (List.getElem?_eq_some_iff.mp e).1
  have : S.set f (.lst (es.map W.fz)) = S := by
    refine List.ext_getElem? fun i => ?_
    by_cases z : f = i
    · subst z; rw [List.getElem?_set_self hl, e]
    · rw [List.getElem?_set_ne z]
  rw [this] at h
  exact h
/-- one more was noted -/
theorem LwP.snoc {S : Sto} {f : Nat} {es : List D} {t x : Tr} {n : Nat} {d : D} (h : LwP S f es t (n + 1)) (hx : okTr x) (hs : x.size < t.size) : LwP (S.set f (.lst (es.map W.fz ++ [W.fz d]))) f (es ++ [d]) x n :=
  ⟨by rw [List.getElem?_set_self (List.getElem?_eq_some_iff.mp h.1).1, List.map_append]; rfl, by have := h.2.1; rw [List.length_append]; show es.length + 1 + x.size ≤ 900; omega, hx, by have := h.2.2.2; omega⟩
theorem LwE.snoc {S : Sto} {f : Nat} {es : List D} {d0 : D} {new : List D} {Kp : WK} {d : D} (w : W) (h : LwE S f es (d0 :: new) Kp d) : LwE (S.set f (.lst (es.map W.fz ++ [w]))) f (es ++ [d0]) new Kp d := by
  unfold LwE at h ⊢
  rw [List.set_set, List.append_assoc]
  exact h
theorem LwE.done {S : Sto} {f : Nat} {es : List D} {d0 : D} {Kp : WK} {d : D} (h : LwE S f es [d0] Kp d) : Kp (.fz d) (S.set f (.lst (es.map W.fz ++ [W.fz d0]))) := by
  unfold LwE at h
  rw [List.map_append] at h
  exact h
theorem wRng_len (b m : Int) (lo hi : Str) : ∀ t : Tr, (wRng b m lo hi t).length ≤ t.size
  | .nil => Nat.le_refl _
  | .node k r x y => by
    show ((if strLt lo k then wRng b m lo hi x else []) ++ (if strLt k hi then wRng b m lo hi y else [])).length + 1 ≤ x.size + y.size + 1
    have h1 := wRng_len b m lo hi x
    have h2 := wRng_len b m lo hi y
    rw [List.length_append]
    split <;> split <;> simp <;> omega
theorem wSum_len (b m : Int) (lo hi : Str) : ∀ (t : Tr) (ab be : Option Str), (wSum b m lo hi t ab be).length ≤ t.size
  | .nil, _, _ => Nat.le_refl _
  | .node k r x y, ab, be => by
    show (if insideB lo hi ab be then [] else entT b m k r x y :: ((if strLt lo k then wSum b m lo hi x ab (some k) else []) ++ (if strLt k hi then wSum b m lo hi y (some k) be else []))).length ≤ x.size + y.size + 1
    have h1 := wSum_len b m lo hi x ab (some k)
    have h2 := wSum_len b m lo hi y (some k) be
    split
    · exact Nat.zero_le _
    · rw [List.length_cons, List.length_append]
      split <;> split <;> simp <;> omega
theorem wNxt_len (b m : Int) (key : Str) (cnt : Int) : ∀ (t : Tr) (got : Int), (wNxtL b m key cnt t got).2.length ≤ t.size
  | .nil, _ => Nat.le_refl _
  | .node k r x y, got => by
    rw [wNxtL]
    have h1 := wNxt_len b m key cnt x got
    split
    · exact Nat.zero_le _
    · show (_ ++ _ : List D).length + 1 ≤ x.size + y.size + 1
      rw [List.length_append]
      have h2 := fun g => wNxt_len b m key cnt y g
      split
      · refine Nat.succ_le_succ (Nat.add_le_add h1 (h2 _))
      · refine Nat.succ_le_succ (Nat.add_le_add (Nat.zero_le _) (h2 _))
def spLGet (n : Nat) : GSp := fun ws S Kp _ => ∃ b m t key f es, ws = [.fz (treeD b m t), .fz (.str key), .hd f] ∧ PyData.strOk key = true ∧ LwP S f es t n ∧ LwE S f es (wGet b m key t) Kp .non
def spLPlc (n : Nat) : GSp := fun ws S Kp _ => ∃ b m t key f es, ws = [.fz (treeD b m t), .fz (.str key), .hd f] ∧ PyData.strOk key = true ∧ LwP S f es t n ∧ LwE S f es (wPlc b m key t) Kp .non
def spLAt (n : Nat) : GSp := fun ws S Kp _ => ∃ b m t i f es, ws = [.fz (treeD b m t), .fz (.int i), .hd f] ∧ 0 ≤ i ∧ LwP S f es t n ∧ LwE S f es (wAt b m t i) Kp .non
def spLRng (n : Nat) : GSp := fun ws S Kp _ => ∃ b m t lo hi f es, ws = [.fz (treeD b m t), .fz (.str lo), .fz (.str hi), .hd f] ∧ PyData.strOk lo = true ∧ PyData.strOk hi = true ∧ LwP S f es t n ∧ LwE S f es (wRng b m lo hi t) Kp .non
def spLNxt (n : Nat) : GSp := fun ws S Kp _ => ∃ b m t key cnt got f es, ws = [.fz (treeD b m t), .fz (.str key), .fz (.int cnt), .fz (.int got), .hd f] ∧ PyData.strOk key = true ∧ LwP S f es t n ∧ LwE S f es (wNxtL b m key cnt t got).2 Kp (.int (wNxtL b m key cnt t got).1)
def spLSum (n : Nat) : GSp := fun ws S Kp _ => ∃ b m t lo hi ab be f es, ws = [.fz (treeD b m t), .fz (.str lo), .fz (.str hi), .fz (optSD ab), .fz (optSD be), .hd f] ∧ PyData.strOk lo = true ∧ LwP S f es t n ∧ LwE S f es (wSum b m lo hi t ab be) Kp .non
end DL
namespace DL
open PySem PySem.Spec PyProof.Rows L2
def spLCert (n : Nat) : PSp := fun ds Q => ∃ b m rows q, ds = [ruleD b m, tabD rows, qD q] ∧ isRule b m ∧ isTab rows ∧ rows.length < n ∧ n ≤ 100 ∧ isQ q ∧ Q (.lst (certT b m (treeT rows) q))
end DL
namespace DL
open PySem PySem.Spec PyProof.Rows L2
/-! ### what an answer and a certificate are -/
def isEnt (e : D) : Prop := ∃ (k : Str) (r : List Int) (x y : Link), e = entD k r x y ∧ isKey k ∧ isRow r
theorem ent_ok {e : D} {n : Nat} (h : isEnt e) : okD (n + 3) e = true := by
  obtain ⟨k, r, x, y, rfl, hk, hr⟩ := h
  show (okD (n + 2) (.str k) && (okD (n + 2) (rowD r) && (okD (n + 2) (linkD x) && (okD (n + 2) (linkD y) && true)))) = true
  rw [ok_str (key_ok hk), ok_row]
  rfl
def isEntL (ds : List D) : Prop := ∀ e ∈ ds, isEnt e
theorem isEntL.nil : isEntL [] := fun e h => nomatch h
theorem isEntL.cons {d : D} {ds : List D} (h : isEnt d) (g : isEntL ds) : isEntL (d :: ds) := fun e he => by
  rcases List.mem_cons.mp he with z | z
  · rw [z]; exact h
  · exact g e z
theorem isEntL.app {a b : List D} (h : isEntL a) (g : isEntL b) : isEntL (a ++ b) := fun e he => by
  rcases List.mem_append.mp he with z | z
  · exact h e z
  · exact g e z
theorem isEntL.ite {p : Prop} [Decidable p] {a b : List D} (h : isEntL a) (g : isEntL b) : isEntL (if p then a else b) := by
  split
  · exact h
  · exact g
theorem wGet_ent {b m : Int} {key : Str} : ∀ {t : Tr}, okTr t → isEntL (wGet b m key t)
  | .nil, _ => .nil
  | .node k r x y, h => .cons ⟨k, r, _, _, rfl, h.1, h.2.1⟩ (.ite (wGet_ent h.2.2.1) (.ite (wGet_ent h.2.2.2) .nil))
theorem wPlc_ent {b m : Int} {key : Str} : ∀ {t : Tr}, okTr t → isEntL (wPlc b m key t)
  | .nil, _ => .nil
  | .node k r x y, h => .cons ⟨k, r, _, _, rfl, h.1, h.2.1⟩ (.ite (wPlc_ent h.2.2.2) (wPlc_ent h.2.2.1))
theorem wAt_ent {b m : Int} : ∀ {t : Tr} {i : Int}, okTr t → isEntL (wAt b m t i)
  | .nil, _, _ => .nil
  | .node k r x y, i, h => .ite .nil (.cons ⟨k, r, _, _, rfl, h.1, h.2.1⟩ (.ite (wAt_ent h.2.2.1) (.ite (wAt_ent h.2.2.2) .nil)))
theorem wRng_ent {b m : Int} {lo hi : Str} : ∀ {t : Tr}, okTr t → isEntL (wRng b m lo hi t)
  | .nil, _ => .nil
  | .node k r x y, h => .cons ⟨k, r, _, _, rfl, h.1, h.2.1⟩ (.app (.ite (wRng_ent h.2.2.1) .nil) (.ite (wRng_ent h.2.2.2) .nil))
theorem wSum_ent {b m : Int} {lo hi : Str} : ∀ {t : Tr} {ab be : Option Str}, okTr t → isEntL (wSum b m lo hi t ab be)
  | .nil, _, _, _ => .nil
  | .node k r x y, ab, be, h => .ite .nil (.cons ⟨k, r, _, _, rfl, h.1, h.2.1⟩ (.app (.ite (wSum_ent h.2.2.1) .nil) (.ite (wSum_ent h.2.2.2) .nil)))
theorem wNxt_ent {b m : Int} {key : Str} {cnt : Int} : ∀ {t : Tr} {got : Int}, okTr t → isEntL (wNxtL b m key cnt t got).2
  | .nil, _, _ => .nil
  | .node k r x y, got, h => by
    rw [wNxtL]
    split
    · exact .nil
    · refine .cons ⟨k, r, _, _, rfl, h.1, h.2.1⟩ (.app ?_ (wNxt_ent h.2.2.2))
      split
      · exact wNxt_ent h.2.2.1
      · exact .nil
theorem cert_ent {b m : Int} {t : Tr} {q : Qy} (h : okTr t) : isEntL (certT b m t q) := by
  cases q with
  | get k => exact wGet_ent h
  | rng lo hi => exact wRng_ent h
  | nxt k c => exact wNxt_ent h
  | cnt lo hi => exact wSum_ent h
  | sm c lo hi => exact wSum_ent h
  | plc k => exact wPlc_ent h
  | «at» i => exact wAt_ent h
theorem entL_ok {ds : List D} {n : Nat} (h : isEntL ds) : okD (n + 4) (.lst ds) = true := okDL_of fun d hd => ent_ok (h d hd)
theorem tabD_ok {l : Tab} {n : Nat} (h : ∀ r ∈ l, isKey r.1) : okD (n + 3) (tabD l) = true := by
  refine okDL_of fun d hd => ?_
  obtain ⟨r, hr, rfl⟩ := List.mem_map.mp hd
  exact ok_tabR (h r hr)
theorem ansD_ok {rows : Tab} {q : Qy} {n : Nat} (h : isTab rows) : okD (n + 3) (ansD rows q) = true := by
  cases q with
  | get k =>
    show okD (n + 3) (getD rows k) = true
    unfold getD
    split
    · exact ok_row _ _
    · rfl
  | rng lo hi => exact tabD_ok fun r hr => (h.2 r (List.mem_filter.mp hr).1).1
  | nxt k c => exact tabD_ok fun r hr => (h.2 r (List.mem_filter.mp (List.mem_of_mem_take hr)).1).1
  | cnt lo hi => rfl
  | sm c lo hi => rfl
  | plc k => rfl
  | «at» i =>
    show okD (n + 3) (match rows[i.toNat]? with | some r => tabR r | none => .non) = true
    split
    · rename_i r e
      exact ok_tabR (h.2 r (List.mem_of_getElem? e)).1
    · rfl
theorem ansD_ty {rows : Tab} {q : Qy} {S : Sto} {k : Ty → Prop} (h : ∀ t, isTy t Ty.bool = false → k t) : onO (tyW S (.fz (ansD rows q))) k := by
  have : ansD rows q = .non ∨ (∃ i, ansD rows q = .int i) ∨ (∃ ds, ansD rows q = .tup ds) ∨ ∃ ds, ansD rows q = .lst ds := by
    cases q with
    | get k =>
      have e : ansD rows (.get k) = getD rows k := rfl
      rw [e]
      unfold getD
      split
      · exact .inr (.inr (.inl ⟨_, rfl⟩))
      · exact .inl rfl
    | rng lo hi => exact .inr (.inr (.inr ⟨_, rfl⟩))
    | nxt k c => exact .inr (.inr (.inr ⟨_, rfl⟩))
    | cnt lo hi => exact .inr (.inl ⟨_, rfl⟩)
    | sm c lo hi => exact .inr (.inl ⟨_, rfl⟩)
    | plc k => exact .inr (.inl ⟨_, rfl⟩)
    | «at» i =>
      have e : ansD rows (.at i) = (match rows[i.toNat]? with | some r => tabR r | none => .non) := rfl
      rw [e]
      split
      · exact .inr (.inr (.inl ⟨_, rfl⟩))
      · exact .inl rfl
  rcases this with e | ⟨i, e⟩ | ⟨i, e⟩ | ⟨i, e⟩ <;> rw [e]
  · exact h _ rfl
  · exact h _ rfl
  · exact h _ rfl
  · exact h _ rfl
end DL
/-! DC9: an own exception whose __init__ begins with super().__init__(..); raise -/
namespace DL
open PySem PySem.Spec PyProof.Rows L2
/-- ValueError.__init__ bound to x, at q -/
def mwo (q x : Addr) : HO := .ext fun h => h.get? q = some (PySem.W.kxs_mw "ValueError.__init__" x)
theorem mwo_ok {P : Program} {w : World} {H : Hp} {h : Heap} {q x : Addr} (he : h.get? q = some (PySem.W.kxs_mw "ValueError.__init__" x)) : ObjOk P w H h q (mwo q x) := ⟨he, ⟨_, he⟩, fun h1 h2 z k => k _ z⟩
theorem mwo_at {P : Program} {w : World} {H : Hp} {h : Heap} {q x : Addr} (hok : HOk P w H h) (he : H q = some (mwo q x)) : h.get? q = some (PySem.W.kxs_mw "ValueError.__init__" x) := by
  have z : ObjOk P w H h q (.ext fun h => h.get? q = some (PySem.W.kxs_mw "ValueError.__init__" x)) := hok q _ he
  exact z.1
/-- what is known of such an __init__ -/
structure SupE (P : Program) (K : PySem.W.Frag) (qual : Str) (st : Stmt) (C f : Addr) : Prop where
  ex : ∃ (oc : Value) (od : Option Addr) (kV doc pm : Value) (an : Option Addr) (cda : Addr) (ct : Value) (cc : Addr) (osl : Array (Option Value)) (ccl : Value) (cdd : Option Addr) (vs : Array Value) (ccs : Array (Option Value)) (file : Str) (tf : Tok) (cl : Value) (cld : Option Addr) (csl : Array (Option Value)),
    K.lookup f = some ⟨oc, od, .func (PySem.W.ksFn "__init__" qual (C8.fnArgs st) (C8.fnBody st) (C8.fnScope st) .none kV doc pm an (.ref cda) ct cc), osl⟩ ∧ PySem.W.codeIn K (.ref cda) qual = true ∧
    K.lookup cda = some ⟨ccl, cdd, .fields vs, ccs⟩ ∧ vs[2]? = some (.str file tf) ∧ ((P.main.file : Str) == file) = true ∧ K.lookup cc = some ⟨cl, cld, .cell (some (.ref C)), csl⟩
  cls : ∃ cd, PySem.W.clsIn K C = some cd
  sub : PySem.W.mroIn K C (.ref C) = some true
  top : (P.main.scope.names.lookup ("super" : Str)).isSome = false
  any : PySem.W.nsIn K cStatics "thirdparty.any" = some none
  nxt : PySem.W.ks_superIn K C C "__init__" = some (some (.builtin "ValueError.__init__"))
  sb : PySem.W.subIn K (.ref C) (.type "ValueError") = some true
  oex : OexC K C
theorem sup_exc {X : Cx} {pins : List (Addr × Obj)} {σ : L2.St} {H : Hp} {s : Shared} {a C f cc cda : Addr} {qual : Str} {scope : Scope} {L : Addr} {body : List Stmt} {p0 p1 apos pos : Pos} {e : Expr} {es : List Expr} {t : TA} {Q : VK} {ar : Arg} {fd : FuncData}
    {oc : Value} {od : Option Addr} {osl : Array (Option Value)} {ccl : Value} {cdd : Option Addr} {vs : Array Value} {ccs : Array (Option Value)} {file : Str} {tf : Tok} {cl : Value} {cld : Option Addr} {csl : Array (Option Value)} {cdD : ClassData}
    (he : X.env = PySem.W.ksEnv qual scope L f (.ref cda) cc) (I : Inv X pins σ H s) (hN : X.N[0]? = some ar.arg) (h0 : σ[0]? = some (some (.ref a))) (ha : H a = some (exo a C none))
    (lk : X.K.lookup f = some ⟨oc, od, .func fd, osl⟩) (hp : (fd.params.posonlyargs ++ fd.params.args).head? = some ar) (hcode : X.K.lookup cda = some ⟨ccl, cdd, .fields vs, ccs⟩) (hvs : vs[2]? = some (.str file tf)) (hfile : ((X.prog.main.file : Str) == file) = true)
    (hcell : X.K.lookup cc = some ⟨cl, cld, .cell (some (.ref C)), csl⟩) (hD : PySem.W.clsIn X.K C = some cdD) (hsub : PySem.W.mroIn X.K C (.ref C) = some true) (hm : X.mg "super" = none) (htop : (X.prog.main.scope.names.lookup ("super" : Str)).isSome = false)
    (hany : PySem.W.nsIn X.K cStatics "thirdparty.any" = some none) (hnx : PySem.W.ks_superIn X.K C C "__init__" = some (some (.builtin "ValueError.__init__"))) (hB : PySem.W.subIn X.K (.ref C) (.type "ValueError") = some true) (T : OexC X.K C)
    (hks : scope.names.lookup ("super" : Str) = some .globalImplicit) (hkc : scope.names.lookup ("__class__" : Str) = some .free) (hka : scope.names.lookup ar.arg = some .local) (hk : scope.kind = .function) (hPA : PA X (e :: es) t)
    (hq : ∀ q, H q = none → t σ (upd H q (mwo q a)) fun ws H2 => ws.length ≤ 1000 ∧ H2 q = some (mwo q a) ∧ H2 a = some (exo a C none) ∧ Q .non H2)
    (hs1 : starEach (e :: es) X.env = (false, eval e X.env) :: starEach es X.env) (hpl : (backTo pos (starEach es X.env)).any (·.1) = false)
    (hev : eval (.Call (.Attribute (.Call (.Name "super" p0) [] [] p1) "__init__" apos) (e :: es) [] pos) X.env = (do
      let ov ← attributeBase (.Call (.Name "super" p0) [] [] p1) "__init__" X.env (eval (.Call (.Name "super" p0) [] [] p1) X.env)
      standAt apos.atName
      let (f, first) ← holding [ov] (getMethod ov "__init__" (pure false))
      callWith pos f first (backTo pos (starEach (e :: es) X.env)) [])) :
    PySem.wpAt (model X.prog X.w) X.A (.func body X.env) (eval (.Call (.Attribute (.Call (.Name "super" p0) [] [] p1) "__init__" apos) (e :: es) [] pos) X.env) (EP X pins σ Q) X.xe s := by
  refine PySem.ks_wpAt_MethodCall (pl := pure false) ?_ hev
  have KX := I.kIn
  obtain ⟨oD, hD1, hD2⟩ : ∃ oD, s.heap.get? C = some oD ∧ oD.data = .cls cdD := by
    unfold PySem.W.clsIn at hD
    split at hD
    · rename_i c d cd' sl ho
      cases hD
      exact ⟨_, KX _ _ ho, rfl⟩
    · cases hD
  obtain ⟨t1, ho⟩ := exo_at I.hok ha
  have J : PySem.W.InstAt s.heap a ({ cls := .ref C, dict := none, data := .fields #[.ref t1, .none, .none, .none, .bool false, .none] } : Obj) C none := ⟨ho, rfl, rfl, trivial⟩
  have hks' : X.env.kindOf "super" = some .globalImplicit := by rw [he]; exact hks
  have hkc' : X.env.kindOf "__class__" = some .free := by rw [he]; exact hkc
  have hka' : X.env.kindOf ar.arg = some .local := by rw [he]; exact hka
  have hk' : X.env.scope.kind = .function := by rw [he]; exact hk
  refine PySem.ks_wpAt_super_base hks' hkc' rfl (show X.env.func = some f by rw [he]) (KX _ _ lk) rfl hp (show X.env.code = .ref cda by rw [he]) (KX _ _ hcode) rfl hvs hfile htop ?_
  obtain ⟨mb, b1, b2⟩ := I.mod.blt
  refine PySem.W.ks_loadName_global hk' hks' (Calls.loadGlobal_builtin (by rw [I.ok.glob]; exact I.mod.glob.keeps I.bk) hm (by rw [I.ok.blt]; exact b1.keeps I.bk) ((b2 "super" (by decide)).trans (by first | exact PyProof.Rows.boot_super | exact PySem.boot_super | decide +kernel)) ⟨rfl, ?_⟩)
  have hcl : X.env.cells.lookup ("__class__" : Str) = some cc := by rw [he]; rfl
  refine wpAny_loadName_free hk' hkc' hcl ⟨_, KX _ _ hcell, rfl⟩ ?_
  obtain ⟨m, hn, hlk⟩ := id I.loc
  obtain ⟨u, ru, hlook⟩ := hlk 0 ar.arg (.ref a) hN h0 (by rw [he]; exact .inl hka)
  have hmv : m ar.arg = some u := by
    rcases hlook with ⟨_, h⟩ | ⟨h | h, _⟩
    · exact h
    · rw [hka'] at h; cases h
    · rw [hka'] at h; cases h
  obtain rfl : u = Value.ref a := ru
  refine wpAny_loadName_local hk' hka' hn hmv ?_
  obtain ⟨hh, g, d, tk, os⟩ := s
  refine PySem.ks_wpAny_isType_cls hD1 hD2 ⟨rfl, ?_⟩
  refine PySem.ks_wpAny_call_super hD1 hD2 J.at_ J.cls (fun c e => ?_) (PySem.W.looks_mroIn KX hsub) (fun h' e1 k1 => ?_)
  · have := J.no
    unfold PySem.W.notCls at this
    rw [e] at this
    exact Bool.noConfusion this
  have I1 : Inv X pins σ H ⟨h', g, d, tk, os⟩ := I.kept (t' := tk) k1
  have KX1 := I1.kIn
  have hnx2 := hnx
  unfold PySem.W.ks_superIn at hnx2
  rw [hD] at hnx2
  have J1 : PySem.W.InstAt h' a ({ cls := .ref C, dict := none, data := .fields #[.ref t1, .none, .none, .none, .bool false, .none] } : Obj) C none := ⟨k1 _ _ ho, rfl, rfl, trivial⟩
  refine PySem.W.kxs_getMethod PySem.W.kxs_ValueError e1 (PySem.W.looks_opaque KX1 hany) (l₀ := cdD.mro) ?_ rfl KX1 hnx2 (J1.type.andThen (PySem.W.looks_subIn KX1 hB)) (PySem.W.ks_ne KX1 J1 hD) rfl ?_
  · exact fun A Q E s k q => wpAny_bind ((PySem.W.looks_clsIn KX1 hD) A _ E s k (wpAny_pure q))
  have hnq : H h'.objs.size = none := I1.hok.fresh (Nat.le_refl _)
  have I2 : Inv X pins σ (upd H h'.objs.size (mwo h'.objs.size a)) ⟨h'.push (PySem.W.kxs_mw "ValueError.__init__" a), g, d, tk + 1, os⟩ :=
    I1.laid (t' := tk + 1) (a := h'.objs.size) (o := mwo h'.objs.size a) (fun b u z => Heap.get?_push_of_some _ z) (Nat.le_refl _) (mwo_ok (Heap.get?_push_size h' rfl))
  show wpAny _ _ (callWith pos (.ref h'.objs.size) [] (backTo pos (starEach (e :: es) X.env)) []) _ _ _
  rw [hs1]
  refine PySem.W.kxs_callWith (i := "ValueError.__init__") (x := a) (by show (false || (backTo pos (starEach es X.env)).any (·.1)) = false; rw [hpl]; rfl) ?_
  refine Calls.evalArgs_plain ?_
  have hA := hPA.run pos pins _ σ _ _ I2 (hq _ hnq)
  rw [hs1] at hA
  refine thn hA fun us s3 ⟨ws, H3, I3, r, hwl, hmet, hex, hQ⟩ => ⟨mwo_at I3.hok hmet, ?_⟩
  obtain ⟨nm, q, N, bs, bm, sn, sub, ab, col, dd, k0, k1', k2, k3, k5, hC, hbm⟩ := T.cls
  have hu := mwo_at I3.hok hmet
  obtain ⟨t3, hoe⟩ := exo_at I3.hok hex
  have hlen : us.length ≤ sizeLine := by
    rw [← Paired.length r, sizeLine_eq]
    omega
  have hC3 := I3.kIn _ _ hC
  obtain ⟨hh3, g3, d3, tk3, os3⟩ := s3
  refine wpAny_call (codeAny_of_tree ?_)
  show wpAny _ _ (callAny (.ref h'.objs.size) ⟨us, []⟩) _ _ _
  simp only [callAny]
  refine wpAny_bind (wpAny_load hu ?_)
  simp only [PySem.W.kxs_mw, show (Value.type "method-wrapper" == Value.type "method" || Value.type "method-wrapper" == Value.type "builtin_function_or_method" || Value.type "method-wrapper" == Value.type "method-wrapper") = true by decide, if_true]
  refine PySem.W.KFB.if_so (by decide) ?_
  refine wpAny_bind (PySem.W.check_bound_init F.excBase_ValueError.toExcCallFacts hC3 hoe rfl ?_)
  refine wpAny_bind (wpAny_pure (wpAny_pure ?_))
  refine ⟨plainId_quiet F.excBase_ValueError.init.plain _, codeAny_builtin F.excBase_ValueError.initEntry ?_⟩
  refine PySem.W.exc_init_tree (cls := .ref C) (t0 := t3) (dv := none) (c2 := .none) (c3 := .none) (b4 := .bool false) hoe hlen fun h4 kk hx _ => ?_
  have J4 := I3.write (t' := tk3) (x := a) (e := a) (o := exo a C none) (by rw [hex]; exact True.intro) (.inl rfl) kk ⟨_, hx⟩ (exo_ok hx)
  have eu : upd H3 a (exo a C none) = H3 := by
    funext b
    by_cases hb : b = a
    · rw [hb, upd_same, hex]
    · rw [upd_ne hb]
  rw [eu] at J4
  exact ⟨.non, H3, J4, rfl, hQ⟩
/-- THE RULE for such an __init__ -/
theorem fnSupE {CX : CXT} {P : Program} {w : World} {K : PySem.W.Frag} {mg : Str → Option Value} {base : Heap} {N ps : List Str} {qual : Str} {st : Stmt} {C f : Addr} {k : Nat} {sp : Sp} {p0 p1 apos pos pos2 : Pos} {e : Expr} {es : List Expr} {rest : List Stmt} {ar : Arg}
    (SF : SupE P K qual st C f) (hmsup : mg "super" = none) (hst : C8.fnBody st = .Expr (.Call (.Attribute (.Call (.Name "super" p0) [] [] p1) "__init__" apos) (e :: es) [] pos) pos2 :: rest) (S : ScopeS N ps (C8.fnScope st))
    (har : ((C8.fnArgs st).posonlyargs ++ (C8.fnArgs st).args).head? = some ar) (hN0 : N[0]? = some ar.arg) (hpar : (C8.fnScope st).names.lookup ar.arg = some .local)
    (hb : ∀ (kV doc pm : Value) (an : Option Addr) (cdv ct : Value) (cc : Addr) (us : List Value), us.length = ps.length → bindArgs (PySem.W.ksFn "__init__" qual (C8.fnArgs st) (C8.fnBody st) (C8.fnScope st) .none kV doc pm an cdv ct cc) ⟨us, []⟩ = pure (ps.zip us))
    (len : ∀ vs H Q E, sp vs H Q E → vs.length = ps.length)
    (hs1 : ∀ (L f : Addr) (cd : Value) (cc : Addr), starEach (e :: es) (PySem.W.ksEnv qual (C8.fnScope st) L f cd cc) = (false, eval e (PySem.W.ksEnv qual (C8.fnScope st) L f cd cc)) :: starEach es (PySem.W.ksEnv qual (C8.fnScope st) L f cd cc))
    (hpl : ∀ (L f : Addr) (cd : Value) (cc : Addr), (backTo pos (starEach es (PySem.W.ksEnv qual (C8.fnScope st) L f cd cc))).any (·.1) = false)
    (hev : ∀ (L f : Addr) (cd : Value) (cc : Addr), eval (.Call (.Attribute (.Call (.Name "super" p0) [] [] p1) "__init__" apos) (e :: es) [] pos) (PySem.W.ksEnv qual (C8.fnScope st) L f cd cc) = (do
      let ov ← attributeBase (.Call (.Name "super" p0) [] [] p1) "__init__" (PySem.W.ksEnv qual (C8.fnScope st) L f cd cc) (eval (.Call (.Name "super" p0) [] [] p1) (PySem.W.ksEnv qual (C8.fnScope st) L f cd cc))
      standAt apos.atName
      let (g, first) ← holding [ov] (getMethod ov "__init__" (pure false))
      callWith pos g first (backTo pos (starEach (e :: es) (PySem.W.ksEnv qual (C8.fnScope st) L f cd cc))) []))
    (hsw : ∀ (L f : Addr) (cd : Value) (cc : Addr), swapsWith (.Call (.Attribute (.Call (.Name "super" p0) [] [] p1) "__init__" apos) (e :: es) [] pos) none pos2.line (PySem.W.ksEnv qual (C8.fnScope st) L f cd cc) = pure false)
    (hbody : ∀ (cdv : Value) (cc : Addr) (A : Around) (outer : List Env) (s : Shared) (H : Hp) (vs : List V) (Q : VK) (E : XK), Room k (A.deeper (PySem.W.ksEnv qual (C8.fnScope st) s.heap.objs.size f cdv cc)) → sp vs H Q E →
      ∃ (t : TA) (u : TS) (a : Addr) (vs' : List V), PA (cxS CX P w K mg base N qual (C8.fnScope st) f cdv cc A outer s H E) (e :: es) t ∧ PSs (cxS CX P w K mg base N qual (C8.fnScope st) f cdv cc A outer s H E) rest u ∧ vs = .ref a :: vs' ∧ H a = some (exo a C none) ∧
        ∀ q, H q = none → t (L2.start N vs) (upd H q (mwo q a)) fun ws H2 => ws.length ≤ 1000 ∧ H2 q = some (mwo q a) ∧ H2 a = some (exo a C none) ∧ u { nx := fun _ H' => Q .non H', rt := Q } (L2.start N vs) H2) :
    ∃ fd : FuncData, FnOk P w K mg base CX (k + 1) f fd ps sp ∧ Binds K fd ps [] := by
  obtain ⟨oc, od, kV, doc, pm, an, cda, ct, cc, osl, ccl, cdd, vs0, ccs, file, tf, cl, cld, csl, lk, hcd, hcode, hvs, hfile, hcell⟩ := SF.ex
  obtain ⟨cdD, hD⟩ := SF.cls
  refine ⟨_, ⟨len, fun A outer s H args us vs Q E hr e0 hb' r hsp => ?_⟩, Binds.all fun us hl => hb kV doc pm an (.ref cda) ct cc us hl⟩
  have hl := len _ _ _ _ hsp
  have hlu : us.length = ps.length := by rw [← r.length, hl]
  have KX : K.In s.heap := e0.mod.kin.keeps fun b o e => (e0.bs b o e).1
  have lim : s.heap.NoLimit := e0.mod.nolimit.keeps fun b o e => (e0.bs b o e).1
  refine PySem.ks_codeAny_call_defAt (fd := PySem.W.ksFn "__init__" qual (C8.fnArgs st) (C8.fnBody st) (C8.fnScope st) .none kV doc pm an (.ref cda) ct cc) (body := C8.fnBody st) (binds := ps.zip us) hr.depth (KX _ _ lk) rfl lim (PySem.W.codeRec_of KX hcd) rfl hb' S.nocell (fun y hy => S.par y.1 (List.of_mem_zip hy).1) (fun h₁ hns hk₁ => ?_) S.co S.gen S.kind
  obtain ⟨t, u, a, vs', hPA, hPS, hvs1, ha, hq⟩ := hbody (.ref cda) cc A outer s H vs Q E (hr.deeper _) hsp
  have I : Inv (cxS CX P w K mg base N qual (C8.fnScope st) f (.ref cda) cc A outer s H E) [] (L2.start N vs) H { s with heap := h₁, toks := s.toks + (ps.zip us).length } := inv_startS S hr.hd e0 hl r hcell hns hk₁
  have fin : ∀ {σ' : L2.St} {H' : Hp} {v : V} {u : Value} {s' : Shared}, Inv (cxS CX P w K mg base N qual (C8.fnScope st) f (.ref cda) cc A outer s H E) [] σ' H' s' → RelV v u → Q v H' → CE outer P w H s Q u s' :=
    fun {σ' H' v u s'} J rv q => ⟨v, H', J.os, J.bare, J.base, J.hok, rv, q⟩
  rw [hst]
  refine PySem.ks_wpAt_execs_cons ?_
  refine PySem.ks_wpAt_Expr_any ?_ (by show interactive _ = false; exact I.quiet) (hsw _ _ _ _)
  refine PySem.wpAt_mono (sup_exc (X := cxS CX P w K mg base N qual (C8.fnScope st) f (.ref cda) cc A outer s H E) (p0 := p0) (p1 := p1) (apos := apos) (pos := pos) (e := e) (es := es) (t := t) (Q := fun _ H3 => u { nx := fun _ H' => Q .non H', rt := Q } (L2.start N vs) H3) rfl I (ar := ar) hN0 (by rw [hvs1]; rfl) ha lk har hcode hvs hfile hcell hD SF.sub hmsup SF.top SF.any SF.nxt SF.sb SF.oex S.sup S.cls hpar S.kind hPA hq (hs1 _ _ _ _) (hpl _ _ _ _) (hev _ _ _ _)) (fun v s2 hv => ?_) fun _ _ x => x
  obtain ⟨v', H3, I3, _, q3⟩ := hv
  refine PySem.wpAt_of_wpAny (wpAny_mono (hPS.run [] s2 _ H3 _ I3 q3) (fun fl s' hs => ?_) fun _ _ x => x)
  cases fl with
  | ret u =>
    obtain ⟨v, σ', H', J, rv, q⟩ := hs
    exact fin J rv q
  | next =>
    obtain ⟨σ', H', J, q⟩ := hs
    exact fin (v := V.non) (u := Value.none) J rfl q
  | brk =>
    obtain ⟨_, _, _, q⟩ := hs
    exact False.elim q
  | cont =>
    obtain ⟨_, _, _, q⟩ := hs
    exact False.elim q
/-! ### Refused(word, number) -/
theorem digs : ∀ n : Nat, n < 1001 → ((toString (n : Int) : String) : Str).length ≤ 10 := by decide +kernel
def spRef (C : Addr) : Sp := fun vs H Q _ => ∃ (a : Addr) (wd : Str) (n : Nat), vs = [.ref a, .str wd, .int n] ∧ wd.length ≤ 100 ∧ n ≤ 1000 ∧ H a = some (exo a C none) ∧
  ∀ q dx, H q = none → H dx = none → dx ≠ q → Q .non (upd (upd (upd (upd H q (mwo q a)) dx (exd dx [("word", .str wd)])) a (exo a C (some dx))) dx (exd dx [("number", .int n), ("word", .str wd)]))
/-- an exception class that may be made and raised -/
structure RefC (P : Program) (w : World) (K : PySem.W.Frag) (mg : Str → Option Value) (base : Heap) (x : Str) (C : Addr) : Prop where
  oex : OexC K C
  ex : ∃ (fI : Addr) (fd : FuncData) (ps : List Str), PySem.W.findIn K (.ref C) "__init__" = some (some (.ref fI)) ∧ PySem.W.typeIn K (.ref fI) = some (.type "function") ∧ FnOk P w K mg base C8.CX0 1 fI fd ps (spRef C) ∧ Binds K fd ps []
  mgC : mg x = some (.ref C)
def dRaise (C : Addr) (xw : XWK) (da : DA) : DS := fun _ env S => da env S fun ws S1 => ∃ (wd : Str) (n : Nat), ws = [.fz (.str wd), .fz (.int n)] ∧ wd.length ≤ 100 ∧ n ≤ 1000 ∧ xw ⟨.ref C, [("number", .int n), ("word", .str wd)]⟩ S1
theorem ds_raise {X : Cx} {Ξ : Xt} {C : Addr} {x : Str} {j : Nat} {e : Expr} {es : List Expr} {da : DA} {p pos pos2 : Pos} (R : RefC X.prog X.w X.K X.mg X.base x C) (hc : X.calm = true) (hr : Room j X.A) (hj : 2 ≤ j) (hg : Gl X x) (ha : DPA X Ξ (e :: es) da)
    (hdb : (x == ("__debug__" : Str)) = false := by decide) (he : starEach (e :: es) X.env = (false, eval e X.env) :: starEach es X.env := by rfl) (hpl : (backTo pos (starEach es X.env)).any (·.1) = false := by rfl) :
    DPS X Ξ (.Raise (some (.Call (.Name x p) (e :: es) [] pos)) none pos2) (dRaise C Ξ.xw da) := ⟨fun F ok => by
  obtain ⟨W, tk, hw⟩ := ok.x
  obtain ⟨fI, fd, ps, iC, tI, Fn, b⟩ := R.ex
  refine PS.imp (ps_raise (W := W) hc tk (pmk_oex (dvs := []) (ds := []) R.oex iC tI Fn (hr.mono hj) b .nil C8.pass0 hg R.mgC (ha.run F ok) hdb he hpl)) fun D σ H ⟨B, m, S, env, E, cf, er, h, k1, k2, k3, k4⟩ => ?_
  refine ⟨B, m, S, env, _, cf, er, h, fun ws S1 h1 vs H1 B1 m1 n1 r => ?_⟩
  obtain ⟨wd, n, ews, hwl, hn, hx⟩ := h1
  subst ews
  obtain ⟨v1, v2, rfl, r1, r2⟩ : ∃ v1 v2, vs = [v1, v2] ∧ RW X.K B1 m1 (.fz (.str wd)) v1 ∧ RW X.K B1 m1 (.fz (.int n)) v2 := by
    cases r with
    | cons a t => cases t with
      | cons c u => cases u; exact ⟨_, _, rfl, a, c⟩
  obtain rfl : v1 = .str wd := r1.str_of
  obtain rfl : v2 = .int n := r2.int_of
  refine ⟨by show 2 ≤ 1000; decide, fun a hna => ⟨a, wd, n, rfl, hwl, hn, upd_same, fun q dx hq hdx ne => ⟨rfl, dx, _, ?_, upd_same, ?_, ?_⟩⟩⟩
  all_goals have ne2 : dx ≠ a := fun z => by rw [z, upd_same] at hdx; cases hdx
  all_goals have hd1 : H1 dx = none := by rw [upd_ne ne2] at hdx; exact hdx
  · rw [upd_ne (fun z => ne2 z.symm), upd_same]
  · exact hd1
  · have ne3 : q ≠ a := fun z => by rw [z, upd_same] at hq; cases hq
    have hq1 : H1 q = none := by rw [upd_ne ne3] at hq; exact hq
    obtain ⟨fb, fm, ft, fh⟩ := n1.cf.fresh hq1
    have n2 := Nx.side (o := mwo q a) n1.cf.nx fh ft hq1 fb fm
    have n3 := n2.cf.alloc (p := dx) (o := .xd [("number", .int n), ("word", .str wd)]) (by rw [upd_ne ne]; exact hd1)
    have eH : upd (del (upd (upd (upd (upd (upd H1 a (exo a C none)) q (mwo q a)) dx (exd dx [("word", .str wd)])) a (exo a C (some dx))) dx (exd dx [("number", .int n), ("word", .str wd)])) a) dx (.xd [("number", .int n), ("word", .str wd)]) = upd (upd H1 q (mwo q a)) dx (.xd [("number", .int n), ("word", .str wd)]) := by
      funext b
      by_cases h1 : b = dx
      · rw [h1, upd_same, upd_same]
      · rw [upd_ne h1, upd_ne h1]
        by_cases h2 : b = a
        · rw [h2, del_same, upd_ne (fun z => ne3 z.symm)]
          exact hna.symm
        · rw [del_ne h2, upd_ne h1, upd_ne h2, upd_ne h1]
          by_cases h3 : b = q
          · rw [h3, upd_same, upd_same]
          · rw [upd_ne h3, upd_ne h3, upd_ne h2]
    rw [eH]
    exact hw _ _ hx _ _ _ _ _ n3.cf (.some upd_same (.cons .int (.cons .str .nil)))⟩
end DL
/-! DC10: try: .. except C as n: return (word, n.f1, n.f2) -/
namespace DL
open PySem PySem.Spec PyProof.Rows L2
structure CatC (K : PySem.W.Frag) (C : Addr) (fs : List Str) : Prop where
  xf : XfC K C
  one : PySem.W.exmOne K (.ref C) (.ref C) = some true
  no : ∀ f ∈ fs, PySem.W.findIn K (.ref C) f = some none
def dTryR (C : Addr) (word f1 f2 : Str) (ds : XWK → DS) : DS := fun D env S =>
  ds (fun x S' => x.cls = .ref C ∧ ∃ d1 d2, x.fs.lookup f1 = some d1 ∧ x.fs.lookup f2 = some d2 ∧ D.rt (.fz (.tup [.str word, d1, d2])) S') D env S
theorem ds_tryR {X : Cx} {Ξ : Xt} {C : Addr} {x n f1 f2 word : Str} {i j : Nat} {body : List Stmt} {ds : XWK → DS} {x1} {np p1 p2 p3 p4 p5 p6 p7 pos pos' : Pos} {fs : List Str} (R : CatC X.K C fs) (h1 : f1 ∈ fs) (h2 : f2 ∈ fs) (hg : Gl X x) (hm : X.mg x = some (.ref C))
    (hb : ∀ (pn : List (Addr × Obj)) (xe : Value → Shared → Prop) (xw : XWK), PassesOwn (model X.prog X.w) X.A X.env xe → DPSs (X.tr pn xe) ⟨Ξ.T, xw, none⟩ body (ds xw)) (hN : X.N.Nodup)
    (hs : X.stack = X.env :: X.outer := by rfl) (hf : X.env.frame = some X.env.locals := by rfl) (hi : X.N[i]? = some n := by rfl) (hln : X.env.kindOf n = some .local := by rfl)
    (hd1 : (x == ("__debug__" : Str)) = false := by decide) (hd2 : (n == ("__debug__" : Str)) = false := by decide) (hd3 : (n == ("__classdict__" : Str)) = false := by decide) :
    DPS X Ξ (.Try body [.ExceptHandler (some (.Name x np)) (some n) [.Return (some (.Tuple [.Constant (.str word) j p1, .Attribute (.Name n p2) f1 p3, .Attribute (.Name n p4) f2 p5] x1 p6)) p7] pos'] [] [] pos) (dTryR C word f1 f2 ds) := ⟨fun F ok => by
  refine PS.imp (ps_try_as (X := X) (c := .ref C) (i := i) (Wout := fun _ _ _ _ => False) (ts := fun a cls d => tRet (tTup (tCons (tC (.str word)) (tCons (tXf a cls d C f1 (tVar i)) (tCons (tXf a cls d C f2 (tVar i)) tNil)))))
    (tb := fun W D σ H => ∃ (F' : Fx) (xw : XWK), F'.T = Ξ.T ∧ (∀ (x : XD) (S' : Sto), xw x S' → ∀ (σ' : L2.St) (H' B' : Hp) (m' : List Addr) (d : Option Addr), σ'.length = X.N.length → Cf X.K F' B' m' S' H' → RX X.K B' x.fs d → W x.cls d σ' H') ∧ lS X.K F' (ds xw) D σ H)
    hs hf hN hi hln ⟨hg, hd1, .inl hm⟩ takes_none (fun W pn xe tk po => ⟨fun pins s σ H D I ⟨F', xw, ht, hw, h⟩ => ?_⟩) (fun a oe cls d pn hz hv => pss_one (ps_ret (pe_tup (pa_cons pe_str (pa_cons (pe_xf R.xf (R.no _ h1) hz hv (pv i hi (.inl hln) hd2 hd3)) (pa_cons (pe_xf R.xf (R.no _ h2) hz hv (pv i hi (.inl hln) hd2 hd3)) pa_nil))))))) fun D σ H h => ?_
  · have tk2 : Takes (X.tr pn xe) (fun cls d σ H => σ.length = X.N.length → W cls d σ H) := fun u s' ⟨a, B, sI, pins, σ, H, cls, d, e, I, nb, up, sky, na, os, ag, w⟩ => tk u s' ⟨a, B, sI, pins, σ, H, cls, d, e, I, nb, up, sky, na, os, ag, w I.len⟩
    exact ((hb pn xe xw po).run F' ⟨ht, ⟨_, tk2, fun x S' hx σ' H' B' m' d cf rx hl => hw x S' hx σ' H' B' m' d hl cf rx⟩, fun n z => nomatch z⟩).run pins s σ H D I h
  · obtain ⟨B, m, S, env, E, cf, er, h, k1, k2, k3, k4⟩ := h
    refine ⟨⟨B, H, m, F.T⟩, _, ok.t, fun y S' hx σ' H' B' m' d hl cf' rx => ?_, B, m, S, env, E, cf.self, er, h, fun env' S' q σ' H' B' m' n => k1 _ _ q _ _ _ _ (cf.backG n), fun w S' q v H' B' m' n => k2 _ _ q _ _ _ _ (cf.backG n), fun env' S' q σ' H' B' m' n => k3 _ _ q _ _ _ _ (cf.backG n), fun env' S' q σ' H' B' m' n => k4 _ _ q _ _ _ _ (cf.backG n)⟩
    obtain ⟨hc, d1, d2, l1, l2, hrt⟩ := hx
    refine ⟨true, by rw [hc]; exact R.one, fun _ a hna => ?_, fun z => by cases z⟩
    have nx := cf.backG cf'.nxE
    have hil : i < σ'.length := by
      rw [hl]
      exact (List.getElem?_eq_some_iff.mp hi).1
    have hget : (σ'.set i (some (.ref a)))[i]? = some (some (.ref a)) := List.getElem?_set_self hil
    cases rx with
    | none e => rw [e] at l1; cases l1
    | @some dd fvs e rf =>
      obtain ⟨v1, lv1, r1⟩ := rpf_look rf l1
      obtain ⟨v2, lv2, r2⟩ := rpf_look rf l2
      have eH : H' dd = some (.xd fvs) := cf'.sub _ _ e
      refine ⟨_, hget, rfl, hc, dd, fvs, v1, rfl, eH, lv1, ?_⟩
      refine ⟨_, hget, rfl, hc, dd, fvs, v2, rfl, eH, lv2, ?_⟩
      refine ⟨by show 3 ≤ sizeLine; decide, fun p hp => ?_⟩
      have n2 := nx.cf.alloc (p := p) (o := .tup [.str word, v1, v2]) hp
      exact k2 _ _ hrt _ _ _ _ (nx.trans n2) (.fz (.tup (.of upd_same) (.cons .str (.cons (r1.mono n2.sb) (.cons (r2.mono n2.sb) .nil)))))⟩
end DL
/-! DC11: an own exception class with fields, as the top has written it -/
namespace DL
open PySem PySem.Spec PyProof.Rows L2
structure ReIn (P : Program) (K : PySem.W.Frag) (x qual : Str) (st : Stmt) (names : List Str) : Prop where
  ex : ∃ (C f : Addr), PySem.W.nsIn K mainGlobals x = some (some (.ref C)) ∧ SupE P K qual st C f ∧ PySem.W.findIn K (.ref C) "__init__" = some (some (.ref f)) ∧ PySem.W.typeIn K (.ref f) = some (.type "function") ∧ CatC K C names ∧ PySem.W.nsIn K mainGlobals "super" = some none
structure ReDf (P : Program) (K : PySem.W.Frag) (mg : Str → Option Value) (x qual : Str) (st : Stmt) (names : List Str) (C : Addr) : Prop where
  ex : ∃ (f : Addr), SupE P K qual st C f ∧ PySem.W.findIn K (.ref C) "__init__" = some (some (.ref f)) ∧ PySem.W.typeIn K (.ref f) = some (.type "function")
  cat : CatC K C names
  mgC : mg x = some (.ref C)
  sup : mg "super" = none
theorem ReIn.df {P : Program} {K : PySem.W.Frag} {x qual : Str} {st : Stmt} {names : List Str} {h : Heap} {mg : Str → Option Value} (D : ReIn P K x qual st names) (X : K.In h) (G : h.Ns mainGlobals mg) : ∃ C, ReDf P K mg x qual st names C := by
  obtain ⟨C, f, a, s, i, t, c, ns⟩ := D.ex
  exact ⟨C, ⟨f, s, i, t⟩, c, PySem.W.mg_of X G a, PySem.W.mg_none_of X G ns⟩
theorem no_nil {K : PySem.W.Frag} {C : Addr} : ∀ f ∈ ([] : List Str), PySem.W.findIn K (.ref C) f = some none := fun _ h => nomatch h
theorem no_cons {K : PySem.W.Frag} {C : Addr} {n : Str} {ns : List Str} (h : PySem.W.findIn K (.ref C) n = some none) (g : ∀ f ∈ ns, PySem.W.findIn K (.ref C) f = some none) : ∀ f ∈ n :: ns, PySem.W.findIn K (.ref C) f = some none := fun f hf => by
  rcases List.mem_cons.mp hf with e | e
  · rw [e]; exact h
  · exact g f e
theorem exm_self {K : PySem.W.Frag} {C : Addr} {cd : ClassData} (hD : PySem.W.clsIn K C = some cd) (tyC : PySem.W.typeIn K (.ref C) = some (.type "type")) (exC : PySem.W.subIn K (.ref C) (.type "BaseException") = some true) (sC : PySem.W.subIn K (.ref C) (.ref C) = some true) : PySem.W.exmOne K (.ref C) (.ref C) = some true := by
  unfold PySem.W.exmOne
  rw [exC]
  show (if (some true == some true) = true then PySem.W.kitCls K (.ref C) (.ref C) else none) = _
  rw [if_pos (show ((some true : Option Bool) == some true) = true by decide)]
  unfold PySem.W.kitCls
  dsimp only
  rw [hD, tyC, sC]
  simp
theorem reI {P : Program} {K : PySem.W.Frag} {x qual : Str} {st : Stmt} {names : List Str} {C f : Addr} {nm q : Str} {N : Addr} {bs bm : List Value} {sn : List Str} {sub : List Value} {ab : Bool} {col : Option Bool} {dd : Option Addr} {k0 k1 k2 k3 k5 : Option Value}
    {oc : Value} {od : Option Addr} {kV doc pm : Value} {an : Option Addr} {cda : Addr} {ct : Value} {cc : Addr} {osl : Array (Option Value)} {ccl : Value} {cdd : Option Addr} {vs : Array Value} {ccs : Array (Option Value)} {file : Str} {tf : Tok} {cl : Value} {cld : Option Addr} {csl : Array (Option Value)} {cdD : ClassData}
    (a : PySem.W.nsIn K mainGlobals x = some (some (.ref C))) (lkC : K.lookup C = some (excClassObj nm q C N bs bm true sn sub ab col dd k0 k1 k2 k3 k5 "ValueError.__new__")) (rf : PySem.HandSPX.refsVE bm = true) (sa : PySem.W.findIn K (.ref C) "__setattr__" = some (some (.builtin "object.__setattr__")))
    (exC : PySem.W.subIn K (.ref C) (.type "BaseException") = some true) (tyC : PySem.W.typeIn K (.ref C) = some (.type "type")) (kC : PySem.W.keepIn K (.ref C) = true) (iC : PySem.W.findIn K (.ref C) "__init__" = some (some (.ref f))) (tI : PySem.W.typeIn K (.ref f) = some (.type "function"))
    (ga : PySem.W.findIn K (.ref C) "__getattribute__" = some (some (.builtin "BaseException.__getattribute__"))) (gg : PySem.W.findIn K (.ref C) "__getattr__" = some none) (hdC : PySem.W.hasDictIn K C = true) (sC : PySem.W.subIn K (.ref C) (.ref C) = some true) (no : ∀ f ∈ names, PySem.W.findIn K (.ref C) f = some none)
    (lk : K.lookup f = some ⟨oc, od, .func (PySem.W.ksFn "__init__" qual (C8.fnArgs st) (C8.fnBody st) (C8.fnScope st) .none kV doc pm an (.ref cda) ct cc), osl⟩) (hcd : PySem.W.codeIn K (.ref cda) qual = true) (hcode : K.lookup cda = some ⟨ccl, cdd, .fields vs, ccs⟩) (hvs : vs[2]? = some (.str file tf))
    (hfile : ((P.main.file : Str) == file) = true) (hcell : K.lookup cc = some ⟨cl, cld, .cell (some (.ref C)), csl⟩) (hD : PySem.W.clsIn K C = some cdD) (hsub : PySem.W.mroIn K C (.ref C) = some true) (htop : (P.main.scope.names.lookup ("super" : Str)).isSome = false) (hany : PySem.W.nsIn K cStatics "thirdparty.any" = some none)
    (hnx : PySem.W.ks_superIn K C C "__init__" = some (some (.builtin "ValueError.__init__"))) (sb : PySem.W.subIn K (.ref C) (.type "ValueError") = some true) (ns : PySem.W.nsIn K mainGlobals "super" = some none) : ReIn P K x qual st names :=
  ⟨C, f, a, ⟨⟨oc, od, kV, doc, pm, an, cda, ct, cc, osl, ccl, cdd, vs, ccs, file, tf, cl, cld, csl, lk, hcd, hcode, hvs, hfile, hcell⟩, ⟨cdD, hD⟩, hsub, htop, hany, hnx, sb, ⟨⟨nm, q, N, bs, bm, sn, sub, ab, col, dd, k0, k1, k2, k3, k5, lkC, rf⟩, sa, exC, tyC, kC⟩⟩, iC, tI, ⟨⟨ga, gg, exC, hdC⟩, exm_self hD tyC exC sC, no⟩, ns⟩
end DL
/-! M15: given certificates -/
namespace DL
open PySem PySem.Spec PyProof.Rows L2
def numB : D → Bool
  | .int i => decide (0 ≤ i)
  | _ => false
def linkB (d : D) : Bool := (linkOfD d).isSome
def entB (d : D) : Bool := (entOfD d).isSome
theorem linkB_len {ds : List D} (h : ds.length ≠ 3) : linkB (.tup ds) = false := by
  unfold linkB linkOfD
  split
  · rename_i e
    cases e
    exact absurd rfl h
  · rfl
def sumsB : D → Bool
  | .tup ss => decide (ss.length = 3) && ss.all numB
  | _ => false
theorem linkB_3 (a b c : D) : linkB (.tup [a, b, c]) = (numB a && (numB b && sumsB c)) := by
  cases a with
  | int i =>
    cases b with
    | int j =>
      cases c with
      | tup ss =>
        match ss with
        | [] => rw [show sumsB (.tup []) = false from rfl, Bool.and_false, Bool.and_false]; rfl
        | [x] => rw [show sumsB (.tup [x]) = false from rfl, Bool.and_false, Bool.and_false]; cases x <;> rfl
        | [x, y] => rw [show sumsB (.tup [x, y]) = false from rfl, Bool.and_false, Bool.and_false]; cases x <;> cases y <;> rfl
        | x :: y :: z :: u :: r =>
          have e : sumsB (.tup (x :: y :: z :: u :: r)) = false := by
            show (decide ((x :: y :: z :: u :: r).length = 3) && (x :: y :: z :: u :: r).all numB) = false
            rw [decide_eq_false (by simp)]
            rfl
          rw [e, Bool.and_false, Bool.and_false]
          cases x <;> cases y <;> cases z <;> rfl
        | [x, y, z] =>
          have e : sumsB (.tup [x, y, z]) = (numB x && (numB y && (numB z && true))) := rfl
          rw [e]
          cases x with
          | int x =>
            cases y with
            | int y =>
              cases z with
              | int z =>
                show (if 0 ≤ i ∧ 0 ≤ j ∧ 0 ≤ x ∧ 0 ≤ y ∧ 0 ≤ z then some (⟨i, j, x, y, z⟩ : Link) else none).isSome = (decide (0 ≤ i) && (decide (0 ≤ j) && (decide (0 ≤ x) && (decide (0 ≤ y) && (decide (0 ≤ z) && true)))))
                by_cases h1 : 0 ≤ i <;> by_cases h2 : 0 ≤ j <;> by_cases h3 : 0 ≤ x <;> by_cases h4 : 0 ≤ y <;> by_cases h5 : 0 ≤ z <;> simp [h1, h2, h3, h4, h5]
              | _ => rw [show ∀ d : D, (numB d = false) → (numB (.int i) && (numB (.int j) && (numB (.int x) && (numB (.int y) && (numB d && true))))) = false from fun d h => by rw [h]; simp] <;> rfl
            | _ => rw [show ∀ d : D, (numB d = false) → (numB (.int i) && (numB (.int j) && (numB (.int x) && (numB d && (numB z && true))))) = false from fun d h => by rw [h]; simp] <;> first | rfl | (cases z <;> rfl)
          | _ => rw [show ∀ d : D, (numB d = false) → (numB (.int i) && (numB (.int j) && (numB d && (numB y && (numB z && true))))) = false from fun d h => by rw [h]; simp] <;> first | rfl | (cases y <;> cases z <;> rfl)
      | _ => rw [show ∀ d : D, sumsB d = false → (numB (.int i) && (numB (.int j) && sumsB d)) = false from fun d h => by rw [h, Bool.and_false, Bool.and_false]] <;> rfl
    | _ => rw [show ∀ d : D, numB d = false → (numB (.int i) && (numB d && sumsB c)) = false from fun d h => by rw [h, Bool.false_and, Bool.and_false]] <;> first | rfl | (cases c <;> rfl)
  | _ => first | rfl | (cases b <;> cases c <;> rfl)
theorem letters_sign : ∀ c ∈ lettersS.cps.toList, sign c = true := by decide +kernel
theorem isKey_of {k : Str} (h : keyB k = true) : isKey k := by
  unfold keyB at h
  rw [len_l, Bool.and_eq_true, Bool.and_eq_true, decide_eq_true_eq, decide_eq_true_eq] at h
  exact ⟨by omega, by omega, List.all_eq_true.mpr fun c hc => letters_sign c (of_decide_eq_true (List.all_eq_true.mp h.2 c hc))⟩
theorem isRow_of {r : List Int} (h : rowB r = true) : isRow r := by
  unfold rowB at h
  rw [Bool.and_eq_true, Bool.and_eq_true, decide_eq_true_eq, decide_eq_true_eq] at h
  refine ⟨by omega, by omega, fun i hi => ?_⟩
  have := List.all_eq_true.mp h.2 i hi
  rw [Bool.and_eq_true, decide_eq_true_eq, decide_eq_true_eq] at this
  exact this
theorem keyOf_B (k : Str) : (keyOfD (.str k)).isSome = keyB k := by
  by_cases h : isKey k
  · rw [keyB_of h]
    unfold keyOfD
    dsimp only
    split
    · rfl
    · rename_i z; exact absurd h z
  · have e : keyOfD (.str k) = none := by
      unfold keyOfD; dsimp only
      split
      · rename_i z; exact absurd z h
      · rfl
    rw [e]
    cases z : keyB k with
    | false => rfl
    | true => exact absurd (isKey_of z) h
theorem ints_of : ∀ {ds : List D}, ds.all numB = true → ∃ r : List Int, ds = r.map D.int ∧ intsOfD ds = some r ∧ ∀ i ∈ r, 0 ≤ i
  | [], _ => ⟨[], rfl, rfl, fun _ h => nomatch h⟩
  | d :: ds, h => by
    rw [List.all_cons, Bool.and_eq_true] at h
    obtain ⟨r, e1, e2, e3⟩ := ints_of h.2
    cases d with
    | int i =>
      refine ⟨i :: r, by rw [e1]; rfl, by rw [intsOfD, e2]; rfl, fun j hj => ?_⟩
      rcases List.mem_cons.mp hj with e | e
      · rw [e]; exact of_decide_eq_true h.1
      · exact e3 j e
    | _ => exact absurd h.1 Bool.false_ne_true
def rowD_B (ds : List D) : Bool := match intsOfD ds with
  | some r => rowB r
  | none => false
theorem rowOf_B (ds : List D) : (rowOfD (.tup ds)).isSome = (ds.all numB && rowD_B ds) := by
  cases h : ds.all numB with
  | true =>
    obtain ⟨r, e1, e2, e3⟩ := ints_of h
    unfold rowD_B
    rw [Bool.true_and, e2]
    dsimp only
    unfold rowOfD
    dsimp only
    rw [e2]
    show (if 1 ≤ r.length ∧ r.length ≤ 3 ∧ (r.all fun i => decide (0 ≤ i) && decide (i ≤ 65535)) = true then some r else none).isSome = rowB r
    by_cases q : isRow r
    · rw [rowB_of q, if_pos]
      · rfl
      · refine ⟨q.1, q.2.1, List.all_eq_true.mpr fun i hi => ?_⟩
        rw [Bool.and_eq_true, decide_eq_true_eq, decide_eq_true_eq]
        exact q.2.2 i hi
    · rw [if_neg]
      · cases z : rowB r with
        | false => rfl
        | true => exact absurd (isRow_of z) q
      · intro z
        refine q ⟨z.1, z.2.1, fun i hi => ?_⟩
        have := List.all_eq_true.mp z.2.2 i hi
        rw [Bool.and_eq_true, decide_eq_true_eq, decide_eq_true_eq] at this
        exact this
  | false =>
    rw [Bool.false_and]
    cases z : rowOfD (.tup ds) with
    | none => rfl
    | some r =>
      obtain ⟨a, b⟩ := rowOfD_ok z
      exfalso
      have e : ds = r.map D.int := by cases b; rfl
      have : ds.all numB = true := by
        rw [e]
        refine List.all_eq_true.mpr fun d hd => ?_
        obtain ⟨i, hi, rfl⟩ := List.mem_map.mp hd
        exact decide_eq_true (a.2.2 i hi).1
      rw [this] at h
      cases h
theorem entB_len {ds : List D} (h : ds.length ≠ 4) : entB (.tup ds) = false := by
  unfold entB entOfD
  split
  · rename_i e
    cases e
    exact absurd rfl h
  · rfl
theorem entB_4 (k r x y : D) : entB (.tup [k, r, x, y]) = ((keyOfD k).isSome && ((rowOfD r).isSome && (linkB x && linkB y))) := by
  show ((keyOfD k).bind fun k => (rowOfD r).bind fun r => (linkOfD x).bind fun x => (linkOfD y).bind fun y => some (k, r, x, y)).isSome = _
  unfold linkB
  cases keyOfD k with
  | none => rfl
  | some k =>
    cases rowOfD r with
    | none => rfl
    | some r =>
      cases linkOfD x with
      | none => rfl
      | some x =>
        cases linkOfD y with
        | none => rfl
        | some y => rfl
def spNum : PSp := fun ds Q => ∃ d, ds = [d] ∧ plB d = true ∧ Q (.bl (numB d))
def spIsLink : PSp := fun ds Q => ∃ d, ds = [d] ∧ plB d = true ∧ Q (.bl (linkB d))
def spIsEnt : PSp := fun ds Q => ∃ d, ds = [d] ∧ plB d = true ∧ Q (.bl (entB d))
def spGiven (C : Addr) : GSp := fun ws S Kp _ => ∃ n d c, ws = [.hd n, .fz d, .fz c] ∧ S[n]? = some (OD.ins C []) ∧ Kp (.fz .non) (S.set n (OD.ins C [("rule", W.fz d), ("certificate", W.fz c), ("position", W.fz (.int 0))]))
def spRootG (c : Cs) (C : Addr) : GSp := fun ws S Kp _ => ∃ s fs l, ws = [.hd s, .fz (linkD l)] ∧ S[s]? = some (OD.ins C fs) ∧ Kp (.hd S.length) (S ++ [OD.ins c.P [("link", .fz (linkD l)), ("tree", .fz .non), ("node", .fz .non)]])
def spFinish (c : Cs) (C : Addr) : GSp := fun ws S Kp Xp => ∃ s b m cs n, ws = [.hd s] ∧ SrcAt C S s s b m (.gv cs n) ∧ cs.length ≤ 900 ∧ n ≤ 900 ∧ (if n < cs.length then Xp (xdOf c.R ⟨"long", (n : Nat)⟩) S else Kp (.fz .non) S)
end DL
namespace DL
open PySem PySem.Spec PyProof.Rows L2
def refD (rf : Rf) : D := .tup [.str "refused", .str rf.word, .int rf.num]
/-- what read gives -/
def mRead (b m : Int) (n : Nat) (head : Link) (q : Qy) (cs : List D) : D := match mWalk b m n (.gv cs 0) ⟨head, none⟩ q with
  | .error rf => refD rf
  | .ok (r, st) => if st.len < cs.length then refD ⟨"long", (st.len : Nat)⟩ else .tup [.str "answer", r.D]
def spRead (n : Nat) : PSp := fun ds Q => ∃ b m head q cs, ds = [ruleD b m, linkD head, qD q, .lst cs] ∧ isRule b m ∧ 0 ≤ head.n ∧ isQ q ∧ cs.length < n ∧ n ≤ 900 ∧ plBL cs = true ∧ Q (mRead b m n head q cs)
end DL
namespace DL
open PySem PySem.Spec PyProof.Rows L2
theorem opn_left {b m : Int} {st st1 st2 : SrcS} {pi : PI} {o : Op} (h : opn b m st pi = .ok (o, st1)) (hs : okS b m st pi) (a : After st1 st2 o.2.2.1) : After st st2 pi := by
  obtain ⟨r1, _, r3⟩ := opn_right h hs a
  exact r3 _ r1.refl
theorem opn_rt {b m : Int} {st st1 st2 : SrcS} {pi : PI} {o : Op} (h : opn b m st pi = .ok (o, st1)) (hs : okS b m st pi) (a : After st1 st2 o.2.2.2) : After st st2 pi := by
  obtain ⟨_, _, o1, _⟩ := opn_ok h hs
  exact (opn_right h hs o1.refl).2.2 _ a
theorem opn_self {b m : Int} {st st1 : SrcS} {pi : PI} {o : Op} (h : opn b m st pi = .ok (o, st1)) (hs : okS b m st pi) : After st st1 pi := by
  obtain ⟨_, _, o1, _⟩ := opn_ok h hs
  exact opn_left h hs o1.refl
theorem mFound_after {b m : Int} {key : Str} : ∀ (n : Nat) (st : SrcS) (pi : PI) (d : D) (st' : SrcS), okS b m st pi → mFound b m n st pi key = .ok (d, st') → After st st' pi
  | 0, st, pi, d, st', hs, h => by cases h; exact hs.refl
  | n + 1, st, pi, d, st', hs, h => by
    rw [mFound] at h
    rcases ite_ok h with ⟨_, h⟩ | ⟨_, h⟩
    · cases h; exact hs.refl
    · obtain ⟨o, st1, eo, h⟩ := bnd_ok h
      obtain ⟨_, _, o1, o2, _⟩ := opn_ok eo hs
      rcases ite_ok h with ⟨_, h⟩ | ⟨_, h⟩
      · cases h; exact opn_self eo hs
      · cases q : strLt key o.1 with
        | true => rw [q, if_pos rfl] at h; exact opn_left eo hs (mFound_after n _ _ _ _ o1 h)
        | false => rw [q, if_neg Bool.false_ne_true] at h; exact opn_rt eo hs (mFound_after n _ _ _ _ o2 h)
theorem mPlace_after {b m : Int} {key : Str} : ∀ (n : Nat) (st : SrcS) (pi : PI) (a i : Int) (st' : SrcS), okS b m st pi → mPlace b m n st pi key a = .ok (i, st') → After st st' pi
  | 0, st, pi, a, i, st', hs, h => by cases h; exact hs.refl
  | n + 1, st, pi, a, i, st', hs, h => by
    rw [mPlace] at h
    rcases ite_ok h with ⟨_, h⟩ | ⟨_, h⟩
    · cases h; exact hs.refl
    · obtain ⟨o, st1, eo, h⟩ := bnd_ok h
      obtain ⟨_, _, o1, o2, _⟩ := opn_ok eo hs
      rcases ite_ok h with ⟨_, h⟩ | ⟨_, h⟩
      · exact opn_rt eo hs (mPlace_after n _ _ _ _ _ o2 h)
      · exact opn_left eo hs (mPlace_after n _ _ _ _ _ o1 h)
theorem mAt_after {b m : Int} : ∀ (n : Nat) (st : SrcS) (pi : PI) (i : Int) (d : D) (st' : SrcS), okS b m st pi → mAt b m n st pi i = .ok (d, st') → After st st' pi
  | 0, st, pi, i, d, st', hs, h => by cases h; exact hs.refl
  | n + 1, st, pi, i, d, st', hs, h => by
    rw [mAt] at h
    rcases ite_ok h with ⟨_, h⟩ | ⟨_, h⟩
    · obtain ⟨o, st1, eo, h⟩ := bnd_ok h
      obtain ⟨_, _, o1, o2, _⟩ := opn_ok eo hs
      rcases ite_ok h with ⟨_, h⟩ | ⟨_, h⟩
      · cases h; exact opn_self eo hs
      · rcases ite_ok h with ⟨_, h⟩ | ⟨_, h⟩
        · exact opn_left eo hs (mAt_after n _ _ _ _ _ o1 h)
        · exact opn_rt eo hs (mAt_after n _ _ _ _ _ o2 h)
    · cases h; exact hs.refl
theorem mWalk_after {b m : Int} {n : Nat} {st st' : SrcS} {pi : PI} {q : Qy} {r : Rs} (hs : okS b m st pi) (h : mWalk b m n st pi q = .ok (r, st')) : After st st' pi := by
  cases q with
  | get k => obtain ⟨x, st1, e, h⟩ := bnd_ok h; cases h; exact mFound_after n _ _ _ _ hs e
  | rng lo hi => obtain ⟨x, st1, e, h⟩ := bnd_ok h; cases h; exact (mBtw_after n _ _ _ _ hs e).1
  | nxt k c => obtain ⟨x, st1, e, h⟩ := bnd_ok h; cases h; exact (mNxt_after n _ _ _ _ _ hs e).1
  | cnt lo hi => obtain ⟨x, st1, e, h⟩ := bnd_ok h; cases h; exact mMs_after n _ _ _ _ _ _ hs e
  | sm c lo hi => obtain ⟨x, st1, e, h⟩ := bnd_ok h; cases h; exact mMs_after n _ _ _ _ _ _ hs e
  | plc k => obtain ⟨x, st1, e, h⟩ := bnd_ok h; cases h; exact mPlace_after n _ _ _ _ _ hs e
  | «at» i => obtain ⟨x, st1, e, h⟩ := bnd_ok h; cases h; exact mAt_after n _ _ _ _ _ hs e
end DL
/-! M16: a walk over a known part, and the same walk over a certificate -/
namespace DL
open PySem PySem.Spec PyProof.Rows L2
/-- why an entry is refused where e is due; tail: what is there -/
def refuW (b m : Int) (e : D) (tail : List D) : Option Str := match tail with
  | [] => some "short"
  | e' :: _ => match entOfD e' with
    | none => some "form"
    | some (k, r, x, y) => match entOfD e with
      | none => none
      | some (k0, r0, x0, y0) => if (linkOf b m k r x y).d = (linkOf b m k0 r0 x0 y0).d then (if eqD (linkD (linkOf b m k r x y)) (linkD (linkOf b m k0 r0 x0 y0)) then none else some "sums") else some "digest"
structure Sim {α : Type} (b m : Int) (fk fg : SrcS → Except Rf (α × SrcS)) (a : α) (w : List D) : Prop where
  kn : ∀ es, fk (.kn es) = .ok (a, .kn (es ++ w))
  gv : ∀ (cs : List D) (k : Nat) (post : List D), cs.drop k = w ++ post → fg (.gv cs k) = .ok (a, .gv cs (k + w.length))
  bad : ∀ (cs : List D) (k : Nat) (p : List D) (e : D) (w' tail : List D) (wd : Str), w = p ++ e :: w' → cs.drop k = p ++ tail → refuW b m e tail = some wd → fg (.gv cs k) = .error ⟨wd, ((k + p.length : Nat) : Int)⟩
theorem Sim.pure {α : Type} {b m : Int} (a : α) : Sim b m (fun st => .ok (a, st)) (fun st => .ok (a, st)) a [] :=
  ⟨fun es => by rw [List.append_nil], fun cs k post _ => rfl, fun cs k p e w' tail wd h => by cases p <;> cases h⟩
theorem drop_more {α : Type} {cs w post : List α} {k : Nat} (h : cs.drop k = w ++ post) : cs.drop (k + w.length) = post := by
  rw [← List.drop_drop, h, List.drop_left]
theorem Sim.bnd {α β : Type} {b m : Int} {fk fg : SrcS → Except Rf (α × SrcS)} {gk gg : α → SrcS → Except Rf (β × SrcS)} {a : α} {c : β} {w v : List D} (h : Sim b m fk fg a w) (g : Sim b m (gk a) (gg a) c v) : Sim b m (fun st => DL.bnd (fk st) gk) (fun st => DL.bnd (fg st) gg) c (w ++ v) := by
  refine ⟨fun es => ?_, fun cs k post hd => ?_, fun cs k p e w' tail wd hw hd hr => ?_⟩
  · show DL.bnd (fk (.kn es)) gk = _
    rw [h.kn]
    show gk a (.kn (es ++ w)) = _
    rw [g.kn, List.append_assoc]
  · show DL.bnd (fg (.gv cs k)) gg = _
    rw [List.append_assoc] at hd
    rw [h.gv cs k _ hd]
    show gg a (.gv cs (k + w.length)) = _
    rw [g.gv cs _ post (drop_more hd), List.length_append, Nat.add_assoc]
  · show DL.bnd (fg (.gv cs k)) gg = _
    rcases List.append_eq_append_iff.mp hw with ⟨p2, e1, e2⟩ | ⟨w2, e1, e2⟩
    · subst e1
      rw [List.append_assoc] at hd
      rw [h.gv cs k _ hd]
      show gg a (.gv cs (k + w.length)) = _
      rw [g.bad cs _ p2 e w' tail wd e2 (drop_more hd) hr, List.length_append, Nat.add_assoc]
    · cases w2 with
      | nil =>
        rw [List.append_nil] at e1
        subst e1
        rw [h.gv cs k _ hd]
        show gg a (.gv cs (k + w.length)) = _
        rw [g.bad cs _ [] e w' tail wd e2.symm (drop_more hd) hr]
        rfl
      | cons z w2 =>
        rw [List.cons_append] at e2
        injection e2 with e3 e4
        subst e3
        rw [h.bad cs k p e w2 tail wd e1 hd hr]
        rfl
theorem Sim.ite {α : Type} {b m : Int} {fk fg gk gg : SrcS → Except Rf (α × SrcS)} {p : Prop} [Decidable p] (h : p → ∃ a w, Sim b m fk fg a w) (g : ¬ p → ∃ a w, Sim b m gk gg a w) : ∃ a w, Sim b m (fun st => if p then fk st else gk st) (fun st => if p then fg st else gg st) a w := by
  by_cases hp : p
  · simp only [if_pos hp]; exact h hp
  · simp only [if_neg hp]; exact g hp
/-! ### parts -/
def gp (b m : Int) (t : Tr) : PI := ⟨linkT b m t, none⟩
structure nnL (l : Link) : Prop where
  d : 0 ≤ l.d
  n : 0 ≤ l.n
  a : 0 ≤ l.a
  b : 0 ≤ l.b
  c : 0 ≤ l.c
theorem entOf_entD {k : Str} {r : List Int} {x y : Link} (hk : isKey k) (hr : isRow r) (hx : nnL x) (hy : nnL y) : entOfD (entD k r x y) = some (k, r, x, y) := by
  have h1 : keyOfD (.str k) = some k := if_pos hk
  have h2 : rowOfD (rowD r) = some r := by
    have e : intsOfD (r.map D.int) = some r := by
      clear hr
      induction r with
      | nil => rfl
      | cons i r ih => show (intsOfD (r.map D.int)).map (i :: ·) = _; rw [ih]; rfl
    show (intsOfD (r.map D.int)).bind (fun r => if 1 ≤ r.length ∧ r.length ≤ 3 ∧ (r.all fun i => decide (0 ≤ i) && decide (i ≤ 65535)) = true then some r else none) = _
    rw [e]
    refine if_pos ⟨hr.1, hr.2.1, List.all_eq_true.mpr fun i hi => ?_⟩
    rw [Bool.and_eq_true, decide_eq_true_eq, decide_eq_true_eq]
    exact hr.2.2 i hi
  have h3 : ∀ l : Link, nnL l → linkOfD (linkD l) = some l := fun l h => if_pos ⟨h.d, h.n, h.a, h.b, h.c⟩
  show (keyOfD (.str k)).bind (fun k => (rowOfD (rowD r)).bind fun r => (linkOfD (linkD x)).bind fun x => (linkOfD (linkD y)).bind fun y => some (k, r, x, y)) = _
  rw [h1, h2, h3 x hx, h3 y hy]
  rfl
end DL
namespace DL
open PySem PySem.Spec PyProof.Rows L2
theorem cellI_nn {r : List Int} (h : isRow r) (k : Nat) : 0 ≤ cellI r k := by
  unfold cellI
  rw [List.getD_eq_getElem?_getD]
  cases e : r[k]? with
  | none => exact Int.le_refl 0
  | some i => exact (h.2.2 i (List.mem_of_getElem? e)).1
theorem linkT_nn {b m : Int} (hr : isRule b m) : ∀ {t : Tr}, okTr t → nnL (linkT b m t)
  | .nil, _ => ⟨(dig_range hr _).1, Int.le_refl 0, Int.le_refl 0, Int.le_refl 0, Int.le_refl 0⟩
  | .node k r x y, h => by
    have hx := linkT_nn hr h.2.2.1
    have hy := linkT_nn hr h.2.2.2
    have c0 := cellI_nn h.2.1 0
    have c1 := cellI_nn h.2.1 1
    have c2 := cellI_nn h.2.1 2
    refine ⟨(dig_range hr _).1, ?_, ?_, ?_, ?_⟩
    · show 0 ≤ 1 + (linkT b m x).n + (linkT b m y).n
      have := hx.n; have := hy.n; omega
    · show 0 ≤ cellI r 0 + (linkT b m x).a + (linkT b m y).a
      have := hx.a; have := hy.a; omega
    · show 0 ≤ cellI r 1 + (linkT b m x).b + (linkT b m y).b
      have := hx.b; have := hy.b; omega
    · show 0 ≤ cellI r 2 + (linkT b m x).c + (linkT b m y).c
      have := hx.c; have := hy.c; omega
theorem entOf_entT {b m : Int} (hr : isRule b m) {k : Str} {r : List Int} {x y : Tr} (h : okTr (.node k r x y)) : entOfD (entT b m k r x y) = some (k, r, linkT b m x, linkT b m y) :=
  entOf_entD h.1 h.2.1 (linkT_nn hr h.2.2.1) (linkT_nn hr h.2.2.2)
theorem opn_gv {b m : Int} (hr : isRule b m) {k : Str} {r : List Int} {x y : Tr} (h : okTr (.node k r x y)) {cs : List D} {n : Nat} (hg : cs[n]? = some (entT b m k r x y)) : opn b m (.gv cs n) (gp b m (.node k r x y)) = .ok ((k, r, gp b m x, gp b m y), .gv cs (n + 1)) := by
  unfold opn
  dsimp only
  rw [hg]
  dsimp only
  rw [entOf_entT hr h]
  dsimp only
  rw [if_pos (show (linkOf b m k r (linkT b m x) (linkT b m y)).d = (gp b m (.node k r x y)).l.d from rfl), if_pos (show eqD (linkD (linkOf b m k r (linkT b m x) (linkT b m y))) (linkD (gp b m (.node k r x y)).l) = true from eqD_refl _)]
  rfl
theorem opn_bad {b m : Int} (hr : isRule b m) {k : Str} {r : List Int} {x y : Tr} (h : okTr (.node k r x y)) {cs tail : List D} {n : Nat} {wd : Str} (hd : cs.drop n = tail) (hw : refuW b m (entT b m k r x y) tail = some wd) : opn b m (.gv cs n) (gp b m (.node k r x y)) = .error ⟨wd, (n : Nat)⟩ := by
  have hg : cs[n]? = tail.head? := by rw [← hd, List.head?_drop]
  unfold opn
  dsimp only
  rw [hg]
  cases tail with
  | nil => cases hw; rfl
  | cons e' tl =>
    unfold refuW at hw
    dsimp only [List.head?_cons] at hw ⊢
    cases he : entOfD e' with
    | none => rw [he] at hw; cases hw; rfl
    | some v =>
      obtain ⟨k1, r1, x1, y1⟩ := v
      rw [he] at hw
      dsimp only at hw ⊢
      rw [entOf_entT hr h] at hw
      dsimp only at hw
      show (if (linkOf b m k1 r1 x1 y1).d = (linkOf b m k r (linkT b m x) (linkT b m y)).d then (if eqD (linkD (linkOf b m k1 r1 x1 y1)) (linkD (linkOf b m k r (linkT b m x) (linkT b m y))) = true then _ else _) else _) = _
      by_cases h1 : (linkOf b m k1 r1 x1 y1).d = (linkOf b m k r (linkT b m x) (linkT b m y)).d
      · rw [if_pos h1] at hw ⊢
        by_cases h2 : eqD (linkD (linkOf b m k1 r1 x1 y1)) (linkD (linkOf b m k r (linkT b m x) (linkT b m y))) = true
        · rw [if_pos h2] at hw; cases hw
        · rw [if_neg h2] at hw ⊢; cases hw; rfl
      · rw [if_neg h1] at hw ⊢; cases hw; rfl
theorem drop_get {α : Type} {cs post : List α} {k : Nat} {a : α} (h : cs.drop k = a :: post) : cs[k]? = some a ∧ cs.drop (k + 1) = post := by
  refine ⟨?_, ?_⟩
  · rw [← List.head?_drop, h]; rfl
  · rw [← List.drop_drop, h]; rfl
/-- a part is opened -/
theorem sim_open {β : Type} {b m : Int} (hr : isRule b m) {k : Str} {r : List Int} {x y : Tr} (h : okTr (.node k r x y)) {gk gg : Op → SrcS → Except Rf (β × SrcS)} {c : β} {v : List D} (g : Sim b m (gk (k, r, kn b m x, kn b m y)) (gg (k, r, gp b m x, gp b m y)) c v) :
    Sim b m (fun st => DL.bnd (opn b m st (kn b m (.node k r x y))) gk) (fun st => DL.bnd (opn b m st (gp b m (.node k r x y))) gg) c (entT b m k r x y :: v) := by
  refine ⟨fun es => ?_, fun cs n post hd => ?_, fun cs n p e w' tail wd hw hd hrf => ?_⟩
  · show DL.bnd (DL.opn b m (.kn es) (kn b m (.node k r x y))) gk = _
    rw [opn_kn]
    show gk (k, r, kn b m x, kn b m y) (.kn (es ++ [entT b m k r x y])) = _
    rw [g.kn, List.append_assoc]
    rfl
  · show DL.bnd (DL.opn b m (.gv cs n) (gp b m (.node k r x y))) gg = _
    obtain ⟨h1, h2⟩ := drop_get (show cs.drop n = entT b m k r x y :: (v ++ post) from hd)
    rw [opn_gv hr h h1]
    show gg (k, r, gp b m x, gp b m y) (.gv cs (n + 1)) = _
    rw [g.gv cs _ post h2, List.length_cons]
    have : n + 1 + v.length = n + (v.length + 1) := by omega
    rw [this]
  · show DL.bnd (DL.opn b m (.gv cs n) (gp b m (.node k r x y))) gg = _
    cases p with
    | nil =>
      injection hw with e1 e2
      subst e1
      rw [opn_bad hr h hd hrf]
      rfl
    | cons z p =>
      injection hw with e1 e2
      subst e1
      obtain ⟨h1, h2⟩ := drop_get (show cs.drop n = entT b m k r x y :: (p ++ tail) from hd)
      rw [opn_gv hr h h1]
      show gg (k, r, gp b m x, gp b m y) (.gv cs (n + 1)) = _
      rw [g.bad cs _ p e w' tail wd e2 h2 hrf, List.length_cons]
      have : n + 1 + p.length = n + (p.length + 1) := by omega
      rw [this]
theorem gp_nil (b m : Int) : (gp b m .nil).l.n = 0 := rfl
theorem gp_n (b m : Int) (k : Str) (r : List Int) (x y : Tr) : ¬ (gp b m (.node k r x y)).l.n = 0 := kn_n b m k r x y
section
variable {b m : Int} (hr : isRule b m)
include hr
theorem sim_found {key : Str} : ∀ (n : Nat) (t : Tr), okTr t → t.size < n → ∃ a w, Sim b m (fun st => mFound b m n st (kn b m t) key) (fun st => mFound b m n st (gp b m t) key) a w
  | 0, t, _, h => absurd h (Nat.not_lt_zero _)
  | n + 1, .nil, _, _ => ⟨_, _, Sim.pure D.non⟩
  | n + 1, .node k r x y, h, hz => by
    obtain ⟨z1, z2⟩ := szx hz
    have e1 : ∀ st, mFound b m (n + 1) st (kn b m (.node k r x y)) key = DL.bnd (opn b m st (kn b m (.node k r x y))) fun o st' => if key = o.1 then .ok (rowD o.2.1, st') else mFound b m n st' (if strLt key o.1 then o.2.2.1 else o.2.2.2) key := fun st => by rw [mFound, if_neg (kn_n b m k r x y)]
    have e2 : ∀ st, mFound b m (n + 1) st (gp b m (.node k r x y)) key = DL.bnd (opn b m st (gp b m (.node k r x y))) fun o st' => if key = o.1 then .ok (rowD o.2.1, st') else mFound b m n st' (if strLt key o.1 then o.2.2.1 else o.2.2.2) key := fun st => by rw [mFound, if_neg (gp_n b m k r x y)]
    simp only [e1, e2]
    have H : ∃ a w, Sim b m (fun st' => if key = k then .ok (rowD r, st') else mFound b m n st' (if strLt key k then kn b m x else kn b m y) key) (fun st' => if key = k then .ok (rowD r, st') else mFound b m n st' (if strLt key k then gp b m x else gp b m y) key) a w := by
      refine Sim.ite (fun _ => ⟨_, _, Sim.pure _⟩) (fun _ => ?_)
      cases strLt key k with
      | true => exact sim_found n x h.2.2.1 z1
      | false => exact sim_found n y h.2.2.2 z2
    obtain ⟨a, w, H⟩ := H
    exact ⟨_, _, sim_open hr h (gk := fun o st' => if key = o.1 then .ok (rowD o.2.1, st') else mFound b m n st' (if strLt key o.1 then o.2.2.1 else o.2.2.2) key) (gg := fun o st' => if key = o.1 then .ok (rowD o.2.1, st') else mFound b m n st' (if strLt key o.1 then o.2.2.1 else o.2.2.2) key) H⟩
theorem sim_place {key : Str} : ∀ (n : Nat) (t : Tr) (i : Int), okTr t → t.size < n → ∃ a w, Sim b m (fun st => mPlace b m n st (kn b m t) key i) (fun st => mPlace b m n st (gp b m t) key i) a w
  | 0, t, _, _, h => absurd h (Nat.not_lt_zero _)
  | n + 1, .nil, i, _, _ => ⟨_, _, Sim.pure i⟩
  | n + 1, .node k r x y, i, h, hz => by
    obtain ⟨z1, z2⟩ := szx hz
    let G : Op → SrcS → Except Rf (Int × SrcS) := fun o st' => if strLt o.1 key then mPlace b m n st' o.2.2.2 key (i + (1 + o.2.2.1.l.n)) else mPlace b m n st' o.2.2.1 key i
    have e1 : ∀ st, mPlace b m (n + 1) st (kn b m (.node k r x y)) key i = DL.bnd (opn b m st (kn b m (.node k r x y))) G := fun st => by rw [mPlace, if_neg (kn_n b m k r x y)]
    have e2 : ∀ st, mPlace b m (n + 1) st (gp b m (.node k r x y)) key i = DL.bnd (opn b m st (gp b m (.node k r x y))) G := fun st => by rw [mPlace, if_neg (gp_n b m k r x y)]
    simp only [e1, e2]
    have H : ∃ a w, Sim b m (G (k, r, kn b m x, kn b m y)) (G (k, r, gp b m x, gp b m y)) a w :=
      Sim.ite (fun _ => sim_place n y _ h.2.2.2 z2) (fun _ => sim_place n x _ h.2.2.1 z1)
    obtain ⟨a, w, H⟩ := H
    exact ⟨_, _, sim_open hr h H⟩
theorem sim_at : ∀ (n : Nat) (t : Tr) (i : Int), 0 ≤ i → okTr t → t.size < n → ∃ a w, Sim b m (fun st => mAt b m n st (kn b m t) i) (fun st => mAt b m n st (gp b m t) i) a w
  | 0, t, _, _, _, h => absurd h (Nat.not_lt_zero _)
  | n + 1, .nil, i, hi, _, _ => by
    have e1 : ∀ st, mAt b m (n + 1) st (kn b m .nil) i = .ok (.non, st) := fun st => by rw [mAt, if_neg (show ¬ i < (kn b m .nil).l.n by show ¬ i < 0; omega)]
    have e2 : ∀ st, mAt b m (n + 1) st (gp b m .nil) i = .ok (.non, st) := fun st => by rw [mAt, if_neg (show ¬ i < (gp b m .nil).l.n by show ¬ i < 0; omega)]
    simp only [e1, e2]
    exact ⟨_, _, Sim.pure D.non⟩
  | n + 1, .node k r x y, i, hi, h, hz => by
    obtain ⟨z1, z2⟩ := szx hz
    let G : Op → SrcS → Except Rf (D × SrcS) := fun o st' => if i = o.2.2.1.l.n then .ok (tabR (o.1, o.2.1), st') else if i < o.2.2.1.l.n then mAt b m n st' o.2.2.1 i else mAt b m n st' o.2.2.2 (i - (o.2.2.1.l.n + 1))
    have e1 : ∀ st, mAt b m (n + 1) st (kn b m (.node k r x y)) i = if i < (linkT b m (.node k r x y)).n then DL.bnd (opn b m st (kn b m (.node k r x y))) G else .ok (.non, st) := fun st => by rw [mAt]; rfl
    have e2 : ∀ st, mAt b m (n + 1) st (gp b m (.node k r x y)) i = if i < (linkT b m (.node k r x y)).n then DL.bnd (opn b m st (gp b m (.node k r x y))) G else .ok (.non, st) := fun st => by rw [mAt]; rfl
    simp only [e1, e2]
    refine Sim.ite (fun _ => ?_) (fun _ => ⟨_, _, Sim.pure _⟩)
    have H : ∃ a w, Sim b m (G (k, r, kn b m x, kn b m y)) (G (k, r, gp b m x, gp b m y)) a w := by
      refine Sim.ite (fun _ => ⟨_, _, Sim.pure _⟩) (fun h1 => Sim.ite (fun _ => sim_at n x i hi h.2.2.1 z1) (fun h2 => ?_))
      have h1 : ¬ i = (linkT b m x).n := h1
      have h2 : ¬ i < (linkT b m x).n := h2
      exact sim_at n y (i - ((linkT b m x).n + 1)) (by omega) h.2.2.2 z2
    obtain ⟨a, w, H⟩ := H
    exact ⟨_, _, sim_open hr h H⟩
theorem Sim.seq {α β : Type} {fk fg : SrcS → Except Rf (α × SrcS)} {gk gg : α → SrcS → Except Rf (β × SrcS)} (h : ∃ a w, Sim b m fk fg a w) (g : ∀ a, ∃ c v, Sim b m (gk a) (gg a) c v) : ∃ c v, Sim b m (fun st => DL.bnd (fk st) gk) (fun st => DL.bnd (fg st) gg) c v := by
  obtain ⟨a, w, h⟩ := h
  obtain ⟨c, v, g⟩ := g a
  exact ⟨_, _, h.bnd g⟩
theorem sim_btw {lo hi : Str} : ∀ (n : Nat) (t : Tr), okTr t → t.size < n → ∃ a w, Sim b m (fun st => mBtw b m n st (kn b m t) lo hi) (fun st => mBtw b m n st (gp b m t) lo hi) a w
  | 0, t, _, h => absurd h (Nat.not_lt_zero _)
  | n + 1, .nil, _, _ => ⟨_, _, Sim.pure ([] : Tab)⟩
  | n + 1, .node k r x y, h, hz => by
    obtain ⟨z1, z2⟩ := szx hz
    let G : Op → SrcS → Except Rf (Tab × SrcS) := fun o st1 =>
      DL.bnd (if strLt lo o.1 then mBtw b m n st1 o.2.2.1 lo hi else .ok ([], st1)) fun a st2 =>
      DL.bnd (if strLt o.1 hi then mBtw b m n st2 o.2.2.2 lo hi else .ok ([], st2)) fun d st3 =>
      .ok (a ++ (if inB lo hi (o.1, o.2.1) then [(o.1, o.2.1)] else []) ++ d, st3)
    have e1 : ∀ st, mBtw b m (n + 1) st (kn b m (.node k r x y)) lo hi = DL.bnd (opn b m st (kn b m (.node k r x y))) G := fun st => by rw [mBtw, if_neg (kn_n b m k r x y)]
    have e2 : ∀ st, mBtw b m (n + 1) st (gp b m (.node k r x y)) lo hi = DL.bnd (opn b m st (gp b m (.node k r x y))) G := fun st => by rw [mBtw, if_neg (gp_n b m k r x y)]
    simp only [e1, e2]
    have H : ∃ a w, Sim b m (G (k, r, kn b m x, kn b m y)) (G (k, r, gp b m x, gp b m y)) a w :=
      Sim.seq hr (Sim.ite (fun _ => sim_btw n x h.2.2.1 z1) (fun _ => ⟨_, _, Sim.pure _⟩)) fun a =>
      Sim.seq hr (Sim.ite (fun _ => sim_btw n y h.2.2.2 z2) (fun _ => ⟨_, _, Sim.pure _⟩)) fun d => ⟨_, _, Sim.pure _⟩
    obtain ⟨a, w, H⟩ := H
    exact ⟨_, _, sim_open hr h H⟩
theorem sim_nxt {key : Str} {cnt : Int} : ∀ (n : Nat) (t : Tr) (got : Int), okTr t → t.size < n → ∃ a w, Sim b m (fun st => mNxt b m n st (kn b m t) key cnt got) (fun st => mNxt b m n st (gp b m t) key cnt got) a w
  | 0, t, _, _, h => absurd h (Nat.not_lt_zero _)
  | n + 1, .nil, got, _, _ => by
    have e1 : ∀ st, mNxt b m (n + 1) st (kn b m .nil) key cnt got = .ok ([], st) := fun st => by rw [mNxt, if_pos (.inl rfl)]
    have e2 : ∀ st, mNxt b m (n + 1) st (gp b m .nil) key cnt got = .ok ([], st) := fun st => by rw [mNxt, if_pos (.inl rfl)]
    simp only [e1, e2]
    exact ⟨_, _, Sim.pure ([] : Tab)⟩
  | n + 1, .node k r x y, got, h, hz => by
    obtain ⟨z1, z2⟩ := szx hz
    let G : Op → SrcS → Except Rf (Tab × SrcS) := fun o st1 =>
      DL.bnd (if strLt key o.1 then DL.bnd (mNxt b m n st1 o.2.2.1 key cnt got) fun a st2 => .ok (if got + (a.length : Nat) < cnt then a ++ [(o.1, o.2.1)] else a, st2) else .ok ([], st1)) fun a st2 =>
      DL.bnd (mNxt b m n st2 o.2.2.2 key cnt (got + (a.length : Nat))) fun d st3 => .ok (a ++ d, st3)
    have e1 : ∀ st, mNxt b m (n + 1) st (kn b m (.node k r x y)) key cnt got = if (linkT b m (.node k r x y)).n = 0 ∨ cnt ≤ got then .ok ([], st) else DL.bnd (opn b m st (kn b m (.node k r x y))) G := fun st => by rw [mNxt]; rfl
    have e2 : ∀ st, mNxt b m (n + 1) st (gp b m (.node k r x y)) key cnt got = if (linkT b m (.node k r x y)).n = 0 ∨ cnt ≤ got then .ok ([], st) else DL.bnd (opn b m st (gp b m (.node k r x y))) G := fun st => by rw [mNxt]; rfl
    simp only [e1, e2]
    refine Sim.ite (fun _ => ⟨_, _, Sim.pure _⟩) (fun _ => ?_)
    have H : ∃ a w, Sim b m (G (k, r, kn b m x, kn b m y)) (G (k, r, gp b m x, gp b m y)) a w :=
      Sim.seq hr (Sim.ite (fun _ => Sim.seq hr (sim_nxt n x got h.2.2.1 z1) fun a => ⟨_, _, Sim.pure _⟩) (fun _ => ⟨_, _, Sim.pure _⟩)) fun a =>
      Sim.seq hr (sim_nxt n y _ h.2.2.2 z2) fun d => ⟨_, _, Sim.pure _⟩
    obtain ⟨a, w, H⟩ := H
    exact ⟨_, _, sim_open hr h H⟩
theorem sim_ms {lo hi : Str} : ∀ (n : Nat) (t : Tr) (ab be : Option Str), okTr t → t.size < n → ∃ a w, Sim b m (fun st => mMs b m n st (kn b m t) lo hi ab be) (fun st => mMs b m n st (gp b m t) lo hi ab be) a w
  | 0, t, _, _, _, h => absurd h (Nat.not_lt_zero _)
  | n + 1, .nil, ab, be, _, _ => by
    have e1 : ∀ st, mMs b m (n + 1) st (kn b m .nil) lo hi ab be = .ok ((0, 0, 0, 0), st) := fun st => by rw [mMs, if_pos (show (kn b m .nil).l.n = 0 from rfl)]
    have e2 : ∀ st, mMs b m (n + 1) st (gp b m .nil) lo hi ab be = .ok ((0, 0, 0, 0), st) := fun st => by rw [mMs, if_pos (gp_nil b m)]
    simp only [e1, e2]
    exact ⟨_, _, Sim.pure ((0, 0, 0, 0) : I4)⟩
  | n + 1, .node k r x y, ab, be, h, hz => by
    obtain ⟨z1, z2⟩ := szx hz
    let G : Op → SrcS → Except Rf (I4 × SrcS) := fun o st1 =>
      DL.bnd (if strLt lo o.1 then DL.bnd (mMs b m n st1 o.2.2.1 lo hi ab (some o.1)) fun x st2 => .ok (add4 (own4 lo hi o) x, st2) else .ok (own4 lo hi o, st1)) fun t st2 =>
      DL.bnd (if strLt o.1 hi then DL.bnd (mMs b m n st2 o.2.2.2 lo hi (some o.1) be) fun x st3 => .ok (add4 t x, st3) else .ok (t, st2)) fun t st3 => .ok (t, st3)
    have e1 : ∀ st, mMs b m (n + 1) st (kn b m (.node k r x y)) lo hi ab be = if insideB lo hi ab be then .ok (((linkT b m (.node k r x y)).n, (linkT b m (.node k r x y)).a, (linkT b m (.node k r x y)).b, (linkT b m (.node k r x y)).c), st) else DL.bnd (opn b m st (kn b m (.node k r x y))) G := fun st => by rw [mMs, if_neg (kn_n b m k r x y)]; rfl
    have e2 : ∀ st, mMs b m (n + 1) st (gp b m (.node k r x y)) lo hi ab be = if insideB lo hi ab be then .ok (((linkT b m (.node k r x y)).n, (linkT b m (.node k r x y)).a, (linkT b m (.node k r x y)).b, (linkT b m (.node k r x y)).c), st) else DL.bnd (opn b m st (gp b m (.node k r x y))) G := fun st => by rw [mMs, if_neg (gp_n b m k r x y)]; rfl
    simp only [e1, e2]
    refine Sim.ite (fun _ => ⟨_, _, Sim.pure _⟩) (fun _ => ?_)
    have H : ∃ a w, Sim b m (G (k, r, kn b m x, kn b m y)) (G (k, r, gp b m x, gp b m y)) a w :=
      Sim.seq hr (Sim.ite (fun _ => Sim.seq hr (sim_ms n x _ _ h.2.2.1 z1) fun a => ⟨_, _, Sim.pure _⟩) (fun _ => ⟨_, _, Sim.pure _⟩)) fun t =>
      Sim.seq hr (Sim.ite (fun _ => Sim.seq hr (sim_ms n y _ _ h.2.2.2 z2) fun a => ⟨_, _, Sim.pure _⟩) (fun _ => ⟨_, _, Sim.pure _⟩)) fun t => ⟨_, _, Sim.pure _⟩
    obtain ⟨a, w, H⟩ := H
    exact ⟨_, _, sim_open hr h H⟩
/-- a walk for a query -/
theorem sim_walk {n : Nat} {t : Tr} {q : Qy} (hq : isQ q) (h : okTr t) (hz : t.size < n) : ∃ a w, Sim b m (fun st => mWalk b m n st (kn b m t) q) (fun st => mWalk b m n st (gp b m t) q) a w := by
  cases q with
  | get k => exact Sim.seq hr (sim_found hr n t h hz) fun d => ⟨_, _, Sim.pure _⟩
  | rng lo hi => exact Sim.seq hr (sim_btw hr n t h hz) fun d => ⟨_, _, Sim.pure _⟩
  | nxt k c => exact Sim.seq hr (sim_nxt hr n t 0 h hz) fun d => ⟨_, _, Sim.pure _⟩
  | cnt lo hi => exact Sim.seq hr (sim_ms hr n t _ _ h hz) fun d => ⟨_, _, Sim.pure _⟩
  | sm c lo hi => exact Sim.seq hr (sim_ms hr n t _ _ h hz) fun d => ⟨_, _, Sim.pure _⟩
  | plc k => exact Sim.seq hr (sim_place hr n t 0 h hz) fun d => ⟨_, _, Sim.pure _⟩
  | «at» i => exact Sim.seq hr (sim_at hr n t i hq.1 h hz) fun d => ⟨_, _, Sim.pure _⟩
theorem sim_cert {n : Nat} {t : Tr} {q : Qy} (hq : isQ q) (h : okTr t) (hs : srt t) (hz : t.size < n) : Sim b m (fun st => mWalk b m n st (kn b m t) q) (fun st => mWalk b m n st (gp b m t) q) (rsOf t.rows q) (certT b m t q) := by
  obtain ⟨a, w, H⟩ := sim_walk hr hq h hz
  have e := H.kn []
  have e : mWalk b m n (.kn []) (kn b m t) q = .ok (a, .kn ([] ++ w)) := e
  rw [mWalk_kn hz hs hq] at e
  injection e with e
  injection e with e1 e2
  injection e2 with e2
  subst e1
  rw [List.nil_append] at e2
  subst e2
  exact H
/-- the right certificate is taken -/
theorem read_right {n : Nat} {t : Tr} {q : Qy} (hq : isQ q) (h : okTr t) (hs : srt t) (hz : t.size < n) : mRead b m n (linkT b m t) q (certT b m t q) = .tup [.str "answer", ansD t.rows q] := by
  have H := (sim_cert hr hq h hs hz).gv (certT b m t q) 0 [] (by rw [List.append_nil]; rfl)
  have H : mWalk b m n (.gv (certT b m t q) 0) (gp b m t) q = .ok (rsOf t.rows q, .gv (certT b m t q) (0 + (certT b m t q).length)) := H
  unfold mRead
  show (match mWalk b m n (.gv (certT b m t q) 0) (gp b m t) q with | .error rf => refD rf | .ok (r, st) => _) = _
  rw [H]
  show (if 0 + (certT b m t q).length < (certT b m t q).length then _ else D.tup [.str "answer", (rsOf t.rows q).D]) = _
  rw [if_neg (by omega), rsOf_D]
end
end DL
namespace DL
open PySem PySem.Spec PyProof.Rows L2
theorem ite_len {p : Prop} [Decidable p] {a : List D} {n : Nat} (h : a.length ≤ n) : (if p then a else []).length ≤ n := by
  split
  · exact h
  · exact Nat.zero_le _
theorem wGet_len (b m : Int) (key : Str) : ∀ t : Tr, (wGet b m key t).length ≤ t.size
  | .nil => Nat.le_refl _
  | .node k r x y => by
    show (if strLt key k then wGet b m key x else if strLt k key then wGet b m key y else []).length + 1 ≤ x.size + y.size + 1
    have h1 := wGet_len b m key x
    have h2 := wGet_len b m key y
    split
    · omega
    · split
      · omega
      · show 0 + 1 ≤ _; omega
theorem wPlc_len (b m : Int) (key : Str) : ∀ t : Tr, (wPlc b m key t).length ≤ t.size
  | .nil => Nat.le_refl _
  | .node k r x y => by
    show (if strLt k key then wPlc b m key y else wPlc b m key x).length + 1 ≤ x.size + y.size + 1
    have h1 := wPlc_len b m key x
    have h2 := wPlc_len b m key y
    split <;> omega
theorem wAt_len (b m : Int) : ∀ (t : Tr) (i : Int), (wAt b m t i).length ≤ t.size
  | .nil, _ => Nat.le_refl _
  | .node k r x y, i => by
    show (if 1 + (linkT b m x).n + (linkT b m y).n ≤ i then [] else entT b m k r x y :: (if i < (linkT b m x).n then wAt b m x i else if (linkT b m x).n < i then wAt b m y (i - (linkT b m x).n - 1) else [])).length ≤ x.size + y.size + 1
    have h1 := wAt_len b m x i
    have h2 := wAt_len b m y (i - (linkT b m x).n - 1)
    split
    · exact Nat.zero_le _
    · rw [List.length_cons]
      split
      · omega
      · split
        · omega
        · show 0 + 1 ≤ _; omega
theorem cert_len (b m : Int) (t : Tr) (q : Qy) : (certT b m t q).length ≤ t.size := by
  cases q with
  | get k => exact wGet_len _ _ _ _
  | rng lo hi => exact wRng_len _ _ _ _ _
  | nxt k c => exact wNxt_len _ _ _ _ _ _
  | cnt lo hi => exact wSum_len _ _ _ _ _ _ _
  | sm c lo hi => exact wSum_len _ _ _ _ _ _ _
  | plc k => exact wPlc_len _ _ _ _
  | «at» i => exact wAt_len _ _ _ _
theorem plB_ints : ∀ r : List Int, plBL (r.map D.int) = true
  | [] => rfl
  | i :: r => by show (true && plBL (r.map D.int)) = true; rw [plB_ints r]; rfl
theorem plB_row {r : List Int} (h : isRow r) : plB (rowD r) = true := by
  show (decide ((r.map D.int).length ≤ 1000) && plBL (r.map D.int)) = true
  rw [plB_ints, List.length_map, decide_eq_true (by have := h.2.1; omega)]
  rfl
theorem plB_key {k : Str} (h : isKey k) : plB (.str k) = true := by
  show (PyData.strOk k && decide (k.length ≤ 1000)) = true
  rw [key_ok h, decide_eq_true (by have := key_len h; omega)]
  rfl
theorem plB_ent {e : D} (h : isEnt e) : plB e = true := by
  obtain ⟨k, r, x, y, rfl, hk, hr⟩ := h
  show (true && (plB (.str k) && (plB (rowD r) && (plB (linkD x) && (plB (linkD y) && true))))) = true
  rw [plB_key hk, plB_row hr]
  rfl
theorem plBL_ent {ds : List D} (h : isEntL ds) : plBL ds = true := plBL_iff.mpr fun d hd => plB_ent (h d hd)
end DL
namespace DL
open PySem PySem.Spec PyProof.Rows L2
def top (i : Nat) : Stmt := PySem.Challenge.pw_rightrows_k09_right_certificates_are_tak.main.body.getD i (.Pass ⟨0, 0, 0, 0⟩)
section
variable {P : Program} {w : World} {K : PySem.W.Frag} {T : Addr → Prop} {mg : Str → Option Value} {base : Heap}
abbrev s_encode : Stmt := top 8
abbrev N_encode : List Str := ["value", "made", "one", "letter"]
theorem sc_encode : FnScope N_encode ["value"] (C8.fnScope s_encode) := C8.fnScope_by (by decide +kernel)
theorem ok_encode (D : Df K mg "encode" s_encode) (bi : Bi mg) : ∀ n, CalP P w K T mg base n "encode" (spEncode n) := by
  intro n
  induction n with
  | zero => exact D.bot (ps := ["value"]) (fun _ _ _ _ _ _ us hl => match us, hl with | [_], _ => rfl) (by
      rintro xs Kp ⟨d, _, h, _⟩
      cases d <;> simp [isVal] at h)
  | succ n c_encode =>
    have sc := sc_encode
    refine D.calp (Q := spEncode (n + 1)) (fun _ _ _ _ _ _ us hl => match us, hl with | [_], _ => rfl) sc (by rintro _ _ ⟨d, rfl, _⟩; rfl)
      (fun f cdv A outer s H E hr =>
      (dpss_cons (dps_if (dpt_tru (e_isi bi (dpa_cons (dpv 0) (a1 (t_str bi)))))
        (dpss_one (dps_ret (e_add false (dpe_lst false (dpa_cons dpe_int (a1 (e_len bi (a1 (dpv 0)))))) (dpe_lc (ow := [("letter", 3)]) false (lk_name (by decide)) rfl sc.nd (dpi_any (dpv 0)) (blkOk_by (N := N_encode) (sc := C8.fnScope s_encode) (by decide +kernel)) (fun _ _ _ _ _ => pg_name (i := 3) sc.nd rfl (Or.inl rfl)) (fun _ _ _ _ _ => dpts_nil) (fun _ _ _ _ _ => (e_ord bi (a1 (dpv 3))))))))
        dpss_nil)
        (dpss_cons (dps_if (dpt_tru (e_isi bi (dpa_cons (dpv 0) (a1 (t_tuple bi)))))
        (dpss_cons (sset 1 sc.nd (dpe_lst true (dpa_cons dpe_int (a1 (e_len bi (a1 (dpv 0)))))))
        (dpss_cons (dps_for PassesOwn.never rfl (dpi_any (dpv 0)) (gname 2 sc.nd)
        (dpss_one (saug 1 sc.nd (dpe_callP c_encode hr (Nat.le_refl _) (by rfl) (a1 (dpv 2))) od_iadd)))
        (dpss_one (dps_ret (dpv 1)))))
        dpss_nil)
        (dpss_one (dps_ret (dpe_lst false (dpa_cons dpe_int (a1 (dpv 0))))))))
      ) ?_
    rintro xs Kp ⟨d, rfl, hv, hz, hk⟩
    cases d with
    | str x =>
      simp only [isVal, decide_eq_true_eq] at hv
      have hx : x.length ≤ sizeLine := Nat.le_trans hv (by decide)
      have hl : x.cps.toList.length = x.length := by simp [Str.length]
      refine ⟨hx, sz rfl, by simp only [List.length_map, hl]; exact hx, ?_⟩
      refine lcW_map (fun w => match w with | W.fz (.str y) => W.fz (.int (y.cps.getD 0 0 : Nat)) | w => w) (fun w hw A Bf ha => ?_) ?_
      · obtain ⟨c, _, rfl⟩ := List.mem_map.mp hw
        exact ⟨rfl, ha⟩
      · rw [List.map_map]
        have e : (x.cps.toList.map ((fun w => match w with | W.fz (.str y) => W.fz (.int (y.cps.getD 0 0 : Nat)) | w => w) ∘ fun c => W.fz (.str ⟨#[c]⟩))) = ((codes x).map DL.D.int).map W.fz := by
          simp [codes, List.map_map, Function.comp_def]
        rw [e]
        refine newL_F (addW_lst ?_ ?_)
        · simp only [codes, List.length_map, hl, List.length_cons, List.length_nil]
          exact Nat.le_trans (Nat.add_le_add_left hv _) (by decide)
        · exact hk
    | tup ds =>
      simp only [isVal, Bool.and_eq_true, decide_eq_true_eq] at hv
      have hl2 : (encL ds).length ≤ 10000 := by
        simp only [enc, List.length_cons] at hz
        omega
      refine ⟨sz rfl, ?_⟩
      refine loop_inv (I := fun ws env S => ∃ (es : List DL.D) (w2 : Option W) (acc : List Int), ws = es.map W.fz ∧ isValL n es = true ∧ env = [some (W.fz (.tup ds)), some (.hd 0), w2, none] ∧ S = [OD.lst ((acc.map DL.D.int).map W.fz)] ∧ acc ++ encL es = enc (.tup ds) ∧ 2 ≤ acc.length) ?_ ?_ ?_
      · exact ⟨ds, none, [2, (ds.length : Int)], rfl, hv.2, rfl, by simp, rfl, Nat.le_refl _⟩
      · rintro env S ⟨es, w2, acc, h1, h2, h3, h4, h5, h6⟩
        subst h3; subst h4
        cases es with
        | cons _ _ => cases h1
        | nil =>
          have e : acc = enc (.tup ds) := by simpa [encL] using h5
          subst e
          show onO (Option.map DL.D.lst (fzL _)) _
          rw [fzL_map]
          exact hk
      · rintro w ws env S N ⟨es, w2, acc, h1, h2, h3, h4, h5, h6⟩ hN
        subst h3; subst h4
        cases es with
        | nil => cases h1
        | cons e es =>
          cases h1
          unfold isValL at h2
          rw [Bool.and_eq_true] at h2
          have hl : acc.length + ((enc e).length + (encL es).length) ≤ 10002 ∧ (enc e).length ≤ 10000 := by
            have := congrArg List.length h5
            simp only [encL, List.length_append, enc, List.length_cons] at this
            omega
          refine ⟨e, rfl, h2.1, hl.2, ?_⟩
          refine ⟨?_, hN _ _ ⟨es, some (W.fz e), acc ++ enc e, rfl, h2.2, rfl, ?_, ?_, ?_⟩⟩
          · simp only [List.length_map]
            exact Nat.le_trans (show acc.length + (enc e).length ≤ 10010 by omega) (by decide)
          · simp
          · rw [← h5]
            simp [encL]
          · simp only [List.length_append]; omega
    | int i => 
      refine ⟨sz rfl, ?_⟩
      exact hk
    | _ => simp [isVal] at hv
abbrev s_digest : Stmt := top 9
abbrev N_digest : List Str := ["rule", "value", "numbers", "found", "number", "base", "modulus"]
theorem sc_digest : FnScope N_digest ["rule", "value"] (C8.fnScope s_digest) := C8.fnScope_by (by decide +kernel)
theorem ok_digest (D : Df K mg "digest" s_digest) (bi : Bi mg) (c_encode : CalP P w K T mg base 8 "encode" (spEncode 8)) : CalP P w K T mg base 9 "digest" spDigest := by
  have sc := sc_digest
  refine D.calp (k := 8) (Q := spDigest) (fun _ _ _ _ _ _ us hl => match us, hl with | [_, _], _ => rfl) sc (by rintro _ _ ⟨b, m, v, rfl, _⟩; rfl)
      (fun f cdv A outer s H E hr =>
      (dpss_cons (dps_asg (dpv 0) (dpg_tup (n := 2) rfl (dpgs_cons (gname 5 sc.nd) (dpgs_cons (gname 6 sc.nd) dpgs_nil))))
        (dpss_cons (sset 2 sc.nd (dpe_callP c_encode hr (by decide) (by rfl) (a1 (dpv 1))))
        (dpss_cons (sset 3 sc.nd (e_mod dpe_int (dpv 6)))
        (dpss_cons (dps_for PassesOwn.never rfl (dpi_any (dpv 2)) (gname 4 sc.nd)
        (dpss_one (sset 3 sc.nd (e_mod (e_add false (e_add false (e_mul (dpv 3) (dpv 5)) (dpv 4)) dpe_int) (dpv 6)))))
        (dpss_one (dps_ret (e_mod (e_add false (e_mul (dpv 3) (dpv 5)) (e_len bi (a1 (dpv 2)))) (dpv 6))))))))
      ) ?_
  rintro xs Kp ⟨b, m, v, rfl, hr, ⟨hv, hz⟩, hk⟩
  refine ⟨rfl, v, rfl, hv, hz, hr.pos, ?_⟩
  refine loop_inv (I := fun ws env S => ∃ (ns : List Int) (f : Int) (w4 : Option W), ws = (ns.map DL.D.int).map W.fz ∧ env = [some (W.fz (ruleD b m)), some (W.fz v), some (W.fz (intsD (enc v))), some (W.fz (.int f)), w4, some (W.fz (.int b)), some (W.fz (.int m))] ∧
    ns.foldl (fun f n => (f * b + n + 1) % m) f = (enc v).foldl (fun f n => (f * b + n + 1) % m) (1 % m)) ?_ ?_ ?_
  · exact ⟨enc v, 1 % m, none, rfl, rfl, rfl⟩
  · rintro env S ⟨ns, f, w4, h1, h2, h3⟩
    subst h2
    cases ns with
    | cons _ _ => cases h1
    | nil =>
      refine ⟨hr.mul _, hr.pos, ?_⟩
      have e : f = (enc v).foldl (fun f n => (f * b + n + 1) % m) (1 % m) := h3
      have e2 : (((enc v).map DL.D.int).map W.fz).length = (enc v).length := by simp
      show Kp (.int ((f * b + ((((enc v).map DL.D.int).map W.fz).length : Int)) % m))
      rw [e, e2]
      exact hk
  · rintro w ws env S N ⟨ns, f, w4, h1, h2, h3⟩ hN
    subst h2
    cases ns with
    | nil => cases h1
    | cons n ns =>
      cases h1
      exact ⟨hr.mul _, hr.pos, hN _ _ ⟨ns, _, _, rfl, rfl, h3⟩⟩
abbrev s_Tree : Stmt := (C8.clsBody (top 15)).getD 0 (.Pass ⟨0, 0, 0, 0⟩)
abbrev N_Tree : List Str := ["self", "link", "entry", "left", "right"]
theorem sc_Tree : FnScope N_Tree ["self", "link", "entry", "left", "right"] (C8.fnScope s_Tree) := C8.fnScope_by (by decide +kernel)
theorem ok_Tree {C : Addr} (D : MDf K mg "Tree" "Tree.__init__" s_Tree ["link", "entry", "left", "right"] C) : RecC P w K mg base "Tree" ["link", "entry", "left", "right"] C := by
  obtain ⟨f, fd, M, F, df⟩ := D.ex
  refine ⟨C8.mak0 M D.mgC F (F.binds df (fun _ _ _ _ _ _ us hl => match us, hl with | [_, _, _, _, _], _ => rfl)) .nil sc_Tree (by rintro _ _ _ _ ⟨a, dx, vals, rfl, hl, _⟩; rw [List.length_cons, hl]; rfl) (fun cdv A outer s H vs Q E hr ⟨a, dx, vals, e, hl, ha, hq⟩ => ⟨_, (pss_cons (ps_fld (pv 0) (pv 1) rfl) (pss_cons (ps_fld (pv 0) (pv 2) rfl) (pss_cons (ps_fld (pv 0) (pv 3) rfl) (pss_one (ps_fld (pv 0) (pv 4) rfl))))), ?_⟩), D.cls, D.na⟩
  subst e
  obtain ⟨v1, v2, v3, v4, rfl⟩ : ∃ v1 v2 v3 v4, vals = [v1, v2, v3, v4] := by
    match vals, hl with
    | [v1, v2, v3, v4], _ => exact ⟨v1, v2, v3, v4, rfl⟩
  refine ⟨v1, rfl, .ref a, rfl, a, C, dx, [], rfl, ha, D.cls, D.na _ (by simp), by decide, ?_⟩
  refine ⟨v2, rfl, .ref a, rfl, a, C, dx, _, rfl, upd_same, D.cls, D.na _ (by simp), by show 1 < 1000; decide, ?_⟩
  refine ⟨v3, rfl, .ref a, rfl, a, C, dx, _, rfl, upd_same, D.cls, D.na _ (by simp), by show 2 < 1000; decide, ?_⟩
  refine ⟨v4, rfl, .ref a, rfl, a, C, dx, _, rfl, upd_same, D.cls, D.na _ (by simp), by show 3 < 1000; decide, ?_⟩
  show Q .non (upd (upd (upd (upd H a _) a _) a _) a _)
  rw [upd_upd, upd_upd, upd_upd]
  exact hq
abbrev s_cell : Stmt := top 6
abbrev N_cell : List Str := ["row", "column"]
theorem sc_cell : FnScope N_cell ["row", "column"] (C8.fnScope s_cell) := C8.fnScope_by (by decide +kernel)
theorem ok_cell (D : Df K mg "cell" s_cell) (bi : Bi mg) : CalP P w K T mg base 1 "cell" spCell := by
  have sc := sc_cell
  refine D.calp (k := 0) (Q := spCell) (fun _ _ _ _ _ _ us hl => match us, hl with | [_, _], _ => rfl) sc (by rintro _ _ ⟨r, k, rfl, _⟩; rfl)
      (fun f cdv A outer s H E hr =>
      (dpss_one (dps_ret (dpe_if (c_lt (dpv 1) (e_len bi (a1 (dpv 0)))) (e_ix (dpv 0) (dpv 1)) dpe_int)))
      ) ?_
  rintro xs Kp ⟨r, k, rfl, hr, h0, hk⟩
  have el : ((r.map DL.D.int).map W.fz).length = r.length := by simp
  refine ifB_d (fun h => ?_) (fun h => ?_)
  · refine onO_at h0 h fun x hx => ?_
    rw [List.getElem?_map, List.getElem?_map] at hx
    cases e : r[k.toNat]? with
    | none => rw [e] at hx; cases hx
    | some z =>
      rw [e] at hx
      cases hx
      have : cellI r k.toNat = z := by unfold cellI; rw [List.getD_eq_getElem?_getD, e]; rfl
      rw [this] at hk
      exact hk
  · have : cellI r k.toNat = 0 := by
      unfold cellI
      rw [List.getD_eq_getElem?_getD, List.getElem?_eq_none]
      · rfl
      · have h2 : ¬ k < (((r.map DL.D.int).map W.fz).length : Nat) := h
        rw [el] at h2
        omega
    rw [this] at hk
    exact hk
abbrev s_rank : Stmt := top 11
abbrev N_rank : List Str := ["key", "found", "letter"]
theorem sc_rank : FnScope N_rank ["key"] (C8.fnScope s_rank) := C8.fnScope_by (by decide +kernel)
theorem ok_rank (D : Df K mg "rank" s_rank) (bi : Bi mg) : CalP P w K T mg base 1 "rank" spRank := by
  have sc := sc_rank
  refine D.calp (k := 0) (Q := spRank) (fun _ _ _ _ _ _ us hl => match us, hl with | [_], _ => rfl) sc (by rintro _ _ ⟨k, rfl, _⟩; rfl)
      (fun f cdv A outer s H E hr =>
      (dpss_cons (sset 1 sc.nd dpe_int)
        (dpss_cons (dps_for PassesOwn.never rfl (dpi_any (dpv 0)) (gname 2 sc.nd)
        (dpss_one (sset 1 sc.nd (e_mod (e_add false (e_mul (dpv 1) dpe_int) (e_ord bi (a1 (dpv 2)))) dpe_int))))
        (dpss_one (dps_ret (dpv 1)))))
      ) ?_
  rintro xs Kp ⟨k, rfl, hkey, hk⟩
  refine loop_inv (I := fun ws env S => ∃ (ns : List Nat) (f : Int) (w2 : Option W), ws = ns.map (fun c => W.fz (.str ⟨#[c]⟩)) ∧ env = [some (W.fz (.str k)), some (W.fz (.int f)), w2] ∧ (ns.map fun c => ((c : Nat) : Int)).foldl (fun f c => (f * 131 + c) % 1000003) f = rankI k) ?_ ?_ ?_
  · exact ⟨k.cps.toList, 7, none, rfl, rfl, rfl⟩
  · rintro env S ⟨ns, f, w2, h1, rfl, h3⟩
    cases ns with
    | cons _ _ => cases h1
    | nil =>
      have e : f = rankI k := h3
      subst e
      exact hk
  · rintro w ws env S N ⟨ns, f, w2, h1, rfl, h3⟩ hN
    cases ns with
    | nil => cases h1
    | cons n ns =>
      cases h1
      exact ⟨mulR rfl, rfl, posL rfl, hN _ _ ⟨ns, _, _, rfl, rfl, h3⟩⟩
abbrev s_outranks : Stmt := top 12
abbrev N_outranks : List Str := ["one", "two"]
theorem sc_outranks : FnScope N_outranks ["one", "two"] (C8.fnScope s_outranks) := C8.fnScope_by (by decide +kernel)
theorem ok_outranks (D : Df K mg "outranks" s_outranks) (bi : Bi mg) (c_rank : CalP P w K T mg base 1 "rank" spRank) : CalP P w K T mg base 2 "outranks" spOut := by
  have sc := sc_outranks
  refine D.calp (k := 1) (Q := spOut) (fun _ _ _ _ _ _ us hl => match us, hl with | [_, _], _ => rfl) sc (by rintro _ _ ⟨one, two, rfl, _⟩; rfl)
      (fun f cdv A outer s H E hr =>
      (dpss_one (dps_ret (e_ltD hr (dpe_tup (dpa_cons (dpe_callP c_rank hr (Nat.le_refl _) (by rfl) (a1 (dpv 1))) (a1 (dpv 0)))) (dpe_tup (dpa_cons (dpe_callP c_rank hr (Nat.le_refl _) (by rfl) (a1 (dpv 0))) (a1 (dpv 1)))))))
      ) ?_
  rintro xs Kp ⟨one, two, rfl, h1, h2, hk⟩
  refine ⟨two, rfl, h2, sz rfl, one, rfl, h1, sz rfl, ?_⟩
  have ok2 : ∀ (i : Int) (s : Str), isKey s → okD 60 (.tup [.int i, .str s]) = true := fun i s h => by
    show (true && (okD 59 (.str s) && true)) = true
    rw [ok_str (key_ok h)]
    rfl
  exact ⟨⟨ok2 _ _ h1, ok2 _ _ h2, rfl, rfl⟩, hk⟩
abbrev s_empty_link : Stmt := top 13
abbrev N_empty_link : List Str := ["rule"]
theorem sc_empty_link : FnScope N_empty_link ["rule"] (C8.fnScope s_empty_link) := C8.fnScope_by (by decide +kernel)
theorem ok_empty_link (D : Df K mg "empty_link" s_empty_link) (bi : Bi mg) (c_COLUMNS : ∃ t, mg "COLUMNS" = some (.int 3 t)) (c_digest : CalP P w K T mg base 9 "digest" spDigest) : CalP P w K T mg base 10 "empty_link" spELink := by
  have sc := sc_empty_link
  refine D.calp (k := 9) (Q := spELink) (fun _ _ _ _ _ _ us hl => match us, hl with | [_], _ => rfl) sc (by rintro _ _ ⟨b, m, rfl, _⟩; rfl)
      (fun f cdv A outer s H E hr =>
      (dpss_one (dps_ret (dpe_tup (dpa_cons (dpe_callP c_digest hr (Nat.le_refl _) (by rfl) (dpa_cons (dpv 0) (a1 (dpe_tup (a1 dpe_str))))) (dpa_cons dpe_int (a1 (e_rep (dpe_tup (a1 dpe_int)) (dpe_gint (by rfl) c_COLUMNS))))))))
      ) ?_
  rintro xs Kp ⟨b, m, rfl, hr, hk⟩
  refine ⟨sz rfl, b, m, emptyD, rfl, hr, ok_emptyD, ?_⟩
  exact ⟨sz rfl, ⟨rfl, by decide, by decide, by decide⟩, sz rfl, hk⟩
abbrev s_entry_link : Stmt := top 14
abbrev N_entry_link : List Str := ["rule", "entry", "sums", "_", "row", "left", "right", "k"]
theorem sc_entry_link : FnScope N_entry_link ["rule", "entry"] (C8.fnScope s_entry_link) := C8.fnScope_by (by decide +kernel)
set_option maxHeartbeats 4000000 in
theorem ok_entry_link (D : Df K mg "entry_link" s_entry_link) (bi : Bi mg) (c_COLUMNS : ∃ t, mg "COLUMNS" = some (.int 3 t)) (c_cell : CalP P w K T mg base 1 "cell" spCell) (c_digest : CalP P w K T mg base 9 "digest" spDigest) : CalP P w K T mg base 10 "entry_link" spLink := by
  have sc := sc_entry_link
  refine D.calp (k := 9) (Q := spLink) (fun _ _ _ _ _ _ us hl => match us, hl with | [_, _], _ => rfl) sc (by rintro _ _ ⟨b, m, k, r, x, y, rfl, _⟩; rfl)
      (fun f cdv A outer s H E hr =>
      (dpss_cons (dps_asg (dpv 1) (dpg_tup (n := 4) rfl (dpgs_cons (gname 3 sc.nd) (dpgs_cons (gname 4 sc.nd) (dpgs_cons (gname 5 sc.nd) (dpgs_cons (gname 6 sc.nd) dpgs_nil))))))
        (dpss_cons (sset 2 sc.nd (e_tuple bi (a1 (dpe_lc (ow := [("k", 7)]) false (lk_name (by decide)) rfl sc.nd (i_rng1 bi (a1 (dpe_gint (by rfl) c_COLUMNS))) (blkOk_by (N := N_entry_link) (sc := C8.fnScope s_entry_link) (by decide +kernel)) (fun _ _ _ _ _ => pg_name (i := 7) sc.nd rfl (Or.inl rfl)) (fun _ _ _ _ _ => dpts_nil) (fun _ _ _ _ _ => (e_add false (e_add false (dpe_callP c_cell hr (by decide) (by rfl) (dpa_cons (dpv 4) (a1 (dpv 7)))) (e_ix (e_ix (dpv 5) dpe_int) (dpv 7))) (e_ix (e_ix (dpv 6) dpe_int) (dpv 7))))))))
        (dpss_one (dps_ret (dpe_tup (dpa_cons (dpe_callP c_digest hr (Nat.le_refl _) (by rfl) (dpa_cons (dpv 0) (a1 (e_add false (dpe_tup (a1 dpe_str)) (dpv 1))))) (dpa_cons (e_add false (e_add false dpe_int (e_ix (dpv 5) dpe_int)) (e_ix (dpv 6) dpe_int)) (a1 (dpv 2)))))))))
      ) ?_
  rintro xs Kp ⟨b, m, k, r, x, y, rfl, hrl, hkey, hrow, hk⟩
  refine ⟨rfl, ?_⟩
  refine ⟨⟨by decide, by decide⟩, sz rfl, ?_⟩
  refine ⟨r, 0, rfl, hrow, by decide, ?_⟩
  refine ⟨r, 1, rfl, hrow, by decide, ?_⟩
  refine ⟨r, 2, rfl, hrow, by decide, ?_⟩
  refine ⟨sz rfl, sz rfl, ?_⟩
  refine ⟨b, m, nodeD k r x y, rfl, hrl, ok_nodeD hkey hrow x y, ?_⟩
  refine ⟨sz rfl, ?_⟩
  exact hk
abbrev s_empty_tree : Stmt := top 16
abbrev N_empty_tree : List Str := ["rule"]
theorem sc_empty_tree : FnScope N_empty_tree ["rule"] (C8.fnScope s_empty_tree) := C8.fnScope_by (by decide +kernel)
theorem ok_empty_tree {C : Addr} (D : Df K mg "empty_tree" s_empty_tree) (bi : Bi mg) (r_Tree : RecC P w K mg base "Tree" ["link", "entry", "left", "right"] C) (c_empty_link : CalP P w K T mg base 10 "empty_link" spELink) : CalP P w K T mg base 11 "empty_tree" (spETree C) := by
  have sc := sc_empty_tree
  refine D.calp (k := 10) (Q := spETree C) (fun _ _ _ _ _ _ us hl => match us, hl with | [_], _ => rfl) sc (by rintro _ _ ⟨b, m, rfl, _⟩; rfl)
      (fun f cdv A outer s H E hr =>
      (dpss_one (dps_ret (e_make r_Tree hr (by decide) (by rfl) (dpa_cons (dpe_callP c_empty_link hr (Nat.le_refl _) (by rfl) (a1 (dpv 0))) (dpa_cons dpe_non (dpa_cons dpe_non (a1 dpe_non)))))))
      ) ?_
  rintro xs Kp ⟨b, m, rfl, hr, hk⟩
  refine ⟨b, m, rfl, hr, ?_⟩
  exact ⟨rfl, hk⟩
abbrev s_node_of : Stmt := top 17
abbrev N_node_of : List Str := ["rule", "key", "row", "left", "right", "entry"]
theorem sc_node_of : FnScope N_node_of ["rule", "key", "row", "left", "right"] (C8.fnScope s_node_of) := C8.fnScope_by (by decide +kernel)
theorem ok_node_of {C : Addr} (D : Df K mg "node_of" s_node_of) (bi : Bi mg) (r_Tree : RecC P w K mg base "Tree" ["link", "entry", "left", "right"] C) (c_entry_link : CalP P w K T mg base 10 "entry_link" spLink) : CalP P w K T mg base 11 "node_of" (spNodeO C) := by
  have sc := sc_node_of
  refine D.calp (k := 10) (Q := spNodeO C) (fun _ _ _ _ _ _ us hl => match us, hl with | [_, _, _, _, _], _ => rfl) sc (by rintro _ _ ⟨b, m, k, r, x, y, rfl, _⟩; rfl)
      (fun f cdv A outer s H E hr =>
      (dpss_cons (sset 5 sc.nd (dpe_tup (dpa_cons (dpv 1) (dpa_cons (dpv 2) (dpa_cons (e_fldC r_Tree (by simp) (dpv 3)) (a1 (e_fldC r_Tree (by simp) (dpv 4))))))))
        (dpss_one (dps_ret (e_make r_Tree hr (by decide) (by rfl) (dpa_cons (dpe_callP c_entry_link hr (Nat.le_refl _) (by rfl) (dpa_cons (dpv 0) (a1 (dpv 5)))) (dpa_cons (dpv 5) (dpa_cons (dpv 3) (a1 (dpv 4)))))))))
      ) ?_
  rintro xs Kp ⟨b, m, k, r, x, y, rfl, hrl, hkey, hrow, hk⟩
  obtain ⟨f1, e1, l1⟩ := treeO_link C b m x
  obtain ⟨f2, e2, l2⟩ := treeO_link C b m y
  rw [treeO, e1, e2] at hk
  rw [e1, e2]
  refine ⟨rfl, onO_some l1 ?_⟩
  refine ⟨rfl, onO_some l2 ?_⟩
  refine ⟨sz rfl, b, m, k, r, linkT b m x, linkT b m y, rfl, hrl, hkey, hrow, ?_⟩
  exact ⟨rfl, hk⟩
abbrev s_tree_of : Stmt := top 18
abbrev N_tree_of : List Str := ["rule", "table", "top", "number", "left", "right"]
theorem sc_tree_of : FnScope N_tree_of ["rule", "table"] (C8.fnScope s_tree_of) := C8.fnScope_by (by decide +kernel)
theorem row_lt {rows : Tab} (ht : isTab rows) {i j : Nat} (h : i < j) (hj : j < rows.length) : strLt (rowAt rows i).1 (rowAt rows j).1 = true := by
  have e : ∀ {i : Nat} (hi : i < rows.length), rowAt rows i = rows[i] := fun {i} hi => by
    have := rowAt_get hi
    rw [List.getElem?_eq_getElem hi] at this
    exact (Option.some.inj this).symm
  rw [e (by omega), e hj]
  exact pw_at ht h hj
theorem ok_tree_of {C : Addr} (D : Df K mg "tree_of" s_tree_of) (bi : Bi mg) (c_empty_tree : CalP P w K T mg base 11 "empty_tree" (spETree C)) (c_outranks : CalP P w K T mg base 2 "outranks" spOut) (c_node_of : CalP P w K T mg base 11 "node_of" (spNodeO C)) : ∀ n, CalP P w K T mg base (12 + n) "tree_of" (spTreeO C n) := by
  intro n
  induction n with
  | zero => 
    have sc := sc_tree_of
    have c_tree_of : CalP P w K T mg base 0 "tree_of" (fun _ _ => False) := D.bot (ps := ["rule", "table"]) (fun _ _ _ _ _ _ us hl => match us, hl with | [_, _], _ => rfl) (fun _ _ h => h)
    refine D.calp (k := 11) (Q := spTreeO C 0) (fun _ _ _ _ _ _ us hl => match us, hl with | [_, _], _ => rfl) sc (by rintro _ _ ⟨b, m, rows, rfl, _⟩; rfl)
      (fun f cdv A outer s H E hr =>
      (dpss_cons (dps_if (dpt_not (dpt_tru (dpv 1)))
        (dpss_one (dps_ret (dpe_callP c_empty_tree hr (Nat.le_refl _) (by rfl) (a1 (dpv 0)))))
        dpss_nil)
        (dpss_cons (sset 2 sc.nd dpe_int)
        (dpss_cons (dps_for PassesOwn.never rfl (i_rng2 bi (dpa_cons dpe_int (a1 (e_len bi (a1 (dpv 1)))))) (gname 3 sc.nd)
        (dpss_one (dps_if (dpt_tru (dpe_callP c_outranks hr (by decide) (by rfl) (dpa_cons (e_ix (e_ix (dpv 1) (dpv 3)) dpe_int) (a1 (e_ix (e_ix (dpv 1) (dpv 2)) dpe_int)))))
        (dpss_one (sset 2 sc.nd (dpv 3)))
        dpss_nil)))
        (dpss_cons (sset 4 sc.nd (dpe_callP c_tree_of hr (by decide) (by rfl) (dpa_cons (dpv 0) (a1 (dpe_slice false (dpv 1) dpo_none (dpo_some (dpv 2)))))))
        (dpss_cons (sset 5 sc.nd (dpe_callP c_tree_of hr (by decide) (by rfl) (dpa_cons (dpv 0) (a1 (dpe_slice false (dpv 1) (dpo_some (e_add false (dpv 2) dpe_int)) dpo_none)))))
        (dpss_one (dps_ret (dpe_callP c_node_of hr (Nat.le_refl _) (by rfl) (dpa_cons (dpv 0) (dpa_cons (e_ix (e_ix (dpv 1) (dpv 2)) dpe_int) (dpa_cons (e_ix (e_ix (dpv 1) (dpv 2)) dpe_int) (dpa_cons (dpv 4) (a1 (dpv 5))))))))))))))
      ) ?_
    rintro xs Kp ⟨b, m, rows, rfl, hrl, ht, hl, hn, hk⟩
    have : rows = [] := List.eq_nil_of_length_eq_zero (by omega)
    subst this
    refine ⟨b, m, rfl, hrl, ?_⟩
    exact hk
  | succ n c_tree_of =>
    have sc := sc_tree_of
    have c_empty_tree := CalP.mono c_empty_tree (show 11 ≤ 12 + n by omega)
    have c_outranks := CalP.mono c_outranks (show 2 ≤ 12 + n by omega)
    have c_node_of := CalP.mono c_node_of (show 11 ≤ 12 + n by omega)
    refine D.calp (k := 12 + n) (Q := spTreeO C (n + 1)) (fun _ _ _ _ _ _ us hl => match us, hl with | [_, _], _ => rfl) sc (by rintro _ _ ⟨b, m, rows, rfl, _⟩; rfl)
      (fun f cdv A outer s H E hr =>
      (dpss_cons (dps_if (dpt_not (dpt_tru (dpv 1)))
        (dpss_one (dps_ret (dpe_callP c_empty_tree hr (Nat.le_refl _) (by rfl) (a1 (dpv 0)))))
        dpss_nil)
        (dpss_cons (sset 2 sc.nd dpe_int)
        (dpss_cons (dps_for PassesOwn.never rfl (i_rng2 bi (dpa_cons dpe_int (a1 (e_len bi (a1 (dpv 1)))))) (gname 3 sc.nd)
        (dpss_one (dps_if (dpt_tru (dpe_callP c_outranks hr (Nat.le_refl _) (by rfl) (dpa_cons (e_ix (e_ix (dpv 1) (dpv 3)) dpe_int) (a1 (e_ix (e_ix (dpv 1) (dpv 2)) dpe_int)))))
        (dpss_one (sset 2 sc.nd (dpv 3)))
        dpss_nil)))
        (dpss_cons (sset 4 sc.nd (dpe_callP c_tree_of hr (Nat.le_refl _) (by rfl) (dpa_cons (dpv 0) (a1 (dpe_slice false (dpv 1) dpo_none (dpo_some (dpv 2)))))))
        (dpss_cons (sset 5 sc.nd (dpe_callP c_tree_of hr (Nat.le_refl _) (by rfl) (dpa_cons (dpv 0) (a1 (dpe_slice false (dpv 1) (dpo_some (e_add false (dpv 2) dpe_int)) dpo_none)))))
        (dpss_one (dps_ret (dpe_callP c_node_of hr (Nat.le_refl _) (by rfl) (dpa_cons (dpv 0) (dpa_cons (e_ix (e_ix (dpv 1) (dpv 2)) dpe_int) (dpa_cons (e_ix (e_ix (dpv 1) (dpv 2)) dpe_int) (dpa_cons (dpv 4) (a1 (dpv 5))))))))))))))
      ) ?_
    rintro xs Kp ⟨b, m, rows, rfl, hrl, ht, hl, hn, hk⟩
    cases rows with
    | nil =>
      refine ⟨b, m, rfl, hrl, ?_⟩
      exact hk
    | cons row rest =>
      generalize hrows : row :: rest = rows at *
      have hne : rows ≠ [] := by rw [← hrows]; exact fun z => by cases z
      have hlt := top_lt hne
      have el : ((rows.map tabR).map W.fz).length = rows.length := by simp
      have h0 : 0 < rows.length := by rw [← hrows]; exact Nat.succ_pos _
      refine ifB_F ?_ ?_
      · subst hrows
        rfl
      refine ⟨⟨by decide, by decide, by rw [el]; omega, by rw [el]; omega⟩, ?_⟩
      refine loop_inv (I := fun ws env S => ∃ (ns : List Nat) (bst : Nat) (w3 w4 w5 : Option W), ws = ns.map (fun (k : Nat) => W.fz (.int (1 + (k : Int)))) ∧ env = [some (W.fz (ruleD b m)), some (W.fz (tabD rows)), some (W.fz (.int bst)), w3, w4, w5] ∧ S = [] ∧ bst < rows.length ∧ (∀ k ∈ ns, bst ≤ k ∧ k + 1 < rows.length) ∧ ns.Pairwise (· < ·) ∧ ns.foldl (fun b k => if rankI (rowAt rows b).1 < rankI (rowAt rows (k + 1)).1 then k + 1 else b) bst = topN rows) ?_ ?_ ?_
      · refine ⟨List.range (rows.length - 1), 0, none, none, none, ?_, rfl, rfl, h0, fun k hk => ⟨Nat.zero_le _, ?_⟩, List.pairwise_lt_range, top_from1 h0⟩
        · rw [el, show (((rows.length : Nat) : Int) - 1).toNat = rows.length - 1 by omega]
        · have := List.mem_range.mp hk
          omega
      · rintro env S ⟨ns, bst, w3, w4, w5, h1, rfl, rfl, hb, h2, hp, h3⟩
        cases ns with
        | cons _ _ => cases h1
        | nil =>
          have e : bst = topN rows := h3
          subst e
          refine onO_take (Nat.le_of_lt hlt) ?_
          refine ⟨b, m, _, rfl, hrl, ht.take _, by rw [List.length_take]; omega, by omega, ?_⟩
          refine onO_drop (n := topN rows + 1) hlt ?_
          refine ⟨b, m, _, rfl, hrl, ht.drop _, by rw [List.length_drop]; omega, by omega, ?_⟩
          refine onO_row hlt ?_
          refine onO_row hlt ?_
          refine ⟨b, m, _, _, _, _, rfl, hrl, (ht.at hlt).1, (ht.at hlt).2, ?_⟩
          rw [treeT_node hne] at hk
          exact hk
      · rintro w ws env S N ⟨ns, bst, w3, w4, w5, h1, rfl, rfl, hb, h2, hp, h3⟩ hN
        cases ns with
        | nil => cases h1
        | cons n ns =>
          rw [List.map_cons] at h1
          injection h1 with ha hb2
          subst ha; subst hb2
          obtain ⟨hn1, hn2⟩ := h2 n List.mem_cons_self
          obtain ⟨hp1, hp2⟩ := List.pairwise_cons.mp hp
          rw [show (1 : Int) + ((n : Nat) : Int) = ((n + 1 : Nat) : Int) by omega]
          refine onO_row hn2 ?_
          refine onO_row hb ?_
          refine ⟨_, _, rfl, (ht.at hn2).1, (ht.at hb).1, ?_⟩
          rw [outB_eq (row_lt ht (show bst < n + 1 by omega) hn2)]
          rw [List.foldl_cons] at h3
          refine ifB_d (fun h => ?_) (fun h => ?_)
          · rw [if_pos h] at h3
            exact hN _ _ ⟨ns, n + 1, _, _, _, rfl, rfl, rfl, hn2, fun k hk => ⟨hp1 k hk, (h2 k (List.mem_cons_of_mem _ hk)).2⟩, hp2, h3⟩
          · rw [if_neg h] at h3
            exact hN _ _ ⟨ns, bst, _, _, _, rfl, rfl, rfl, hb, fun k hk => h2 k (List.mem_cons_of_mem _ hk), hp2, h3⟩
abbrev s_Part : Stmt := (C8.clsBody (top 23)).getD 0 (.Pass ⟨0, 0, 0, 0⟩)
abbrev N_Part : List Str := ["self", "link", "tree", "node"]
theorem sc_Part : FnScope N_Part ["self", "link", "tree", "node"] (C8.fnScope s_Part) := C8.fnScope_by (by decide +kernel)
theorem ok_Part {C : Addr} (D : MDf K mg "Part" "Part.__init__" s_Part ["link", "tree", "node"] C) : RecC P w K mg base "Part" ["link", "tree", "node"] C := by
  obtain ⟨f, fd, M, F, df⟩ := D.ex
  refine ⟨C8.mak0 M D.mgC F (F.binds df (fun _ _ _ _ _ _ us hl => match us, hl with | [_, _, _, _], _ => rfl)) .nil sc_Part (by rintro _ _ _ _ ⟨a, dx, vals, rfl, hl, _⟩; rw [List.length_cons, hl]; rfl) (fun cdv A outer s H vs Q E hr ⟨a, dx, vals, e, hl, ha, hq⟩ => ⟨_, (pss_cons (ps_fld (pv 0) (pv 1) rfl) (pss_cons (ps_fld (pv 0) (pv 2) rfl) (pss_one (ps_fld (pv 0) (pv 3) rfl)))), ?_⟩), D.cls, D.na⟩
  subst e
  obtain ⟨v1, v2, v3, rfl⟩ : ∃ v1 v2 v3, vals = [v1, v2, v3] := by
    match vals, hl with
    | [v1, v2, v3], _ => exact ⟨v1, v2, v3, rfl⟩
  refine ⟨v1, rfl, .ref a, rfl, a, C, dx, [], rfl, ha, D.cls, D.na _ (by simp), by decide, ?_⟩
  refine ⟨v2, rfl, .ref a, rfl, a, C, dx, _, rfl, upd_same, D.cls, D.na _ (by simp), by show 1 < 1000; decide, ?_⟩
  refine ⟨v3, rfl, .ref a, rfl, a, C, dx, _, rfl, upd_same, D.cls, D.na _ (by simp), by show 2 < 1000; decide, ?_⟩
  show Q .non (upd (upd (upd H a _) a _) a _)
  rw [upd_upd, upd_upd]
  exact hq
abbrev s_Node : Stmt := (C8.clsBody (top 24)).getD 0 (.Pass ⟨0, 0, 0, 0⟩)
abbrev N_Node : List Str := ["self", "key", "row", "left", "right"]
theorem sc_Node : FnScope N_Node ["self", "key", "row", "left", "right"] (C8.fnScope s_Node) := C8.fnScope_by (by decide +kernel)
theorem ok_Node {C : Addr} (D : MDf K mg "Node" "Node.__init__" s_Node ["key", "row", "left", "right"] C) : RecC P w K mg base "Node" ["key", "row", "left", "right"] C := by
  obtain ⟨f, fd, M, F, df⟩ := D.ex
  refine ⟨C8.mak0 M D.mgC F (F.binds df (fun _ _ _ _ _ _ us hl => match us, hl with | [_, _, _, _, _], _ => rfl)) .nil sc_Node (by rintro _ _ _ _ ⟨a, dx, vals, rfl, hl, _⟩; rw [List.length_cons, hl]; rfl) (fun cdv A outer s H vs Q E hr ⟨a, dx, vals, e, hl, ha, hq⟩ => ⟨_, (pss_cons (ps_fld (pv 0) (pv 1) rfl) (pss_cons (ps_fld (pv 0) (pv 2) rfl) (pss_cons (ps_fld (pv 0) (pv 3) rfl) (pss_one (ps_fld (pv 0) (pv 4) rfl))))), ?_⟩), D.cls, D.na⟩
  subst e
  obtain ⟨v1, v2, v3, v4, rfl⟩ : ∃ v1 v2 v3 v4, vals = [v1, v2, v3, v4] := by
    match vals, hl with
    | [v1, v2, v3, v4], _ => exact ⟨v1, v2, v3, v4, rfl⟩
  refine ⟨v1, rfl, .ref a, rfl, a, C, dx, [], rfl, ha, D.cls, D.na _ (by simp), by decide, ?_⟩
  refine ⟨v2, rfl, .ref a, rfl, a, C, dx, _, rfl, upd_same, D.cls, D.na _ (by simp), by show 1 < 1000; decide, ?_⟩
  refine ⟨v3, rfl, .ref a, rfl, a, C, dx, _, rfl, upd_same, D.cls, D.na _ (by simp), by show 2 < 1000; decide, ?_⟩
  refine ⟨v4, rfl, .ref a, rfl, a, C, dx, _, rfl, upd_same, D.cls, D.na _ (by simp), by show 3 < 1000; decide, ?_⟩
  show Q .non (upd (upd (upd (upd H a _) a _) a _) a _)
  rw [upd_upd, upd_upd, upd_upd]
  exact hq
abbrev s_Known : Stmt := (C8.clsBody (top 29)).getD 0 (.Pass ⟨0, 0, 0, 0⟩)
abbrev N_Known : List Str := ["self", "rule"]
theorem ss_Known : ScopeS N_Known ["self", "rule"] (C8.fnScope s_Known) := scopeS_by (by decide +kernel)
abbrev s_Source : Stmt := (C8.clsBody (top 28)).getD 0 (.Pass ⟨0, 0, 0, 0⟩)
abbrev N_Source : List Str := ["self", "rule"]
theorem sc_Source : FnScope N_Source ["self", "rule"] (C8.fnScope s_Source) := C8.fnScope_by (by decide +kernel)
theorem ok_Known {C : Addr} (D : SbDf P K mg "Known" "Known.__init__" s_Known "Source.__init__" s_Source ["rule", "entries"] C) : MakX P w K T mg base 2 "Known" C (spKnown C) := by
  obtain ⟨f, f2, fd2, Mm, SF, F2, df2⟩ := D.ex
  have h2 : FnOk P w K mg base C8.CX0 1 f2 fd2 ["self", "rule"] (spInit C ["rule"]) := C8.fn0 F2 sc_Source (by rintro _ _ _ _ ⟨a, dx, vals, rfl, hl, _⟩; rw [List.length_cons, hl]; rfl) (fun cdv A outer s H vs Q E hr ⟨a, dx, vals, e, hl, ha, hq⟩ => ⟨_, pss_one (ps_fld (pv 0) (pv 1) rfl), by
    subst e
    obtain ⟨v1, rfl⟩ : ∃ v1, vals = [v1] := by
      match vals, hl with
      | [v1], _ => exact ⟨v1, rfl⟩
    exact ⟨v1, rfl, .ref a, rfl, a, C, dx, [], rfl, ha, D.cls, D.na _ (by simp), by decide, hq⟩⟩)
  have fC : ∀ f ∈ (["rule", "entries"] : List Str), FldOk K C f := fun f hf => ⟨D.cls, D.na f hf⟩
  obtain ⟨fd, h1, b1⟩ := initS (T := T) (g := spKnown C) (k := 1) SF D.sup rfl ss_Known rfl rfl rfl h2 (F2.binds df2 (fun _ _ _ _ _ _ us hl => match us, hl with | [_, _], _ => rfl)) (fun _ _ _ _ _ _ _ us hl => match us, hl with | [_, _], _ => rfl) (by rintro _ _ _ _ ⟨n, d, rfl, _⟩; rfl) (fun _ _ _ _ => rfl) (fun _ _ _ _ => rfl) (fun _ _ _ _ => rfl) (fun _ _ _ _ => rfl)
    (fun xw cdv cc A outer s H E hr => ⟨a1 (dpv 1), dpss_one (s_fld K (dpv 0) (dpe_lst true dpa_nil))⟩) (by
      rintro ws S Kp Xp ⟨n, d, rfl, hn, hk⟩
      refine ⟨n, _, rfl, hn, ⟨rfl, hn⟩, sz rfl, ?_⟩
      have hl : n < S.length := (List.getElem?_eq_some_iff.mp hn).1
      refine onO_ins (app_get (List.getElem?_set_self hl)) ⟨⟨fC _ (by simp), by show 1 < 1000; decide⟩, ?_⟩
      have e : (S.set n (.ins C [("rule", .fz d)])).length = S.length := List.length_set
      rw [← e] at hk
      exact hk)
  exact ⟨f, fd, _, Mm, h1, D.mgC, b1⟩
abbrev s_Part_is_empty : Stmt := (C8.clsBody (top 23)).getD 1 (.Pass ⟨0, 0, 0, 0⟩)
abbrev N_Part_is_empty : List Str := ["self"]
theorem sc_Part_is_empty : FnScope N_Part_is_empty ["self"] (C8.fnScope s_Part_is_empty) := C8.fnScope_by (by decide +kernel)
theorem ok_is_empty {c : Cs} (D : MtDf K c.P "is_empty" "Part.is_empty" s_Part_is_empty) (r_Part : RecC P w K mg base "Part" ["link", "tree", "node"] c.P) : MetX P w K T mg base 1 c.P "is_empty" (spIsEmpty c) := by
  have sc := sc_Part_is_empty
  refine D.metX (k := 0) (g := spIsEmpty c) (fun _ _ _ _ _ _ us hl => match us, hl with | [_], _ => rfl) sc (by rintro _ _ _ _ ⟨p, l, fs, rfl, _⟩; rfl)
      (fun xw f cdv A outer s H E hr po =>
      (dpss_one (dps_ret (e_eq hr (e_ix (e_fld K (dpv 0)) dpe_int) dpe_int)))
      ) ?_
  rintro ws S Kp Xp ⟨p, l, fs, rfl, hp, hk⟩
  refine onO_fld hp rfl ⟨⟨r_Part.cls, r_Part.na _ (by simp)⟩, ?_⟩
  refine ⟨⟨rfl, rfl⟩, ?_⟩
  show Kp (.fz (.bl (eqD (.int l.n) (.int 0)))) S
  rw [eqD_ii]
  exact hk
abbrev s_Known_entry_of : Stmt := (C8.clsBody (top 29)).getD 1 (.Pass ⟨0, 0, 0, 0⟩)
abbrev N_Known_entry_of : List Str := ["self", "part"]
theorem sc_Known_entry_of : FnScope N_Known_entry_of ["self", "part"] (C8.fnScope s_Known_entry_of) := C8.fnScope_by (by decide +kernel)
theorem ok_entry_of {c : Cs} {C : Addr} (D : MtDf K C "entry_of" "Known.entry_of" s_Known_entry_of) (r_Part : RecC P w K mg base "Part" ["link", "tree", "node"] c.P) (r_Tree : RecC P w K mg base "Tree" ["link", "entry", "left", "right"] c.T) (fC : ∀ f ∈ (["rule", "entries"] : List Str), FldOk K C f) : MetX P w K T mg base 1 C "entry_of" (spEntryK c C) := by
  have sc := sc_Known_entry_of
  refine D.metX (k := 0) (g := spEntryK c C) (fun _ _ _ _ _ _ us hl => match us, hl with | [_, _], _ => rfl) sc (by rintro _ _ _ _ ⟨s, e, p, b, m, st, pi, rfl, _⟩; rfl)
      (fun xw f cdv A outer s H E hr po =>
      (dpss_cons (dps_expr (dpe_append rfl (e_fld K (dpv 0)) (a1 (e_fld K (e_fld K (dpv 1))))))
        (dpss_one (dps_ret (dpe_tup (dpa_cons (e_fld K (e_fld K (dpv 1))) (dpa_cons (e_fld K (e_fld K (dpv 1))) (a1 (e_fld K (e_fld K (dpv 1))))))))))
      ) ?_
  rintro ws S Kp Xp ⟨s, e, p, b, m, st, pi, rfl, wk, hn, hk⟩
  cases st with
  | gv cs n => cases wk.kind
  | kn es =>
    obtain ⟨h0, t, ht, hl, okt, hz⟩ := wk.ok
    cases t with
    | nil =>
      rw [hl, linkT_n] at hn
      exact absurd rfl hn
    | node k r x y =>
      have eo : opn b m (.kn es) pi = .ok ((k, r, ⟨linkT b m x, some x⟩, ⟨linkT b m y, some y⟩), .kn (es ++ [entD k r (linkT b m x) (linkT b m y)])) := by
        unfold opn
        dsimp only
        rw [ht]
      rw [eo] at hk
      have hp := wk.part
      unfold PartAt at hp
      rw [ht] at hp
      obtain ⟨hs1, hs2, hs3⟩ := wk.src
      have fP : ∀ f ∈ (["link", "tree", "node"] : List Str), FldOk K c.P f := fun f hf => ⟨r_Part.cls, r_Part.na f hf⟩
      have fT : ∀ f ∈ (["link", "entry", "left", "right"] : List Str), FldOk K c.T f := fun f hf => ⟨r_Tree.cls, r_Tree.na f hf⟩
      refine onO_fld hs1 rfl ⟨fC _ (by simp), ?_⟩
      refine onO_lst hs2 ?_
      refine onO_fld hp rfl ⟨fP _ (by simp), ?_⟩
      refine ⟨fT _ (by simp), ?_⟩
      refine onO_lst hs2 ⟨by rw [List.length_map]; exact Nat.lt_of_le_of_lt h0 (by decide), ?_⟩
      have hp1 : (S.set e (.lst (es.map W.fz ++ [W.fz (entD k r (linkT b m x) (linkT b m y))])))[p]? = some (.ins c.P [("link", W.fz (linkD pi.l)), ("tree", W.fz (trD c.T b m (some (Tr.node k r x y)))), ("node", W.fz DL.D.non)]) := by
        rw [List.getElem?_set_ne wk.pe.symm]
        exact hp
      refine onO_fld hp1 rfl ⟨fP _ (by simp), ?_⟩
      refine ⟨fT _ (by simp), ?_⟩
      refine onO_fld hp1 rfl ⟨fP _ (by simp), ?_⟩
      refine ⟨fT _ (by simp), ?_⟩
      refine onO_fld hp1 rfl ⟨fP _ (by simp), ?_⟩
      refine ⟨fT _ (by simp), sz rfl, ?_⟩
      refine hk _ ⟨⟨?_, ?_, hs3⟩, .set (by simp), by rw [List.length_set]⟩
      · rw [List.getElem?_set_ne hs3.symm]
        exact hs1
      · rw [List.getElem?_set_self (List.getElem?_eq_some_iff.mp hs2).1, List.map_append]
        rfl
abbrev s_Known_root : Stmt := (C8.clsBody (top 29)).getD 2 (.Pass ⟨0, 0, 0, 0⟩)
abbrev N_Known_root : List Str := ["self", "tree"]
theorem sc_Known_root : FnScope N_Known_root ["self", "tree"] (C8.fnScope s_Known_root) := C8.fnScope_by (by decide +kernel)
theorem ok_root {c : Cs} {C : Addr} (D : MtDf K C "root" "Known.root" s_Known_root) (r_Part : RecC P w K mg base "Part" ["link", "tree", "node"] c.P) (r_Tree : RecC P w K mg base "Tree" ["link", "entry", "left", "right"] c.T) : MetX P w K T mg base 3 C "root" (spRootK c C) := by
  have sc := sc_Known_root
  refine D.metX (k := 2) (g := spRootK c C) (fun _ _ _ _ _ _ us hl => match us, hl with | [_, _], _ => rfl) sc (by rintro _ _ _ _ ⟨s, fs, b, m, t, rfl, _⟩; rfl)
      (fun xw f cdv A outer s H E hr po =>
      (dpss_one (dps_ret (e_makeO r_Part hr (by first | decide | omega) (by rfl) (dpa_cons (e_fld K (dpv 1)) (dpa_cons (dpv 1) (a1 dpe_non))))))
      ) ?_
  rintro ws S Kp Xp ⟨s, fs, b, m, t, rfl, hs, hk⟩
  have fT : ∀ f ∈ (["link", "entry", "left", "right"] : List Str), FldOk K c.T f := fun f hf => ⟨r_Tree.cls, r_Tree.na f hf⟩
  obtain ⟨fs, e, l⟩ := treeO_link c.T b m t
  have e2 : fldW S (.fz (treeO c.T b m t)) "link" = some (c.T, .fz (linkD (linkT b m t))) := by
    rw [e]
    show (fs.lookup ("link" : Str)).map (fun d => (c.T, W.fz d)) = _
    rw [l]
    rfl
  refine onO_some e2 ⟨fT _ (by simp), rfl, ?_⟩
  exact hk
abbrev s_Source_opened : Stmt := (C8.clsBody (top 28)).getD 2 (.Pass ⟨0, 0, 0, 0⟩)
abbrev N_Source_opened : List Str := ["self", "part", "entry", "left", "right", "key", "row", "one", "two"]
theorem sc_Source_opened : FnScope N_Source_opened ["self", "part"] (C8.fnScope s_Source_opened) := C8.fnScope_by (by decide +kernel)
theorem ok_opened {c : Cs} {C : Addr} {q : Bool} (D : MtDf K C "opened" "Source.opened" s_Source_opened) (r_Part : RecC P w K mg base "Part" ["link", "tree", "node"] c.P) (r_Node : RecC P w K mg base "Node" ["key", "row", "left", "right"] c.N) (t_entry_of : MetX P w K T mg base 12 C "entry_of" (spEntry c C q)) : MetX P w K T mg base 13 C "opened" (spOpened c C q) := by
  have sc := sc_Source_opened
  refine D.metX (k := 12) (g := spOpened c C q) (fun _ _ _ _ _ _ us hl => match us, hl with | [_, _], _ => rfl) sc (by rintro _ _ _ _ ⟨s, e, p, b, m, st, pi, rfl, _⟩; rfl)
      (fun xw f cdv A outer s H E hr po =>
      (dpss_cons (dps_if (c_isN (e_fld K (dpv 1)) dpe_non)
        (dpss_cons (dps_asg (e_mt t_entry_of hr (by decide) (dpv 0) (a1 (dpv 1))) (dpg_tup (n := 3) rfl (dpgs_cons (gname 2 sc.nd) (dpgs_cons (gname 3 sc.nd) (dpgs_cons (gname 4 sc.nd) dpgs_nil)))))
        (dpss_cons (dps_asg (dpv 2) (dpg_tup (n := 4) rfl (dpgs_cons (gname 5 sc.nd) (dpgs_cons (gname 6 sc.nd) (dpgs_cons (gname 7 sc.nd) (dpgs_cons (gname 8 sc.nd) dpgs_nil))))))
        (dpss_one (s_fld K (dpv 1) (e_makeO r_Node hr (by first | decide | omega) (by rfl) (dpa_cons (dpv 5) (dpa_cons (dpv 6) (dpa_cons (e_makeO r_Part hr (by first | decide | omega) (by rfl) (dpa_cons (dpv 7) (dpa_cons (dpv 3) (a1 dpe_non)))) (a1 (e_makeO r_Part hr (by first | decide | omega) (by rfl) (dpa_cons (dpv 8) (dpa_cons (dpv 4) (a1 dpe_non)))))))))))))
        dpss_nil)
        (dpss_one (dps_ret (e_fld K (dpv 1)))))
      ) ?_
  rintro ws S Kp Xp ⟨s, e, p, b, m, st, pi, rfl, wk, hn, hk⟩
  have fP : ∀ f ∈ (["link", "tree", "node"] : List Str), FldOk K c.P f := fun f hf => ⟨r_Part.cls, r_Part.na f hf⟩
  obtain ⟨fs, hs, _, hl⟩ := SrcAt.ins wk.src
  refine onO_fld wk.part rfl ⟨fP _ (by simp), ?_⟩
  refine onO_ins hs ⟨⟨rfl, hl _ (by simp)⟩, s, e, p, b, m, st, pi, rfl, wk, hn, ?_⟩
  cases eo : opn b m st pi with
  | error rf =>
    rw [eo] at hk
    exact hk
  | ok os =>
    obtain ⟨o, st'⟩ := os
    rw [eo] at hk
    intro S1 ent
    have hlt := wk.part.lt
    have hp1 := ent.part wk
    refine ⟨rfl, rfl, ?_⟩
    refine ⟨rfl, ?_⟩
    refine ⟨rfl, ?_⟩
    refine ⟨rfl, ?_⟩
    refine onO_ins (app_get (app_get (app_get hp1))) ⟨⟨fP _ (by simp), by show 3 < 1000; decide⟩, ?_⟩
    refine onO_fld (List.getElem?_set_self (List.getElem?_eq_some_iff.mp (app_get (app_get (app_get hp1)))).1) rfl ⟨fP _ (by simp), ?_⟩
    exact hk _ _ _ _ (opd_of wk ent eo (by simp) (by simp) (by simp) rfl rfl rfl rfl)
abbrev s_found_row : Stmt := top 32
abbrev N_found_row : List Str := ["source", "part", "key", "node"]
theorem sc_found_row : FnScope N_found_row ["source", "part", "key"] (C8.fnScope s_found_row) := C8.fnScope_by (by decide +kernel)
theorem ok_found_row {c : Cs} {C : Addr} {q : Bool} (D : Df K mg "found_row" s_found_row) (r_Node : RecC P w K mg base "Node" ["key", "row", "left", "right"] c.N) (t_is_empty : MetX P w K T mg base 1 c.P "is_empty" (spIsEmpty c)) (t_opened : MetX P w K T mg base 13 C "opened" (spOpened c C q)) : CalX P w K T mg base 14 "found_row" (spFound c C q) := by
  have sc := sc_found_row
  refine D.calX (k := 13) (g := spFound c C q) (fun _ _ _ _ _ _ us hl => match us, hl with | [_, _, _], _ => rfl) sc (by rintro _ _ _ _ ⟨s, e, p, b, m, st, pi, key, n, rfl, _⟩; rfl)
      (fun xw f cdv A outer s H E hr po =>
      (dpss_cons (dps_while po (dpt_not (dpt_tru (e_mt0 t_is_empty hr (by decide) (dpv 1))))
        (dpss_cons (sset 3 sc.nd (e_mt t_opened hr (by decide) (dpv 0) (a1 (dpv 1))))
        (dpss_cons (dps_if (c_eq hr (dpv 2) (e_fld K (dpv 3)))
        (dpss_one (dps_ret (e_fld K (dpv 3))))
        dpss_nil)
        (dpss_one (sset 1 sc.nd (dpe_if (c_lt (dpv 2) (e_fld K (dpv 3))) (e_fld K (dpv 3)) (e_fld K (dpv 3))))))))
        (dpss_one (dps_ret dpe_non)))
      ) ?_
  rintro ws S Kp Xp ⟨s, e, p, b, m, st, pi, key, n, rfl, wk, hkey, hn, hk⟩
  have fN : ∀ f ∈ (["key", "row", "left", "right"] : List Str), FldOk K c.N f := fun f hf => ⟨r_Node.cls, r_Node.na f hf⟩
  refine ⟨n, wh_inv (fun n env S => ∃ p st pi w3, env = [some (.hd s), some (.hd p), some (.fz (.str key)), w3] ∧ Wk c C q S s e p b m st pi ∧ meas st pi < n ∧ Ends c C S s e b m [s, e, p] (mFound b m n st pi key) (fun d S' => Kp (.fz d) S') Xp) ?_ ?_ n _ _ ⟨p, st, pi, _, rfl, wk, hn, hk⟩⟩
  · rintro env S ⟨p, st, pi, w3, rfl, wk, hn, _⟩
    exact absurd hn (Nat.not_lt_zero _)
  · rintro n env S N ⟨p, st, pi, w3, rfl, wk, hn, hk⟩ hN
    refine onO_ins wk.part ⟨⟨rfl, rfl⟩, p, pi.l, _, rfl, wk.part, ?_⟩
    cases hd : decide (pi.l.n = 0) with
    | true =>
      rw [mFound, if_pos (of_decide_eq_true hd)] at hk
      exact hk S wk.src .refl
    | false =>
      have h0 := of_decide_eq_false hd
      rw [mFound, if_neg h0] at hk
      obtain ⟨fs, hs, _, hl⟩ := SrcAt.ins wk.src
      refine onO_ins hs ⟨⟨rfl, hl _ (by simp)⟩, s, e, p, b, m, st, pi, rfl, wk, h0, ?_⟩
      cases eo : opn b m st pi with
      | error rf =>
        rw [eo] at hk
        exact hk
      | ok os =>
        obtain ⟨o, st'⟩ := os
        rw [eo] at hk
        obtain ⟨ok1, ok2, _, _, m1, m2, _⟩ := opn_ok eo wk.ok
        intro S1 nd px py od
        have lk := od.left wk eo
        have rk := od.right wk eo
        have hx := od.hx
        have hy := od.hy
        refine onO_fld od.node rfl ⟨fN _ (by simp), ?_⟩
        refine ⟨⟨ok_str hkey, ok_str (key_ok ok1)⟩, ifB_of (fun h => ?_) (fun h => ?_)⟩
        · rw [eqD_str] at h
          have hk : Ends c C S s e b m [s, e, p] (if key = o.1 then .ok (rowD o.2.1, st') else mFound b m n st' (if strLt key o.1 then o.2.2.1 else o.2.2.2) key) (fun d S' => Kp (W.fz d) S') Xp := hk
          rw [if_pos (of_decide_eq_true h)] at hk
          exact onO_fld od.node rfl ⟨fN _ (by simp), hk S1 od.src od.ext⟩
        · rw [eqD_str] at h
          have hk : Ends c C S s e b m [s, e, p] (if key = o.1 then .ok (rowD o.2.1, st') else mFound b m n st' (if strLt key o.1 then o.2.2.1 else o.2.2.2) key) (fun d S' => Kp (W.fz d) S') Xp := hk
          rw [if_neg (of_decide_eq_false h)] at hk
          refine onO_fld od.node rfl ⟨fN _ (by simp), ifB_of (fun h2 => ?_) (fun h2 => ?_)⟩
          · rw [h2] at hk
            refine onO_fld od.node rfl ⟨fN _ (by simp), hN _ _ ⟨px, st', o.2.2.1, _, rfl, lk, by omega, hk.step od.ext (fun _ h => h) ?_⟩⟩
            simp only [List.mem_cons, List.not_mem_nil, or_false]
            omega
          · rw [h2] at hk
            refine onO_fld od.node rfl ⟨fN _ (by simp), hN _ _ ⟨py, st', o.2.2.2, _, rfl, rk, by omega, hk.step od.ext (fun _ h => h) ?_⟩⟩
            simp only [List.mem_cons, List.not_mem_nil, or_false]
            omega
abbrev s_place_of : Stmt := top 37
abbrev N_place_of : List Str := ["source", "part", "key", "found", "node"]
theorem sc_place_of : FnScope N_place_of ["source", "part", "key"] (C8.fnScope s_place_of) := C8.fnScope_by (by decide +kernel)
theorem ok_place_of {c : Cs} {C : Addr} {q : Bool} (D : Df K mg "place_of" s_place_of) (r_Part : RecC P w K mg base "Part" ["link", "tree", "node"] c.P) (r_Node : RecC P w K mg base "Node" ["key", "row", "left", "right"] c.N) (t_is_empty : MetX P w K T mg base 1 c.P "is_empty" (spIsEmpty c)) (t_opened : MetX P w K T mg base 13 C "opened" (spOpened c C q)) : CalX P w K T mg base 14 "place_of" (spPlaceW c C q) := by
  have sc := sc_place_of
  refine D.calX (k := 13) (g := spPlaceW c C q) (fun _ _ _ _ _ _ us hl => match us, hl with | [_, _, _], _ => rfl) sc (by rintro _ _ _ _ ⟨s, e, p, b, m, st, pi, key, n, rfl, _⟩; rfl)
      (fun xw f cdv A outer s H E hr po =>
      (dpss_cons (sset 3 sc.nd dpe_int)
        (dpss_cons (dps_while po (dpt_not (dpt_tru (e_mt0 t_is_empty hr (by decide) (dpv 1))))
        (dpss_cons (sset 4 sc.nd (e_mt t_opened hr (by decide) (dpv 0) (a1 (dpv 1))))
        (dpss_one (dps_if (c_le (dpv 2) (e_fld K (dpv 4)))
        (dpss_one (sset 1 sc.nd (e_fld K (dpv 4))))
        (dpss_cons (saug 3 sc.nd (e_add false dpe_int (e_ix (e_fld K (e_fld K (dpv 4))) dpe_int)) od_iadd)
        (dpss_one (sset 1 sc.nd (e_fld K (dpv 4)))))))))
        (dpss_one (dps_ret (dpv 3)))))
      ) ?_
  rintro ws S Kp Xp ⟨s, e, p, b, m, st, pi, key, n, rfl, wk, hkey, hn, hk⟩
  have fN : ∀ f ∈ (["key", "row", "left", "right"] : List Str), FldOk K c.N f := fun f hf => ⟨r_Node.cls, r_Node.na f hf⟩
  have fP : ∀ f ∈ (["link", "tree", "node"] : List Str), FldOk K c.P f := fun f hf => ⟨r_Part.cls, r_Part.na f hf⟩
  refine ⟨n, wh_inv (fun n env S => ∃ p st pi a w4, env = [some (.hd s), some (.hd p), some (.fz (.str key)), some (.fz (.int a)), w4] ∧ Wk c C q S s e p b m st pi ∧ meas st pi < n ∧ Ends c C S s e b m [s, e, p] (mPlace b m n st pi key a) (fun i S' => Kp (.fz (.int i)) S') Xp) ?_ ?_ n _ _ ⟨p, st, pi, 0, _, rfl, wk, hn, hk⟩⟩
  · rintro env S ⟨p, st, pi, a, w3, rfl, wk, hn, _⟩
    exact absurd hn (Nat.not_lt_zero _)
  · rintro n env S N ⟨p, st, pi, a, w3, rfl, wk, hn, hk⟩ hN
    refine onO_ins wk.part ⟨⟨rfl, rfl⟩, p, pi.l, _, rfl, wk.part, ?_⟩
    cases hd : decide (pi.l.n = 0) with
    | true =>
      rw [mPlace, if_pos (of_decide_eq_true hd)] at hk
      exact hk S wk.src .refl
    | false =>
      have h0 := of_decide_eq_false hd
      rw [mPlace, if_neg h0] at hk
      obtain ⟨fs, hs, _, hl⟩ := SrcAt.ins wk.src
      refine onO_ins hs ⟨⟨rfl, hl _ (by simp)⟩, s, e, p, b, m, st, pi, rfl, wk, h0, ?_⟩
      cases eo : opn b m st pi with
      | error rf =>
        rw [eo] at hk
        exact hk
      | ok os =>
        obtain ⟨o, st'⟩ := os
        rw [eo] at hk
        obtain ⟨ok1, ok2, _, _, m1, m2, _⟩ := opn_ok eo wk.ok
        intro S1 nd px py od
        have lk := od.left wk eo
        have rk := od.right wk eo
        have hx := od.hx
        have hy := od.hy
        have hk : Ends c C S s e b m [s, e, p] (if strLt o.1 key then mPlace b m n st' o.2.2.2 key (a + (1 + o.2.2.1.l.n)) else mPlace b m n st' o.2.2.1 key a) (fun i S' => Kp (W.fz (.int i)) S') Xp := hk
        refine onO_fld od.node rfl ⟨fN _ (by simp), ifB_of (fun h => ?_) (fun h => ?_)⟩
        · have h : (!strLt o.1 key) = true := h
          have h : strLt o.1 key = false := by cases q : strLt o.1 key with | true => rw [q] at h; cases h | false => rfl
          rw [h] at hk
          refine onO_fld od.node rfl ⟨fN _ (by simp), hN _ _ ⟨px, st', o.2.2.1, a, _, rfl, lk, by omega, hk.step od.ext (fun _ h => h) ?_⟩⟩
          simp only [List.mem_cons, List.not_mem_nil, or_false]
          omega
        · have h : (!strLt o.1 key) = false := h
          have h : strLt o.1 key = true := by cases q : strLt o.1 key with | false => rw [q] at h; cases h | true => rfl
          rw [h] at hk
          refine onO_fld od.node rfl ⟨fN _ (by simp), ?_⟩
          refine onO_fld od.xl rfl ⟨fP _ (by simp), ?_⟩
          refine onO_fld od.node rfl ⟨fN _ (by simp), hN _ _ ⟨py, st', o.2.2.2, _, _, rfl, rk, by omega, hk.step od.ext (fun _ h => h) ?_⟩⟩
          simp only [List.mem_cons, List.not_mem_nil, or_false]
          omega
abbrev s_row_at : Stmt := top 38
abbrev N_row_at : List Str := ["source", "part", "place", "node", "before"]
theorem sc_row_at : FnScope N_row_at ["source", "part", "place"] (C8.fnScope s_row_at) := C8.fnScope_by (by decide +kernel)
theorem ok_row_at {c : Cs} {C : Addr} {q : Bool} (D : Df K mg "row_at" s_row_at) (r_Part : RecC P w K mg base "Part" ["link", "tree", "node"] c.P) (r_Node : RecC P w K mg base "Node" ["key", "row", "left", "right"] c.N) (t_opened : MetX P w K T mg base 13 C "opened" (spOpened c C q)) : CalX P w K T mg base 14 "row_at" (spAtW c C q) := by
  have sc := sc_row_at
  refine D.calX (k := 13) (g := spAtW c C q) (fun _ _ _ _ _ _ us hl => match us, hl with | [_, _, _], _ => rfl) sc (by rintro _ _ _ _ ⟨s, e, p, b, m, st, pi, i, n, rfl, _⟩; rfl)
      (fun xw f cdv A outer s H E hr po =>
      (dpss_cons (dps_while po (c_lt (dpv 2) (e_ix (e_fld K (dpv 1)) dpe_int))
        (dpss_cons (sset 3 sc.nd (e_mt t_opened hr (by decide) (dpv 0) (a1 (dpv 1))))
        (dpss_cons (sset 4 sc.nd (e_ix (e_fld K (e_fld K (dpv 3))) dpe_int))
        (dpss_cons (dps_if (c_eq hr (dpv 2) (dpv 4))
        (dpss_one (dps_ret (dpe_tup (dpa_cons (e_fld K (dpv 3)) (a1 (e_fld K (dpv 3)))))))
        dpss_nil)
        (dpss_one (dps_if (c_lt (dpv 2) (dpv 4))
        (dpss_one (sset 1 sc.nd (e_fld K (dpv 3))))
        (dpss_cons (saug 2 sc.nd (e_add false (dpv 4) dpe_int) od_isub)
        (dpss_one (sset 1 sc.nd (e_fld K (dpv 3)))))))))))
        (dpss_one (dps_ret dpe_non)))
      ) ?_
  rintro ws S Kp Xp ⟨s, e, p, b, m, st, pi, i, n, rfl, wk, hi, hn, hk⟩
  have fN : ∀ f ∈ (["key", "row", "left", "right"] : List Str), FldOk K c.N f := fun f hf => ⟨r_Node.cls, r_Node.na f hf⟩
  have fP : ∀ f ∈ (["link", "tree", "node"] : List Str), FldOk K c.P f := fun f hf => ⟨r_Part.cls, r_Part.na f hf⟩
  refine ⟨n, wh_inv (fun n env S => ∃ p st pi i w3 w4, env = [some (.hd s), some (.hd p), some (.fz (.int i)), w3, w4] ∧ Wk c C q S s e p b m st pi ∧ 0 ≤ i ∧ meas st pi < n ∧ Ends c C S s e b m [s, e, p] (mAt b m n st pi i) (fun d S' => Kp (.fz d) S') Xp) ?_ ?_ n _ _ ⟨p, st, pi, i, _, _, rfl, wk, hi, hn, hk⟩⟩
  · rintro env S ⟨p, st, pi, i, w3, w4, rfl, wk, hi, hn, _⟩
    exact absurd hn (Nat.not_lt_zero _)
  · rintro n env S N ⟨p, st, pi, i, w3, w4, rfl, wk, hi, hn, hk⟩ hN
    refine onO_fld wk.part rfl ⟨fP _ (by simp), ifB_d (fun h => ?_) (fun h => ?_)⟩
    · rw [mAt, if_pos h] at hk
      have h0 : pi.l.n ≠ 0 := by omega
      obtain ⟨fs, hs, _, hl⟩ := SrcAt.ins wk.src
      refine onO_ins hs ⟨⟨rfl, hl _ (by simp)⟩, s, e, p, b, m, st, pi, rfl, wk, h0, ?_⟩
      cases eo : opn b m st pi with
      | error rf =>
        rw [eo] at hk
        exact hk
      | ok os =>
        obtain ⟨o, st'⟩ := os
        rw [eo] at hk
        obtain ⟨ok1, ok2, o1, o2, m1, m2, _⟩ := opn_ok eo wk.ok
        intro S1 nd px py od
        have lk := od.left wk eo
        have rk := od.right wk eo
        have hx := od.hx
        have hy := od.hy
        have hk : Ends c C S s e b m [s, e, p] (if i = o.2.2.1.l.n then .ok (tabR (o.1, o.2.1), st') else if i < o.2.2.1.l.n then mAt b m n st' o.2.2.1 i else mAt b m n st' o.2.2.2 (i - (o.2.2.1.l.n + 1))) (fun d S' => Kp (W.fz d) S') Xp := hk
        refine onO_fld od.node rfl ⟨fN _ (by simp), ?_⟩
        refine onO_fld od.xl rfl ⟨fP _ (by simp), ?_⟩
        refine ⟨⟨rfl, rfl⟩, ifB_of (fun h => ?_) (fun h => ?_)⟩
        · rw [eqD_ii] at h
          rw [if_pos (of_decide_eq_true h)] at hk
          refine onO_fld od.node rfl ⟨fN _ (by simp), ?_⟩
          exact onO_fld od.node rfl ⟨fN _ (by simp), sz rfl, hk S1 od.src od.ext⟩
        · rw [eqD_ii] at h
          have hne := of_decide_eq_false h
          rw [if_neg hne] at hk
          refine ifB_d (fun h2 => ?_) (fun h2 => ?_)
          · rw [if_pos h2] at hk
            refine onO_fld od.node rfl ⟨fN _ (by simp), hN _ _ ⟨px, st', o.2.2.1, i, _, _, rfl, lk, hi, by omega, hk.step od.ext (fun _ h => h) ?_⟩⟩
            simp only [List.mem_cons, List.not_mem_nil, or_false]
            omega
          · rw [if_neg h2] at hk
            refine ⟨trivial, ?_⟩
            refine onO_fld od.node rfl ⟨fN _ (by simp), hN _ _ ⟨py, st', o.2.2.2, _, _, _, rfl, rk, by show 0 ≤ i - (o.2.2.1.l.n + 1); omega, by omega, hk.step od.ext (fun _ h => h) ?_⟩⟩
            simp only [List.mem_cons, List.not_mem_nil, or_false]
            omega
    · rw [mAt, if_neg h] at hk
      exact hk S wk.src .refl
abbrev s_add_between : Stmt := top 33
abbrev N_add_between : List Str := ["source", "part", "low", "high", "found", "node"]
theorem sc_add_between : FnScope N_add_between ["source", "part", "low", "high", "found"] (C8.fnScope s_add_between) := C8.fnScope_by (by decide +kernel)
theorem ok_add_between {c : Cs} {C : Addr} {q : Bool} (D : Df K mg "add_between" s_add_between) (r_Node : RecC P w K mg base "Node" ["key", "row", "left", "right"] c.N) (t_is_empty : MetX P w K T mg base 1 c.P "is_empty" (spIsEmpty c)) (t_opened : MetX P w K T mg base 13 C "opened" (spOpened c C q)) : ∀ n, CalX P w K T mg base (13 + n) "add_between" (spBtw c C q n) := by
  intro n
  induction n with
  | zero => exact (D.botX (ps := ["source", "part", "low", "high", "found"]) (fun _ _ _ _ _ _ us hl => match us, hl with | [_, _, _, _, _], _ => rfl) (fun ws S Kp Xp ⟨_, _, _, _, _, _, _, _, _, _, _, _, _, hn, _⟩ => absurd hn (Nat.not_lt_zero _))).mono (Nat.zero_le _)
  | succ n c_add_between =>
    have sc := sc_add_between
    have t_is_empty := MetX.mono t_is_empty (show 1 ≤ 13 + n by omega)
    have t_opened := MetX.mono t_opened (show 13 ≤ 13 + n by omega)
    refine D.calX (k := 13 + n) (g := spBtw c C q (n + 1)) (fun _ _ _ _ _ _ us hl => match us, hl with | [_, _, _, _, _], _ => rfl) sc (by rintro _ _ _ _ ⟨s, e, p, b, m, st, pi, lo, hi, f, fs, rfl, _⟩; rfl)
      (fun xw f cdv A outer s H E hr po =>
      (dpss_cons (dps_if (dpt_tru (e_mt0 t_is_empty hr (Nat.le_refl _) (dpv 1)))
        (dpss_one dps_retN)
        dpss_nil)
        (dpss_cons (sset 5 sc.nd (e_mt t_opened hr (Nat.le_refl _) (dpv 0) (a1 (dpv 1))))
        (dpss_cut (dps_if (c_lt (dpv 2) (e_fld K (dpv 5)))
        (dpss_one (dps_expr (e_callG c_add_between hr (Nat.le_refl _) (by rfl) (dpa_cons (dpv 0) (dpa_cons (e_fld K (dpv 5)) (dpa_cons (dpv 2) (dpa_cons (dpv 3) (a1 (dpv 4)))))))))
        dpss_nil)
        (dpss_cut (dps_if (dpt_chain od_le od_lt (dpv 2) (e_fld K (dpv 5)) (dpv 3))
        (dpss_one (dps_expr (dpe_append rfl (dpv 4) (a1 (dpe_tup (dpa_cons (e_fld K (dpv 5)) (a1 (e_fld K (dpv 5)))))))))
        dpss_nil)
        (dpss_one (dps_if (c_lt (e_fld K (dpv 5)) (dpv 3))
        (dpss_one (dps_expr (e_callG c_add_between hr (Nat.le_refl _) (by rfl) (dpa_cons (dpv 0) (dpa_cons (e_fld K (dpv 5)) (dpa_cons (dpv 2) (dpa_cons (dpv 3) (a1 (dpv 4)))))))))
        dpss_nil))))))
      ) ?_
    rintro ws S Kp Xp ⟨s, e, p, b, m, st, pi, lo, hi, f, fs, rfl, wk, hn, hf, fs1, fs2, fs3, hlen, hk⟩
    have fN : ∀ f ∈ (["key", "row", "left", "right"] : List Str), FldOk K c.N f := fun f hf => ⟨r_Node.cls, r_Node.na f hf⟩
    refine onO_ins wk.part ⟨⟨rfl, rfl⟩, p, pi.l, _, rfl, wk.part, ?_⟩
    cases hd : decide (pi.l.n = 0) with
    | true =>
      rw [mBtw, if_pos (of_decide_eq_true hd)] at hk
      exact hk S wk.src .refl (by rw [List.append_nil]; exact hf)
    | false =>
      have h0 := of_decide_eq_false hd
      rw [mBtw, if_neg h0] at hk
      obtain ⟨gs, hs, _, hl⟩ := SrcAt.ins wk.src
      refine onO_ins hs ⟨⟨rfl, hl _ (by simp)⟩, s, e, p, b, m, st, pi, rfl, wk, h0, ?_⟩
      cases eo : opn b m st pi with
      | error rf =>
        rw [eo] at hk
        exact fun S' x => hk S' (x.mono (by simp +contextual))
      | ok os =>
        obtain ⟨o, st1⟩ := os
        rw [eo] at hk
        obtain ⟨ok1, ok2, o1, o2, m1, m2, _⟩ := opn_ok eo wk.ok
        intro S1 nd px py od
        have lk := od.left wk eo
        have hx := od.hx
        have hy := od.hy
        have hnd := od.hn
        have hne := od.ne
        have hnn := od.nn
        have l1 := opn_len eo wk.ok
        have hlt := (SrcAt.lt wk.src)
        have hpl := wk.part.lt
        have hfl := (List.getElem?_eq_some_iff.mp hf).1
        have hf1 : S1[f]? = some (.lst ((fs.map tabR).map W.fz)) := od.ext.get hf (by simp; exact ⟨fs1, fs2, fs3⟩)
        have hle1 := okS.len lk.ok
        -- behind the left part
        let L : Except Rf (Tab × SrcS) := if strLt lo o.1 then mBtw b m n st1 o.2.2.1 lo hi else .ok ([], st1)
        let R : SrcS → Except Rf (Tab × SrcS) := fun st2 => if strLt o.1 hi then mBtw b m n st2 o.2.2.2 lo hi else .ok ([], st2)
        let mid : Tab := if inB lo hi (o.1, o.2.1) then [(o.1, o.2.1)] else []
        have hk : Ends c C S s e b m [s, e, p, f] (bnd L fun a st2 => bnd (R st2) fun d st3 => .ok (a ++ mid ++ d, st3)) (fun a S' => S'[f]? = some (.lst (((fs ++ a).map tabR).map W.fz)) → Kp (.fz .non) S') Xp := hk
        refine ⟨fun env' S2 => env' = [some (.hd s), some (.hd p), some (.fz (.str lo)), some (.fz (.str hi)), some (.hd f), some (.hd nd)] ∧ ∃ a st2, L = .ok (a, st2) ∧ SrcAt C S2 s e b m st2 ∧ Ext [s, e, px, f] S1 S2 ∧ S2[f]? = some (.lst (((fs ++ a).map tabR).map W.fz)), ?_, ?_⟩
        · refine onO_fld od.node rfl ⟨fN _ (by simp), ifB_of (fun h => ?_) (fun h => ?_)⟩
          · have eL : L = mBtw b m n st1 o.2.2.1 lo hi := if_pos h
            refine onO_fld od.node rfl ⟨fN _ (by simp), s, e, px, b, m, st1, o.2.2.1, lo, hi, f, fs, rfl, lk, by omega, hf1, fs1, fs2, by omega, by omega, ?_⟩
            rw [← eL]
            cases e1 : L with
            | error rf =>
              rw [e1] at hk
              exact fun S' x => hk S' (od.ext.trans x (by simp +contextual) (by simp +contextual; omega))
            | ok v =>
              obtain ⟨a, st2⟩ := v
              exact fun S' a1 a2 a3 => ⟨rfl, a, st2, rfl, a1, a2, a3⟩
          · have eL : L = .ok ([], st1) := if_neg (by rw [show strLt lo o.1 = false from h]; exact Bool.false_ne_true)
            exact ⟨rfl, [], st1, eL, od.src, .refl, by rw [List.append_nil]; exact hf1⟩
        · rintro env' S2 ⟨rfl, a, st2, e1, src2, x2, hf2⟩
          have A1 : After st1 st2 o.2.2.1 ∧ st1.len + a.length ≤ st2.len := by
            rcases ite_ok (show (if strLt lo o.1 then mBtw b m n st1 o.2.2.1 lo hi else .ok ([], st1)) = .ok (a, st2) from e1) with ⟨_, e2⟩ | ⟨_, e2⟩
            · exact mBtw_after n _ _ _ _ o1 e2
            · cases e2; exact ⟨o1.refl, Nat.le_refl _⟩
          obtain ⟨r1, r2, r3⟩ := opn_right eo wk.ok A1.1
          have hle2 := okS.len r1
          have nd2 := x2.get od.node (by simp; omega)
          have py2 : PartAt c.P c.T b m S2 py o.2.2.2 := x2.get od.yl (by simp; omega)
          rw [e1] at hk
          have hk : Ends c C S s e b m [s, e, p, f] (bnd (R st2) fun d st3 => .ok (a ++ mid ++ d, st3)) (fun a S' => S'[f]? = some (.lst (((fs ++ a).map tabR).map W.fz)) → Kp (.fz .non) S') Xp := hk
          refine ⟨fun env' S3 => env' = [some (.hd s), some (.hd p), some (.fz (.str lo)), some (.fz (.str hi)), some (.hd f), some (.hd nd)] ∧ SrcAt C S3 s e b m st2 ∧ Ext [f] S2 S3 ∧ S3[f]? = some (.lst (((fs ++ a ++ mid).map tabR).map W.fz)), ?_, ?_⟩
          · have emid : mid = if inB lo hi (o.1, o.2.1) then [(o.1, o.2.1)] else [] := rfl
            have eB : inB lo hi (o.1, o.2.1) = (!strLt o.1 lo && strLt o.1 hi) := rfl
            refine onO_fld nd2 rfl ⟨fN _ (by simp), ifB_of (fun h => ?_) (fun h => ?_)⟩
            · refine ifB_of (fun h2 => ?_) (fun h2 => ?_)
              · have em : mid = [(o.1, o.2.1)] := by rw [emid, eB, show (!strLt o.1 lo) = true from h, show strLt o.1 hi = true from h2]; rfl
                refine onO_lst hf2 ?_
                refine onO_fld nd2 rfl ⟨fN _ (by simp), ?_⟩
                refine onO_fld nd2 rfl ⟨fN _ (by simp), sz rfl, ?_⟩
                refine onO_lst hf2 ⟨by rw [List.length_map, List.length_map, List.length_append]; exact Nat.lt_of_le_of_lt (show fs.length + a.length ≤ 2000 by omega) (by decide), ?_⟩
                refine ⟨rfl, SrcAt.ext src2 (Ext.set (ex := [f]) (by simp)) (by simpa using fs1.symm) (by simpa using fs2.symm), .set (by simp), ?_⟩
                rw [List.getElem?_set_self (List.getElem?_eq_some_iff.mp hf2).1, em, List.map_append (l₁ := fs ++ a), List.map_append (f := W.fz)]
                rfl
              · have em : mid = [] := by rw [emid, eB, show strLt o.1 hi = false from h2, Bool.and_false]; rfl
                exact ⟨rfl, src2, .refl, by rw [em, List.append_nil]; exact hf2⟩
            · have em : mid = [] := by rw [emid, eB, show (!strLt o.1 lo) = false from h, Bool.false_and]; rfl
              exact ⟨rfl, src2, .refl, by rw [em, List.append_nil]; exact hf2⟩
          · rintro env' S3 ⟨rfl, src3, x3, hf3⟩
            have nd3 := x3.get nd2 (by simp; omega)
            have py3 : PartAt c.P c.T b m S3 py o.2.2.2 := x3.get py2 (by simp; omega)
            have hmid : mid.length ≤ 1 := by
              show (if inB lo hi (o.1, o.2.1) then [(o.1, o.2.1)] else ([] : Tab)).length ≤ 1
              split <;> simp
            have xx : Ext [s, e, p, f] S S3 := (od.ext.trans (c := [s, e, p, f]) x2 (by simp +contextual) (by simp +contextual; omega)).trans x3 (fun _ h => h) (by simp +contextual)
            refine onO_fld nd3 rfl ⟨fN _ (by simp), ifB_of (fun h => ?_) (fun h => ?_)⟩
            · have eR : R st2 = mBtw b m n st2 o.2.2.2 lo hi := if_pos h
              refine onO_fld nd3 rfl ⟨fN _ (by simp), s, e, py, b, m, st2, o.2.2.2, lo, hi, f, fs ++ a ++ mid, rfl, ⟨src3, py3, wk.rule, r1, (A1.1.kind).trans lk.kind, by omega, by omega⟩, by omega, hf3, fs1, fs2, by omega, by rw [List.length_append, List.length_append]; omega, ?_⟩
              rw [eR] at hk
              refine (hk.bnd (Kq := fun d S' => S'[f]? = some (.lst (((fs ++ a ++ mid ++ d).map tabR).map W.fz)) → Kp (.fz .non) S') fun d st3 S' h1 h2 h3 _ h4 => ?_).step xx (fun _ h => h) (by simp +contextual; omega)
              refine h1 S' h2 h3 ?_
              rw [h4, List.append_assoc, List.append_assoc, List.append_assoc]
            · have eR : R st2 = .ok ([], st2) := if_neg (by rw [show strLt o.1 hi = false from h]; exact Bool.false_ne_true)
              rw [eR] at hk
              refine hk S3 src3 xx ?_
              rw [hf3, List.append_nil, List.append_assoc]
abbrev s_is_inside : Stmt := top 35
abbrev N_is_inside : List Str := ["low", "high", "above", "below"]
theorem sc_is_inside : FnScope N_is_inside ["low", "high", "above", "below"] (C8.fnScope s_is_inside) := C8.fnScope_by (by decide +kernel)
theorem ok_is_inside (D : Df K mg "is_inside" s_is_inside) (bi : Bi mg) : CalP P w K T mg base 1 "is_inside" spInside := by
  have sc := sc_is_inside
  refine D.calp (k := 0) (Q := spInside) (fun _ _ _ _ _ _ us hl => match us, hl with | [_, _, _, _], _ => rfl) sc (by rintro _ _ ⟨lo, hi, ab, be, rfl, _⟩; rfl)
      (fun f cdv A outer s H E hr =>
      (dpss_cons (dps_if (DPW.pt (dpw_or (c_isN (dpv 3) dpe_non) (dpw_or1 (c_gt (dpv 3) (dpv 1)))))
        (dpss_one (dps_ret dpe_bl))
        dpss_nil)
        (dpss_one (dps_ret (dpe_or (e_eq hr (dpv 0) dpe_str) (dpe_one (dpe_and (e_notN (dpv 2) dpe_non) (dpe_one (e_ge (dpv 2) (dpv 0)))))))))
      ) ?_
  rintro xs Kp ⟨lo, hi, ab, be, rfl, hlo, hk⟩
  cases be with
  | none => exact hk
  | some x =>
    rw [insideB_some] at hk
    refine ifB_of (fun h => ?_) (fun h => ?_)
    · have h : strLt hi x = true := h
      rw [if_pos h] at hk
      exact hk
    · have h : strLt hi x = false := h
      rw [h, if_neg Bool.false_ne_true] at hk
      refine ⟨⟨ok_str hlo, ok_str (by decide +kernel)⟩, ?_⟩
      rw [eqD_str]
      cases he : decide (lo = "") with
      | true =>
        rw [he, Bool.true_or] at hk
        exact hk
      | false =>
        rw [he, Bool.false_or] at hk
        cases ab with
        | none => exact hk
        | some y => exact hk
abbrev s_measured : Stmt := top 36
abbrev N_measured : List Str := ["source", "part", "low", "high", "bounds", "node", "total", "above", "below", "left", "right", "_", "k", "one", "two"]
theorem sc_measured : FnScope N_measured ["source", "part", "low", "high", "bounds"] (C8.fnScope s_measured) := C8.fnScope_by (by decide +kernel)
set_option maxHeartbeats 4000000 in
theorem ok_measured {c : Cs} {C : Addr} {q : Bool} (D : Df K mg "measured" s_measured) (bi : Bi mg) (c_COLUMNS : ∃ t, mg "COLUMNS" = some (.int 3 t)) (r_Part : RecC P w K mg base "Part" ["link", "tree", "node"] c.P) (r_Node : RecC P w K mg base "Node" ["key", "row", "left", "right"] c.N) (c_is_inside : CalP P w K T mg base 1 "is_inside" spInside) (c_cell : CalP P w K T mg base 1 "cell" spCell) (t_is_empty : MetX P w K T mg base 1 c.P "is_empty" (spIsEmpty c)) (t_opened : MetX P w K T mg base 13 C "opened" (spOpened c C q)) : ∀ n, CalX P w K T mg base (13 + n) "measured" (spMs c C q n) := by
  intro n
  induction n with
  | zero => exact (D.botX (ps := ["source", "part", "low", "high", "bounds"]) (fun _ _ _ _ _ _ us hl => match us, hl with | [_, _, _, _, _], _ => rfl) (fun ws S Kp Xp ⟨_, _, _, _, _, _, _, _, _, _, _, _, _, hn, _⟩ => absurd hn (Nat.not_lt_zero _))).mono (Nat.zero_le _)
  | succ n c_measured =>
    have sc := sc_measured
    have t_is_empty := MetX.mono t_is_empty (show 1 ≤ 13 + n by omega)
    have t_opened := MetX.mono t_opened (show 13 ≤ 13 + n by omega)
    have c_is_inside := CalP.mono c_is_inside (show 1 ≤ 13 + n by omega)
    have c_cell := CalP.mono c_cell (show 1 ≤ 13 + n by omega)
    refine D.calX (k := 13 + n) (g := spMs c C q (n + 1)) (fun _ _ _ _ _ _ us hl => match us, hl with | [_, _, _, _, _], _ => rfl) sc (by rintro _ _ _ _ ⟨s, e, p, b, m, st, pi, lo, hi, ab, be, rfl, _⟩; rfl)
      (fun xw f cdv A outer s H E hr po =>
      (dpss_cons (dps_if (dpt_tru (e_mt0 t_is_empty hr (Nat.le_refl _) (dpv 1)))
        (dpss_one (dps_ret (e_add false (dpe_lst false (a1 dpe_int)) (dpe_lc (ow := [("_", 11)]) false (lk_name (by decide)) rfl sc.nd (i_rng1 bi (a1 (dpe_gint (by rfl) c_COLUMNS))) (blkOk_by (N := N_measured) (sc := C8.fnScope s_measured) (by decide +kernel)) (fun _ _ _ _ _ => pg_name (i := 11) sc.nd rfl (Or.inl rfl)) (fun _ _ _ _ _ => dpts_nil) (fun _ _ _ _ _ => dpe_int)))))
        dpss_nil)
        (dpss_cons (dps_asg (dpv 4) (dpg_tup (n := 2) rfl (dpgs_cons (gname 7 sc.nd) (dpgs_cons (gname 8 sc.nd) dpgs_nil))))
        (dpss_cons (dps_if (dpt_tru (dpe_callP c_is_inside hr (Nat.le_refl _) (by rfl) (dpa_cons (dpv 2) (dpa_cons (dpv 3) (dpa_cons (dpv 7) (a1 (dpv 8)))))))
        (dpss_one (dps_ret (e_add false (dpe_lst false (a1 (e_ix (e_fld K (dpv 1)) dpe_int))) (e_list false bi (a1 (e_ix (e_fld K (dpv 1)) dpe_int))))))
        dpss_nil)
        (dpss_cons (sset 5 sc.nd (e_mt t_opened hr (Nat.le_refl _) (dpv 0) (a1 (dpv 1))))
        (dpss_cons (sset 6 sc.nd (e_add false (dpe_lst false (a1 dpe_int)) (dpe_lc (ow := [("_", 11)]) false (lk_name (by decide)) rfl sc.nd (i_rng1 bi (a1 (dpe_gint (by rfl) c_COLUMNS))) (blkOk_by (N := N_measured) (sc := C8.fnScope s_measured) (by decide +kernel)) (fun _ _ _ _ _ => pg_name (i := 11) sc.nd rfl (Or.inl rfl)) (fun _ _ _ _ _ => dpts_nil) (fun _ _ _ _ _ => dpe_int))))
        (dpss_cut (dps_if (dpt_chain od_le od_lt (dpv 2) (e_fld K (dpv 5)) (dpv 3))
        (dpss_one (sset 6 sc.nd (e_add false (dpe_lst false (a1 dpe_int)) (dpe_lc (ow := [("k", 12)]) false (lk_name (by decide)) rfl sc.nd (i_rng1 bi (a1 (dpe_gint (by rfl) c_COLUMNS))) (blkOk_by (N := N_measured) (sc := C8.fnScope s_measured) (by decide +kernel)) (fun _ _ _ _ _ => pg_name (i := 12) sc.nd rfl (Or.inl rfl)) (fun _ _ _ _ _ => dpts_nil) (fun _ _ _ _ _ => (dpe_callP c_cell hr (Nat.le_refl _) (by rfl) (dpa_cons (e_fld K (dpv 5)) (a1 (dpv 12)))))))))
        dpss_nil)
        (dpss_cut (dps_if (c_lt (dpv 2) (e_fld K (dpv 5)))
        (dpss_cons (sset 9 sc.nd (e_callG c_measured hr (Nat.le_refl _) (by rfl) (dpa_cons (dpv 0) (dpa_cons (e_fld K (dpv 5)) (dpa_cons (dpv 2) (dpa_cons (dpv 3) (a1 (dpe_tup (dpa_cons (dpv 7) (a1 (e_fld K (dpv 5))))))))))))
        (dpss_one (dps_setLc (ow := [("one", 13), ("two", 14)]) (i := 6) false (lk_names (is := [13, 14]) (by decide)) rfl sc.nd rfl rfl (sw_true rfl rfl rfl (by decide +kernel)) (i_zip2 bi (dpa_cons (dpv 6) (a1 (dpv 9)))) (blkOk_by (N := N_measured) (sc := C8.fnScope s_measured) (by decide +kernel)) (fun _ _ _ _ _ => pg_names2 13 14 sc.nd) (fun _ _ _ _ _ => dpts_nil) (fun _ _ _ _ _ => (e_add false (dpv 13) (dpv 14))))))
        dpss_nil)
        (dpss_cut (dps_if (c_lt (e_fld K (dpv 5)) (dpv 3))
        (dpss_cons (sset 10 sc.nd (e_callG c_measured hr (Nat.le_refl _) (by rfl) (dpa_cons (dpv 0) (dpa_cons (e_fld K (dpv 5)) (dpa_cons (dpv 2) (dpa_cons (dpv 3) (a1 (dpe_tup (dpa_cons (e_fld K (dpv 5)) (a1 (dpv 8)))))))))))
        (dpss_one (dps_setLc (ow := [("one", 13), ("two", 14)]) (i := 6) false (lk_names (is := [13, 14]) (by decide)) rfl sc.nd rfl rfl (sw_true rfl rfl rfl (by decide +kernel)) (i_zip2 bi (dpa_cons (dpv 6) (a1 (dpv 10)))) (blkOk_by (N := N_measured) (sc := C8.fnScope s_measured) (by decide +kernel)) (fun _ _ _ _ _ => pg_names2 13 14 sc.nd) (fun _ _ _ _ _ => dpts_nil) (fun _ _ _ _ _ => (e_add false (dpv 13) (dpv 14))))))
        dpss_nil)
        (dpss_one (dps_ret (dpv 6)))))))))))
      ) ?_
    rintro ws S Kp Xp ⟨s, e, p, b, m, st, pi, lo, hi, ab, be, rfl, wk, hn, hlo, hk⟩
    have fN : ∀ f ∈ (["key", "row", "left", "right"] : List Str), FldOk K c.N f := fun f hf => ⟨r_Node.cls, r_Node.na f hf⟩
    have fP : ∀ f ∈ (["link", "tree", "node"] : List Str), FldOk K c.P f := fun f hf => ⟨r_Part.cls, r_Part.na f hf⟩
    refine onO_ins wk.part ⟨⟨rfl, rfl⟩, p, pi.l, _, rfl, wk.part, ?_⟩
    cases hd : decide (pi.l.n = 0) with
    | true =>
      rw [mMs, if_pos (of_decide_eq_true hd)] at hk
      refine ⟨sz rfl, ⟨by decide, by decide⟩, sz rfl, ?_⟩
      refine ⟨sz rfl, ?_⟩
      exact hk S wk.src .refl
    | false =>
      have h0 := of_decide_eq_false hd
      rw [mMs, if_neg h0] at hk
      refine ⟨rfl, ?_⟩
      refine ⟨lo, hi, ab, be, rfl, hlo, ?_⟩
      cases hin : insideB lo hi ab be with
      | true =>
        rw [hin] at hk
        refine onO_fld wk.part rfl ⟨fP _ (by simp), sz rfl, ?_⟩
        refine onO_fld wk.part rfl ⟨fP _ (by simp), ?_⟩
        refine ⟨sz rfl, ?_⟩
        exact hk S wk.src .refl
      | false =>
        rw [hin] at hk
        have hk : Ends c C S s e b m [s, e, p] (bnd (opn b m st pi) fun o st1 =>
    bnd (if strLt lo o.1 then bnd (mMs b m n st1 o.2.2.1 lo hi ab (some o.1)) fun x st2 => .ok (add4 (own4 lo hi o) x, st2) else .ok (own4 lo hi o, st1)) fun t st2 =>
    bnd (if strLt o.1 hi then bnd (mMs b m n st2 o.2.2.2 lo hi (some o.1) be) fun x st3 => .ok (add4 t x, st3) else .ok (t, st2)) fun t st3 => .ok (t, st3)) (fun x S' => Kp (.fz (d4 x)) S') Xp := hk
        obtain ⟨gs, hs, _, hl⟩ := SrcAt.ins wk.src
        refine onO_ins hs ⟨⟨rfl, hl _ (by simp)⟩, s, e, p, b, m, st, pi, rfl, wk, h0, ?_⟩
        cases eo : opn b m st pi with
        | error rf =>
          rw [eo] at hk
          exact hk
        | ok os =>
          obtain ⟨o, st1⟩ := os
          rw [eo] at hk
          obtain ⟨ok1, ok2, o1, o2, m1, m2, _⟩ := opn_ok eo wk.ok
          intro S1 nd px py od
          have lk := od.left wk eo
          have hx := od.hx
          have hy := od.hy
          have hnd := od.hn
          have hne := od.ne
          have hnn := od.nn
          have hlt := (SrcAt.lt wk.src)
          have hpl := wk.part.lt
          let O : I4 := own4 lo hi o
          let M : Except Rf (I4 × SrcS) := mMs b m n st1 o.2.2.1 lo hi ab (some o.1)
          let L : Except Rf (I4 × SrcS) := if strLt lo o.1 then bnd M fun x st2 => .ok (add4 O x, st2) else .ok (O, st1)
          let R : I4 → SrcS → Except Rf (I4 × SrcS) := fun t st2 => if strLt o.1 hi then bnd (mMs b m n st2 o.2.2.2 lo hi (some o.1) be) fun x st3 => .ok (add4 t x, st3) else .ok (t, st2)
          have hk : Ends c C S s e b m [s, e, p] (bnd L fun t st2 => bnd (R t st2) fun t st3 => .ok (t, st3)) (fun x S' => Kp (.fz (d4 x)) S') Xp := hk
          refine ⟨sz rfl, ⟨by decide, by decide⟩, sz rfl, ?_⟩
          refine ⟨sz rfl, ?_⟩
          have eB : inB lo hi (o.1, o.2.1) = (!strLt o.1 lo && strLt o.1 hi) := rfl
          refine ⟨fun env' S2 => ∃ w9 w10 w11 w12 w13 w14, env' = [some (.hd s), some (.hd p), some (.fz (.str lo)), some (.fz (.str hi)), some (.fz (.tup [optSD ab, optSD be])), some (.hd nd), some (.fz (d4 O)), some (.fz (optSD ab)), some (.fz (optSD be)), w9, w10, w11, w12, w13, w14] ∧ S1 = S2, ?_, ?_⟩
          · have eO : O = if inB lo hi (o.1, o.2.1) then (1, cellI o.2.1 0, cellI o.2.1 1, cellI o.2.1 2) else (0, 0, 0, 0) := rfl
            refine onO_fld od.node rfl ⟨fN _ (by simp), ifB_of (fun h => ?_) (fun h => ?_)⟩
            · refine ifB_of (fun h2 => ?_) (fun h2 => ?_)
              · have e1 : O = (1, cellI o.2.1 0, cellI o.2.1 1, cellI o.2.1 2) := by rw [eO, eB, show (!strLt o.1 lo) = true from h, show strLt o.1 hi = true from h2]; rfl
                rw [e1]
                refine ⟨sz rfl, ⟨by decide, by decide⟩, sz rfl, ?_⟩
                refine onO_fld od.node rfl ⟨fN _ (by simp), o.2.1, 0, rfl, ok2, by decide, ?_⟩
                refine onO_fld od.node rfl ⟨fN _ (by simp), o.2.1, 1, rfl, ok2, by decide, ?_⟩
                refine onO_fld od.node rfl ⟨fN _ (by simp), o.2.1, 2, rfl, ok2, by decide, ?_⟩
                refine ⟨sz rfl, ?_⟩
                exact ⟨_, _, _, _, _, _, rfl, rfl⟩
              · have e1 : O = (0, 0, 0, 0) := by rw [eO, eB, show strLt o.1 hi = false from h2, Bool.and_false]; rfl
                rw [e1]
                exact ⟨_, _, _, _, _, _, rfl, rfl⟩
            · have e1 : O = (0, 0, 0, 0) := by rw [eO, eB, show (!strLt o.1 lo) = false from h, Bool.false_and]; rfl
              rw [e1]
              exact ⟨_, _, _, _, _, _, rfl, rfl⟩
          · rintro env' S2 ⟨w9, w10, w11, w12, w13, w14, rfl, rfl⟩
            refine ⟨fun env' S2 => ∃ t st2 w9 w10 w11 w12 w13 w14, env' = [some (.hd s), some (.hd p), some (.fz (.str lo)), some (.fz (.str hi)), some (.fz (.tup [optSD ab, optSD be])), some (.hd nd), some (.fz (d4 t)), some (.fz (optSD ab)), some (.fz (optSD be)), w9, w10, w11, w12, w13, w14] ∧ L = .ok (t, st2) ∧ SrcAt C S2 s e b m st2 ∧ Ext [s, e, px] S1 S2, ?_, ?_⟩
            · refine onO_fld od.node rfl ⟨fN _ (by simp), ifB_of (fun h => ?_) (fun h => ?_)⟩
              · have eL : L = bnd M fun x st2 => .ok (add4 O x, st2) := if_pos h
                refine onO_fld od.node rfl ⟨fN _ (by simp), ?_⟩
                refine onO_fld od.node rfl ⟨fN _ (by simp), sz rfl, ?_⟩
                refine ⟨s, e, px, b, m, st1, o.2.2.1, lo, hi, ab, some o.1, rfl, lk, by omega, hlo, ?_⟩
                show Ends c C S1 s e b m [s, e, px] M _ Xp
                cases e1 : M with
                | error rf =>
                  rw [eL, e1] at hk
                  exact fun S' x => hk S' (od.ext.trans x (by simp +contextual) (by simp +contextual; omega))
                | ok v =>
                  obtain ⟨x, st2⟩ := v
                  rw [e1] at eL
                  have eL : L = .ok (add4 O x, st2) := eL
                  intro S2 src2 x2
                  exact ⟨sz rfl, rfl, rfl, rfl, rfl, add4 O x, st2, _, _, _, _, _, _, rfl, eL, src2, x2⟩
              · have eL : L = .ok (O, st1) := if_neg (by rw [show strLt lo o.1 = false from h]; exact Bool.false_ne_true)
                exact ⟨O, st1, _, _, _, _, _, _, rfl, eL, od.src, .refl⟩
            · rintro env' S2 ⟨t, st2, w9, w10, w11, w12, w13, w14, rfl, e1, src2, x2⟩
              have A1 : After st1 st2 o.2.2.1 := by
                rcases ite_ok (show (if strLt lo o.1 then bnd M fun x st2 => .ok (add4 O x, st2) else .ok (O, st1)) = .ok (t, st2) from e1) with ⟨_, e2⟩ | ⟨_, e2⟩
                · obtain ⟨x', st2', e4, e5⟩ := bnd_ok e2
                  cases e5
                  exact mMs_after n _ _ _ _ _ _ o1 e4
                · cases e2; exact o1.refl
              obtain ⟨r1, r2, r3⟩ := opn_right eo wk.ok A1
              have nd2 := x2.get od.node (by simp; omega)
              have py2 : PartAt c.P c.T b m S2 py o.2.2.2 := x2.get od.yl (by simp; omega)
              rw [e1] at hk
              have hk : Ends c C S s e b m [s, e, p] (bnd (R t st2) fun t st3 => .ok (t, st3)) (fun x S' => Kp (.fz (d4 x)) S') Xp := hk
              have xx : Ext [s, e, p] S S2 := od.ext.trans (c := [s, e, p]) x2 (by simp +contextual) (by simp +contextual; omega)
              refine ⟨fun env' S3 => ∃ t w9 w10 w11 w12 w13 w14, env' = [some (.hd s), some (.hd p), some (.fz (.str lo)), some (.fz (.str hi)), some (.fz (.tup [optSD ab, optSD be])), some (.hd nd), some (.fz (d4 t)), some (.fz (optSD ab)), some (.fz (optSD be)), w9, w10, w11, w12, w13, w14] ∧ Kp (.fz (d4 t)) S3, ?_, ?_⟩
              · refine onO_fld nd2 rfl ⟨fN _ (by simp), ifB_of (fun h => ?_) (fun h => ?_)⟩
                · have eR : R t st2 = bnd (mMs b m n st2 o.2.2.2 lo hi (some o.1) be) fun x st3 => .ok (add4 t x, st3) := if_pos h
                  refine onO_fld nd2 rfl ⟨fN _ (by simp), ?_⟩
                  refine onO_fld nd2 rfl ⟨fN _ (by simp), sz rfl, ?_⟩
                  refine ⟨s, e, py, b, m, st2, o.2.2.2, lo, hi, some o.1, be, rfl, ⟨src2, py2, wk.rule, r1, (A1.kind).trans lk.kind, by omega, by omega⟩, by omega, hlo, ?_⟩
                  rw [eR] at hk
                  have hk2 := hk.bnd (Kq := fun x S' => Kp (.fz (d4 x)) S') fun d st3 S' h1 h2 h3 _ => h1 S' h2 h3
                  refine (hk2.bnd (Kq := fun x S' => Kp (.fz (d4 (add4 t x))) S') fun d st3 S' h1 h2 h3 _ => h1 S' h2 h3).step xx (fun _ h => h) (by simp +contextual; omega) |>.imp fun x S' hx => ?_
                  exact ⟨sz rfl, rfl, rfl, rfl, rfl, add4 t x, _, _, _, _, _, _, rfl, hx⟩
                · have eR : R t st2 = .ok (t, st2) := if_neg (by rw [show strLt o.1 hi = false from h]; exact Bool.false_ne_true)
                  rw [eR] at hk
                  exact ⟨t, _, _, _, _, _, _, rfl, hk S2 src2 xx⟩
              · rintro env' S3 ⟨t, w9, w10, w11, w12, w13, w14, rfl, hq⟩
                exact hq
abbrev s_add_next : Stmt := top 34
abbrev N_add_next : List Str := ["source", "part", "key", "count", "found", "node"]
theorem sc_add_next : FnScope N_add_next ["source", "part", "key", "count", "found"] (C8.fnScope s_add_next) := C8.fnScope_by (by decide +kernel)
theorem ok_add_next {c : Cs} {C : Addr} {q : Bool} (D : Df K mg "add_next" s_add_next) (bi : Bi mg) (r_Node : RecC P w K mg base "Node" ["key", "row", "left", "right"] c.N) (t_is_empty : MetX P w K T mg base 1 c.P "is_empty" (spIsEmpty c)) (t_opened : MetX P w K T mg base 13 C "opened" (spOpened c C q)) : ∀ n, CalX P w K T mg base (13 + n) "add_next" (spNxt c C q n) := by
  intro n
  induction n with
  | zero => exact (D.botX (ps := ["source", "part", "key", "count", "found"]) (fun _ _ _ _ _ _ us hl => match us, hl with | [_, _, _, _, _], _ => rfl) (fun ws S Kp Xp ⟨_, _, _, _, _, _, _, _, _, _, _, _, _, hn, _⟩ => absurd hn (Nat.not_lt_zero _))).mono (Nat.zero_le _)
  | succ n c_add_next =>
    have sc := sc_add_next
    have t_is_empty := MetX.mono t_is_empty (show 1 ≤ 13 + n by omega)
    have t_opened := MetX.mono t_opened (show 13 ≤ 13 + n by omega)
    refine D.calX (k := 13 + n) (g := spNxt c C q (n + 1)) (fun _ _ _ _ _ _ us hl => match us, hl with | [_, _, _, _, _], _ => rfl) sc (by rintro _ _ _ _ ⟨s, e, p, b, m, st, pi, key, cnt, f, fs, rfl, _⟩; rfl)
      (fun xw f cdv A outer s H E hr po =>
      (dpss_cons (dps_if (DPW.pt (dpw_or (dpt_tru (e_mt0 t_is_empty hr (Nat.le_refl _) (dpv 1))) (dpw_or1 (c_ge (e_len bi (a1 (dpv 4))) (dpv 3)))))
        (dpss_one dps_retN)
        dpss_nil)
        (dpss_cons (sset 5 sc.nd (e_mt t_opened hr (Nat.le_refl _) (dpv 0) (a1 (dpv 1))))
        (dpss_cut (dps_if (c_lt (dpv 2) (e_fld K (dpv 5)))
        (dpss_cons (dps_expr (e_callG c_add_next hr (Nat.le_refl _) (by rfl) (dpa_cons (dpv 0) (dpa_cons (e_fld K (dpv 5)) (dpa_cons (dpv 2) (dpa_cons (dpv 3) (a1 (dpv 4))))))))
        (dpss_one (dps_if (c_lt (e_len bi (a1 (dpv 4))) (dpv 3))
        (dpss_one (dps_expr (dpe_append rfl (dpv 4) (a1 (dpe_tup (dpa_cons (e_fld K (dpv 5)) (a1 (e_fld K (dpv 5)))))))))
        dpss_nil)))
        dpss_nil)
        (dpss_one (dps_expr (e_callG c_add_next hr (Nat.le_refl _) (by rfl) (dpa_cons (dpv 0) (dpa_cons (e_fld K (dpv 5)) (dpa_cons (dpv 2) (dpa_cons (dpv 3) (a1 (dpv 4))))))))))))
      ) ?_
    rintro ws S Kp Xp ⟨s, e, p, b, m, st, pi, key, cnt, f, fs, rfl, wk, hn, hf, fs1, fs2, fs3, hlen, hk⟩
    have fN : ∀ f ∈ (["key", "row", "left", "right"] : List Str), FldOk K c.N f := fun f hf => ⟨r_Node.cls, r_Node.na f hf⟩
    refine onO_ins wk.part ⟨⟨rfl, rfl⟩, p, pi.l, _, rfl, wk.part, ?_⟩
    cases hd : decide (pi.l.n = 0) with
    | true =>
      rw [mNxt, if_pos (.inl (of_decide_eq_true hd))] at hk
      exact hk S wk.src .refl (by rw [List.append_nil]; exact hf)
    | false =>
      have h0 := of_decide_eq_false hd
      have elen : ((((fs.map tabR).map W.fz).length : Nat) : Int) = (fs.length : Nat) := by rw [List.length_map, List.length_map]
      refine onO_vS hf ?_
      refine ifB_d (fun h => ?_) (fun h => ?_)
      · rw [elen] at h
        rw [mNxt, if_pos (.inr h)] at hk
        exact hk S wk.src .refl (by rw [List.append_nil]; exact hf)
      rw [elen] at h
      rw [mNxt, if_neg (fun z => z.elim h0 h)] at hk
      obtain ⟨gs, hs, _, hl⟩ := SrcAt.ins wk.src
      refine onO_ins hs ⟨⟨rfl, hl _ (by simp)⟩, s, e, p, b, m, st, pi, rfl, wk, h0, ?_⟩
      cases eo : opn b m st pi with
      | error rf =>
        rw [eo] at hk
        exact fun S' x => hk S' (x.mono (by simp +contextual))
      | ok os =>
        obtain ⟨o, st1⟩ := os
        rw [eo] at hk
        obtain ⟨ok1, ok2, o1, o2, m1, m2, _⟩ := opn_ok eo wk.ok
        intro S1 nd px py od
        have lk := od.left wk eo
        have hx := od.hx
        have hy := od.hy
        have hnd := od.hn
        have hne := od.ne
        have hnn := od.nn
        have l1 := opn_len eo wk.ok
        have hlt := (SrcAt.lt wk.src)
        have hpl := wk.part.lt
        have hfl := (List.getElem?_eq_some_iff.mp hf).1
        have hf1 : S1[f]? = some (.lst ((fs.map tabR).map W.fz)) := od.ext.get hf (by simp; exact ⟨fs1, fs2, fs3⟩)
        have hle1 := okS.len lk.ok
        let G : Tab → Tab := fun a => if ((fs.length : Nat) : Int) + (a.length : Nat) < cnt then a ++ [(o.1, o.2.1)] else a
        let M : Except Rf (Tab × SrcS) := mNxt b m n st1 o.2.2.1 key cnt (fs.length : Nat)
        let L : Except Rf (Tab × SrcS) := if strLt key o.1 then bnd M fun a st2 => .ok (G a, st2) else .ok ([], st1)
        have hk : Ends c C S s e b m [s, e, p, f] (bnd L fun a st2 => bnd (mNxt b m n st2 o.2.2.2 key cnt ((fs.length : Nat) + (a.length : Nat))) fun d st3 => .ok (a ++ d, st3)) (fun a S' => S'[f]? = some (.lst (((fs ++ a).map tabR).map W.fz)) → Kp (.fz .non) S') Xp := hk
        refine ⟨fun env' S2 => env' = [some (.hd s), some (.hd p), some (.fz (.str key)), some (.fz (.int cnt)), some (.hd f), some (.hd nd)] ∧ ∃ a st2, L = .ok (a, st2) ∧ SrcAt C S2 s e b m st2 ∧ Ext [s, e, px, f] S1 S2 ∧ S2[f]? = some (.lst (((fs ++ a).map tabR).map W.fz)), ?_, ?_⟩
        · refine onO_fld od.node rfl ⟨fN _ (by simp), ifB_of (fun h => ?_) (fun h => ?_)⟩
          · have eL : L = bnd M fun a st2 => .ok (G a, st2) := if_pos h
            refine onO_fld od.node rfl ⟨fN _ (by simp), s, e, px, b, m, st1, o.2.2.1, key, cnt, f, fs, rfl, lk, by omega, hf1, fs1, fs2, by omega, by omega, ?_⟩
            show Ends c C S1 s e b m [s, e, px, f] M _ Xp
            cases e1 : M with
            | error rf =>
              rw [eL, e1] at hk
              exact fun S' x => hk S' (od.ext.trans x (by simp +contextual) (by simp +contextual; omega))
            | ok v =>
              obtain ⟨a, st2⟩ := v
              rw [e1] at eL
              have eL : L = .ok (G a, st2) := eL
              obtain ⟨q1, q2⟩ := mNxt_after n _ _ _ _ _ o1 e1
              obtain ⟨r1, r2, r3⟩ := opn_right eo wk.ok q1
              have hle2 := okS.len r1
              intro S2 src2 x2 hf2
              have nd2 := x2.get od.node (by simp; omega)
              have elen2 : (((((fs ++ a).map tabR).map W.fz).length : Nat) : Int) = ((fs.length : Nat) : Int) + (a.length : Nat) := by rw [List.length_map, List.length_map, List.length_append]; omega
              refine onO_vS hf2 ?_
              refine ifB_d (fun h => ?_) (fun h => ?_)
              · rw [elen2] at h
                have eG : G a = a ++ [(o.1, o.2.1)] := if_pos h
                refine onO_lst hf2 ?_
                refine onO_fld nd2 rfl ⟨fN _ (by simp), ?_⟩
                refine onO_fld nd2 rfl ⟨fN _ (by simp), sz rfl, ?_⟩
                refine onO_lst hf2 ⟨by rw [List.length_map, List.length_map, List.length_append]; exact Nat.lt_of_le_of_lt (show fs.length + a.length ≤ 2000 by omega) (by decide), ?_⟩
                refine ⟨rfl, _, st2, eL, SrcAt.ext src2 (Ext.set (ex := [f]) (by simp)) (by simpa using fs1.symm) (by simpa using fs2.symm), x2.trans (b := [f]) (.set (by simp)) (fun _ h => h) (by simp +contextual), ?_⟩
                rw [List.getElem?_set_self (List.getElem?_eq_some_iff.mp hf2).1, eG, ← List.append_assoc, List.map_append (l₁ := fs ++ a), List.map_append (f := W.fz)]
                rfl
              · rw [elen2] at h
                have eG : G a = a := if_neg h
                exact ⟨rfl, _, st2, eL, src2, x2, by rw [eG]; exact hf2⟩
          · have eL : L = .ok ([], st1) := if_neg (by rw [show strLt key o.1 = false from h]; exact Bool.false_ne_true)
            exact ⟨rfl, [], st1, eL, od.src, .refl, by rw [List.append_nil]; exact hf1⟩
        · rintro env' S2 ⟨rfl, a, st2, e1, src2, x2, hf2⟩
          have A1 : After st1 st2 o.2.2.1 ∧ st1.len + a.length ≤ st2.len + 1 := by
            rcases ite_ok (show (if strLt key o.1 then bnd M fun a st2 => .ok (G a, st2) else .ok ([], st1)) = .ok (a, st2) from e1) with ⟨_, e2⟩ | ⟨_, e2⟩
            · obtain ⟨x', st2', e4, e5⟩ := bnd_ok e2
              cases e5
              obtain ⟨q1, q2⟩ := mNxt_after n _ _ _ _ _ o1 e4
              refine ⟨q1, ?_⟩
              show st1.len + (if ((fs.length : Nat) : Int) + (x'.length : Nat) < cnt then x' ++ [(o.1, o.2.1)] else x').length ≤ _
              split
              · rw [List.length_append]; show st1.len + (x'.length + 1) ≤ _; omega
              · omega
            · cases e2; exact ⟨o1.refl, Nat.le_succ _⟩
          obtain ⟨r1, r2, r3⟩ := opn_right eo wk.ok A1.1
          have nd2 := x2.get od.node (by simp; omega)
          have py2 : PartAt c.P c.T b m S2 py o.2.2.2 := x2.get od.yl (by simp; omega)
          rw [e1] at hk
          have hk : Ends c C S s e b m [s, e, p, f] (bnd (mNxt b m n st2 o.2.2.2 key cnt ((fs.length : Nat) + (a.length : Nat))) fun d st3 => .ok (a ++ d, st3)) (fun a S' => S'[f]? = some (.lst (((fs ++ a).map tabR).map W.fz)) → Kp (.fz .non) S') Xp := hk
          have xx : Ext [s, e, p, f] S S2 := od.ext.trans (c := [s, e, p, f]) x2 (by simp +contextual) (by simp +contextual; omega)
          refine onO_fld nd2 rfl ⟨fN _ (by simp), s, e, py, b, m, st2, o.2.2.2, key, cnt, f, fs ++ a, rfl, ⟨src2, py2, wk.rule, r1, (A1.1.kind).trans lk.kind, by omega, by omega⟩, by omega, hf2, fs1, fs2, by omega, by rw [List.length_append]; omega, ?_⟩
          have el : (((fs ++ a).length : Nat) : Int) = ((fs.length : Nat) : Int) + (a.length : Nat) := by rw [List.length_append]; omega
          rw [el]
          refine (hk.bnd (Kq := fun d S' => S'[f]? = some (.lst (((fs ++ a ++ d).map tabR).map W.fz)) → Kp (.fz .non) S') fun d st3 S' h1 h2 h3 _ h4 => ?_).step xx (fun _ h => h) (by simp +contextual; omega)
          refine h1 S' h2 h3 ?_
          rw [h4, List.append_assoc]
abbrev s_walked : Stmt := top 39
abbrev N_walked : List Str := ["source", "part", "query", "name", "found"]
theorem sc_walked : FnScope N_walked ["source", "part", "query"] (C8.fnScope s_walked) := C8.fnScope_by (by decide +kernel)
set_option maxHeartbeats 4000000 in
theorem ok_walked {c : Cs} {C : Addr} {q : Bool} (D : Df K mg "walked" s_walked) (bi : Bi mg) (c_found_row : CalX P w K T mg base 14 "found_row" (spFound c C q)) (c_place_of : CalX P w K T mg base 14 "place_of" (spPlaceW c C q)) (c_row_at : CalX P w K T mg base 14 "row_at" (spAtW c C q)) {n : Nat} (c_measured : CalX P w K T mg base (13 + n) "measured" (spMs c C q n)) (c_add_between : CalX P w K T mg base (13 + n) "add_between" (spBtw c C q n)) (c_add_next : CalX P w K T mg base (13 + n) "add_next" (spNxt c C q n)) : CalX P w K T mg base (15 + n) "walked" (spWalk c C q n) := by
  have sc := sc_walked
  have c_found_row := CalX.mono c_found_row (show 14 ≤ 14 + n by omega)
  have c_place_of := CalX.mono c_place_of (show 14 ≤ 14 + n by omega)
  have c_row_at := CalX.mono c_row_at (show 14 ≤ 14 + n by omega)
  have c_measured := CalX.mono c_measured (show 13 + n ≤ 14 + n by omega)
  have c_add_between := CalX.mono c_add_between (show 13 + n ≤ 14 + n by omega)
  have c_add_next := CalX.mono c_add_next (show 13 + n ≤ 14 + n by omega)
  have e15 : 15 + n = (14 + n) + 1 := by omega
  rw [e15]
  refine D.calX (k := 14 + n) (g := spWalk c C q n) (fun _ _ _ _ _ _ us hl => match us, hl with | [_, _, _], _ => rfl) sc (by rintro _ _ _ _ ⟨s, e, p, b, m, st, pi, qy, rfl, _⟩; rfl)
      (fun xw f cdv A outer s H E hr po =>
      (dpss_cons (sset 3 sc.nd (e_ix (dpv 2) dpe_int))
        (dpss_cons (dps_if (c_eq hr (dpv 3) dpe_str)
        (dpss_one (dps_ret (e_callG c_found_row hr (Nat.le_refl _) (by rfl) (dpa_cons (dpv 0) (dpa_cons (dpv 1) (a1 (e_ix (dpv 2) dpe_int)))))))
        dpss_nil)
        (dpss_cons (dps_if (c_eq hr (dpv 3) dpe_str)
        (dpss_one (dps_ret (e_callG c_place_of hr (Nat.le_refl _) (by rfl) (dpa_cons (dpv 0) (dpa_cons (dpv 1) (a1 (e_ix (dpv 2) dpe_int)))))))
        dpss_nil)
        (dpss_cons (dps_if (c_eq hr (dpv 3) dpe_str)
        (dpss_one (dps_ret (e_callG c_row_at hr (Nat.le_refl _) (by rfl) (dpa_cons (dpv 0) (dpa_cons (dpv 1) (a1 (e_ix (dpv 2) dpe_int)))))))
        dpss_nil)
        (dpss_cons (dps_if (c_eq hr (dpv 3) dpe_str)
        (dpss_one (dps_ret (e_ix (e_callG c_measured hr (Nat.le_refl _) (by rfl) (dpa_cons (dpv 0) (dpa_cons (dpv 1) (dpa_cons (e_ix (dpv 2) dpe_int) (dpa_cons (e_ix (dpv 2) dpe_int) (a1 (dpe_tup (dpa_cons dpe_non (a1 dpe_non))))))))) dpe_int)))
        dpss_nil)
        (dpss_cons (dps_if (c_eq hr (dpv 3) dpe_str)
        (dpss_one (dps_ret (e_ix (e_callG c_measured hr (Nat.le_refl _) (by rfl) (dpa_cons (dpv 0) (dpa_cons (dpv 1) (dpa_cons (e_ix (dpv 2) dpe_int) (dpa_cons (e_ix (dpv 2) dpe_int) (a1 (dpe_tup (dpa_cons dpe_non (a1 dpe_non))))))))) (e_add false dpe_int (e_ix (dpv 2) dpe_int)))))
        dpss_nil)
        (dpss_cons (sset 4 sc.nd (dpe_lst true dpa_nil))
        (dpss_cons (dps_if (c_eq hr (dpv 3) dpe_str)
        (dpss_one (dps_expr (e_callG c_add_between hr (Nat.le_refl _) (by rfl) (dpa_cons (dpv 0) (dpa_cons (dpv 1) (dpa_cons (e_ix (dpv 2) dpe_int) (dpa_cons (e_ix (dpv 2) dpe_int) (a1 (dpv 4)))))))))
        (dpss_one (dps_expr (e_callG c_add_next hr (Nat.le_refl _) (by rfl) (dpa_cons (dpv 0) (dpa_cons (dpv 1) (dpa_cons (e_ix (dpv 2) dpe_int) (dpa_cons (e_ix (dpv 2) dpe_int) (a1 (dpv 4))))))))))
        (dpss_one (dps_ret (dpv 4)))))))))))
      ) ?_
  rintro ws S Kp Xp ⟨s, e, p, b, m, st, pi, qy, rfl, wk, hq, hn, hk⟩
  have hx0 : Ext [] S (S ++ [OD.lst []]) := Ext.app
  have okS : ∀ {a : Str}, PyData.strOk a = true → okD 64 (.str a) = true := fun h => ok_str h
  cases qy with
  | get k =>
    refine ⟨⟨okS (by decide +kernel), okS (by decide +kernel)⟩, ?_⟩
    refine ⟨s, e, p, b, m, st, pi, k, n, rfl, wk, hq.1, hn, ?_⟩
    exact hk.bnd fun d st' S' h1 h2 h3 _ => h1 S' h2 h3
  | plc k =>
    refine ⟨⟨okS (by decide +kernel), okS (by decide +kernel)⟩, ?_⟩
    refine ⟨⟨okS (by decide +kernel), okS (by decide +kernel)⟩, ?_⟩
    refine ⟨s, e, p, b, m, st, pi, k, n, rfl, wk, hq.1, hn, ?_⟩
    exact hk.bnd fun d st' S' h1 h2 h3 _ => h1 S' h2 h3
  | «at» i =>
    refine ⟨⟨okS (by decide +kernel), okS (by decide +kernel)⟩, ?_⟩
    refine ⟨⟨okS (by decide +kernel), okS (by decide +kernel)⟩, ?_⟩
    refine ⟨⟨okS (by decide +kernel), okS (by decide +kernel)⟩, ?_⟩
    refine ⟨s, e, p, b, m, st, pi, i, n, rfl, wk, hq.1, hn, ?_⟩
    exact hk.bnd fun d st' S' h1 h2 h3 _ => h1 S' h2 h3
  | cnt lo hi =>
    refine ⟨⟨okS (by decide +kernel), okS (by decide +kernel)⟩, ?_⟩
    refine ⟨⟨okS (by decide +kernel), okS (by decide +kernel)⟩, ?_⟩
    refine ⟨⟨okS (by decide +kernel), okS (by decide +kernel)⟩, ?_⟩
    refine ⟨⟨okS (by decide +kernel), okS (by decide +kernel)⟩, ?_⟩
    refine ⟨sz rfl, s, e, p, b, m, st, pi, lo, hi, none, none, rfl, wk, hn, hq.1.1, ?_⟩
    exact hk.bnd fun d st' S' h1 h2 h3 _ => h1 S' h2 h3
  | sm c lo hi =>
    refine ⟨⟨okS (by decide +kernel), okS (by decide +kernel)⟩, ?_⟩
    refine ⟨⟨okS (by decide +kernel), okS (by decide +kernel)⟩, ?_⟩
    refine ⟨⟨okS (by decide +kernel), okS (by decide +kernel)⟩, ?_⟩
    refine ⟨⟨okS (by decide +kernel), okS (by decide +kernel)⟩, ?_⟩
    refine ⟨⟨okS (by decide +kernel), okS (by decide +kernel)⟩, ?_⟩
    refine ⟨sz rfl, s, e, p, b, m, st, pi, lo, hi, none, none, rfl, wk, hn, hq.2.1.1, ?_⟩
    refine hk.bnd fun d st' S' h1 h2 h3 _ => ?_
    have hc : c = 0 ∨ c = 1 ∨ c = 2 := by have := hq.1.1; have := hq.1.2; omega
    rcases hc with e | e | e <;> subst e <;> exact h1 S' h2 h3
  | rng lo hi =>
    refine ⟨⟨okS (by decide +kernel), okS (by decide +kernel)⟩, ?_⟩
    refine ⟨⟨okS (by decide +kernel), okS (by decide +kernel)⟩, ?_⟩
    refine ⟨⟨okS (by decide +kernel), okS (by decide +kernel)⟩, ?_⟩
    refine ⟨⟨okS (by decide +kernel), okS (by decide +kernel)⟩, ?_⟩
    refine ⟨⟨okS (by decide +kernel), okS (by decide +kernel)⟩, ?_⟩
    refine ⟨sz rfl, ?_⟩
    refine ⟨⟨okS (by decide +kernel), okS (by decide +kernel)⟩, ?_⟩
    have hx : Ext [s, e, p] S (S ++ [OD.lst []]) := Ext.app
    have wk2 : Wk c C q (S ++ [OD.lst []]) s e p b m st pi := wk.later (SrcAt.ext wk.src hx0 (by simp) (by simp)) (hx0.get wk.part (by simp)) wk.ok rfl
    have := wk.src.lt
    have := wk.part.lt
    refine ⟨s, e, p, b, m, st, pi, lo, hi, S.length, [], rfl, wk2, hn, by rw [List.getElem?_append_right (Nat.le_refl _), Nat.sub_self]; rfl, by omega, by omega, by omega, Nat.zero_le _, ?_⟩
    refine ((hk.bnd (Kq := fun a S' => S'[S.length]? = some (.lst ((a.map tabR).map W.fz)) → Kp (.hd S.length) S') fun d st' S' h1 h2 h3 _ h4 => h1 S' h2 h3 S.length (Nat.le_refl _) h4).step hx (fun _ h => h) ?_)
    simp +contextual
  | nxt k c0 =>
    refine ⟨⟨okS (by decide +kernel), okS (by decide +kernel)⟩, ?_⟩
    refine ⟨⟨okS (by decide +kernel), okS (by decide +kernel)⟩, ?_⟩
    refine ⟨⟨okS (by decide +kernel), okS (by decide +kernel)⟩, ?_⟩
    refine ⟨⟨okS (by decide +kernel), okS (by decide +kernel)⟩, ?_⟩
    refine ⟨⟨okS (by decide +kernel), okS (by decide +kernel)⟩, ?_⟩
    refine ⟨sz rfl, ?_⟩
    refine ⟨⟨okS (by decide +kernel), okS (by decide +kernel)⟩, ?_⟩
    have hx : Ext [s, e, p] S (S ++ [OD.lst []]) := Ext.app
    have wk2 : Wk c C q (S ++ [OD.lst []]) s e p b m st pi := wk.later (SrcAt.ext wk.src hx0 (by simp) (by simp)) (hx0.get wk.part (by simp)) wk.ok rfl
    have := wk.src.lt
    have := wk.part.lt
    refine ⟨s, e, p, b, m, st, pi, k, c0, S.length, [], rfl, wk2, hn, by rw [List.getElem?_append_right (Nat.le_refl _), Nat.sub_self]; rfl, by omega, by omega, by omega, Nat.zero_le _, ?_⟩
    refine ((hk.bnd (Kq := fun a S' => S'[S.length]? = some (.lst ((a.map tabR).map W.fz)) → Kp (.hd S.length) S') fun d st' S' h1 h2 h3 _ h4 => h1 S' h2 h3 S.length (Nat.le_refl _) h4).step hx (fun _ h => h) ?_)
    simp +contextual
abbrev s_answered : Stmt := top 41
abbrev N_answered : List Str := ["rule", "table", "query", "source", "found"]
theorem sc_answered : FnScope N_answered ["rule", "table", "query"] (C8.fnScope s_answered) := C8.fnScope_by (by decide +kernel)
theorem ok_answered {c : Cs} {C : Addr} (D : Df K mg "answered" s_answered) (bi : Bi mg) {n : Nat} (c_tree_of : CalP P w K T mg base (12 + n) "tree_of" (spTreeO c.T n)) (r_Known : MakX P w K T mg base 2 "Known" C (spKnown C)) (fC : ∀ f ∈ (["rule", "entries"] : List Str), FldOk K C f) (t_root : MetX P w K T mg base 3 C "root" (spRootK c C)) (c_walked : CalX P w K T mg base (15 + n) "walked" (spWalk c C true n)) : CalP P w K T mg base (16 + n) "answered" (spAnswered n) := by
  have sc := sc_answered
  have c_tree_of := CalP.mono c_tree_of (show 12 + n ≤ 15 + n by omega)
  have t_root := MetX.mono t_root (show 3 ≤ 15 + n by omega)
  have e15 : 16 + n = (15 + n) + 1 := by omega
  rw [e15]
  refine D.calT (k := 15 + n) (Q := spAnswered n) (fun _ _ _ _ _ _ us hl => match us, hl with | [_, _, _], _ => rfl) sc (by rintro _ _ ⟨b, m, rows, q, rfl, _⟩; rfl)
      (fun f cdv A outer s H E hr =>
      (dpss_cons (sset 3 sc.nd (e_makeG r_Known hr (by first | decide | omega) (by rfl) (a1 (dpv 0))))
        (dpss_cons (sset 4 sc.nd (e_callG c_walked hr (Nat.le_refl _) (by rfl) (dpa_cons (dpv 3) (dpa_cons (e_mt t_root hr (Nat.le_refl _) (dpv 3) (a1 (dpe_callP c_tree_of hr (Nat.le_refl _) (by rfl) (dpa_cons (dpv 0) (a1 (dpv 1)))))) (a1 (dpv 2))))))
        (dpss_one (dps_ret (dpe_tup (dpa_cons (dpv 4) (a1 (e_fld K (dpv 3)))))))))
      ) ?_
  rintro xs Kp ⟨b, m, rows, q, rfl, hr, ht, hl, hn, hq, hk⟩
  let S0 : Sto := [.ins C [("rule", .fz (ruleD b m)), ("entries", .hd 1)], .lst []]
  refine ⟨0, ruleD b m, rfl, rfl, rfl, ?_⟩
  dsimp only [dgName, dSeq, dAsg, dCallG, dCons, dVar, dMeth]
  unfold onV
  refine onO_ins (S := S0) (p := 0) (C := C) (fs := [("rule", .fz (ruleD b m)), ("entries", .hd 1)]) rfl ?_
  refine ⟨⟨rfl, rfl⟩, ?_⟩
  refine ⟨b, m, rows, rfl, hr, ht, by omega, hn, ?_⟩
  refine ⟨0, _, b, m, treeT rows, rfl, rfl, ?_⟩
  have hsz : (treeT rows).size = rows.length := by rw [size_rows, rowsT]
  have hst : srt (treeT rows) := by unfold srt; rw [rowsT]; exact ht.1
  have wk : Wk c C true (S0 ++ [.ins c.P [("link", .fz (linkD (linkT b m (treeT rows)))), ("tree", .fz (treeO c.T b m (treeT rows))), ("node", .fz .non)]]) 0 1 2 b m (.kn []) (kn b m (treeT rows)) :=
    ⟨⟨rfl, rfl, by decide⟩, rfl, hr, ⟨by decide, treeT rows, rfl, rfl, okTr_of _ (by rw [rowsT]; exact ht.2), by rw [hsz]; show 0 + _ ≤ 900; omega⟩, rfl, by decide, by decide⟩
  refine ⟨0, 1, 2, b, m, .kn [], kn b m (treeT rows), q, rfl, wk, hq, by show (treeT rows).size < n; omega, ?_⟩
  rw [mWalk_kn (show (treeT rows).size < n by omega) hst hq, rowsT]
  intro S' h1 h2
  have fin : ∀ (w : W), frzL S' [w, .hd 1] = some [(rsOf rows q).D, .lst (certT b m (treeT rows) q)] → onO (frzT S' (.tp [w, .hd 1])) fun d => Kp d := fun w e => by
    have e2 : frzT S' (.tp [w, .hd 1]) = some (.tup [(rsOf rows q).D, .lst (certT b m (treeT rows) q)]) := by
      show (frzL S' [w, .hd 1]).map DL.D.tup = _
      rw [e]
      rfl
    rw [rsOf_D] at e2
    exact onO_some e2 hk
  have d1 : ∀ S2 : Sto, S2[1]? = some (.lst ((certT b m (treeT rows) q).map .fz)) → frzL S2 [.hd 1] = some [.lst (certT b m (treeT rows) q)] := fun S2 h => by
    have e : dW S2 (.hd 1) = some (.lst (certT b m (treeT rows) q)) := by
      unfold dW
      dsimp only
      rw [h]
      dsimp only
      rw [fzL_map]
      rfl
    unfold frzL
    rw [e]
    rfl
  cases hrs : rsOf rows q with
  | d x =>
    rw [hrs] at fin
    refine onO_fld h1.1 rfl ⟨fC _ (by simp), sz rfl, ?_⟩
    refine fin _ ?_
    unfold frzL
    show (some x).bind _ = _
    show (frzL S' [.hd 1]).map _ = _
    rw [d1 S' h1.2.1]
    rfl
  | l t =>
    rw [hrs] at fin
    intro f hf1 hf2
    refine onO_fld h1.1 rfl ⟨fC _ (by simp), sz rfl, ?_⟩
    refine fin _ ?_
    have hf3 : 3 ≤ f := hf1
    have e : dW S' (.hd f) = some (tabD t) := by
      unfold dW
      dsimp only
      rw [hf2]
      dsimp only
      rw [fzL_map]
      rfl
    unfold frzL
    rw [e]
    show (frzL (S'.set f .gone) [.hd 1]).map _ = _
    rw [d1 (S'.set f .gone) (by rw [List.getElem?_set_ne (by omega)]; exact h1.2.1)]
    rfl
abbrev s_Refused : Stmt := (C8.clsBody (top 21)).getD 0 (.Pass ⟨0, 0, 0, 0⟩)
abbrev N_Refused : List Str := ["self", "word", "number"]
theorem ss_Refused : ScopeS N_Refused ["self", "word", "number"] (C8.fnScope s_Refused) := scopeS_by (by decide +kernel)
theorem ok_Refused {C : Addr} (D : ReDf P K mg "Refused" "Refused.__init__" s_Refused ["word", "number"] C) : RefC P w K mg base "Refused" C := by
  obtain ⟨f, SF, iC, tI⟩ := D.ex
  have no1 := D.cat.no "word" (by simp)
  have no2 := D.cat.no "number" (by simp)
  have hB : ∃ fd : FuncData, FnOk P w K mg base C8.CX0 1 f fd ["self", "word", "number"] (spRef C) ∧ Binds K fd ["self", "word", "number"] [] := by
    refine fnSupE (CX := C8.CX0) (P := P) (w := w) (K := K) (mg := mg) (base := base) (k := 0) (sp := spRef C) SF D.sup rfl ss_Refused rfl rfl rfl (fun _ _ _ _ _ _ _ us hl => match us, hl with | [_, _, _], _ => rfl) (by rintro _ _ _ _ ⟨a, wd, n, rfl, _⟩; rfl) (fun _ _ _ _ => rfl) (fun _ _ _ _ => rfl) (fun _ _ _ _ => rfl) (fun _ _ _ _ => rfl)
      (fun cdv cc A outer s H vs Q E hr ⟨a, wd, n, e, hw, hn, ha, hq⟩ => ⟨_, _, a, _, pa_cons (pe_joined (.cons (pe_fmt (pv 1)) (.cons pe_str (.cons (pe_fmt (pv 2)) .nil)))) pa_nil, pss_cons (ps_ost (pv 0) (pv 1)) (pss_one (ps_ost (pv 0) (pv 2))), e, ha, ?_⟩)
    subst e
    intro q hnq
    have hqa : a ≠ q := fun z => by rw [← z, ha] at hnq; cases hnq
    have hd := digs n (by omega)
    have z1 : (Str.empty ++ wd).length ≤ 100 := by rw [Str.length_append]; show 0 + wd.length ≤ 100; omega
    have z2 : (Str.empty ++ wd ++ " at entry ").length ≤ 110 := by rw [Str.length_append]; exact Nat.add_le_add (b := 100) (d := 10) z1 (by decide)
    have z3 : (Str.empty ++ wd ++ " at entry " ++ ((toString (n : Int) : String) : Str)).length ≤ 120 := by rw [Str.length_append]; exact Nat.add_le_add (b := 110) (d := 10) z2 hd
    have big : 1000 ≤ sizeLine := by decide
    refine ⟨.str wd, rfl, .inl ⟨wd, rfl, by omega, wd, rfl, by omega, ?_⟩⟩
    refine ⟨" at entry ", rfl, by omega, ?_⟩
    refine ⟨.int n, rfl, .inr ⟨n, rfl, ?_, _, rfl, Nat.le_trans z3 (by omega), ?_⟩⟩
    · exact Nat.lt_of_le_of_lt (Nat.log2_le_self _) (by show n < 1920; omega)
    refine ⟨by show 1 ≤ 1000; decide, upd_same, by rw [upd_ne hqa]; exact ha, ?_⟩
    refine ⟨.str wd, rfl, .ref a, rfl, a, C, rfl, SF.oex, no1, .inl ⟨by rw [upd_ne hqa]; exact ha, fun dx hdx ne => ?_⟩⟩
    have nq : dx ≠ q := fun z => by rw [z, upd_same] at hdx; cases hdx
    rw [upd_ne nq] at hdx
    refine ⟨.int n, rfl, .ref a, rfl, a, C, rfl, SF.oex, no2, .inr ⟨dx, [("word", .str wd)], upd_same, by rw [upd_ne ne, upd_same], by show 1 ≤ 900; decide, ?_⟩⟩
    exact hq q dx hnq hdx nq
  obtain ⟨fd, h1, b1⟩ := hB
  exact ⟨SF.oex, ⟨f, fd, _, iC, tI, h1, b1⟩, D.mgC⟩
abbrev s_is_number : Stmt := top 26
abbrev N_is_number : List Str := ["value"]
theorem sc_is_number : FnScope N_is_number ["value"] (C8.fnScope s_is_number) := C8.fnScope_by (by decide +kernel)
theorem ok_is_number (D : Df K mg "is_number" s_is_number) (bi : Bi mg) : CalP P w K T mg base 1 "is_number" spNum := by
  have sc := sc_is_number
  refine D.calp (k := 0) (Q := spNum) (fun _ _ _ _ _ _ us hl => match us, hl with | [_], _ => rfl) sc (by rintro _ _ ⟨d, rfl, _⟩; rfl)
      (fun f cdv A outer s H E hr =>
      (dpss_one (dps_ret (dpe_and (e_isi bi (dpa_cons (dpv 0) (a1 (t_int bi)))) (dpe_and (dpe_not (e_isi bi (dpa_cons (dpv 0) (a1 (t_bool bi))))) (dpe_one (e_ge (dpv 0) dpe_int))))))
      ) ?_
  rintro xs Kp ⟨d, rfl, hd, hk⟩
  cases d with
  | non => exact hk
  | bl b => exact hk
  | int i => exact hk
  | str x => exact hk
  | tup ds => exact hk
  | lst ds => exact hk
  | obj _ _ => cases hd
  | scr _ => cases hd
  | ty _ => cases hd
abbrev s_is_key : Stmt := top 4
abbrev N_is_key : List Str := ["key", "letter"]
theorem sc_is_key : FnScope N_is_key ["key"] (C8.fnScope s_is_key) := C8.fnScope_by (by decide +kernel)
theorem ok_is_key (D : Df K mg "is_key" s_is_key) (gn : Gn K T mg base "is_key") (bi : Bi mg) (c_LETTERS : ∃ t, mg "LETTERS" = some (.str "abcdefghijklmnopqrstuvwxyz0123456789" t)) : CalP P w K T mg base 2 "is_key" spKeyB := by
  have sc := sc_is_key
  refine D.calpG (k := 1) (Q := spKeyB) gn (fun _ _ _ _ _ _ us hl => match us, hl with | [_], _ => rfl) sc (by rintro _ _ ⟨k, rfl, _⟩; rfl)
      (fun f cdv A outer s H E gn hr =>
      (dpss_one (dps_ret (dpe_and (dpe_chain od_le od_le dpe_int (e_len bi (a1 (dpv 0))) dpe_int) (dpe_one (dpe_all (ow := [("letter", 1)]) gn hr bi (lk_name (by decide)) rfl sc.nd (dpi_any (dpv 0)) (blkOk_by (N := N_is_key) (sc := C8.fnScope s_is_key) (by decide +kernel)) (by decide +kernel) (fun _ _ _ _ _ _ _ => pg_name (i := 1) sc.nd rfl (Or.inl rfl)) (fun _ _ _ _ _ _ _ => dpts_nil) (fun _ _ _ _ _ _ _ => (e_inS (dpv 1) (dpe_gstr (by rfl) c_LETTERS))))))))
      ) ?_
  rintro xs Kp ⟨k, rfl, hl, hk⟩
  have hz : k.length ≤ sizeLine := Nat.le_trans hl (by decide)
  refine ⟨hz, ?_⟩
  have hkb : keyB k = ((decide (1 ≤ ((k.length : Nat) : Int)) && decide (((k.length : Nat) : Int) ≤ 8)) && k.cps.toList.all fun c => decide (c ∈ lettersS.cps.toList)) := rfl
  refine ifB_of (fun h1 => ?_) (fun h1 => ?_)
  · have h1 : decide (1 ≤ ((k.length : Nat) : Int)) = true := h1
    refine ifB_of (fun h2 => ?_) (fun h2 => ?_)
    · have h2 : decide (((k.length : Nat) : Int) ≤ 8) = true := h2
      rw [h1, h2, Bool.true_and, Bool.true_and] at hkb
      rw [hkb] at hk
      exact allG_map (fun c : Nat => W.fz (.str ⟨#[c]⟩)) (fun c => decide (c ∈ lettersS.cps.toList)) (fun c _ X Y q => q) hk
    · have h2 : decide (((k.length : Nat) : Int) ≤ 8) = false := h2
      rw [h2, Bool.and_false, Bool.false_and] at hkb
      rw [hkb] at hk
      exact hk
  · have h1 : decide (1 ≤ ((k.length : Nat) : Int)) = false := h1
    rw [h1, Bool.false_and, Bool.false_and] at hkb
    rw [hkb] at hk
    exact hk
abbrev s_is_row : Stmt := top 5
abbrev N_is_row : List Str := ["row", "number"]
theorem sc_is_row : FnScope N_is_row ["row"] (C8.fnScope s_is_row) := C8.fnScope_by (by decide +kernel)
theorem ok_is_row (D : Df K mg "is_row" s_is_row) (gn : Gn K T mg base "is_row") (bi : Bi mg) (c_COLUMNS : ∃ t, mg "COLUMNS" = some (.int 3 t)) (c_MOST_NUMBER : ∃ t, mg "MOST_NUMBER" = some (.int 65535 t)) : CalP P w K T mg base 2 "is_row" spRowB := by
  have sc := sc_is_row
  refine D.calpG (k := 1) (Q := spRowB) gn (fun _ _ _ _ _ _ us hl => match us, hl with | [_], _ => rfl) sc (by rintro _ _ ⟨k, rfl, _⟩; rfl)
      (fun f cdv A outer s H E gn hr =>
      (dpss_one (dps_ret (dpe_and (dpe_chain od_le od_le dpe_int (e_len bi (a1 (dpv 0))) (dpe_gint (by rfl) c_COLUMNS)) (dpe_one (dpe_all (ow := [("number", 1)]) gn hr bi (lk_name (by decide)) rfl sc.nd (dpi_any (dpv 0)) (blkOk_by (N := N_is_row) (sc := C8.fnScope s_is_row) (by decide +kernel)) (by decide +kernel) (fun _ _ _ _ _ _ _ => pg_name (i := 1) sc.nd rfl (Or.inl rfl)) (fun _ _ _ _ _ _ _ => dpts_nil) (fun _ _ _ _ _ _ _ => (dpe_chain od_le od_le dpe_int (dpv 1) (dpe_gint (by rfl) c_MOST_NUMBER))))))))
      ) ?_
  rintro xs Kp ⟨r, rfl, hl, hk⟩
  have hlen : (((r.map DL.D.int).map W.fz).length : Int) = ((r.length : Nat) : Int) := by rw [List.length_map, List.length_map]
  have hkb : rowB r = ((decide (1 ≤ (((r.map DL.D.int).map W.fz).length : Int)) && decide ((((r.map DL.D.int).map W.fz).length : Int) ≤ 3)) && r.all fun i => decide (0 ≤ i) && decide (i ≤ 65535)) := by
    rw [hlen]
    rfl
  refine ifB_of (fun h1 => ?_) (fun h1 => ?_)
  · have h1 : decide (1 ≤ (((r.map DL.D.int).map W.fz).length : Int)) = true := h1
    refine ifB_of (fun h2 => ?_) (fun h2 => ?_)
    · have h2 : decide ((((r.map DL.D.int).map W.fz).length : Int) ≤ 3) = true := h2
      rw [h1, h2, Bool.true_and, Bool.true_and] at hkb
      rw [hkb] at hk
      have e : (r.map DL.D.int).map W.fz = r.map fun i => W.fz (.int i) := by rw [List.map_map]; rfl
      refine allG_eq e ?_
      refine allG_map (fun i : Int => W.fz (.int i)) (fun i => decide (0 ≤ i) && decide (i ≤ 65535)) (fun i _ X Y q => ?_) hk
      refine ifB_of (fun h3 => ?_) (fun h3 => ?_)
      · have h3 : decide (0 ≤ i) = true := h3
        try dsimp only at q
        rw [h3, Bool.true_and] at q
        exact q
      · have h3 : decide (0 ≤ i) = false := h3
        try dsimp only at q
        rw [h3, Bool.false_and] at q
        exact q
    · have h2 : decide ((((r.map DL.D.int).map W.fz).length : Int) ≤ 3) = false := h2
      rw [h2, Bool.and_false, Bool.false_and] at hkb
      rw [hkb] at hk
      exact hk
  · have h1 : decide (1 ≤ (((r.map DL.D.int).map W.fz).length : Int)) = false := h1
    rw [h1, Bool.false_and, Bool.false_and] at hkb
    rw [hkb] at hk
    exact hk
abbrev s_is_link : Stmt := top 25
abbrev N_is_link : List Str := ["link", "number", "count", "sums", "one"]
theorem sc_is_link : FnScope N_is_link ["link"] (C8.fnScope s_is_link) := C8.fnScope_by (by decide +kernel)
theorem ok_is_link (D : Df K mg "is_link" s_is_link) (gn : Gn K T mg base "is_link") (bi : Bi mg) (c_COLUMNS : ∃ t, mg "COLUMNS" = some (.int 3 t)) (c_is_number : CalP P w K T mg base 1 "is_number" spNum) : CalP P w K T mg base 3 "is_link" spIsLink := by
  have sc := sc_is_link
  refine D.calpG (k := 2) (Q := spIsLink) gn (fun _ _ _ _ _ _ us hl => match us, hl with | [_], _ => rfl) sc (by rintro _ _ ⟨d, rfl, _⟩; rfl)
      (fun f cdv A outer s H E gn hr =>
      (dpss_cons (dps_if (DPW.pt (dpw_or (dpt_not (dpt_tru (e_isi bi (dpa_cons (dpv 0) (a1 (t_tuple bi)))))) (dpw_or1 (c_ne hr (e_len bi (a1 (dpv 0))) dpe_int))))
        (dpss_one (dps_ret dpe_bl))
        dpss_nil)
        (dpss_cons (dps_asg (dpv 0) (dpg_tup (n := 3) rfl (dpgs_cons (gname 1 sc.nd) (dpgs_cons (gname 2 sc.nd) (dpgs_cons (gname 3 sc.nd) dpgs_nil)))))
        (dpss_cons (dps_if (DPW.pt (dpw_or (dpt_not (dpt_tru (dpe_callP c_is_number hr (by decide) (by rfl) (a1 (dpv 1))))) (dpw_or (dpt_not (dpt_tru (dpe_callP c_is_number hr (by decide) (by rfl) (a1 (dpv 2))))) (dpw_or (dpt_not (dpt_tru (e_isi bi (dpa_cons (dpv 3) (a1 (t_tuple bi)))))) (dpw_or1 (c_ne hr (e_len bi (a1 (dpv 3))) (dpe_gint (by rfl) c_COLUMNS)))))))
        (dpss_one (dps_ret dpe_bl))
        dpss_nil)
        (dpss_one (dps_ret (dpe_all (ow := [("one", 4)]) gn hr bi (lk_name (by decide)) rfl sc.nd (dpi_any (dpv 3)) (blkOk_by (N := N_is_link) (sc := C8.fnScope s_is_link) (by decide +kernel)) (by decide +kernel) (fun _ _ _ _ _ _ _ => pg_name (i := 4) sc.nd rfl (Or.inl rfl)) (fun _ _ _ _ _ _ _ => dpts_nil) (fun _ _ _ _ _ _ _ => (dpe_callP c_is_number (gex_room hr) (by decide) (by rfl) (a1 (dpv 4))))))))))
      ) ?_
  rintro xs Kp ⟨d, rfl, hd, hk⟩
  cases d with
  | non => exact hk
  | bl b => exact hk
  | int i => exact hk
  | str x => exact hk
  | lst ds => exact hk
  | obj _ _ => cases hd
  | scr _ => cases hd
  | ty _ => cases hd
  | tup ds =>
    have hpl : ds.length ≤ 1000 ∧ ∀ d ∈ ds, plB d = true := by
      have hd : (decide (ds.length ≤ 1000) && plBL ds) = true := hd
      rw [Bool.and_eq_true, plBL_iff] at hd
      exact ⟨of_decide_eq_true hd.1, hd.2⟩
    have hlen : ((ds.map W.fz).length : Int) = (ds.length : Nat) := by rw [List.length_map]
    by_cases h3 : ds.length = 3
    · obtain ⟨a, b, c, rfl⟩ : ∃ a b c, ds = [a, b, c] := by
        match ds, h3 with
        | [a, b, c], _ => exact ⟨a, b, c, rfl⟩
      rw [linkB_3] at hk
      have pa := hpl.2 a (by simp)
      have pb := hpl.2 b (by simp)
      have pc := hpl.2 c (by simp)
      refine ⟨⟨rfl, rfl⟩, ?_⟩
      refine ⟨rfl, a, rfl, pa, ?_⟩
      cases ha : numB a with
      | false => rw [ha, Bool.false_and] at hk; exact hk
      | true =>
        rw [ha, Bool.true_and] at hk
        refine ⟨b, rfl, pb, ?_⟩
        cases hb : numB b with
        | false => rw [hb, Bool.false_and] at hk; exact hk
        | true =>
          rw [hb, Bool.true_and] at hk
          cases c with
          | non => exact hk
          | bl b => exact hk
          | int i => exact hk
          | str x => exact hk
          | lst ds => exact hk
          | obj _ _ => cases pc
          | scr _ => cases pc
          | ty _ => cases pc
          | tup ss =>
            have hps : ss.length ≤ 1000 ∧ ∀ d ∈ ss, plB d = true := by
              have hd : (decide (ss.length ≤ 1000) && plBL ss) = true := pc
              rw [Bool.and_eq_true, plBL_iff] at hd
              exact ⟨of_decide_eq_true hd.1, hd.2⟩
            have esb : sumsB (.tup ss) = (decide (ss.length = 3) && ss.all numB) := rfl
            rw [esb] at hk
            have el : eqD (.int ((ss.map W.fz).length : Nat)) (.int 3) = decide (ss.length = 3) := by
              rw [eqD_ii, List.length_map]
              by_cases z : ss.length = 3
              · rw [decide_eq_true z, decide_eq_true (by omega)]
              · rw [decide_eq_false z, decide_eq_false (by omega)]
            refine ⟨⟨rfl, rfl⟩, ?_⟩
            rw [el]
            cases h5 : decide (ss.length = 3) with
            | false => rw [h5, Bool.false_and] at hk; exact hk
            | true =>
              rw [h5, Bool.true_and] at hk
              exact allG_map (fun x : DL.D => W.fz x) numB (fun x hx X Y q => ⟨x, rfl, hps.2 x hx, q⟩) hk
    · rw [linkB_len h3] at hk
      refine ⟨⟨rfl, rfl⟩, ?_⟩
      have el : eqD (.int ((ds.map W.fz).length : Nat)) (.int 3) = false := by
        rw [eqD_ii, List.length_map]
        exact decide_eq_false (by omega)
      rw [el]
      exact hk
abbrev s_is_entry : Stmt := top 27
abbrev N_is_entry : List Str := ["entry", "key", "row", "left", "right", "one"]
theorem sc_is_entry : FnScope N_is_entry ["entry"] (C8.fnScope s_is_entry) := C8.fnScope_by (by decide +kernel)
theorem ok_is_entry (D : Df K mg "is_entry" s_is_entry) (gn : Gn K T mg base "is_entry") (bi : Bi mg) (c_is_number : CalP P w K T mg base 1 "is_number" spNum) (c_is_key : CalP P w K T mg base 2 "is_key" spKeyB) (c_is_row : CalP P w K T mg base 2 "is_row" spRowB) (c_is_link : CalP P w K T mg base 3 "is_link" spIsLink) : CalP P w K T mg base 4 "is_entry" spIsEnt := by
  have sc := sc_is_entry
  refine D.calpG (k := 3) (Q := spIsEnt) gn (fun _ _ _ _ _ _ us hl => match us, hl with | [_], _ => rfl) sc (by rintro _ _ ⟨d, rfl, _⟩; rfl)
      (fun f cdv A outer s H E gn hr =>
      (dpss_cons (dps_if (DPW.pt (dpw_or (dpt_not (dpt_tru (e_isi bi (dpa_cons (dpv 0) (a1 (t_tuple bi)))))) (dpw_or1 (c_ne hr (e_len bi (a1 (dpv 0))) dpe_int))))
        (dpss_one (dps_ret dpe_bl))
        dpss_nil)
        (dpss_cons (dps_asg (dpv 0) (dpg_tup (n := 4) rfl (dpgs_cons (gname 1 sc.nd) (dpgs_cons (gname 2 sc.nd) (dpgs_cons (gname 3 sc.nd) (dpgs_cons (gname 4 sc.nd) dpgs_nil))))))
        (dpss_cons (dps_if (DPW.pt (dpw_or (dpt_not (dpt_tru (e_isi bi (dpa_cons (dpv 1) (a1 (t_str bi)))))) (dpw_or (dpt_not (dpt_tru (e_isi bi (dpa_cons (dpv 2) (a1 (t_tuple bi)))))) (dpw_or1 (dpt_not (dpt_tru (dpe_all (ow := [("one", 5)]) gn hr bi (lk_name (by decide)) rfl sc.nd (dpi_any (dpv 2)) (blkOk_by (N := N_is_entry) (sc := C8.fnScope s_is_entry) (by decide +kernel)) (by decide +kernel) (fun _ _ _ _ _ _ _ => pg_name (i := 5) sc.nd rfl (Or.inl rfl)) (fun _ _ _ _ _ _ _ => dpts_nil) (fun _ _ _ _ _ _ _ => (dpe_callP c_is_number (gex_room hr) (by decide) (by rfl) (a1 (dpv 5)))))))))))
        (dpss_one (dps_ret dpe_bl))
        dpss_nil)
        (dpss_one (dps_ret (dpe_and (dpe_callP c_is_key hr (by decide) (by rfl) (a1 (dpv 1))) (dpe_and (dpe_callP c_is_row hr (by decide) (by rfl) (a1 (dpv 2))) (dpe_and (dpe_callP c_is_link hr (by decide) (by rfl) (a1 (dpv 3))) (dpe_one (dpe_callP c_is_link hr (by decide) (by rfl) (a1 (dpv 4))))))))))))
      ) ?_
  rintro xs Kp ⟨d, rfl, hd, hk⟩
  cases d with
  | non => exact hk
  | bl b => exact hk
  | int i => exact hk
  | str x => exact hk
  | lst ds => exact hk
  | obj _ _ => cases hd
  | scr _ => cases hd
  | ty _ => cases hd
  | tup ds =>
    have hpl : ds.length ≤ 1000 ∧ ∀ d ∈ ds, plB d = true := by
      have hd : (decide (ds.length ≤ 1000) && plBL ds) = true := hd
      rw [Bool.and_eq_true, plBL_iff] at hd
      exact ⟨of_decide_eq_true hd.1, hd.2⟩
    by_cases h3 : ds.length = 4
    · obtain ⟨a, b, c, e, rfl⟩ : ∃ a b c e, ds = [a, b, c, e] := by
        match ds, h3 with
        | [a, b, c, e], _ => exact ⟨a, b, c, e, rfl⟩
      rw [entB_4] at hk
      have pa := hpl.2 a (by simp)
      have pb := hpl.2 b (by simp)
      have pc := hpl.2 c (by simp)
      have pe := hpl.2 e (by simp)
      refine ⟨⟨rfl, rfl⟩, ?_⟩
      refine ⟨rfl, ?_⟩
      cases a with
      | non => exact hk
      | bl b => exact hk
      | int i => exact hk
      | lst ds => exact hk
      | tup ds => exact hk
      | obj _ _ => cases pa
      | scr _ => cases pa
      | ty _ => cases pa
      | str k =>
        rw [keyOf_B] at hk
        cases b with
        | non => rw [show (rowOfD .non).isSome = false from rfl, Bool.false_and, Bool.and_false] at hk; exact hk
        | bl b => rw [show (rowOfD (.bl b)).isSome = false from rfl, Bool.false_and, Bool.and_false] at hk; exact hk
        | int i => rw [show (rowOfD (.int i)).isSome = false from rfl, Bool.false_and, Bool.and_false] at hk; exact hk
        | str x => rw [show (rowOfD (.str x)).isSome = false from rfl, Bool.false_and, Bool.and_false] at hk; exact hk
        | lst ds => rw [show (rowOfD (.lst ds)).isSome = false from rfl, Bool.false_and, Bool.and_false] at hk; exact hk
        | obj _ _ => cases pb
        | scr _ => cases pb
        | ty _ => cases pb
        | tup rs =>
          have hkl : k.length ≤ 1000 := by
            have hd : (PyData.strOk k && decide (k.length ≤ 1000)) = true := pa
            rw [Bool.and_eq_true, decide_eq_true_eq] at hd
            exact hd.2
          have hps : rs.length ≤ 1000 ∧ ∀ d ∈ rs, plB d = true := by
            have hd : (decide (rs.length ≤ 1000) && plBL rs) = true := pb
            rw [Bool.and_eq_true, plBL_iff] at hd
            exact ⟨of_decide_eq_true hd.1, hd.2⟩
          rw [rowOf_B] at hk
          refine allG_map (fun x : DL.D => W.fz x) numB (fun x hx X Y q => ⟨x, rfl, hps.2 x hx, q⟩) ?_
          cases hn : rs.all numB with
          | false => rw [hn, Bool.false_and, Bool.false_and, Bool.and_false] at hk; exact hk
          | true =>
            rw [hn, Bool.true_and] at hk
            refine ⟨k, rfl, hkl, ?_⟩
            cases hk1 : keyB k with
            | false => rw [hk1, Bool.false_and] at hk; exact hk
            | true =>
              rw [hk1, Bool.true_and] at hk
              obtain ⟨r, e1, e2, e3⟩ := ints_of hn
              unfold rowD_B at hk
              rw [e2] at hk
              subst e1
              refine ⟨r, rfl, by have := hps.1; rw [List.length_map] at this; exact this, ?_⟩
              cases hr1 : rowB r with
              | false => dsimp only at hk; rw [hr1, Bool.false_and] at hk; exact hk
              | true =>
                dsimp only at hk
                rw [hr1, Bool.true_and] at hk
                refine ⟨c, rfl, pc, ?_⟩
                cases hl1 : linkB c with
                | false => rw [hl1, Bool.false_and] at hk; exact hk
                | true =>
                  rw [hl1, Bool.true_and] at hk
                  exact ⟨e, rfl, pe, hk⟩
    · rw [entB_len h3] at hk
      refine ⟨⟨rfl, rfl⟩, ?_⟩
      have el : eqD (.int ((ds.map W.fz).length : Nat)) (.int 4) = false := by
        rw [eqD_ii, List.length_map]
        exact decide_eq_false (by omega)
      rw [el]
      exact hk
abbrev s_Given : Stmt := (C8.clsBody (top 30)).getD 0 (.Pass ⟨0, 0, 0, 0⟩)
abbrev N_Given : List Str := ["self", "rule", "certificate"]
theorem ss_Given : ScopeS N_Given ["self", "rule", "certificate"] (C8.fnScope s_Given) := scopeS_by (by decide +kernel)

theorem ok_Given {C : Addr} (D : SbDf P K mg "Given" "Given.__init__" s_Given "Source.__init__" s_Source ["rule", "certificate", "position"] C) : MakX P w K T mg base 2 "Given" C (spGiven C) := by
  obtain ⟨f, f2, fd2, Mm, SF, F2, df2⟩ := D.ex
  have h2 : FnOk P w K mg base C8.CX0 1 f2 fd2 ["self", "rule"] (spInit C ["rule"]) := C8.fn0 F2 sc_Source (by rintro _ _ _ _ ⟨a, dx, vals, rfl, hl, _⟩; rw [List.length_cons, hl]; rfl) (fun cdv A outer s H vs Q E hr ⟨a, dx, vals, e, hl, ha, hq⟩ => ⟨_, pss_one (ps_fld (pv 0) (pv 1) rfl), by
    subst e
    obtain ⟨v1, rfl⟩ : ∃ v1, vals = [v1] := by
      match vals, hl with
      | [v1], _ => exact ⟨v1, rfl⟩
    exact ⟨v1, rfl, .ref a, rfl, a, C, dx, [], rfl, ha, D.cls, D.na _ (by simp), by decide, hq⟩⟩)
  have fC : ∀ f ∈ (["rule", "certificate", "position"] : List Str), FldOk K C f := fun f hf => ⟨D.cls, D.na f hf⟩
  obtain ⟨fd, h1, b1⟩ := initS (T := T) (g := spGiven C) (k := 1) SF D.sup rfl ss_Given rfl rfl rfl h2 (F2.binds df2 (fun _ _ _ _ _ _ us hl => match us, hl with | [_, _], _ => rfl)) (fun _ _ _ _ _ _ _ us hl => match us, hl with | [_, _, _], _ => rfl) (by rintro _ _ _ _ ⟨n, d, c, rfl, _⟩; rfl) (fun _ _ _ _ => rfl) (fun _ _ _ _ => rfl) (fun _ _ _ _ => rfl) (fun _ _ _ _ => rfl)
    (fun xw cdv cc A outer s H E hr => ⟨a1 (dpv 1), dpss_cons (s_fld K (dpv 0) (dpv 2)) (dpss_one (s_fld K (dpv 0) dpe_int))⟩) (by
      rintro ws S Kp Xp ⟨n, d, c, rfl, hn, hk⟩
      refine ⟨n, _, rfl, hn, ⟨rfl, hn⟩, ?_⟩
      have hl : n < S.length := (List.getElem?_eq_some_iff.mp hn).1
      refine onO_ins (List.getElem?_set_self hl) ⟨⟨fC _ (by simp), by show 1 < 1000; decide⟩, ?_⟩
      refine onO_ins (List.getElem?_set_self (by rw [List.length_set]; exact hl)) ⟨⟨fC _ (by simp), by show 2 < 1000; decide⟩, ?_⟩
      rw [List.set_set, List.set_set]
      exact hk)
  exact ⟨f, fd, _, Mm, h1, D.mgC, b1⟩
abbrev s_Given_entry_of : Stmt := (C8.clsBody (top 30)).getD 1 (.Pass ⟨0, 0, 0, 0⟩)
abbrev N_Given_entry_of : List Str := ["self", "part", "number", "entry", "link"]
theorem sc_Given_entry_of : FnScope N_Given_entry_of ["self", "part"] (C8.fnScope s_Given_entry_of) := C8.fnScope_by (by decide +kernel)
theorem ok_entry_of_g {c : Cs} {C : Addr} (D : MtDf K C "entry_of" "Given.entry_of" s_Given_entry_of) (bi : Bi mg) (r_Refused : RefC P w K mg base "Refused" c.R) (c_is_entry : CalP P w K T mg base 4 "is_entry" spIsEnt) (c_entry_link : CalP P w K T mg base 10 "entry_link" spLink) (r_Part : RecC P w K mg base "Part" ["link", "tree", "node"] c.P) (fC : ∀ f ∈ (["rule", "certificate", "position"] : List Str), FldOk K C f) : MetX P w K T mg base 12 C "entry_of" (spEntry c C false) := by
  have sc := sc_Given_entry_of
  refine D.metX (k := 11) (g := spEntry c C false) (fun _ _ _ _ _ _ us hl => match us, hl with | [_, _], _ => rfl) sc (by rintro _ _ _ _ ⟨s, e, p, b, m, st, pi, rfl, _⟩; rfl)
      (fun xw f cdv A outer s H E hr po =>
      (dpss_cons (sset 2 sc.nd (e_fld K (dpv 0)))
        (dpss_cons (dps_if (c_eq hr (dpv 2) (e_len bi (a1 (e_fld K (dpv 0)))))
        (dpss_one (ds_raise r_Refused rfl hr (by first | decide | omega) (by rfl) (dpa_cons dpe_str (a1 (dpv 2)))))
        dpss_nil)
        (dpss_cons (sset 3 sc.nd (e_ix (e_fld K (dpv 0)) (dpv 2)))
        (dpss_cons (dps_if (dpt_not (dpt_tru (dpe_callP c_is_entry hr (by decide) (by rfl) (a1 (dpv 3)))))
        (dpss_one (ds_raise r_Refused rfl hr (by first | decide | omega) (by rfl) (dpa_cons dpe_str (a1 (dpv 2)))))
        dpss_nil)
        (dpss_cons (sset 4 sc.nd (dpe_callP c_entry_link hr (by decide) (by rfl) (dpa_cons (e_fld K (dpv 0)) (a1 (dpv 3)))))
        (dpss_cons (dps_if (c_ne hr (e_ix (dpv 4) dpe_int) (e_ix (e_fld K (dpv 1)) dpe_int))
        (dpss_one (ds_raise r_Refused rfl hr (by first | decide | omega) (by rfl) (dpa_cons dpe_str (a1 (dpv 2)))))
        dpss_nil)
        (dpss_cons (dps_if (c_ne hr (dpv 4) (e_fld K (dpv 1)))
        (dpss_one (ds_raise r_Refused rfl hr (by first | decide | omega) (by rfl) (dpa_cons dpe_str (a1 (dpv 2)))))
        dpss_nil)
        (dpss_cons (s_fld K (dpv 0) (e_add false (dpv 2) dpe_int))
        (dpss_one (dps_ret (dpe_tup (dpa_cons (dpv 3) (dpa_cons dpe_non (a1 dpe_non))))))))))))))
      ) ?_
  rintro ws S Kp Xp ⟨s, e, p, b, m, st, pi, rfl, wk, hn, hk⟩
  cases st with
  | kn es => cases wk.kind
  | gv cs n =>
    obtain ⟨hs, hse⟩ := wk.src
    subst hse
    obtain ⟨⟨hl1, hl2, hpl⟩, ht, hpn⟩ := wk.ok
    have fP : ∀ f ∈ (["link", "tree", "node"] : List Str), FldOk K c.P f := fun f hf => ⟨r_Part.cls, r_Part.na f hf⟩
    have el : ((cs.map W.fz).length : Int) = (cs.length : Nat) := by rw [List.length_map]
    refine onO_fld hs rfl ⟨fC _ (by simp), onO_fld hs rfl ⟨fC _ (by simp), ⟨rfl, rfl⟩, ifB_of (fun h => ?_) (fun h => ?_)⟩⟩
    · rw [eqD_ii, el] at h
      have h := of_decide_eq_true h
      have eo : opn b m (.gv cs n) pi = .error ⟨"short", n⟩ := by
        unfold opn
        dsimp only
        rw [List.getElem?_eq_none (by omega)]
      rw [eo] at hk
      exact ⟨"short", n, rfl, by decide, by omega, hk S .refl⟩
    rw [eqD_ii, el] at h
    have h := of_decide_eq_false h
    have hlt : n < cs.length := by omega
    refine onO_fld hs rfl ⟨fC _ (by simp), onO_at (by omega) (by rw [el]; omega) fun w0 hx => ?_⟩
    rw [show ((n : Int)).toNat = n from rfl, List.getElem?_map, List.getElem?_eq_getElem hlt] at hx
    cases hx
    have hd : plB cs[n] = true := plBL_iff.mp hpl _ (List.getElem_mem hlt)
    have hget : cs[n]? = some cs[n] := List.getElem?_eq_getElem hlt
    generalize cs[n] = d at hd hget
    refine ⟨d, rfl, hd, ?_⟩
    cases he : entOfD d with
    | none =>
      have eo : opn b m (.gv cs n) pi = .error ⟨"form", n⟩ := by
        unfold opn
        dsimp only
        rw [hget]
        dsimp only
        rw [he]
      rw [eo] at hk
      have hb : entB d = false := by unfold entB; rw [he]; rfl
      rw [hb]
      exact ⟨"form", n, rfl, by decide, by omega, hk S .refl⟩
    | some v =>
      obtain ⟨k, r, x, y⟩ := v
      have hb : entB d = true := by unfold entB; rw [he]; rfl
      rw [hb]
      obtain ⟨ed, ok1, ok2, ok3, ok4⟩ := entOfD_ok he
      subst ed
      have eo : opn b m (.gv cs n) pi = if (linkOf b m k r x y).d = pi.l.d then (if eqD (linkD (linkOf b m k r x y)) (linkD pi.l) then .ok ((k, r, ⟨x, none⟩, ⟨y, none⟩), .gv cs (n + 1)) else .error ⟨"sums", n⟩) else .error ⟨"digest", n⟩ := by
        unfold opn
        dsimp only
        rw [hget]
        dsimp only
        rw [he]
      rw [eo] at hk
      refine onO_fld hs rfl ⟨fC _ (by simp), b, m, k, r, x, y, rfl, wk.rule, ok1, ok2, ?_⟩
      refine onO_fld wk.part rfl ⟨fP _ (by simp), ⟨rfl, rfl⟩, ?_⟩
      rw [eqD_ii]
      by_cases h1 : (linkOf b m k r x y).d = pi.l.d
      · rw [if_pos h1] at hk
        rw [decide_eq_true h1]
        refine onO_fld wk.part rfl ⟨fP _ (by simp), ⟨rfl, rfl⟩, ?_⟩
        cases h2 : eqD (linkD (linkOf b m k r x y)) (linkD pi.l) with
        | true =>
          rw [h2, if_pos rfl] at hk
          refine onO_ins hs ⟨⟨fC _ (by simp), by show 3 < 1000; decide⟩, sz rfl, ?_⟩
          refine hk _ ⟨⟨?_, rfl⟩, .set (by simp), by rw [List.length_set]⟩
          rw [List.getElem?_set_self (List.getElem?_eq_some_iff.mp hs).1]
          rfl
        | false =>
          rw [h2, if_neg Bool.false_ne_true] at hk
          exact ⟨"sums", n, rfl, by decide, by omega, hk S .refl⟩
      · rw [if_neg h1] at hk
        rw [decide_eq_false h1]
        exact ⟨"digest", n, rfl, by decide, by omega, hk S .refl⟩
abbrev s_Given_root : Stmt := (C8.clsBody (top 30)).getD 3 (.Pass ⟨0, 0, 0, 0⟩)
abbrev N_Given_root : List Str := ["self", "link"]
theorem sc_Given_root : FnScope N_Given_root ["self", "link"] (C8.fnScope s_Given_root) := C8.fnScope_by (by decide +kernel)
theorem ok_root_g {c : Cs} {C : Addr} (D : MtDf K C "root" "Given.root" s_Given_root) (r_Part : RecC P w K mg base "Part" ["link", "tree", "node"] c.P) : MetX P w K T mg base 3 C "root" (spRootG c C) := by
  have sc := sc_Given_root
  refine D.metX (k := 2) (g := spRootG c C) (fun _ _ _ _ _ _ us hl => match us, hl with | [_, _], _ => rfl) sc (by rintro _ _ _ _ ⟨s, fs, l, rfl, _⟩; rfl)
      (fun xw f cdv A outer s H E hr po =>
      (dpss_one (dps_ret (e_makeO r_Part hr (by first | decide | omega) (by rfl) (dpa_cons (dpv 1) (dpa_cons dpe_non (a1 dpe_non))))))
      ) ?_
  rintro ws S Kp Xp ⟨s, fs, l, rfl, hs, hk⟩
  exact ⟨rfl, hk⟩
abbrev s_Given_finish : Stmt := (C8.clsBody (top 30)).getD 2 (.Pass ⟨0, 0, 0, 0⟩)
abbrev N_Given_finish : List Str := ["self"]
theorem sc_Given_finish : FnScope N_Given_finish ["self"] (C8.fnScope s_Given_finish) := C8.fnScope_by (by decide +kernel)
theorem ok_finish {c : Cs} {C : Addr} (D : MtDf K C "finish" "Given.finish" s_Given_finish) (bi : Bi mg) (r_Refused : RefC P w K mg base "Refused" c.R) (fC : ∀ f ∈ (["rule", "certificate", "position"] : List Str), FldOk K C f) : MetX P w K T mg base 3 C "finish" (spFinish c C) := by
  have sc := sc_Given_finish
  refine D.metX (k := 2) (g := spFinish c C) (fun _ _ _ _ _ _ us hl => match us, hl with | [_], _ => rfl) sc (by rintro _ _ _ _ ⟨s, b, m, cs, n, rfl, _⟩; rfl)
      (fun xw f cdv A outer s H E hr po =>
      (dpss_one (dps_if (c_lt (e_fld K (dpv 0)) (e_len bi (a1 (e_fld K (dpv 0)))))
        (dpss_one (ds_raise r_Refused rfl hr (by first | decide | omega) (by rfl) (dpa_cons dpe_str (a1 (e_fld K (dpv 0))))))
        dpss_nil))
      ) ?_
  rintro ws S Kp Xp ⟨s, b, m, cs, n, rfl, hs, hl, hn, hk⟩
  have el : ((cs.map W.fz).length : Int) = (cs.length : Nat) := by rw [List.length_map]
  refine onO_fld hs.1 rfl ⟨fC _ (by simp), onO_fld hs.1 rfl ⟨fC _ (by simp), ifB_d (fun h => ?_) (fun h => ?_)⟩⟩
  · rw [el] at h
    rw [if_pos (by omega)] at hk
    exact onO_fld hs.1 rfl ⟨fC _ (by simp), "long", n, rfl, by decide, by omega, hk⟩
  · rw [el] at h
    rw [if_neg (by omega)] at hk
    exact hk
abbrev s_read : Stmt := top 42
abbrev N_read : List Str := ["rule", "head", "query", "certificate", "source", "error", "found"]
theorem sc_read : FnScope N_read ["rule", "head", "query", "certificate"] (C8.fnScope s_read) := C8.fnScope_by (by decide +kernel)
set_option maxHeartbeats 4000000 in
theorem ok_read {c : Cs} {C : Addr} (D : Df K mg "read" s_read) (bi : Bi mg) {n : Nat} (k_Refused : CatC K c.R ["word", "number"]) (r_Refused : RefC P w K mg base "Refused" c.R) (r_Given : MakX P w K T mg base 2 "Given" C (spGiven C)) (fC : ∀ f ∈ (["rule", "certificate", "position"] : List Str), FldOk K C f) (t_root : MetX P w K T mg base 3 C "root" (spRootG c C)) (t_finish : MetX P w K T mg base 3 C "finish" (spFinish c C)) (c_walked : CalX P w K T mg base (15 + n) "walked" (spWalk c C false n)) : CalP P w K T mg base (16 + n) "read" (spRead n) := by
  have sc := sc_read
  have t_root := MetX.mono t_root (show 3 ≤ 15 + n by omega)
  have t_finish := MetX.mono t_finish (show 3 ≤ 15 + n by omega)
  have e15 : 16 + n = (15 + n) + 1 := by omega
  rw [e15]
  refine D.calT (k := 15 + n) (Q := spRead n) (fun _ _ _ _ _ _ us hl => match us, hl with | [_, _, _, _], _ => rfl) sc (by rintro _ _ ⟨b, m, head, q, cs, rfl, _⟩; rfl)
      (fun f cdv A outer s H E hr =>
      (dpss_cons (sset 4 sc.nd (e_makeG r_Given hr (by first | decide | omega) (by rfl) (dpa_cons (dpv 0) (a1 (dpv 3)))))
        (dpss_cons (ds_tryR (i := 5) k_Refused (by simp) (by simp) (by rfl) r_Refused.mgC (fun pn xe xw po => (dpss_cons (sset 6 sc.nd (e_callG c_walked hr (Nat.le_refl _) (by rfl) (dpa_cons (dpv 4) (dpa_cons (e_mt t_root hr (Nat.le_refl _) (dpv 4) (a1 (dpv 1))) (a1 (dpv 2))))))
        (dpss_one (dps_expr (e_mt0 t_finish hr (Nat.le_refl _) (dpv 4)))))) sc.nd)
        (dpss_one (dps_ret (dpe_tup (dpa_cons dpe_str (a1 (dpv 6))))))))
      ) ?_
  rintro xs Kp ⟨b, m, head, q, cs, rfl, hr, hh, hq, hl, hn, hp, hk⟩
  let S0 : Sto := [.ins C [("rule", .fz (ruleD b m)), ("certificate", .fz (.lst cs)), ("position", .fz (.int 0))]]
  have ho : okS b m (.gv cs 0) ⟨head, none⟩ := ⟨⟨by omega, Nat.zero_le _, hp⟩, rfl, hh⟩
  refine ⟨0, ruleD b m, .lst cs, rfl, rfl, rfl, ?_⟩
  dsimp only [dgName, dSeq, dTryR, dAsg, dCallG, dCons, dVar, dMeth]
  unfold onV
  refine onO_ins (S := S0) (p := 0) (C := C) (fs := [("rule", .fz (ruleD b m)), ("certificate", .fz (.lst cs)), ("position", .fz (.int 0))]) rfl ?_
  refine ⟨⟨rfl, rfl⟩, ?_⟩
  refine ⟨0, _, head, rfl, rfl, ?_⟩
  have wk : Wk c C false (S0 ++ [.ins c.P [("link", .fz (linkD head)), ("tree", .fz .non), ("node", .fz .non)]]) 0 0 1 b m (.gv cs 0) ⟨head, none⟩ :=
    ⟨⟨rfl, rfl⟩, rfl, hr, ho, rfl, by decide, by decide⟩
  refine ⟨0, 0, 1, b, m, .gv cs 0, ⟨head, none⟩, q, rfl, wk, hq, by show cs.length - 0 < n; omega, ?_⟩
  unfold mRead at hk
  cases e : mWalk b m n (.gv cs 0) ⟨head, none⟩ q with
  | error rf =>
    rw [e] at hk
    exact fun S' _ => ⟨rfl, .str rf.word, .int rf.num, rfl, rfl, hk⟩
  | ok v =>
    obtain ⟨r, st'⟩ := v
    rw [e] at hk
    have ha := mWalk_after ho e
    cases st' with
    | kn es => exact ha.elim
    | gv ds k =>
      obtain ⟨e1, _, hkl⟩ := ha
      subst e1
      have hk : Kp (if k < ds.length then refD ⟨"long", (k : Nat)⟩ else .tup [.str "answer", r.D]) := hk
      cases r with
      | d x =>
        intro S' h1 h2
        refine onO_ins h1.1 ⟨⟨rfl, rfl⟩, 0, b, m, ds, k, rfl, h1, by omega, by omega, ?_⟩
        by_cases z : k < ds.length
        · rw [if_pos z] at hk ⊢
          exact ⟨rfl, _, _, rfl, rfl, hk⟩
        · rw [if_neg z] at hk ⊢
          exact ⟨sz rfl, hk⟩
      | l t =>
        intro S' h1 h2 f hf1 hf2
        refine onO_ins h1.1 ⟨⟨rfl, rfl⟩, 0, b, m, ds, k, rfl, h1, by omega, by omega, ?_⟩
        by_cases z : k < ds.length
        · rw [if_pos z] at hk ⊢
          exact ⟨rfl, _, _, rfl, rfl, hk⟩
        · rw [if_neg z] at hk ⊢
          refine ⟨sz rfl, ?_⟩
          have e1 : dW S' (.hd f) = some (tabD t) := by
            unfold dW
            dsimp only
            rw [hf2]
            dsimp only
            rw [fzL_map]
            rfl
          have e2 : frzT S' (.tp [.fz (.str "answer"), .hd f]) = some (.tup [.str "answer", tabD t]) := by
            show (frzL S' [.fz (.str "answer"), .hd f]).map DL.D.tup = _
            have e3 : frzL S' [.fz (.str "answer"), .hd f] = some [.str "answer", tabD t] := by
              show ((dW S' (.hd f)).bind fun d => (frzL (goneAt S' (.hd f)) []).map (d :: ·)).map (DL.D.str "answer" :: ·) = _
              rw [e1]
              rfl
            rw [e3]
            rfl
          exact onO_some e2 hk
abbrev s_l_draw : Stmt := top 44
abbrev N_l_draw : List Str := ["_law_state", "_law_limit", "_law_digit", "_law_position", "_law_cell_here", "_law_mixed"]
theorem sc_l_draw : FnScope N_l_draw ["_law_state", "_law_limit"] (C8.fnScope s_l_draw) := C8.fnScope_by (by decide +kernel)
/-- a draw below n -/
def spDraw : PSp := fun ds Q => ∃ n : Int, ds = [.int n] ∧ 0 < n ∧ n ≤ 10 ^ 40 ∧ ∀ r : Int, 0 ≤ r → r < n → Q (.int r)
theorem ok_l_draw (D : Df K mg "_law_draw" s_l_draw) (bi : Bi mg) : CalS P w K T mg base 1 "_law_draw" spDraw := by
  have sc := sc_l_draw
  refine D.cals (k := 0) (Q := spDraw) (fun _ _ _ _ _ _ us hl => match us, hl with | [_, _], _ => rfl) sc (by rintro _ _ ⟨d, rfl, _⟩; rfl)
      (fun f cdv A outer s H E hr =>
      (dpss_cons (dps_if (c_lt (e_ix (dpv 0) dpe_int) (dpv 1))
        (dpss_cons (sset 3 sc.nd (e_ix (dpv 0) dpe_int))
        (dpss_cons (ssub (dpv 0) dpe_int (e_add false (dpv 3) dpe_int))
        (dpss_cons (sset 4 sc.nd dpe_int)
        (dpss_cons (dps_if (c_lt (dpv 3) (e_len bi (a1 (e_ix (dpv 0) dpe_int))))
        (dpss_one (sset 4 sc.nd (e_ix (e_ix (dpv 0) dpe_int) (dpv 3))))
        dpss_nil)
        (dpss_one (dps_if (c_ge (dpv 4) (e_pow dpe_int dpe_int))
        (dpss_one (ssub (dpv 0) dpe_int (dpv 4)))
        (dpss_cons (ssub (dpv 0) dpe_int (e_mod (e_int bi (a1 (e_mul (e_add false (e_add false (e_add false (e_ix (dpv 0) dpe_int) (e_mod (e_int bi (a1 (dpv 4))) dpe_int)) (dpv 3)) dpe_int) dpe_int))) dpe_int))
        (dpss_cons (sset 5 sc.nd (e_mod (e_int bi (a1 (e_add false (e_mul (e_ix (dpv 0) dpe_int) dpe_int) dpe_int))) dpe_int))
        (dpss_one (ssub (dpv 0) dpe_int (e_add false (e_mul (dpv 5) dpe_int) (e_mod (e_int bi (a1 (e_add false (e_mul (dpv 5) dpe_int) (e_ix (dpv 0) dpe_int)))) dpe_int))))))))))))
        dpss_nil)
        (dpss_cons (sset 2 sc.nd (e_mod (e_int bi (a1 (e_ix (dpv 0) dpe_int))) (dpv 1)))
        (dpss_cons (ssub (dpv 0) dpe_int (e_fdiv (e_ix (dpv 0) dpe_int) (dpv 1)))
        (dpss_one (dps_ret (dpv 2))))))
      ) ?_
  rintro o xs Kp ⟨a, p, ns, c, rfl, hp, hn⟩ ⟨n, rfl, h0, h1, hk⟩
  have fin : ∀ a p c : Int, 0 ≤ p → StOk (.lst [.fz (.int (a / n)), .fz (.int p), .fz (.lst (ns.map DL.D.int)), .fz (.int c)]) ∧ Kp (.int (a % n)) (.lst [.fz (.int (a / n)), .fz (.int p), .fz (.lst (ns.map DL.D.int)), .fz (.int c)]) :=
    fun a p c h => ⟨⟨_, _, _, _, rfl, h, hn⟩, hk _ (Int.emod_nonneg _ (by omega)) (Int.emod_lt_of_pos _ h0) _ ⟨_, _, _, _, rfl, h, hn⟩⟩
  refine ifB_d (fun h => ?_) (fun h => ?_)
  · refine ifB_d (fun h2 => ?_) (fun h2 => ?_)
    · refine onO_at hp h2 fun x hx => ?_
      rw [List.getElem?_map, List.getElem?_map] at hx
      cases e : ns[p.toNat]? with
      | none => rw [e] at hx; cases hx
      | some z =>
        rw [e] at hx
        cases hx
        refine ⟨powL rfl, ?_⟩
        refine ifB_d (fun h3 => ?_) (fun h3 => ?_)
        · exact ⟨h0, divW h0 h1, fin _ _ _ (by omega)⟩
        · exact ⟨posL rfl, mulR rfl, posL rfl, mulR rfl, posL rfl, mulR rfl, mulR rfl, posL rfl, h0, divW h0 h1, fin _ _ _ (by omega)⟩
    · exact ⟨powL rfl, posL rfl, mulR rfl, posL rfl, mulR rfl, posL rfl, mulR rfl, mulR rfl, posL rfl, h0, divW h0 h1, fin _ _ _ (by omega)⟩
  · exact ⟨h0, divW h0 h1, fin _ _ _ hp⟩
abbrev s_l_codes : Stmt := top 46
abbrev N_l_codes : List Str := ["_law_text", "_law_letter"]
theorem sc_l_codes : FnScope N_l_codes ["_law_text"] (C8.fnScope s_l_codes) := C8.fnScope_by (by decide +kernel)
theorem ok_l_codes (D : Df K mg "_law_codes" s_l_codes) (bi : Bi mg) : CalP P w K T mg base 1 "_law_codes" (fun ds Q => ∃ x : Str, ds = [.str x] ∧ x.length ≤ 1000 ∧ Q (intsD (codes x))) := by
  have sc := sc_l_codes
  refine D.calp (k := 0) (Q := (fun ds Q => ∃ x : Str, ds = [.str x] ∧ x.length ≤ 1000 ∧ Q (intsD (codes x)))) (fun _ _ _ _ _ _ us hl => match us, hl with | [_], _ => rfl) sc (by rintro _ _ ⟨b, rfl, _⟩; rfl)
      (fun f cdv A outer s H E hr =>
      (dpss_one (dps_ret (dpe_lc (ow := [("_law_letter", 1)]) false (lk_name (by decide)) rfl sc.nd (dpi_any (dpv 0)) (blkOk_by (N := N_l_codes) (sc := C8.fnScope s_l_codes) (by decide +kernel)) (fun _ _ _ _ _ => pg_name (i := 1) sc.nd rfl (Or.inl rfl)) (fun _ _ _ _ _ => dpts_nil) (fun _ _ _ _ _ => (e_ord bi (a1 (dpv 1)))))))
      ) ?_
  rintro xs Kp ⟨x, rfl, hx, hk⟩
  have hl : x.cps.toList.length = x.length := by simp [Str.length]
  refine ⟨by simp only [List.length_map, hl]; exact Nat.le_trans hx (by decide), ?_⟩
  refine lcW_map (fun w => match w with | W.fz (.str y) => W.fz (.int (y.cps.getD 0 0 : Nat)) | w => w) (fun w hw A Bf ha => ?_) ?_
  · obtain ⟨c, _, rfl⟩ := List.mem_map.mp hw
    exact ⟨rfl, ha⟩
  · rw [List.map_map]
    have e : (x.cps.toList.map ((fun w => match w with | W.fz (.str y) => W.fz (.int (y.cps.getD 0 0 : Nat)) | w => w) ∘ fun c => W.fz (.str ⟨#[c]⟩))) = ((codes x).map DL.D.int).map W.fz := by
      simp [codes, List.map_map, Function.comp_def]
    rw [e]
    exact newL_F hk
abbrev s_l_encode : Stmt := top 47
abbrev N_l_encode : List Str := ["_law_value", "_law_made", "_law_one"]
theorem sc_l_encode : FnScope N_l_encode ["_law_value"] (C8.fnScope s_l_encode) := C8.fnScope_by (by decide +kernel)
theorem ok_l_encode (D : Df K mg "_law_encode" s_l_encode) (bi : Bi mg) (c_l_codes : CalP P w K T mg base 1 "_law_codes" (fun ds Q => ∃ x : Str, ds = [.str x] ∧ x.length ≤ 1000 ∧ Q (intsD (codes x)))) : ∀ n, CalP P w K T mg base (n + 1) "_law_encode" (spEncode n) := by
  intro n
  induction n with
  | zero => exact (D.bot (ps := ["_law_value"]) (fun _ _ _ _ _ _ us hl => match us, hl with | [_], _ => rfl) (by
      rintro xs Kp ⟨d, _, h, _⟩
      cases d <;> simp [isVal] at h)).mono (Nat.zero_le _)
  | succ n c_l_encode =>
    have sc := sc_l_encode
    have c_l_codes := CalP.mono c_l_codes (show 1 ≤ n + 1 by omega)
    refine D.calp (Q := spEncode (n + 1)) (fun _ _ _ _ _ _ us hl => match us, hl with | [_], _ => rfl) sc (by rintro _ _ ⟨d, rfl, _⟩; rfl)
      (fun f cdv A outer s H E hr =>
      (dpss_cons (dps_if (dpt_tru (e_isi bi (dpa_cons (dpv 0) (a1 (t_str bi)))))
        (dpss_one (dps_ret (e_add false (dpe_lst false (dpa_cons dpe_int (a1 (e_len bi (a1 (dpv 0)))))) (dpe_callP c_l_codes hr (Nat.le_refl _) (by rfl) (a1 (dpv 0))))))
        dpss_nil)
        (dpss_cons (dps_if (dpt_tru (e_isi bi (dpa_cons (dpv 0) (a1 (t_tuple bi)))))
        (dpss_cons (sset 1 sc.nd (dpe_lst false (dpa_cons dpe_int (a1 (e_len bi (a1 (dpv 0)))))))
        (dpss_cons (dps_for PassesOwn.never rfl (dpi_any (dpv 0)) (gname 2 sc.nd)
        (dpss_one (sset 1 sc.nd (e_add false (dpv 1) (dpe_callP c_l_encode hr (Nat.le_refl _) (by rfl) (a1 (dpv 2)))))))
        (dpss_one (dps_ret (dpv 1)))))
        dpss_nil)
        (dpss_one (dps_ret (dpe_lst false (dpa_cons dpe_int (a1 (dpv 0))))))))
      ) ?_
    rintro xs Kp ⟨d, rfl, hv, hz, hk⟩
    cases d with
    | str x =>
      simp only [isVal, decide_eq_true_eq] at hv
      have hx : x.length ≤ sizeLine := Nat.le_trans hv (by decide)
      refine ⟨hx, sz rfl, x, rfl, hv, ?_⟩
      refine addW_lst ?_ hk
      have hl : x.cps.toList.length = x.length := by simp [Str.length]
      simp only [codes, List.length_map, hl, List.length_cons, List.length_nil]
      exact Nat.le_trans (Nat.add_le_add_left hv _) (by decide)
    | tup ds =>
      simp only [isVal, Bool.and_eq_true, decide_eq_true_eq] at hv
      have hl2 : (encL ds).length ≤ 10000 := by
        simp only [enc, List.length_cons] at hz
        omega
      refine ⟨sz rfl, ?_⟩
      refine loop_inv (I := fun ws env S => ∃ (es : List DL.D) (w2 : Option W) (acc : List Int), ws = es.map W.fz ∧ isValL n es = true ∧ env = [some (W.fz (.tup ds)), some (.fz (intsD acc)), w2] ∧ acc ++ encL es = enc (.tup ds) ∧ 2 ≤ acc.length) ?_ ?_ ?_
      · exact ⟨ds, none, [2, (ds.length : Int)], rfl, hv.2, by simp [intsD]; rfl, rfl, Nat.le_refl _⟩
      · rintro env S ⟨es, w2, acc, h1, h2, h3, h5, h6⟩
        subst h3
        cases es with
        | cons _ _ => cases h1
        | nil =>
          have e : acc = enc (.tup ds) := by simpa [encL] using h5
          subst e
          exact hk
      · rintro w ws env S N ⟨es, w2, acc, h1, h2, h3, h5, h6⟩ hN
        subst h3
        cases es with
        | nil => cases h1
        | cons e es =>
          cases h1
          unfold isValL at h2
          rw [Bool.and_eq_true] at h2
          have hl : acc.length + ((enc e).length + (encL es).length) ≤ 10002 ∧ (enc e).length ≤ 10000 := by
            have := congrArg List.length h5
            simp only [encL, List.length_append, enc, List.length_cons] at this
            omega
          refine ⟨e, rfl, h2.1, hl.2, ?_⟩
          refine addW_lst ?_ (hN _ _ ⟨es, some (W.fz e), acc ++ enc e, rfl, h2.2, ?_, ?_, ?_⟩)
          · simp only [List.length_map]
            exact Nat.le_trans (show acc.length + (enc e).length ≤ 10010 by omega) (by decide)
          · simp [intsD]
          · rw [← h5]
            simp [encL]
          · simp only [List.length_append]; omega
    | int i => 
      refine ⟨sz rfl, ?_⟩
      exact hk
    | _ => simp [isVal] at hv
abbrev s_l_digest : Stmt := top 48
abbrev N_l_digest : List Str := ["_law_rule_here", "_law_value", "_law_found", "_law_numbers", "_law_number"]
theorem sc_l_digest : FnScope N_l_digest ["_law_rule_here", "_law_value"] (C8.fnScope s_l_digest) := C8.fnScope_by (by decide +kernel)
theorem ok_l_digest (D : Df K mg "_law_digest" s_l_digest) (bi : Bi mg) (c_l_encode : CalP P w K T mg base 9 "_law_encode" (spEncode 8)) : CalP P w K T mg base 10 "_law_digest" spDigest := by
  have sc := sc_l_digest
  refine D.calp (k := 9) (Q := spDigest) (fun _ _ _ _ _ _ us hl => match us, hl with | [_, _], _ => rfl) sc (by rintro _ _ ⟨b, m, v, rfl, _⟩; rfl)
      (fun f cdv A outer s H E hr =>
      (dpss_cons (sset 2 sc.nd dpe_int)
        (dpss_cons (sset 3 sc.nd (dpe_callP c_l_encode hr (by decide) (by rfl) (a1 (dpv 1))))
        (dpss_cons (dps_for PassesOwn.never rfl (dpi_any (dpv 3)) (gname 4 sc.nd)
        (dpss_one (sset 2 sc.nd (e_mod (e_int bi (a1 (e_add false (e_add false (e_mul (dpv 2) (e_ix (dpv 0) dpe_int)) (dpv 4)) dpe_int))) (e_ix (dpv 0) dpe_int)))))
        (dpss_one (dps_ret (e_mod (e_int bi (a1 (e_add false (e_mul (dpv 2) (e_ix (dpv 0) dpe_int)) (e_len bi (a1 (dpv 3)))))) (e_ix (dpv 0) dpe_int)))))))
      ) ?_
  rintro xs Kp ⟨b, m, v, rfl, hr, ⟨hv, hz⟩, hk⟩
  refine ⟨v, rfl, hv, hz, ?_⟩
  refine loop_inv (I := fun ws env S => ∃ (ns : List Int) (f : Int) (w4 : Option W), ws = (ns.map DL.D.int).map W.fz ∧ env = [some (W.fz (ruleD b m)), some (W.fz v), some (W.fz (.int f)), some (W.fz (intsD (enc v))), w4] ∧
    ns.foldl (fun f n => (f * b + n + 1) % m) f = (enc v).foldl (fun f n => (f * b + n + 1) % m) (1 % m)) ?_ ?_ ?_
  · refine ⟨enc v, 1, none, rfl, rfl, ?_⟩
    rw [Int.emod_eq_of_lt (by decide) (by have := hr.2.2.1; omega)]
  · rintro env S ⟨ns, f, w4, h1, h2, h3⟩
    subst h2
    cases ns with
    | cons _ _ => cases h1
    | nil =>
      refine ⟨hr.mul _, hr.pos, ?_⟩
      have e : f = (enc v).foldl (fun f n => (f * b + n + 1) % m) (1 % m) := h3
      have e2 : (((enc v).map DL.D.int).map W.fz).length = (enc v).length := by simp
      show Kp (.int ((f * b + ((((enc v).map DL.D.int).map W.fz).length : Int)) % m))
      rw [e, e2]
      exact hk
  · rintro w ws env S N ⟨ns, f, w4, h1, h2, h3⟩ hN
    subst h2
    cases ns with
    | nil => cases h1
    | cons n ns =>
      cases h1
      exact ⟨hr.mul _, hr.pos, hN _ _ ⟨ns, _, _, rfl, rfl, h3⟩⟩
abbrev s_l_rule : Stmt := top 45
abbrev N_l_rule : List Str := ["_law_state", "_law_choice"]
theorem sc_l_rule : FnScope N_l_rule ["_law_state"] (C8.fnScope s_l_rule) := C8.fnScope_by (by decide +kernel)
def spRule : PSp := fun ds Q => ds = [] ∧ ∀ b m, isRule b m → Q (ruleD b m)
theorem ok_l_rule (D : Df K mg "_law_rule" s_l_rule) (bi : Bi mg) (c_l_draw : CalS P w K T mg base 1 "_law_draw" spDraw) : CalS P w K T mg base 2 "_law_rule" spRule := by
  have sc := sc_l_rule
  refine D.cals (k := 1) (Q := spRule) (fun _ _ _ _ _ _ us hl => match us, hl with | [_], _ => rfl) sc (by rintro _ _ ⟨rfl, _⟩; rfl)
      (fun f cdv A outer s H E hr =>
      (dpss_cons (sset 1 sc.nd (dpe_callS c_l_draw hr (by decide) (by rfl) (dpa_cons (dpv 0) (a1 dpe_int))))
        (dpss_cons (dps_if (c_eq hr (dpv 1) dpe_int)
        (dpss_one (dps_ret (dpe_tup (dpa_cons (e_add false dpe_int (dpe_callS c_l_draw hr (by decide) (by rfl) (dpa_cons (dpv 0) (a1 dpe_int)))) (a1 (e_add false dpe_int (dpe_callS c_l_draw hr (by decide) (by rfl) (dpa_cons (dpv 0) (a1 dpe_int)))))))))
        dpss_nil)
        (dpss_cons (dps_if (c_eq hr (dpv 1) dpe_int)
        (dpss_one (dps_ret (dpe_tup (dpa_cons (e_add false dpe_int (dpe_callS c_l_draw hr (by decide) (by rfl) (dpa_cons (dpv 0) (a1 dpe_int)))) (a1 (e_add false dpe_int (dpe_callS c_l_draw hr (by decide) (by rfl) (dpa_cons (dpv 0) (a1 dpe_int)))))))))
        dpss_nil)
        (dpss_one (dps_ret (dpe_tup (dpa_cons (e_add false dpe_int (dpe_callS c_l_draw hr (by decide) (by rfl) (dpa_cons (dpv 0) (a1 (e_pow dpe_int dpe_int))))) (a1 (e_add false dpe_int (dpe_callS c_l_draw hr (by decide) (by rfl) (dpa_cons (dpv 0) (a1 (e_sub (e_pow dpe_int dpe_int) dpe_int)))))))))))))
      ) ?_
  rintro o xs Kp so ⟨rfl, hk⟩
  have e18 : (10 : Int) ^ 18 = 1000000000000000000 := by decide
  refine ⟨⟨rfl, so⟩, 4, rfl, by decide, by decide, fun c c0 c1 o1 so1 => ⟨so1, ?_⟩⟩
  refine ⟨⟨rfl, rfl⟩, ifB_of (fun _ => ?_) (fun _ => ?_)⟩
  · refine ⟨⟨rfl, so1⟩, 9, rfl, by decide, by decide, fun b b0 b1 o2 so2 => ⟨so2, ?_⟩⟩
    refine ⟨⟨rfl, so2⟩, 6, rfl, by decide, by decide, fun m m0 m1 o3 so3 => ⟨so3, sz rfl, so3, ?_⟩⟩
    exact hk (1 + b) (2 + m) ⟨by omega, by omega, by omega, by omega⟩ _ so3
  · refine ⟨⟨rfl, rfl⟩, ifB_of (fun _ => ?_) (fun _ => ?_)⟩
    · refine ⟨⟨rfl, so1⟩, 1000, rfl, by decide, by decide, fun b b0 b1 o2 so2 => ⟨so2, ?_⟩⟩
      refine ⟨⟨rfl, so2⟩, 200, rfl, by decide, by decide, fun m m0 m1 o3 so3 => ⟨so3, sz rfl, so3, ?_⟩⟩
      exact hk (1 + b) (2 + m) ⟨by omega, by omega, by omega, by omega⟩ _ so3
    · refine ⟨powL rfl, ⟨rfl, so1⟩, 10 ^ 18, rfl, by decide, by decide, fun b b0 b1 o2 so2 => ⟨so2, ?_⟩⟩
      refine ⟨powL rfl, trivial, ⟨rfl, so2⟩, 10 ^ 18 - 1, rfl, by decide, by decide, fun m m0 m1 o3 so3 => ⟨so3, sz rfl, so3, ?_⟩⟩
      exact hk (1 + b) (2 + m) ⟨by omega, by omega, by omega, by omega⟩ _ so3
abbrev s_l_key : Stmt := top 49
abbrev N_l_key : List Str := ["_law_state", "_law_letters", "_law_choice", "_law_key_here", "_law_k"]
theorem sc_l_key : FnScope N_l_key ["_law_state"] (C8.fnScope s_l_key) := C8.fnScope_by (by decide +kernel)
def spKey : PSp := fun ds Q => ds = [] ∧ ∀ x, isKey x → Q (.str x)
theorem ok_l_key (D : Df K mg "_law_key" s_l_key) (bi : Bi mg) (c_l_draw : CalS P w K T mg base 1 "_law_draw" spDraw) : CalS P w K T mg base 2 "_law_key" spKey := by
  have sc := sc_l_key
  refine D.cals (k := 1) (Q := spKey) (fun _ _ _ _ _ _ us hl => match us, hl with | [_], _ => rfl) sc (by rintro _ _ ⟨rfl, _⟩; rfl)
      (fun f cdv A outer s H E hr =>
      (dpss_cons (sset 1 sc.nd dpe_str)
        (dpss_cons (sset 2 sc.nd (dpe_callS c_l_draw hr (by decide) (by rfl) (dpa_cons (dpv 0) (a1 dpe_int))))
        (dpss_cons (dps_if (c_eq hr (dpv 2) dpe_int)
        (dpss_one (dps_ret (e_ix dpe_str (dpe_callS c_l_draw hr (by decide) (by rfl) (dpa_cons (dpv 0) (a1 dpe_int))))))
        dpss_nil)
        (dpss_cons (dps_if (c_eq hr (dpv 2) dpe_int)
        (dpss_one (dps_ret (e_add false (e_ix dpe_str (dpe_callS c_l_draw hr (by decide) (by rfl) (dpa_cons (dpv 0) (a1 dpe_int)))) (e_ix dpe_str (dpe_callS c_l_draw hr (by decide) (by rfl) (dpa_cons (dpv 0) (a1 dpe_int)))))))
        dpss_nil)
        (dpss_cons (sset 3 sc.nd dpe_str)
        (dpss_cons (dps_for PassesOwn.never rfl (i_rng1 bi (a1 (e_add false dpe_int (dpe_callS c_l_draw hr (by decide) (by rfl) (dpa_cons (dpv 0) (a1 dpe_int)))))) (gname 4 sc.nd)
        (dpss_one (sset 3 sc.nd (e_add false (dpv 3) (e_ix (dpv 1) (dpe_callS c_l_draw hr (by decide) (by rfl) (dpa_cons (dpv 0) (a1 dpe_int))))))))
        (dpss_one (dps_ret (dpv 3)))))))))
      ) ?_
  rintro o xs Kp so ⟨rfl, hk⟩
  refine ⟨⟨rfl, so⟩, 3, rfl, by decide, by decide, fun c c0 c1 o1 so1 => ⟨so1, ?_⟩⟩
  refine ⟨⟨rfl, rfl⟩, ifB_of (fun _ => ?_) (fun _ => ?_)⟩
  · refine ⟨⟨rfl, so1⟩, 10, rfl, by decide, by decide, fun i i0 i1 o2 so2 => ⟨so2, ?_⟩⟩
    refine ⟨by decide, onO_at i0 i1 fun x hx => ⟨so2, hk _ (isKey1 (all_sign (by decide) hx)) _ so2⟩⟩
  · refine ⟨⟨rfl, rfl⟩, ifB_of (fun _ => ?_) (fun _ => ?_)⟩
    · refine ⟨⟨rfl, so1⟩, 4, rfl, by decide, by decide, fun i i0 i1 o2 so2 => ⟨so2, by decide, onO_at i0 i1 fun x hx => ?_⟩⟩
      refine ⟨⟨rfl, so2⟩, 3, rfl, by decide, by decide, fun j j0 j1 o3 so3 => ⟨so3, by decide, onO_at j0 j1 fun y hy => ?_⟩⟩
      exact ⟨sz rfl, so3, hk _ (isKey2 (all_sign (by decide) hx) (all_sign (by decide) hy)) _ so3⟩
    · refine ⟨⟨rfl, so1⟩, 8, rfl, by decide, by decide, fun n n0 n1 o2 so2 => ⟨so2, ⟨by omega, by omega⟩, ?_⟩⟩
      refine loop_inv (I := fun ws env S => ∃ (x : Str) (w4 : Option W) (o : OD), env = [some (W.hd 0), some (W.fz (.str "abcdefghijklmnopqrstuvwxyz0123456789")), some (W.fz (.int c)), some (W.fz (.str x)), w4] ∧ S = [o] ∧ StOk o ∧ x.cps.toList.length + ws.length = (1 + n).toNat ∧ x.cps.toList.all sign = true) ?_ ?_ ?_
      · exact ⟨_, _, _, rfl, rfl, so2, by simp [show (("" : Str).cps.toList) = [] by decide], by decide⟩
      · rintro env S ⟨x, w4, o, rfl, rfl, so, hl, hs⟩
        rw [List.length_nil, Nat.add_zero] at hl
        exact ⟨so, hk _ ⟨by omega, by omega, hs⟩ _ so⟩
      · rintro w ws env S N ⟨x, w4, o, rfl, rfl, so, hl, hs⟩ hN
        rw [List.length_cons] at hl
        refine ⟨⟨rfl, so⟩, 36, rfl, by decide, by decide, fun j j0 j1 o3 so3 => ⟨so3, by decide, onO_at j0 j1 fun y hy => ?_⟩⟩
        have hx : x.length = x.cps.toList.length := by simp [Str.length]
        refine ⟨Nat.le_trans (show x.length + (⟨#[y]⟩ : Str).length ≤ 1000 from ?_) (by decide), hN _ _ ⟨_, _, _, rfl, rfl, so3, ?_, ?_⟩⟩
        · have : (⟨#[y]⟩ : Str).length = 1 := rfl
          omega
        · rw [app_l, List.length_append]
          show _ + 1 + _ = _
          omega
        · rw [app_l, List.all_append, hs, all_sign (by decide) hy]
          rfl
abbrev s_l_row : Stmt := top 50
abbrev N_l_row : List Str := ["_law_state", "_law_k"]
theorem sc_l_row : FnScope N_l_row ["_law_state"] (C8.fnScope s_l_row) := C8.fnScope_by (by decide +kernel)
def spRow : PSp := fun ds Q => ds = [] ∧ ∀ r, isRow r → Q (rowD r)
theorem ok_l_row (D : Df K mg "_law_row" s_l_row) (bi : Bi mg) (c_l_draw : CalS P w K T mg base 1 "_law_draw" spDraw) : CalS P w K T mg base 2 "_law_row" spRow := by
  have sc := sc_l_row
  refine D.cals (k := 1) (Q := spRow) (fun _ _ _ _ _ _ us hl => match us, hl with | [_], _ => rfl) sc (by rintro _ _ ⟨rfl, _⟩; rfl)
      (fun f cdv A outer s H E hr =>
      (dpss_one (dps_ret (e_tuple bi (a1 (dpe_lc (ow := [("_law_k", 1)]) false (lk_name (by decide)) rfl sc.nd (i_rng1 bi (a1 (e_add false dpe_int (dpe_callS c_l_draw hr (by decide) (by rfl) (dpa_cons (dpv 0) (a1 dpe_int)))))) (blkOk_by (N := N_l_row) (sc := C8.fnScope s_l_row) (by decide +kernel)) (fun _ _ _ _ _ => pg_name (i := 1) sc.nd rfl (Or.inl rfl)) (fun _ _ _ _ _ => dpts_nil) (fun _ _ _ _ _ => (dpe_callS c_l_draw hr (by decide) (by rfl) (dpa_cons (dpv 0) (a1 (e_ix (dpe_lst false (dpa_cons dpe_int (a1 dpe_int))) (dpe_callS c_l_draw hr (by decide) (by rfl) (dpa_cons (dpv 0) (a1 dpe_int)))))))))))))
      ) ?_
  rintro o xs Kp so ⟨rfl, hk⟩
  refine ⟨⟨rfl, so⟩, 3, rfl, by decide, by decide, fun c c0 c1 o1 so1 => ⟨so1, ⟨by omega, by omega⟩, ?_, ?_⟩⟩
  · rw [List.length_map, List.length_range]
    exact Nat.le_trans (show (1 + c).toNat ≤ 3 by omega) (by decide)
  · refine lcW_draw (fun _ d => ∃ i : Int, 0 ≤ i ∧ i ≤ 65535 ∧ d = .int i) so1 (fun w hw o A Bf so ha => ?_) fun ds o' hl hd so' => ?_
    · refine ⟨sz rfl, ⟨rfl, so⟩, 2, rfl, by decide, by decide, fun j j0 j1 o3 so3 => ⟨so3, onO_at j0 j1 fun y hy => ?_⟩⟩
      have hj : j.toNat = 0 ∨ j.toNat = 1 := by have : j < 2 := j1; omega
      rcases hj with e | e
      · rw [e] at hy
        cases hy
        exact ⟨⟨rfl, so3⟩, 4, rfl, by decide, by decide, fun i i0 i1 o4 so4 => ⟨so4, ha _ _ ⟨i, i0, by omega, rfl⟩ so4⟩⟩
      · rw [e] at hy
        cases hy
        exact ⟨⟨rfl, so3⟩, 65536, rfl, by decide, by decide, fun i i0 i1 o4 so4 => ⟨so4, ha _ _ ⟨i, i0, by omega, rfl⟩ so4⟩⟩
    · rw [List.length_map, List.length_range] at hl
      obtain ⟨r, e, hr⟩ := row_of ds fun d hd' => by
        obtain ⟨_, _, q⟩ := hd d hd'
        exact q
      subst e
      refine newL_F ?_
      rw [List.length_map] at hl
      show onO (some _) _
      show retS Kp (mkT ((r.map DL.D.int).map W.fz)) [o']
      rw [mkT_fz]
      exact ⟨so', hk r ⟨by omega, by omega, hr⟩ _ so'⟩
abbrev s_l_table : Stmt := top 51
abbrev N_l_table : List Str := ["_law_state", "_law_most", "_law_rows", "_law_k", "_law_key_here"]
theorem sc_l_table : FnScope N_l_table ["_law_state", "_law_most"] (C8.fnScope s_l_table) := C8.fnScope_by (by decide +kernel)
theorem ok_l_table (D : Df K mg "_law_table" s_l_table) (bi : Bi mg) (c_l_draw : CalS P w K T mg base 1 "_law_draw" spDraw) (c_l_key : CalS P w K T mg base 2 "_law_key" spKey) (c_l_row : CalS P w K T mg base 2 "_law_row" spRow) : CalS P w K T mg base 3 "_law_table" spTable := by
  have sc := sc_l_table
  refine D.cals (k := 2) (Q := spTable) (fun _ _ _ _ _ _ us hl => match us, hl with | [_, _], _ => rfl) sc (by rintro _ _ ⟨n, rfl, _⟩; rfl)
      (fun f cdv A outer s H E hr =>
      (dpss_cons (sset 2 sc.nd dpe_dnew)
        (dpss_cons (dps_for PassesOwn.never rfl (i_rng1 bi (a1 (dpe_callS c_l_draw hr (by decide) (by rfl) (dpa_cons (dpv 0) (a1 (e_add false (dpv 1) dpe_int)))))) (gname 3 sc.nd)
        (dpss_cons (sset 4 sc.nd (dpe_callS c_l_key hr (by decide) (by rfl) (a1 (dpv 0))))
        (dpss_one (s_dput hr (dpv 2) (dpv 4) (dpe_callS c_l_row hr (by decide) (by rfl) (a1 (dpv 0)))))))
        (dpss_one (dps_ret (dpe_lc (ow := [("_law_key_here", 4)]) false (lk_name (by decide)) rfl sc.nd (dpi_any (e_sorted false bi rfl (a1 (dpv 2)))) (blkOk_by (N := N_l_table) (sc := C8.fnScope s_l_table) (by decide +kernel)) (fun _ _ _ _ _ => pg_name (i := 4) sc.nd rfl (Or.inl rfl)) (fun _ _ _ _ _ => dpts_nil) (fun _ _ _ _ _ => (dpe_tup (dpa_cons (dpv 4) (a1 (e_dget hr (dpv 2) (dpv 4) (fun _ _ => rfl)))))))))))
      ) ?_
  rintro o xs Kp so ⟨n, rfl, h0, h1, hk⟩
  have e40 : (10 : Int) ^ 40 = 10000000000000000000000000000000000000000 := by decide
  refine ⟨⟨rfl, so⟩, n + 1, rfl, by omega, by omega, fun t t0 t1 o1 so1 => ⟨so1, ⟨by omega, by omega⟩, ?_⟩⟩
  refine loop_inv (I := fun ws env S => ∃ (rows : Tab) (w3 w4 : Option W) (o : OD), env = [some (W.hd 0), some (W.fz (.int n)), some (W.hd 1), w3, w4] ∧ S = [o, .dic (rows.map kvF)] ∧ StOk o ∧ (rows.map (·.1)).Nodup ∧ (∀ r ∈ rows, isKey r.1 ∧ isRow r.2) ∧ rows.length + ws.length ≤ n.toNat) ?_ ?_ ?_
  · exact ⟨[], _, _, _, rfl, rfl, so1, .nil, by simp, by rw [List.length_map, List.length_range, List.length_nil]; omega⟩
  · rintro env S ⟨rows, w3, w4, o, rfl, rfl, so, hn, hr, hl⟩
    rw [List.length_nil] at hl
    refine onO_texts ⟨by rw [List.length_map]; omega, fun ys pm hs => newL_strs ?_⟩
    have hz : ys.length ≤ 20 := by have := pm.length_eq; rw [List.length_map] at this; omega
    refine ⟨by simp only [List.length_map]; exact Nat.le_trans hz (by decide), ?_⟩
    refine lcW_map (fun w => match w with | W.fz (.str y) => W.fz (tabR (y, getT rows y)) | w => w) (fun w hw A Bf ha => ?_) ?_
    · obtain ⟨d, hd, rfl⟩ := List.mem_map.mp hw
      obtain ⟨y, hy, rfl⟩ := List.mem_map.mp hd
      exact onO_val (pm.mem_iff.mp hy) ⟨sz rfl, ha⟩
    · rw [List.map_map, List.map_map]
      have e : (ys.map (((fun w => match w with | W.fz (.str y) => W.fz (tabR (y, getT rows y)) | w => w) ∘ W.fz) ∘ DL.D.str)) = ((ys.map fun y => (y, getT rows y)).map tabR).map W.fz := by
        simp [List.map_map, Function.comp_def]
      rw [e]
      exact newL_F ⟨so, hk _ (tab_of hr hn pm hs) (by rw [List.length_map]; have := pm.length_eq; rw [List.length_map] at this; omega) _ so⟩
  · rintro w ws env S N ⟨rows, w3, w4, o, rfl, rfl, so, hn, hr, hl⟩ hN
    rw [List.length_cons] at hl
    refine ⟨⟨rfl, so⟩, rfl, fun k hkey o3 so3 => ⟨so3, ?_⟩⟩
    refine ⟨⟨rfl, so3⟩, rfl, fun r hrow o4 so4 => ⟨so4, ?_⟩⟩
    refine ⟨by rw [List.length_map]; exact Nat.lt_of_lt_of_le (show rows.length < 21 by omega) (by decide), ?_⟩
    obtain ⟨rows', e, hn', hr', hl'⟩ := put_tab rows k r hn
    refine hN _ _ ⟨rows', _, _, _, rfl, by rw [← e]; rfl, so4, hn', fun x hx => ?_, by omega⟩
    rcases hr' x hx with h | h
    · exact hr x h
    · subst h; exact ⟨hkey, hrow⟩
abbrev s_l_bound : Stmt := top 52
abbrev N_l_bound : List Str := ["_law_state", "_law_table_here", "_law_choice"]
theorem sc_l_bound : FnScope N_l_bound ["_law_state", "_law_table_here"] (C8.fnScope s_l_bound) := C8.fnScope_by (by decide +kernel)
theorem ok_l_bound (D : Df K mg "_law_bound" s_l_bound) (bi : Bi mg) (c_l_draw : CalS P w K T mg base 1 "_law_draw" spDraw) (c_l_key : CalS P w K T mg base 2 "_law_key" spKey) : CalS P w K T mg base 3 "_law_bound" spBound := by
  have sc := sc_l_bound
  refine D.cals (k := 2) (Q := spBound) (fun _ _ _ _ _ _ us hl => match us, hl with | [_, _], _ => rfl) sc (by rintro _ _ ⟨n, rfl, _⟩; rfl)
      (fun f cdv A outer s H E hr =>
      (dpss_cons (sset 2 sc.nd (dpe_callS c_l_draw hr (by decide) (by rfl) (dpa_cons (dpv 0) (a1 dpe_int))))
        (dpss_cons (dps_if (c_eq hr (dpv 2) dpe_int)
        (dpss_one (dps_ret dpe_str))
        dpss_nil)
        (dpss_cons (dps_if (DPW.pt (dpw_and (c_lt (dpv 2) dpe_int) (dpw_and1 (c_gt (e_len bi (a1 (dpv 1))) dpe_int))))
        (dpss_one (dps_ret (e_add false (e_ix (e_ix (dpv 1) (dpe_callS c_l_draw hr (by decide) (by rfl) (dpa_cons (dpv 0) (a1 (e_len bi (a1 (dpv 1))))))) dpe_int) (e_ix (dpe_lst false (dpa_cons dpe_str (dpa_cons dpe_str (a1 dpe_str)))) (dpe_callS c_l_draw hr (by decide) (by rfl) (dpa_cons (dpv 0) (a1 dpe_int)))))))
        dpss_nil)
        (dpss_one (dps_ret (dpe_callS c_l_key hr (by decide) (by rfl) (a1 (dpv 0))))))))
      ) ?_
  rintro o xs Kp so ⟨rows, rfl, ht, hl, hk⟩
  have el : ((rows.map tabR).map W.fz).length = rows.length := by simp
  have kb : ∀ k, isKey k → isBd k := fun k h => key_bd h
  have last : ∀ o1 : OD, StOk o1 → Kp (.str "") o1 := fun o1 so1 => hk "" ⟨by decide +kernel, by decide⟩ o1 so1
  refine ⟨⟨rfl, so⟩, 4, rfl, by decide, by decide, fun t t0 t1 o1 so1 => ⟨so1, ⟨rfl, rfl⟩, ifB_of (fun _ => ?_) (fun _ => ?_)⟩⟩
  · exact ⟨so1, last o1 so1⟩
  refine ifB_of (fun _ => ifB_d (fun h => ?_) (fun _ => ?_)) (fun _ => ?_)
  · refine ⟨⟨rfl, so1⟩, _, rfl, h, by show ((((rows.map tabR).map W.fz).length : Nat) : Int) ≤ _; rw [el]; omega, fun i i0 i1 o2 so2 => ⟨so2, ?_⟩⟩
    refine onO_at i0 i1 fun x hx => ?_
    rw [List.getElem?_map, List.getElem?_map] at hx
    cases e : rows[i.toNat]? with
    | none => rw [e] at hx; cases hx
    | some r =>
      rw [e] at hx
      cases hx
      have hkey := (ht.2 r (List.mem_of_getElem? e)).1
      refine ⟨sz rfl, ⟨rfl, so2⟩, 3, rfl, by decide, by decide, fun j j0 j1 o3 so3 => ⟨so3, onO_at j0 j1 fun y hy => ?_⟩⟩
      have hy2 : ∃ s : Str, y = W.fz (.str s) ∧ (s = "" ∨ s = "0") := by
        rcases mem3 hy with e | e | e
        · exact ⟨_, e, .inl rfl⟩
        · exact ⟨_, e, .inl rfl⟩
        · exact ⟨_, e, .inr rfl⟩
      obtain ⟨s, rfl, hs⟩ := hy2
      have hb := bd_app hkey hs
      refine ⟨?_, so3, hk _ hb _ so3⟩
      have h8 : r.1.length ≤ 8 := by rw [len_l]; exact hkey.2.1
      have hs1 : s.length ≤ 1 := by rcases hs with rfl | rfl <;> decide
      exact Nat.le_trans (show r.1.length + s.length ≤ 9 by omega) (by decide)
  · exact ⟨⟨rfl, so1⟩, rfl, fun k hkey o3 so3 => ⟨so3, so3, hk k (kb k hkey) _ so3⟩⟩
  · exact ⟨⟨rfl, so1⟩, rfl, fun k hkey o3 so3 => ⟨so3, so3, hk k (kb k hkey) _ so3⟩⟩
abbrev s_l_some_key : Stmt := top 53
abbrev N_l_some_key : List Str := ["_law_state", "_law_table_here"]
theorem sc_l_some_key : FnScope N_l_some_key ["_law_state", "_law_table_here"] (C8.fnScope s_l_some_key) := C8.fnScope_by (by decide +kernel)
theorem ok_l_some_key (D : Df K mg "_law_some_key" s_l_some_key) (bi : Bi mg) (c_l_draw : CalS P w K T mg base 1 "_law_draw" spDraw) (c_l_key : CalS P w K T mg base 2 "_law_key" spKey) : CalS P w K T mg base 3 "_law_some_key" spSomeKey := by
  have sc := sc_l_some_key
  refine D.cals (k := 2) (Q := spSomeKey) (fun _ _ _ _ _ _ us hl => match us, hl with | [_, _], _ => rfl) sc (by rintro _ _ ⟨n, rfl, _⟩; rfl)
      (fun f cdv A outer s H E hr =>
      (dpss_cons (dps_if (DPW.pt (dpw_and (c_gt (e_len bi (a1 (dpv 1))) dpe_int) (dpw_and1 (c_gt (dpe_callS c_l_draw hr (by decide) (by rfl) (dpa_cons (dpv 0) (a1 dpe_int))) dpe_int))))
        (dpss_one (dps_ret (e_ix (e_ix (dpv 1) (dpe_callS c_l_draw hr (by decide) (by rfl) (dpa_cons (dpv 0) (a1 (e_len bi (a1 (dpv 1))))))) dpe_int)))
        dpss_nil)
        (dpss_one (dps_ret (dpe_callS c_l_key hr (by decide) (by rfl) (a1 (dpv 0))))))
      ) ?_
  rintro o xs Kp so ⟨rows, rfl, ht, hl, hk⟩
  have e40 : (10 : Int) ^ 40 = 10000000000000000000000000000000000000000 := by decide
  have el : ((rows.map tabR).map W.fz).length = rows.length := by simp
  refine ifB_d (fun h => ?_) (fun h => ?_)
  · refine ⟨⟨rfl, so⟩, 3, rfl, by decide, by decide, fun t t0 t1 o1 so1 => ⟨so1, ?_⟩⟩
    refine ifB_d (fun _ => ?_) (fun _ => ?_)
    · refine ⟨⟨rfl, so1⟩, _, rfl, h, by show ((((rows.map tabR).map W.fz).length : Nat) : Int) ≤ _; rw [el]; omega, fun i i0 i1 o2 so2 => ⟨so2, ?_⟩⟩
      refine onO_at i0 i1 fun x hx => ?_
      rw [List.getElem?_map, List.getElem?_map] at hx
      cases e : rows[i.toNat]? with
      | none => rw [e] at hx; cases hx
      | some r =>
        rw [e] at hx
        cases hx
        exact ⟨so2, hk _ (ht.2 r (List.mem_of_getElem? e)).1 _ so2⟩
    · exact ⟨⟨rfl, so1⟩, rfl, fun k hkey o3 so3 => ⟨so3, so3, hk k hkey _ so3⟩⟩
  · exact ⟨⟨rfl, so⟩, rfl, fun k hkey o3 so3 => ⟨so3, so3, hk k hkey _ so3⟩⟩
abbrev s_l_query : Stmt := top 54
abbrev N_l_query : List Str := ["_law_state", "_law_table_here", "_law_choice"]
theorem sc_l_query : FnScope N_l_query ["_law_state", "_law_table_here"] (C8.fnScope s_l_query) := C8.fnScope_by (by decide +kernel)
theorem ok_l_query (D : Df K mg "_law_query" s_l_query) (bi : Bi mg) (c_l_draw : CalS P w K T mg base 1 "_law_draw" spDraw) (c_l_some_key : CalS P w K T mg base 3 "_law_some_key" spSomeKey) (c_l_bound : CalS P w K T mg base 3 "_law_bound" spBound) : CalS P w K T mg base 4 "_law_query" spQuery := by
  have sc := sc_l_query
  refine D.cals (k := 3) (Q := spQuery) (fun _ _ _ _ _ _ us hl => match us, hl with | [_, _], _ => rfl) sc (by rintro _ _ ⟨n, rfl, _⟩; rfl)
      (fun f cdv A outer s H E hr =>
      (dpss_cons (sset 2 sc.nd (dpe_callS c_l_draw hr (by decide) (by rfl) (dpa_cons (dpv 0) (a1 dpe_int))))
        (dpss_cons (dps_if (c_eq hr (dpv 2) dpe_int)
        (dpss_one (dps_ret (dpe_tup (dpa_cons dpe_str (a1 (dpe_callS c_l_some_key hr (Nat.le_refl _) (by rfl) (dpa_cons (dpv 0) (a1 (dpv 1)))))))))
        dpss_nil)
        (dpss_cons (dps_if (c_eq hr (dpv 2) dpe_int)
        (dpss_one (dps_ret (dpe_tup (dpa_cons dpe_str (dpa_cons (dpe_callS c_l_bound hr (Nat.le_refl _) (by rfl) (dpa_cons (dpv 0) (a1 (dpv 1)))) (a1 (dpe_callS c_l_bound hr (Nat.le_refl _) (by rfl) (dpa_cons (dpv 0) (a1 (dpv 1))))))))))
        dpss_nil)
        (dpss_cons (dps_if (c_eq hr (dpv 2) dpe_int)
        (dpss_one (dps_ret (dpe_tup (dpa_cons dpe_str (dpa_cons (dpe_callS c_l_bound hr (Nat.le_refl _) (by rfl) (dpa_cons (dpv 0) (a1 (dpv 1)))) (a1 (e_ix (dpe_lst false (dpa_cons (dpe_callS c_l_draw hr (by decide) (by rfl) (dpa_cons (dpv 0) (a1 dpe_int))) (a1 (dpe_callS c_l_draw hr (by decide) (by rfl) (dpa_cons (dpv 0) (a1 dpe_int)))))) (dpe_callS c_l_draw hr (by decide) (by rfl) (dpa_cons (dpv 0) (a1 dpe_int))))))))))
        dpss_nil)
        (dpss_cons (dps_if (c_eq hr (dpv 2) dpe_int)
        (dpss_one (dps_ret (dpe_tup (dpa_cons dpe_str (dpa_cons (dpe_callS c_l_bound hr (Nat.le_refl _) (by rfl) (dpa_cons (dpv 0) (a1 (dpv 1)))) (a1 (dpe_callS c_l_bound hr (Nat.le_refl _) (by rfl) (dpa_cons (dpv 0) (a1 (dpv 1))))))))))
        dpss_nil)
        (dpss_cons (dps_if (c_eq hr (dpv 2) dpe_int)
        (dpss_one (dps_ret (dpe_tup (dpa_cons dpe_str (dpa_cons (dpe_callS c_l_draw hr (by decide) (by rfl) (dpa_cons (dpv 0) (a1 dpe_int))) (dpa_cons (dpe_callS c_l_bound hr (Nat.le_refl _) (by rfl) (dpa_cons (dpv 0) (a1 (dpv 1)))) (a1 (dpe_callS c_l_bound hr (Nat.le_refl _) (by rfl) (dpa_cons (dpv 0) (a1 (dpv 1)))))))))))
        dpss_nil)
        (dpss_cons (dps_if (c_eq hr (dpv 2) dpe_int)
        (dpss_one (dps_ret (dpe_tup (dpa_cons dpe_str (a1 (dpe_callS c_l_bound hr (Nat.le_refl _) (by rfl) (dpa_cons (dpv 0) (a1 (dpv 1)))))))))
        dpss_nil)
        (dpss_one (dps_ret (dpe_tup (dpa_cons dpe_str (a1 (dpe_callS c_l_draw hr (by decide) (by rfl) (dpa_cons (dpv 0) (a1 (e_add false (e_len bi (a1 (dpv 1))) dpe_int))))))))))))))))
      ) ?_
  rintro o xs Kp so ⟨rows, rfl, ht, hl, hk⟩
  have el : ((rows.map tabR).map W.fz).length = rows.length := by simp
  refine ⟨⟨rfl, so⟩, 7, rfl, by decide, by decide, fun t t0 t1 o1 so1 => ⟨so1, ⟨rfl, rfl⟩, ifB_of (fun _ => ?_) (fun _ => ?_)⟩⟩
  · exact ⟨⟨rfl, so1⟩, rows, rfl, ht, hl, fun k hkey o2 so2 => ⟨so2, sz rfl, so2, hk (.get k) (key_bd hkey) _ so2⟩⟩
  refine ⟨⟨rfl, rfl⟩, ifB_of (fun _ => ?_) (fun _ => ?_)⟩
  · exact ⟨⟨rfl, so1⟩, rows, rfl, ht, hl, fun a ha o2 so2 => ⟨so2, ⟨rfl, so2⟩, rows, rfl, ht, hl, fun b hb o3 so3 => ⟨so3, sz rfl, so3, hk (.rng a b) ⟨ha, hb⟩ _ so3⟩⟩⟩
  refine ⟨⟨rfl, rfl⟩, ifB_of (fun _ => ?_) (fun _ => ?_)⟩
  · refine ⟨⟨rfl, so1⟩, rows, rfl, ht, hl, fun a ha o2 so2 => ⟨so2, ⟨rfl, so2⟩, 4, rfl, by decide, by decide, fun u u0 u1 o3 so3 => ⟨so3, ⟨rfl, so3⟩, 101, rfl, by decide, by decide, fun v v0 v1 o4 so4 => ⟨so4, ?_⟩⟩⟩⟩
    refine ⟨sz rfl, ⟨rfl, so4⟩, 2, rfl, by decide, by decide, fun j j0 j1 o5 so5 => ⟨so5, onO_at j0 j1 fun y hy => ?_⟩⟩
    have hy2 : ∃ n : Int, y = W.fz (.int n) ∧ 0 ≤ n ∧ n ≤ 1000 := by
      rcases mem2 hy with e | e
      · exact ⟨_, e, u0, by omega⟩
      · exact ⟨_, e, v0, by omega⟩
    obtain ⟨n, rfl, n0, n1⟩ := hy2
    exact ⟨sz rfl, so5, hk (.nxt a n) ⟨ha, n0, n1⟩ _ so5⟩
  refine ⟨⟨rfl, rfl⟩, ifB_of (fun _ => ?_) (fun _ => ?_)⟩
  · exact ⟨⟨rfl, so1⟩, rows, rfl, ht, hl, fun a ha o2 so2 => ⟨so2, ⟨rfl, so2⟩, rows, rfl, ht, hl, fun b hb o3 so3 => ⟨so3, sz rfl, so3, hk (.cnt a b) ⟨ha, hb⟩ _ so3⟩⟩⟩
  refine ⟨⟨rfl, rfl⟩, ifB_of (fun _ => ?_) (fun _ => ?_)⟩
  · exact ⟨⟨rfl, so1⟩, 3, rfl, by decide, by decide, fun c c0 c1 o9 so9 => ⟨so9, ⟨rfl, so9⟩, rows, rfl, ht, hl, fun a ha o2 so2 => ⟨so2, ⟨rfl, so2⟩, rows, rfl, ht, hl, fun b hb o3 so3 => ⟨so3, sz rfl, so3, hk (.sm c a b) ⟨⟨c0, by omega⟩, ha, hb⟩ _ so3⟩⟩⟩⟩
  refine ⟨⟨rfl, rfl⟩, ifB_of (fun _ => ?_) (fun _ => ?_)⟩
  · exact ⟨⟨rfl, so1⟩, rows, rfl, ht, hl, fun a ha o2 so2 => ⟨so2, sz rfl, so2, hk (.plc a) ha _ so2⟩⟩
  have e40 : (10 : Int) ^ 40 = 10000000000000000000000000000000000000000 := by decide
  exact ⟨⟨rfl, so1⟩, _, rfl, by rw [el]; omega, by rw [el]; omega, fun i i0 i1 o2 so2 => ⟨so2, sz rfl, so2, hk (.at i) ⟨i0, by rw [el] at i1; omega⟩ _ so2⟩⟩
abbrev s_l_within : Stmt := top 55
abbrev N_l_within : List Str := ["_law_table_here", "_law_low", "_law_high", "_law_pair"]
theorem sc_l_within : FnScope N_l_within ["_law_table_here", "_law_low", "_law_high"] (C8.fnScope s_l_within) := C8.fnScope_by (by decide +kernel)
theorem ok_l_within (D : Df K mg "_law_within" s_l_within) (bi : Bi mg) : CalP P w K T mg base 1 "_law_within" spWithin := by
  have sc := sc_l_within
  refine D.calp (k := 0) (Q := spWithin) (fun _ _ _ _ _ _ us hl => match us, hl with | [_, _, _], _ => rfl) sc (by rintro _ _ ⟨rows, lo, hi, rfl, _⟩; rfl)
      (fun f cdv A outer s H E hr =>
      (dpss_one (dps_ret (dpe_lc (ow := [("_law_pair", 3)]) false (lk_name (by decide)) rfl sc.nd (dpi_any (dpv 0)) (blkOk_by (N := N_l_within) (sc := C8.fnScope s_l_within) (by decide +kernel)) (fun _ _ _ _ _ => pg_name (i := 3) sc.nd rfl (Or.inl rfl)) (fun _ _ _ _ _ => dpts_one (DPW.pt (dpw_and (c_le (dpv 1) (e_ix (dpv 3) dpe_int)) (dpw_and1 (c_lt (e_ix (dpv 3) dpe_int) (dpv 2)))))) (fun _ _ _ _ _ => (dpv 3)))))
      ) ?_
  rintro xs Kp ⟨rows, lo, hi, rfl, hl, hk⟩
  have hs : ((rows.map tabR).map W.fz).length ≤ sizeLine := by simp only [List.length_map]; exact Nat.le_trans hl (by decide)
  refine ⟨hs, ?_⟩
  refine lcW_rows (inB lo hi) (fun x hx A Bf ha hb => ?_) ?_
  · refine ifB_of (fun h1 => ?_) (fun h1 => ?_)
    · have h1 : (!strLt x.1 lo) = true := h1
      refine ifB_of (fun h2 => ?_) (fun h2 => ?_)
      · exact ha (by unfold inB; rw [h1, h2]; rfl)
      · exact hb (by unfold inB; rw [h1, h2]; rfl)
    · have h1 : (!strLt x.1 lo) = false := h1
      exact hb (by unfold inB; rw [h1]; rfl)
  · exact newL_F hk
abbrev s_l_cell : Stmt := top 56
abbrev N_l_cell : List Str := ["_law_row_here", "_law_column"]
theorem sc_l_cell : FnScope N_l_cell ["_law_row_here", "_law_column"] (C8.fnScope s_l_cell) := C8.fnScope_by (by decide +kernel)
theorem ok_l_cell (D : Df K mg "_law_cell" s_l_cell) (bi : Bi mg) : CalP P w K T mg base 1 "_law_cell" spCell := by
  have sc := sc_l_cell
  refine D.calp (k := 0) (Q := spCell) (fun _ _ _ _ _ _ us hl => match us, hl with | [_, _], _ => rfl) sc (by rintro _ _ ⟨r, k, rfl, _⟩; rfl)
      (fun f cdv A outer s H E hr =>
      (dpss_cons (dps_if (c_lt (dpv 1) (e_len bi (a1 (dpv 0))))
        (dpss_one (dps_ret (e_ix (dpv 0) (dpv 1))))
        dpss_nil)
        (dpss_one (dps_ret dpe_int)))
      ) ?_
  rintro xs Kp ⟨r, k, rfl, hr, h0, hk⟩
  have el : ((r.map DL.D.int).map W.fz).length = r.length := by simp
  refine ifB_d (fun h => ?_) (fun h => ?_)
  · refine onO_at h0 h fun x hx => ?_
    rw [List.getElem?_map, List.getElem?_map] at hx
    cases e : r[k.toNat]? with
    | none => rw [e] at hx; cases hx
    | some z =>
      rw [e] at hx
      cases hx
      have : cellI r k.toNat = z := by unfold cellI; rw [List.getD_eq_getElem?_getD, e]; rfl
      rw [this] at hk
      exact hk
  · have : cellI r k.toNat = 0 := by
      unfold cellI
      rw [List.getD_eq_getElem?_getD, List.getElem?_eq_none]
      · rfl
      · have h2 : ¬ k < (((r.map DL.D.int).map W.fz).length : Nat) := h
        rw [el] at h2
        omega
    rw [this] at hk
    exact hk
abbrev s_l_answer : Stmt := top 57
abbrev N_l_answer : List Str := ["_law_table_here", "_law_query_here", "_law_name", "_law_pair", "_law_found"]
theorem sc_l_answer : FnScope N_l_answer ["_law_table_here", "_law_query_here"] (C8.fnScope s_l_answer) := C8.fnScope_by (by decide +kernel)
theorem ok_l_answer (D : Df K mg "_law_answer" s_l_answer) (bi : Bi mg) (c_l_within : CalP P w K T mg base 1 "_law_within" spWithin) (c_l_cell : CalP P w K T mg base 1 "_law_cell" spCell) : CalP P w K T mg base 2 "_law_answer" spAns := by
  have sc := sc_l_answer
  refine D.calp (k := 1) (Q := spAns) (fun _ _ _ _ _ _ us hl => match us, hl with | [_, _], _ => rfl) sc (by rintro _ _ ⟨rows, q, rfl, _⟩; rfl)
      (fun f cdv A outer s H E hr =>
      (dpss_cons (sset 2 sc.nd (e_ix (dpv 1) dpe_int))
        (dpss_cons (dps_if (c_eq hr (dpv 2) dpe_str)
        (dpss_cons (dps_for PassesOwn.never rfl (dpi_any (dpv 0)) (gname 3 sc.nd)
        (dpss_one (dps_if (c_eq hr (e_ix (dpv 3) dpe_int) (e_ix (dpv 1) dpe_int))
        (dpss_one (dps_ret (e_ix (dpv 3) dpe_int)))
        dpss_nil)))
        (dpss_one (dps_ret dpe_non)))
        dpss_nil)
        (dpss_cons (dps_if (c_eq hr (dpv 2) dpe_str)
        (dpss_one (dps_ret (dpe_callP c_l_within hr (Nat.le_refl _) (by rfl) (dpa_cons (dpv 0) (dpa_cons (e_ix (dpv 1) dpe_int) (a1 (e_ix (dpv 1) dpe_int)))))))
        dpss_nil)
        (dpss_cons (dps_if (c_eq hr (dpv 2) dpe_str)
        (dpss_cons (dps_setLc (ow := [("_law_pair", 3)]) (i := 4) false (lk_name (by decide)) rfl sc.nd rfl rfl (sw_true rfl rfl rfl (by decide +kernel)) (dpi_any (dpv 0)) (blkOk_by (N := N_l_answer) (sc := C8.fnScope s_l_answer) (by decide +kernel)) (fun _ _ _ _ _ => pg_name (i := 3) sc.nd rfl (Or.inl rfl)) (fun _ _ _ _ _ => dpts_one (c_gt (e_ix (dpv 3) dpe_int) (e_ix (dpv 1) dpe_int))) (fun _ _ _ _ _ => (dpv 3)))
        (dpss_one (dps_ret (dpe_slice false (dpv 4) dpo_none (dpo_some (e_ix (dpv 1) dpe_int))))))
        dpss_nil)
        (dpss_cons (dps_if (c_eq hr (dpv 2) dpe_str)
        (dpss_one (dps_ret (e_len bi (a1 (dpe_callP c_l_within hr (Nat.le_refl _) (by rfl) (dpa_cons (dpv 0) (dpa_cons (e_ix (dpv 1) dpe_int) (a1 (e_ix (dpv 1) dpe_int)))))))))
        dpss_nil)
        (dpss_cons (dps_if (c_eq hr (dpv 2) dpe_str)
        (dpss_one (dps_ret (e_sum bi rfl (a1 (dpe_lc (ow := [("_law_pair", 3)]) false (lk_name (by decide)) rfl sc.nd (dpi_any (dpe_callP c_l_within hr (Nat.le_refl _) (by rfl) (dpa_cons (dpv 0) (dpa_cons (e_ix (dpv 1) dpe_int) (a1 (e_ix (dpv 1) dpe_int)))))) (blkOk_by (N := N_l_answer) (sc := C8.fnScope s_l_answer) (by decide +kernel)) (fun _ _ _ _ _ => pg_name (i := 3) sc.nd rfl (Or.inl rfl)) (fun _ _ _ _ _ => dpts_nil) (fun _ _ _ _ _ => (dpe_callP c_l_cell hr (Nat.le_refl _) (by rfl) (dpa_cons (e_ix (dpv 3) dpe_int) (a1 (e_ix (dpv 1) dpe_int))))))))))
        dpss_nil)
        (dpss_cons (dps_if (c_eq hr (dpv 2) dpe_str)
        (dpss_one (dps_ret (e_len bi (a1 (dpe_lc (ow := [("_law_pair", 3)]) false (lk_name (by decide)) rfl sc.nd (dpi_any (dpv 0)) (blkOk_by (N := N_l_answer) (sc := C8.fnScope s_l_answer) (by decide +kernel)) (fun _ _ _ _ _ => pg_name (i := 3) sc.nd rfl (Or.inl rfl)) (fun _ _ _ _ _ => dpts_one (c_lt (e_ix (dpv 3) dpe_int) (e_ix (dpv 1) dpe_int))) (fun _ _ _ _ _ => (dpv 3)))))))
        dpss_nil)
        (dpss_cons (dps_if (c_lt (e_ix (dpv 1) dpe_int) (e_len bi (a1 (dpv 0))))
        (dpss_one (dps_ret (e_ix (dpv 0) (e_ix (dpv 1) dpe_int))))
        dpss_nil)
        (dpss_one (dps_ret dpe_non))))))))))
      ) ?_
  rintro xs Kp ⟨rows, q, rfl, ht, hl, hq, hk⟩
  have hs : ((rows.map tabR).map W.fz).length ≤ sizeLine := by simp only [List.length_map]; exact Nat.le_trans hl (by decide)
  have okS : ∀ {a : Str}, PyData.strOk a = true → okD 64 (.str a) = true := fun h => ok_str h
  cases q with
  | get k =>
    refine ⟨⟨okS (by decide +kernel), okS (by decide +kernel)⟩, ?_⟩
    refine loop_inv (I := fun ws env S => ∃ (rs : Tab) (w3 w4 : Option W), ws = (rs.map tabR).map W.fz ∧ env = [some (W.fz (tabD rows)), some (W.fz (qD (.get k))), some (W.fz (.str "get")), w3, w4] ∧ S = [] ∧ (∀ r ∈ rs, isKey r.1) ∧ getD rs k = getD rows k) ?_ ?_ ?_
    · exact ⟨rows, _, _, rfl, rfl, rfl, fun r hr => (ht.2 r hr).1, rfl⟩
    · rintro env S ⟨rs, w3, w4, h1, rfl, rfl, h2, h3⟩
      cases rs with
      | cons _ _ => cases h1
      | nil =>
        have e : ansD rows (.get k) = .non := h3.symm
        rw [e] at hk
        exact hk
    · rintro x xs env S N ⟨rs, w3, w4, h1, rfl, rfl, h2, h3⟩ hN
      cases rs with
      | nil => cases h1
      | cons r rs =>
        cases h1
        refine ⟨⟨ok_str (key_ok (h2 r List.mem_cons_self)), ok_str hq.1⟩, ifB_of (fun h => ?_) (fun h => ?_)⟩
        · rw [eqD_str] at h
          have e : ansD rows (.get k) = rowD r.2 := by
            show getD rows k = _
            rw [← h3]
            exact getD_pos h
          rw [e] at hk
          exact hk
        · rw [eqD_str] at h
          refine hN _ _ ⟨rs, _, _, rfl, rfl, rfl, fun r hr => h2 r (List.mem_cons_of_mem _ hr), ?_⟩
          rw [← h3]
          exact (getD_neg h).symm
  | rng lo hi =>
    refine ⟨⟨okS (by decide +kernel), okS (by decide +kernel)⟩, ?_⟩
    refine ⟨⟨okS (by decide +kernel), okS (by decide +kernel)⟩, ?_⟩
    exact ⟨rows, lo, hi, rfl, hl, hk⟩
  | nxt b n =>
    refine ⟨⟨okS (by decide +kernel), okS (by decide +kernel)⟩, ?_⟩
    refine ⟨⟨okS (by decide +kernel), okS (by decide +kernel)⟩, ?_⟩
    refine ⟨⟨okS (by decide +kernel), okS (by decide +kernel)⟩, ?_⟩
    refine ⟨hs, lcW_rows (fun r => strLt b r.1) (fun x hx A Bf ha hb => ifB_of (fun h => ha h) (fun h => hb h)) ?_⟩
    refine newL_F ?_
    have e : cutL (((rows.filter fun r => strLt b r.1).map tabR).map W.fz) none (some n) = (((rows.filter fun r => strLt b r.1).take n.toNat).map tabR).map W.fz := by
      rw [cut_takeA _ n.toNat (by have := hq.2.1; omega), ← List.map_take, ← List.map_take]
    exact newL_E (((rows.filter fun r : Str × List Int => strLt b r.1).take n.toNat).map tabR) e hk
  | cnt lo hi =>
    refine ⟨⟨okS (by decide +kernel), okS (by decide +kernel)⟩, ?_⟩
    refine ⟨⟨okS (by decide +kernel), okS (by decide +kernel)⟩, ?_⟩
    refine ⟨⟨okS (by decide +kernel), okS (by decide +kernel)⟩, ?_⟩
    refine ⟨⟨okS (by decide +kernel), okS (by decide +kernel)⟩, ?_⟩
    refine ⟨rows, lo, hi, rfl, hl, ?_⟩
    exact kp_int (tab_lenI _) hk
  | sm c lo hi =>
    refine ⟨⟨okS (by decide +kernel), okS (by decide +kernel)⟩, ?_⟩
    refine ⟨⟨okS (by decide +kernel), okS (by decide +kernel)⟩, ?_⟩
    refine ⟨⟨okS (by decide +kernel), okS (by decide +kernel)⟩, ?_⟩
    refine ⟨⟨okS (by decide +kernel), okS (by decide +kernel)⟩, ?_⟩
    refine ⟨⟨okS (by decide +kernel), okS (by decide +kernel)⟩, ?_⟩
    refine ⟨rows, lo, hi, rfl, hl, ?_⟩
    refine ⟨by rw [tab_lenN]; exact Nat.le_trans (List.length_filter_le _ _) (Nat.le_trans hl (by decide)), ?_⟩
    refine lcW_eq (mapR _) ?_
    refine lcW_mapF (fun r => W.fz (tabR r)) (fun r => W.fz (.int (cellI r.2 c.toNat))) (fun r hr A Bf h => ?_) ?_
    · exact ⟨r.2, c, rfl, (ht.filter _ r hr).2, hq.1.1, h⟩
    refine newL_E (((rows.filter (inB lo hi)).map fun r => cellI r.2 c.toNat).map DL.D.int) (by rw [List.map_map, List.map_map]; rfl) ?_
    exact ⟨_, (rows.filter (inB lo hi)).map fun r : Str × List Int => cellI r.2 c.toNat, rfl, by show some ((((rows.filter (inB lo hi)).map fun r => cellI r.2 c.toNat).map DL.D.int).map W.fz) = _; rw [List.map_map]; rfl, hk⟩
  | plc b =>
    refine ⟨⟨okS (by decide +kernel), okS (by decide +kernel)⟩, ?_⟩
    refine ⟨⟨okS (by decide +kernel), okS (by decide +kernel)⟩, ?_⟩
    refine ⟨⟨okS (by decide +kernel), okS (by decide +kernel)⟩, ?_⟩
    refine ⟨⟨okS (by decide +kernel), okS (by decide +kernel)⟩, ?_⟩
    refine ⟨⟨okS (by decide +kernel), okS (by decide +kernel)⟩, ?_⟩
    refine ⟨⟨okS (by decide +kernel), okS (by decide +kernel)⟩, ?_⟩
    refine ⟨hs, lcW_rows (fun r => strLt r.1 b) (fun x hx A Bf ha hb => ifB_of (fun h => ha h) (fun h => hb h)) ?_⟩
    refine newL_F ?_
    exact kp_int (tab_lenI _) hk
  | «at» i =>
    refine ⟨⟨okS (by decide +kernel), okS (by decide +kernel)⟩, ?_⟩
    refine ⟨⟨okS (by decide +kernel), okS (by decide +kernel)⟩, ?_⟩
    refine ⟨⟨okS (by decide +kernel), okS (by decide +kernel)⟩, ?_⟩
    refine ⟨⟨okS (by decide +kernel), okS (by decide +kernel)⟩, ?_⟩
    refine ⟨⟨okS (by decide +kernel), okS (by decide +kernel)⟩, ?_⟩
    refine ⟨⟨okS (by decide +kernel), okS (by decide +kernel)⟩, ?_⟩
    refine ifB_d (fun h => ?_) (fun h => ?_)
    · refine onO_at hq.1 h fun x hx => ?_
      rw [List.getElem?_map, List.getElem?_map] at hx
      cases e : rows[i.toNat]? with
      | none => rw [e] at hx; cases hx
      | some r =>
        rw [e] at hx
        cases hx
        have e2 : ansD rows (.at i) = tabR r := by
          show (match rows[i.toNat]? with | some r => tabR r | none => .non) = _
          rw [e]
        rw [e2] at hk
        exact hk
    · have e2 : ansD rows (.at i) = .non := by
        show (match rows[i.toNat]? with | some r => tabR r | none => .non) = _
        rw [List.getElem?_eq_none (by rw [tab_lenI] at h; have := hq.1; omega)]
      rw [e2] at hk
      exact hk
abbrev s_l_rank : Stmt := top 58
abbrev N_l_rank : List Str := ["_law_key_here", "_law_found", "_law_code"]
theorem sc_l_rank : FnScope N_l_rank ["_law_key_here"] (C8.fnScope s_l_rank) := C8.fnScope_by (by decide +kernel)
theorem ok_l_rank (D : Df K mg "_law_rank" s_l_rank) (bi : Bi mg) (c_l_codes : CalP P w K T mg base 1 "_law_codes" (fun ds Q => ∃ x : Str, ds = [.str x] ∧ x.length ≤ 1000 ∧ Q (intsD (codes x)))) : CalP P w K T mg base 2 "_law_rank" spRank := by
  have sc := sc_l_rank
  refine D.calp (k := 1) (Q := spRank) (fun _ _ _ _ _ _ us hl => match us, hl with | [_], _ => rfl) sc (by rintro _ _ ⟨k, rfl, _⟩; rfl)
      (fun f cdv A outer s H E hr =>
      (dpss_cons (sset 1 sc.nd dpe_int)
        (dpss_cons (dps_for PassesOwn.never rfl (dpi_any (dpe_callP c_l_codes hr (by decide) (by rfl) (a1 (dpv 0)))) (gname 2 sc.nd)
        (dpss_one (sset 1 sc.nd (e_mod (e_int bi (a1 (e_add false (e_mul (dpv 1) dpe_int) (dpv 2)))) dpe_int))))
        (dpss_one (dps_ret (dpv 1)))))
      ) ?_
  rintro xs Kp ⟨k, rfl, hkey, hk⟩
  refine ⟨k, rfl, Nat.le_trans (key_len hkey) (by decide), ?_⟩
  refine loop_inv (I := fun ws env S => ∃ (ns : List Int) (f : Int) (w2 : Option W), ws = (ns.map DL.D.int).map W.fz ∧ env = [some (W.fz (.str k)), some (W.fz (.int f)), w2] ∧ ns.foldl (fun f c => (f * 131 + c) % 1000003) f = rankI k) ?_ ?_ ?_
  · exact ⟨codes k, 7, none, rfl, rfl, rfl⟩
  · rintro env S ⟨ns, f, w2, h1, rfl, h3⟩
    cases ns with
    | cons _ _ => cases h1
    | nil =>
      have e : f = rankI k := h3
      subst e
      exact hk
  · rintro w ws env S N ⟨ns, f, w2, h1, rfl, h3⟩ hN
    cases ns with
    | nil => cases h1
    | cons n ns =>
      cases h1
      exact ⟨mulR rfl, posL rfl, hN _ _ ⟨ns, _, _, rfl, rfl, h3⟩⟩
abbrev s_l_top : Stmt := top 59
abbrev N_l_top : List Str := ["_law_table_here", "_law_best", "_law_k"]
theorem sc_l_top : FnScope N_l_top ["_law_table_here"] (C8.fnScope s_l_top) := C8.fnScope_by (by decide +kernel)
theorem ok_l_top (D : Df K mg "_law_top" s_l_top) (bi : Bi mg) (c_l_rank : CalP P w K T mg base 2 "_law_rank" spRank) : CalP P w K T mg base 3 "_law_top" spTop := by
  have sc := sc_l_top
  refine D.calp (k := 2) (Q := spTop) (fun _ _ _ _ _ _ us hl => match us, hl with | [_], _ => rfl) sc (by rintro _ _ ⟨rows, rfl, _⟩; rfl)
      (fun f cdv A outer s H E hr =>
      (dpss_cons (sset 1 sc.nd dpe_int)
        (dpss_cons (dps_for PassesOwn.never rfl (i_rng1 bi (a1 (e_len bi (a1 (dpv 0))))) (gname 2 sc.nd)
        (dpss_one (dps_if (c_gt (dpe_callP c_l_rank hr (by decide) (by rfl) (a1 (e_ix (e_ix (dpv 0) (dpv 2)) dpe_int))) (dpe_callP c_l_rank hr (by decide) (by rfl) (a1 (e_ix (e_ix (dpv 0) (dpv 1)) dpe_int))))
        (dpss_one (sset 1 sc.nd (dpv 2)))
        dpss_nil)))
        (dpss_one (dps_ret (dpv 1)))))
      ) ?_
  rintro xs Kp ⟨rows, rfl, ht, hne, hl, hk⟩
  have el : ((rows.map tabR).map W.fz).length = rows.length := by simp
  have h0 : 0 < rows.length := by cases rows with | nil => exact absurd rfl hne | cons _ _ => exact Nat.succ_pos _
  have item : ∀ (i : Nat) (k : W → Prop), i < rows.length → k (W.fz (tabR (rowAt rows i))) → onO (atI ((rows.map tabR).map W.fz) (i : Int)) k := fun i k hi h => by
    refine onO_at (Int.natCast_nonneg _) (by rw [el]; omega) fun x hx => ?_
    rw [List.getElem?_map, List.getElem?_map, show ((i : Int)).toNat = i from rfl, rowAt_get hi] at hx
    cases hx
    exact h
  refine ⟨⟨by rw [el]; omega, by rw [el]; omega⟩, ?_⟩
  refine loop_inv (I := fun ws env S => ∃ (ns : List Nat) (bst : Nat) (w2 : Option W), ws = ns.map (fun (k : Nat) => W.fz (.int (0 + (k : Int)))) ∧ env = [some (W.fz (tabD rows)), some (W.fz (.int bst)), w2] ∧ bst < rows.length ∧ (∀ k ∈ ns, k < rows.length) ∧ ns.foldl (fun b k => if rankI (rowAt rows b).1 < rankI (rowAt rows k).1 then k else b) bst = topN rows) ?_ ?_ ?_
  · refine ⟨List.range rows.length, 0, none, ?_, rfl, h0, fun k hk => List.mem_range.mp hk, rfl⟩
    rw [el]
    rfl
  · rintro env S ⟨ns, bst, w2, h1, rfl, hb, h2, h3⟩
    cases ns with
    | cons _ _ => cases h1
    | nil =>
      have e : bst = topN rows := h3
      subst e
      exact hk
  · rintro w ws env S N ⟨ns, bst, w2, h1, rfl, hb, h2, h3⟩ hN
    cases ns with
    | nil => cases h1
    | cons n ns =>
      rw [List.map_cons] at h1
      injection h1 with ha hb2
      subst ha; subst hb2
      have hn := h2 n List.mem_cons_self
      have h2' : ∀ k ∈ ns, k < rows.length := fun k hk => h2 k (List.mem_cons_of_mem _ hk)
      rw [Int.zero_add]
      refine item n _ hn ?_
      refine ⟨_, rfl, (ht.at hn).1, ?_⟩
      refine item bst _ hb ?_
      refine ⟨_, rfl, (ht.at hb).1, ?_⟩
      rw [List.foldl_cons] at h3
      refine ifB_d (fun h => ?_) (fun h => ?_)
      · rw [if_pos h] at h3
        exact hN _ _ ⟨ns, n, _, rfl, rfl, hn, h2', h3⟩
      · rw [if_neg h] at h3
        exact hN _ _ ⟨ns, bst, _, rfl, rfl, hb, h2', h3⟩
abbrev s_l_link : Stmt := top 61
abbrev N_l_link : List Str := ["_law_rule_here", "_law_entry", "_law_sums", "_law_k"]
theorem sc_l_link : FnScope N_l_link ["_law_rule_here", "_law_entry"] (C8.fnScope s_l_link) := C8.fnScope_by (by decide +kernel)
theorem ok_l_link (D : Df K mg "_law_link" s_l_link) (bi : Bi mg) (c_l_cell : CalP P w K T mg base 1 "_law_cell" spCell) (c_l_digest : CalP P w K T mg base 10 "_law_digest" spDigest) : CalP P w K T mg base 11 "_law_link" spLink := by
  have sc := sc_l_link
  refine D.calp (k := 10) (Q := spLink) (fun _ _ _ _ _ _ us hl => match us, hl with | [_, _], _ => rfl) sc (by rintro _ _ ⟨b, m, k, r, x, y, rfl, _⟩; rfl)
      (fun f cdv A outer s H E hr =>
      (dpss_cons (sset 2 sc.nd (e_tuple bi (a1 (dpe_lc (ow := [("_law_k", 3)]) false (lk_name (by decide)) rfl sc.nd (i_rng1 bi (a1 dpe_int)) (blkOk_by (N := N_l_link) (sc := C8.fnScope s_l_link) (by decide +kernel)) (fun _ _ _ _ _ => pg_name (i := 3) sc.nd rfl (Or.inl rfl)) (fun _ _ _ _ _ => dpts_nil) (fun _ _ _ _ _ => (e_add false (e_add false (dpe_callP c_l_cell hr (by decide) (by rfl) (dpa_cons (e_ix (dpv 1) dpe_int) (a1 (dpv 3)))) (e_ix (e_ix (e_ix (dpv 1) dpe_int) dpe_int) (dpv 3))) (e_ix (e_ix (e_ix (dpv 1) dpe_int) dpe_int) (dpv 3))))))))
        (dpss_one (dps_ret (dpe_tup (dpa_cons (dpe_callP c_l_digest hr (by decide) (by rfl) (dpa_cons (dpv 0) (a1 (e_add false (dpe_tup (a1 dpe_str)) (dpv 1))))) (dpa_cons (e_add false (e_add false dpe_int (e_ix (e_ix (dpv 1) dpe_int) dpe_int)) (e_ix (e_ix (dpv 1) dpe_int) dpe_int)) (a1 (dpv 2))))))))
      ) ?_
  rintro xs Kp ⟨b, m, k, r, x, y, rfl, hrl, hkey, hrow, hk⟩
  refine ⟨⟨by decide, by decide⟩, sz rfl, ?_⟩
  refine ⟨r, 0, rfl, hrow, by decide, ?_⟩
  refine ⟨r, 1, rfl, hrow, by decide, ?_⟩
  refine ⟨r, 2, rfl, hrow, by decide, ?_⟩
  refine ⟨sz rfl, sz rfl, ?_⟩
  refine ⟨b, m, nodeD k r x y, rfl, hrl, ok_nodeD hkey hrow x y, ?_⟩
  refine ⟨sz rfl, ?_⟩
  exact hk
abbrev s_l_tree : Stmt := top 60
abbrev N_l_tree : List Str := ["_law_rule_here", "_law_table_here", "_law_top_here", "_law_left", "_law_right", "_law_entry"]
theorem sc_l_tree : FnScope N_l_tree ["_law_rule_here", "_law_table_here"] (C8.fnScope s_l_tree) := C8.fnScope_by (by decide +kernel)
theorem ok_l_tree (D : Df K mg "_law_tree" s_l_tree) (bi : Bi mg) (c_l_digest : CalP P w K T mg base 10 "_law_digest" spDigest) (c_l_top : CalP P w K T mg base 3 "_law_top" spTop) (c_l_link : CalP P w K T mg base 11 "_law_link" spLink) : ∀ n, CalP P w K T mg base (12 + n) "_law_tree" (spTree n) := by
  intro n
  induction n with
  | zero => 
    have sc := sc_l_tree
    have c_l_tree : CalP P w K T mg base 0 "_law_tree" (fun _ _ => False) := D.bot (ps := ["_law_rule_here", "_law_table_here"]) (fun _ _ _ _ _ _ us hl => match us, hl with | [_, _], _ => rfl) (fun _ _ h => h)
    refine D.calp (k := 11) (Q := spTree 0) (fun _ _ _ _ _ _ us hl => match us, hl with | [_, _], _ => rfl) sc (by rintro _ _ ⟨b, m, rows, rfl, _⟩; rfl)
      (fun f cdv A outer s H E hr =>
      (dpss_cons (dps_if (c_eq hr (e_len bi (a1 (dpv 1))) dpe_int)
        (dpss_one (dps_ret (dpe_lst false (dpa_cons (dpe_tup (dpa_cons (dpe_callP c_l_digest hr (by decide) (by rfl) (dpa_cons (dpv 0) (a1 (dpe_tup (a1 dpe_str))))) (dpa_cons dpe_int (a1 (dpe_tup (dpa_cons dpe_int (dpa_cons dpe_int (a1 dpe_int)))))))) (dpa_cons dpe_non (dpa_cons dpe_non (a1 dpe_non)))))))
        dpss_nil)
        (dpss_cons (sset 2 sc.nd (dpe_callP c_l_top hr (by decide) (by rfl) (a1 (dpv 1))))
        (dpss_cons (sset 3 sc.nd (dpe_callP c_l_tree hr (by decide) (by rfl) (dpa_cons (dpv 0) (a1 (dpe_slice false (dpv 1) dpo_none (dpo_some (dpv 2)))))))
        (dpss_cons (sset 4 sc.nd (dpe_callP c_l_tree hr (by decide) (by rfl) (dpa_cons (dpv 0) (a1 (dpe_slice false (dpv 1) (dpo_some (e_add false (dpv 2) dpe_int)) dpo_none)))))
        (dpss_cons (sset 5 sc.nd (dpe_tup (dpa_cons (e_ix (e_ix (dpv 1) (dpv 2)) dpe_int) (dpa_cons (e_ix (e_ix (dpv 1) (dpv 2)) dpe_int) (dpa_cons (e_ix (dpv 3) dpe_int) (a1 (e_ix (dpv 4) dpe_int)))))))
        (dpss_one (dps_ret (dpe_lst false (dpa_cons (dpe_callP c_l_link hr (by decide) (by rfl) (dpa_cons (dpv 0) (a1 (dpv 5)))) (dpa_cons (dpv 5) (dpa_cons (dpv 3) (a1 (dpv 4)))))))))))))
      ) ?_
    rintro xs Kp ⟨b, m, rows, rfl, hrl, ht, hl, hn, hk⟩
    have : rows = [] := List.eq_nil_of_length_eq_zero (by omega)
    subst this
    refine ⟨⟨rfl, rfl⟩, sz rfl, ⟨b, m, emptyD, rfl, hrl, ok_emptyD, ?_⟩⟩
    exact ⟨sz rfl, sz rfl, sz rfl, hk⟩
  | succ n c_l_tree =>
    have sc := sc_l_tree
    have c_l_digest := CalP.mono c_l_digest (show 10 ≤ 12 + n by omega)
    have c_l_top := CalP.mono c_l_top (show 3 ≤ 12 + n by omega)
    have c_l_link := CalP.mono c_l_link (show 11 ≤ 12 + n by omega)
    refine D.calp (k := 12 + n) (Q := spTree (n + 1)) (fun _ _ _ _ _ _ us hl => match us, hl with | [_, _], _ => rfl) sc (by rintro _ _ ⟨b, m, rows, rfl, _⟩; rfl)
      (fun f cdv A outer s H E hr =>
      (dpss_cons (dps_if (c_eq hr (e_len bi (a1 (dpv 1))) dpe_int)
        (dpss_one (dps_ret (dpe_lst false (dpa_cons (dpe_tup (dpa_cons (dpe_callP c_l_digest hr (Nat.le_refl _) (by rfl) (dpa_cons (dpv 0) (a1 (dpe_tup (a1 dpe_str))))) (dpa_cons dpe_int (a1 (dpe_tup (dpa_cons dpe_int (dpa_cons dpe_int (a1 dpe_int)))))))) (dpa_cons dpe_non (dpa_cons dpe_non (a1 dpe_non)))))))
        dpss_nil)
        (dpss_cons (sset 2 sc.nd (dpe_callP c_l_top hr (Nat.le_refl _) (by rfl) (a1 (dpv 1))))
        (dpss_cons (sset 3 sc.nd (dpe_callP c_l_tree hr (Nat.le_refl _) (by rfl) (dpa_cons (dpv 0) (a1 (dpe_slice false (dpv 1) dpo_none (dpo_some (dpv 2)))))))
        (dpss_cons (sset 4 sc.nd (dpe_callP c_l_tree hr (Nat.le_refl _) (by rfl) (dpa_cons (dpv 0) (a1 (dpe_slice false (dpv 1) (dpo_some (e_add false (dpv 2) dpe_int)) dpo_none)))))
        (dpss_cons (sset 5 sc.nd (dpe_tup (dpa_cons (e_ix (e_ix (dpv 1) (dpv 2)) dpe_int) (dpa_cons (e_ix (e_ix (dpv 1) (dpv 2)) dpe_int) (dpa_cons (e_ix (dpv 3) dpe_int) (a1 (e_ix (dpv 4) dpe_int)))))))
        (dpss_one (dps_ret (dpe_lst false (dpa_cons (dpe_callP c_l_link hr (Nat.le_refl _) (by rfl) (dpa_cons (dpv 0) (a1 (dpv 5)))) (dpa_cons (dpv 5) (dpa_cons (dpv 3) (a1 (dpv 4)))))))))))))
      ) ?_
    rintro xs Kp ⟨b, m, rows, rfl, hrl, ht, hl, hn, hk⟩
    cases rows with
    | nil =>
      refine ⟨⟨rfl, rfl⟩, sz rfl, ⟨b, m, emptyD, rfl, hrl, ok_emptyD, ?_⟩⟩
      exact ⟨sz rfl, sz rfl, sz rfl, hk⟩
    | cons row rest =>
      generalize hrows : row :: rest = rows at *
      have hne : rows ≠ [] := by rw [← hrows]; exact fun z => by cases z
      have hlt := top_lt hne
      have el : ((rows.map tabR).map W.fz).length = rows.length := by simp
      refine ⟨⟨rfl, rfl⟩, ifB_F (by rw [eqD_ii]; exact decide_eq_false (by rw [el]; omega)) ?_⟩
      refine ⟨rows, rfl, ht, hne, Nat.le_trans hl hn, ?_⟩
      refine onO_take (Nat.le_of_lt hlt) ?_
      refine ⟨b, m, _, rfl, hrl, ht.take _, by rw [List.length_take]; omega, by omega, ?_⟩
      refine onO_drop (n := topN rows + 1) hlt ?_
      refine ⟨b, m, _, rfl, hrl, ht.drop _, by rw [List.length_drop]; omega, by omega, ?_⟩
      refine onO_row hlt ?_
      refine onO_row hlt ?_
      obtain ⟨a1, c1, d1, e1⟩ := treeD_link b m (treeT (rows.take (topN rows)))
      obtain ⟨a2, c2, d2, e2⟩ := treeD_link b m (treeT (rows.drop (topN rows + 1)))
      rw [e1, e2]
      refine ⟨sz rfl, ?_⟩
      refine ⟨b, m, _, _, _, _, rfl, hrl, (ht.at hlt).1, (ht.at hlt).2, sz rfl, ?_⟩
      rw [treeT_node hne] at hk
      unfold treeD at hk
      rw [e1, e2] at hk
      exact hk
abbrev s_law : Stmt := top 62
abbrev N_law : List Str := ["_law_script", "_law_state", "_law_rule_here", "_law_table_here", "_law_head", "_law_k", "_law_query_here", "_law_certificate", "_law_copy", "_law_due"]
theorem sc_law : FnScope N_law ["_law_script"] (C8.fnScope s_law) := C8.fnScope_by (by decide +kernel)
set_option maxHeartbeats 4000000 in
theorem ok_law {f0 : Addr} {fd0 : FuncData} (D : C8.Fun K "law" "law" s_law f0 fd0) (bi : Bi mg) (c_l_rule : CalS P w K T mg base 2 "_law_rule" spRule) (c_l_table : CalS P w K T mg base 3 "_law_table" spTable) (c_l_query : CalS P w K T mg base 4 "_law_query" spQuery) (c_l_answer : CalP P w K T mg base 2 "_law_answer" spAns)
    (c_l_tree : CalP P w K T mg base 25 "_law_tree" (spTree 13)) (c_answered : CalP P w K T mg base 29 "answered" (spAnswered 13)) (c_read : CalP P w K T mg base 29 "read" (spRead 13)) : FnOk P w K mg base CX0 30 f0 fd0 ["_law_script"] (spD K T (psp spLaw)) := by
  have sc := sc_law
  refine DL.fnp D (k := 29) (Q := spLaw) sc (by rintro _ _ ⟨ns, rfl, _⟩; rfl)
      (fun cdv A outer s H E hr =>
      (dpss_cons (sset 1 sc.nd (dpe_lst true (dpa_cons dpe_int (dpa_cons dpe_int (dpa_cons (e_list false bi (a1 (dpv 0))) (a1 dpe_int))))))
        (dpss_cons (sset 2 sc.nd (dpe_callS c_l_rule hr (by decide) (by rfl) (a1 (dpv 1))))
        (dpss_cons (sset 3 sc.nd (dpe_callS c_l_table hr (by decide) (by rfl) (dpa_cons (dpv 1) (a1 dpe_int))))
        (dpss_cons (sset 4 sc.nd (e_ix (dpe_callP c_l_tree hr (by decide) (by rfl) (dpa_cons (dpv 2) (a1 (dpv 3)))) dpe_int))
        (dpss_cons (dps_for PassesOwn.never rfl (i_rng1 bi (a1 dpe_int)) (gname 5 sc.nd)
        (dpss_cons (sset 6 sc.nd (dpe_callS c_l_query hr (by decide) (by rfl) (dpa_cons (dpv 1) (a1 (dpv 3)))))
        (dpss_cons (sset 7 sc.nd (e_ix (dpe_callP c_answered hr (Nat.le_refl _) (by rfl) (dpa_cons (dpv 2) (dpa_cons (e_list false bi (a1 (dpv 3))) (a1 (dpv 6))))) dpe_int))
        (dpss_cons (sset 8 sc.nd (e_list false bi (a1 (dpv 7))))
        (dpss_cons (sset 9 sc.nd (dpe_tup (dpa_cons dpe_str (a1 (dpe_callP c_l_answer hr (by decide) (by rfl) (dpa_cons (dpv 3) (a1 (dpv 6))))))))
        (dpss_cons (dps_if (dpt_tru (e_isi bi (dpa_cons (e_ix (dpe_callP c_read hr (Nat.le_refl _) (by rfl) (dpa_cons (dpv 2) (dpa_cons (dpv 4) (dpa_cons (dpv 6) (a1 (dpv 8)))))) dpe_int) (a1 (t_bool bi)))))
        (dpss_one (dps_ret dpe_bl))
        dpss_nil)
        (dpss_one (dps_if (DPW.pt (dpw_or (c_ne hr (dpe_callP c_read hr (Nat.le_refl _) (by rfl) (dpa_cons (dpv 2) (dpa_cons (dpv 4) (dpa_cons (dpv 6) (a1 (dpv 8)))))) (dpv 9)) (dpw_or (c_ne hr (dpe_callP c_read hr (Nat.le_refl _) (by rfl) (dpa_cons (dpv 2) (dpa_cons (dpv 4) (dpa_cons (dpv 6) (a1 (dpv 8)))))) (dpv 9)) (dpw_or1 (c_ne hr (dpv 8) (dpv 7))))))
        (dpss_one (dps_ret dpe_bl))
        dpss_nil))))))))
        (dpss_one (dps_ret dpe_bl)))))))
      ) ?_
  rintro xs Kp ⟨ns, rfl, hn, hk⟩
  refine onO_scr ?_
  refine ⟨sz rfl, ⟨rfl, ⟨0, 0, ns, 1, rfl, by decide, hn⟩⟩, rfl, fun b m hr o so => ⟨so, ?_⟩⟩
  refine ⟨⟨rfl, so⟩, 12, rfl, by decide, by decide, fun rows ht hl o so => ⟨so, ?_⟩⟩
  refine ⟨b, m, rows, rfl, hr, ht, by omega, by decide, ?_⟩
  obtain ⟨a1, c1, d1, e1⟩ := treeD_link b m (treeT rows)
  rw [e1]
  have hl2 : rows.length ≤ 100 := by omega
  have okTb := (okT_tab ht hl2).okD
  have hok : okTr (treeT rows) := okTr_of _ (by rw [rowsT]; exact ht.2)
  have hst : srt (treeT rows) := by unfold srt; rw [rowsT]; exact ht.1
  have hsz : (treeT rows).size < 13 := by rw [size_rows, rowsT]; omega
  have hnn := (linkT_nn hr hok).n
  refine ⟨⟨by decide, by decide⟩, ?_⟩
  refine loop_inv (I := fun ws env S => ∃ (w5 w6 w7 w8 w9 : Option W) (o : OD), env = [some (W.fz (.scr ns)), some (W.hd 0), some (W.fz (ruleD b m)), some (W.fz (tabD rows)), some (W.fz (linkD (linkT b m (treeT rows)))), w5, w6, w7, w8, w9] ∧ S = [o] ∧ StOk o) ?_ ?_ ?_
  · exact ⟨_, _, _, _, _, _, rfl, rfl, so⟩
  · rintro env S _
    exact hk
  · rintro w ws env S N ⟨w5, w6, w7, w8, w9, o, rfl, rfl, so⟩ hN
    refine ⟨⟨rfl, so⟩, rows, rfl, ht, hl2, fun q hq o so => ⟨so, ?_⟩⟩
    refine onO_fzL (k := fun ds => _) ?_
    refine ⟨b, m, rows, q, rfl, hr, ht, by omega, by decide, hq, ?_⟩
    have hc : isEntL (certT b m (treeT rows) q) := cert_ent hok
    have hcl := cert_len b m (treeT rows) q
    have okC : okD 64 (.lst (certT b m (treeT rows) q)) = true := entL_ok (n := 60) hc
    have okX : okD 64 (.tup [.str "answer", ansD rows q]) = true := by
      show (okD 63 (.str "answer") && (okD 63 (ansD rows q) && true)) = true
      rw [ansD_ok (n := 60) ht]
      decide +kernel
    have rd : mRead b m 13 (linkT b m (treeT rows)) q (certT b m (treeT rows) q) = .tup [.str "answer", ansD rows q] := by
      have := read_right hr (n := 13) hq hok hst hsz
      rw [rowsT] at this
      exact this
    refine onO_fzL (k := fun ds => _) ?_
    refine ⟨rows, q, rfl, ht, hl2, hq, sz rfl, ?_⟩
    refine ⟨b, m, linkT b m (treeT rows), q, _, rfl, hr, hnn, hq, by omega, by decide, plBL_ent hc, ?_⟩
    rw [rd]
    refine ansD_ty fun t hty => ?_
    rw [hty]
    refine ⟨b, m, linkT b m (treeT rows), q, _, rfl, hr, hnn, hq, by omega, by decide, plBL_ent hc, ?_⟩
    rw [rd]
    refine ⟨⟨okX, okX⟩, ifB_ne (eqD_refl _) ?_⟩
    refine ⟨b, m, linkT b m (treeT rows), q, _, rfl, hr, hnn, hq, by omega, by decide, plBL_ent hc, ?_⟩
    rw [rd]
    refine ⟨⟨okX, okX⟩, ifB_ne (eqD_refl _) ?_⟩
    refine ⟨⟨okC, okC⟩, ifB_ne (eqD_refl _) ?_⟩
    exact hN _ _ ⟨_, _, _, _, _, _, rfl, rfl, so⟩
end
theorem all_mk {l : PySem.W.OpenLaw} {w : World} {K : PySem.W.Frag} {h : Heap} {mg : Str → Option Value} {fa : Addr} (X : K.In h) (G : h.Ns mainGlobals mg) (hfa : mg "law" = some (.ref fa))
    (d_encode : DfIn K "encode" s_encode) (d_digest : DfIn K "digest" s_digest) (d_Tree : MIn K "Tree" "Tree.__init__" s_Tree ["link", "entry", "left", "right"]) (d_cell : DfIn K "cell" s_cell) (d_rank : DfIn K "rank" s_rank) (d_outranks : DfIn K "outranks" s_outranks) (d_empty_link : DfIn K "empty_link" s_empty_link) (d_entry_link : DfIn K "entry_link" s_entry_link) (d_empty_tree : DfIn K "empty_tree" s_empty_tree) (d_node_of : DfIn K "node_of" s_node_of) (d_tree_of : DfIn K "tree_of" s_tree_of) (d_Part : MIn K "Part" "Part.__init__" s_Part ["link", "tree", "node"]) (d_Node : MIn K "Node" "Node.__init__" s_Node ["key", "row", "left", "right"]) (d_Known : SbIn l.prog K "Known" "Known.__init__" s_Known "Source.__init__" s_Source ["rule", "entries"]) (d_Part_is_empty : MtIn K "Part" "is_empty" "Part.is_empty" s_Part_is_empty) (d_Known_entry_of : MtIn K "Known" "entry_of" "Known.entry_of" s_Known_entry_of) (d_Known_root : MtIn K "Known" "root" "Known.root" s_Known_root) (d_Known_opened : MtIn K "Known" "opened" "Source.opened" s_Source_opened) (d_found_row : DfIn K "found_row" s_found_row) (d_place_of : DfIn K "place_of" s_place_of) (d_row_at : DfIn K "row_at" s_row_at) (d_add_between : DfIn K "add_between" s_add_between) (d_is_inside : DfIn K "is_inside" s_is_inside) (d_measured : DfIn K "measured" s_measured) (d_add_next : DfIn K "add_next" s_add_next) (d_walked : DfIn K "walked" s_walked) (d_answered : DfIn K "answered" s_answered) (d_Refused : ReIn l.prog K "Refused" "Refused.__init__" s_Refused ["word", "number"]) (d_is_number : DfIn K "is_number" s_is_number) (d_is_key : DfIn K "is_key" s_is_key) (d_is_row : DfIn K "is_row" s_is_row) (d_is_link : DfIn K "is_link" s_is_link) (d_is_entry : DfIn K "is_entry" s_is_entry) (d_Given : SbIn l.prog K "Given" "Given.__init__" s_Given "Source.__init__" s_Source ["rule", "certificate", "position"]) (d_Given_entry_of : MtIn K "Given" "entry_of" "Given.entry_of" s_Given_entry_of) (d_Given_root : MtIn K "Given" "root" "Given.root" s_Given_root) (d_Given_finish : MtIn K "Given" "finish" "Given.finish" s_Given_finish) (d_Given_opened : MtIn K "Given" "opened" "Source.opened" s_Source_opened) (d_read : DfIn K "read" s_read) (d_l_draw : DfIn K "_law_draw" s_l_draw) (d_l_codes : DfIn K "_law_codes" s_l_codes) (d_l_encode : DfIn K "_law_encode" s_l_encode) (d_l_digest : DfIn K "_law_digest" s_l_digest) (d_l_rule : DfIn K "_law_rule" s_l_rule) (d_l_key : DfIn K "_law_key" s_l_key) (d_l_row : DfIn K "_law_row" s_l_row) (d_l_table : DfIn K "_law_table" s_l_table) (d_l_bound : DfIn K "_law_bound" s_l_bound) (d_l_some_key : DfIn K "_law_some_key" s_l_some_key) (d_l_query : DfIn K "_law_query" s_l_query) (d_l_within : DfIn K "_law_within" s_l_within) (d_l_cell : DfIn K "_law_cell" s_l_cell) (d_l_answer : DfIn K "_law_answer" s_l_answer) (d_l_rank : DfIn K "_law_rank" s_l_rank) (d_l_top : DfIn K "_law_top" s_l_top) (d_l_link : DfIn K "_law_link" s_l_link) (d_l_tree : DfIn K "_law_tree" s_l_tree) (d_COLUMNS : CIn K "COLUMNS" 3) (d_LETTERS : CIS K "LETTERS" "abcdefghijklmnopqrstuvwxyz0123456789") (d_MOST_NUMBER : CIn K "MOST_NUMBER" 65535) (d_law : DfIn K "law" s_law) (b : BiIn K) :
    ∃ fd : FuncData, (∀ (s : Shared) (u : Value), BindsTo s fd ⟨[u], []⟩ [("_law_script", u)]) ∧ ∀ (base : Heap) (T : Addr → Prop), K.In base → base.Ns mainGlobals mg → (∀ x ∈ (["is_key", "is_row", "is_link", "is_entry"] : List Str), Gn K T mg base x) → FnOk l.prog w K mg base CX0 30 fa fd ["_law_script"] (spD K T (psp spLaw)) := by
  have bi := b.bi X G
  refine law_of X G hfa d_law (fun _ _ _ _ _ _ _ => rfl) fun f fd F base T gn => ?_
  obtain ⟨C_Tree, m_Tree⟩ := d_Tree.df X G
  obtain ⟨C_Part, m_Part⟩ := d_Part.df X G
  obtain ⟨C_Node, m_Node⟩ := d_Node.df X G
  obtain ⟨C_Known, m_Known⟩ := d_Known.df X G
  obtain ⟨C_Refused, m_Refused⟩ := d_Refused.df X G
  obtain ⟨C_Given, m_Given⟩ := d_Given.df X G
  let c0 : Cs := ⟨C_Part, C_Node, C_Tree, C_Refused⟩
  have p_encode := ok_encode (P := l.prog) (w := w) (K := K) (T := T) (mg := mg) (base := base) (d_encode.df X G) bi 8
  have p_digest := ok_digest (P := l.prog) (w := w) (K := K) (T := T) (mg := mg) (base := base) (d_digest.df X G) bi (CalD.mono p_encode (by decide))
  have p_Tree := ok_Tree (P := l.prog) (w := w) (K := K) (mg := mg) (base := base) m_Tree
  have p_cell := ok_cell (P := l.prog) (w := w) (K := K) (T := T) (mg := mg) (base := base) (d_cell.df X G) bi
  have p_rank := ok_rank (P := l.prog) (w := w) (K := K) (T := T) (mg := mg) (base := base) (d_rank.df X G) bi
  have p_outranks := ok_outranks (P := l.prog) (w := w) (K := K) (T := T) (mg := mg) (base := base) (d_outranks.df X G) bi (CalD.mono p_rank (by decide))
  have p_empty_link := ok_empty_link (P := l.prog) (w := w) (K := K) (T := T) (mg := mg) (base := base) (d_empty_link.df X G) bi (d_COLUMNS.mg X G) (CalD.mono p_digest (by decide))
  have p_entry_link := ok_entry_link (P := l.prog) (w := w) (K := K) (T := T) (mg := mg) (base := base) (d_entry_link.df X G) bi (d_COLUMNS.mg X G) (CalD.mono p_cell (by decide)) (CalD.mono p_digest (by decide))
  have p_empty_tree := ok_empty_tree (P := l.prog) (w := w) (K := K) (T := T) (mg := mg) (base := base) (d_empty_tree.df X G) bi p_Tree (CalD.mono p_empty_link (by decide))
  have p_node_of := ok_node_of (P := l.prog) (w := w) (K := K) (T := T) (mg := mg) (base := base) (d_node_of.df X G) bi p_Tree (CalD.mono p_entry_link (by decide))
  have p_tree_of := ok_tree_of (P := l.prog) (w := w) (K := K) (T := T) (mg := mg) (base := base) (d_tree_of.df X G) bi (CalD.mono p_empty_tree (by decide)) (CalD.mono p_outranks (by decide)) (CalD.mono p_node_of (by decide)) 13
  have p_Part := ok_Part (P := l.prog) (w := w) (K := K) (mg := mg) (base := base) m_Part
  have p_Node := ok_Node (P := l.prog) (w := w) (K := K) (mg := mg) (base := base) m_Node
  have p_Known := ok_Known (P := l.prog) (w := w) (K := K) (T := T) (mg := mg) (base := base) (C := C_Known) m_Known
  have p_is_empty := ok_is_empty (P := l.prog) (w := w) (K := K) (T := T) (mg := mg) (base := base) (c := c0) (d_Part_is_empty.df X G m_Part.mgC) p_Part
  have p_K_entry_of := ok_entry_of (P := l.prog) (w := w) (K := K) (T := T) (mg := mg) (base := base) (c := c0) (C := C_Known) (d_Known_entry_of.df X G m_Known.mgC) p_Part p_Tree (fun f hf => ⟨m_Known.cls, m_Known.na f hf⟩)
  have p_K_root := ok_root (P := l.prog) (w := w) (K := K) (T := T) (mg := mg) (base := base) (c := c0) (C := C_Known) (d_Known_root.df X G m_Known.mgC) p_Part p_Tree
  have p_K_opened := ok_opened (P := l.prog) (w := w) (K := K) (T := T) (mg := mg) (base := base) (c := c0) (C := C_Known) (q := true) (d_Known_opened.df X G m_Known.mgC) p_Part p_Node (MetX.mono p_K_entry_of (by decide))
  have p_K_found_row := ok_found_row (P := l.prog) (w := w) (K := K) (T := T) (mg := mg) (base := base) (c := c0) (C := C_Known) (q := true) (d_found_row.df X G) p_Node (MetX.mono p_is_empty (by decide)) (MetX.mono p_K_opened (by decide))
  have p_K_place_of := ok_place_of (P := l.prog) (w := w) (K := K) (T := T) (mg := mg) (base := base) (c := c0) (C := C_Known) (q := true) (d_place_of.df X G) p_Part p_Node (MetX.mono p_is_empty (by decide)) (MetX.mono p_K_opened (by decide))
  have p_K_row_at := ok_row_at (P := l.prog) (w := w) (K := K) (T := T) (mg := mg) (base := base) (c := c0) (C := C_Known) (q := true) (d_row_at.df X G) p_Part p_Node (MetX.mono p_K_opened (by decide))
  have p_K_add_between := ok_add_between (P := l.prog) (w := w) (K := K) (T := T) (mg := mg) (base := base) (c := c0) (C := C_Known) (q := true) (d_add_between.df X G) p_Node (MetX.mono p_is_empty (by decide)) (MetX.mono p_K_opened (by decide)) 13
  have p_is_inside := ok_is_inside (P := l.prog) (w := w) (K := K) (T := T) (mg := mg) (base := base) (d_is_inside.df X G) bi
  have p_K_measured := ok_measured (P := l.prog) (w := w) (K := K) (T := T) (mg := mg) (base := base) (c := c0) (C := C_Known) (q := true) (d_measured.df X G) bi (d_COLUMNS.mg X G) p_Part p_Node (CalD.mono p_is_inside (by decide)) (CalD.mono p_cell (by decide)) (MetX.mono p_is_empty (by decide)) (MetX.mono p_K_opened (by decide)) 13
  have p_K_add_next := ok_add_next (P := l.prog) (w := w) (K := K) (T := T) (mg := mg) (base := base) (c := c0) (C := C_Known) (q := true) (d_add_next.df X G) bi p_Node (MetX.mono p_is_empty (by decide)) (MetX.mono p_K_opened (by decide)) 13
  have p_K_walked := ok_walked (P := l.prog) (w := w) (K := K) (T := T) (mg := mg) (base := base) (c := c0) (C := C_Known) (q := true) (n := 13) (d_walked.df X G) bi (CalX.mono p_K_found_row (by decide)) (CalX.mono p_K_place_of (by decide)) (CalX.mono p_K_row_at (by decide)) (CalX.mono p_K_measured (by decide)) (CalX.mono p_K_add_between (by decide)) (CalX.mono p_K_add_next (by decide))
  have p_answered := ok_answered (P := l.prog) (w := w) (K := K) (T := T) (mg := mg) (base := base) (c := c0) (C := C_Known) (n := 13) (d_answered.df X G) bi (CalD.mono p_tree_of (by decide)) p_Known (fun f hf => ⟨m_Known.cls, m_Known.na f hf⟩) (MetX.mono p_K_root (by decide)) (CalX.mono p_K_walked (by decide))
  have p_Refused := ok_Refused (P := l.prog) (w := w) (K := K) (mg := mg) (base := base) m_Refused
  have p_is_number := ok_is_number (P := l.prog) (w := w) (K := K) (T := T) (mg := mg) (base := base) (d_is_number.df X G) bi
  have p_is_key := ok_is_key (P := l.prog) (w := w) (K := K) (T := T) (mg := mg) (base := base) (d_is_key.df X G) (gn _ (by decide)) bi (d_LETTERS.mg X G)
  have p_is_row := ok_is_row (P := l.prog) (w := w) (K := K) (T := T) (mg := mg) (base := base) (d_is_row.df X G) (gn _ (by decide)) bi (d_COLUMNS.mg X G) (d_MOST_NUMBER.mg X G)
  have p_is_link := ok_is_link (P := l.prog) (w := w) (K := K) (T := T) (mg := mg) (base := base) (d_is_link.df X G) (gn _ (by decide)) bi (d_COLUMNS.mg X G) (CalD.mono p_is_number (by decide))
  have p_is_entry := ok_is_entry (P := l.prog) (w := w) (K := K) (T := T) (mg := mg) (base := base) (d_is_entry.df X G) (gn _ (by decide)) bi (CalD.mono p_is_number (by decide)) (CalD.mono p_is_key (by decide)) (CalD.mono p_is_row (by decide)) (CalD.mono p_is_link (by decide))
  have p_Given := ok_Given (P := l.prog) (w := w) (K := K) (T := T) (mg := mg) (base := base) (C := C_Given) m_Given
  have p_G_entry_of := ok_entry_of_g (P := l.prog) (w := w) (K := K) (T := T) (mg := mg) (base := base) (c := c0) (C := C_Given) (d_Given_entry_of.df X G m_Given.mgC) bi p_Refused (CalD.mono p_is_entry (by decide)) (CalD.mono p_entry_link (by decide)) p_Part (fun f hf => ⟨m_Given.cls, m_Given.na f hf⟩)
  have p_G_root := ok_root_g (P := l.prog) (w := w) (K := K) (T := T) (mg := mg) (base := base) (c := c0) (C := C_Given) (d_Given_root.df X G m_Given.mgC) p_Part
  have p_G_finish := ok_finish (P := l.prog) (w := w) (K := K) (T := T) (mg := mg) (base := base) (c := c0) (C := C_Given) (d_Given_finish.df X G m_Given.mgC) bi p_Refused (fun f hf => ⟨m_Given.cls, m_Given.na f hf⟩)
  have p_G_opened := ok_opened (P := l.prog) (w := w) (K := K) (T := T) (mg := mg) (base := base) (c := c0) (C := C_Given) (q := false) (d_Given_opened.df X G m_Given.mgC) p_Part p_Node (MetX.mono p_G_entry_of (by decide))
  have p_G_found_row := ok_found_row (P := l.prog) (w := w) (K := K) (T := T) (mg := mg) (base := base) (c := c0) (C := C_Given) (q := false) (d_found_row.df X G) p_Node (MetX.mono p_is_empty (by decide)) (MetX.mono p_G_opened (by decide))
  have p_G_place_of := ok_place_of (P := l.prog) (w := w) (K := K) (T := T) (mg := mg) (base := base) (c := c0) (C := C_Given) (q := false) (d_place_of.df X G) p_Part p_Node (MetX.mono p_is_empty (by decide)) (MetX.mono p_G_opened (by decide))
  have p_G_row_at := ok_row_at (P := l.prog) (w := w) (K := K) (T := T) (mg := mg) (base := base) (c := c0) (C := C_Given) (q := false) (d_row_at.df X G) p_Part p_Node (MetX.mono p_G_opened (by decide))
  have p_G_add_between := ok_add_between (P := l.prog) (w := w) (K := K) (T := T) (mg := mg) (base := base) (c := c0) (C := C_Given) (q := false) (d_add_between.df X G) p_Node (MetX.mono p_is_empty (by decide)) (MetX.mono p_G_opened (by decide)) 13
  have p_G_measured := ok_measured (P := l.prog) (w := w) (K := K) (T := T) (mg := mg) (base := base) (c := c0) (C := C_Given) (q := false) (d_measured.df X G) bi (d_COLUMNS.mg X G) p_Part p_Node (CalD.mono p_is_inside (by decide)) (CalD.mono p_cell (by decide)) (MetX.mono p_is_empty (by decide)) (MetX.mono p_G_opened (by decide)) 13
  have p_G_add_next := ok_add_next (P := l.prog) (w := w) (K := K) (T := T) (mg := mg) (base := base) (c := c0) (C := C_Given) (q := false) (d_add_next.df X G) bi p_Node (MetX.mono p_is_empty (by decide)) (MetX.mono p_G_opened (by decide)) 13
  have p_G_walked := ok_walked (P := l.prog) (w := w) (K := K) (T := T) (mg := mg) (base := base) (c := c0) (C := C_Given) (q := false) (n := 13) (d_walked.df X G) bi (CalX.mono p_G_found_row (by decide)) (CalX.mono p_G_place_of (by decide)) (CalX.mono p_G_row_at (by decide)) (CalX.mono p_G_measured (by decide)) (CalX.mono p_G_add_between (by decide)) (CalX.mono p_G_add_next (by decide))
  have p_read := ok_read (P := l.prog) (w := w) (K := K) (T := T) (mg := mg) (base := base) (c := c0) (C := C_Given) (n := 13) (d_read.df X G) bi m_Refused.cat p_Refused p_Given (fun f hf => ⟨m_Given.cls, m_Given.na f hf⟩) (MetX.mono p_G_root (by decide)) (MetX.mono p_G_finish (by decide)) (CalX.mono p_G_walked (by decide))
  have p_l_draw := ok_l_draw (P := l.prog) (w := w) (K := K) (T := T) (mg := mg) (base := base) (d_l_draw.df X G) bi
  have p_l_codes := ok_l_codes (P := l.prog) (w := w) (K := K) (T := T) (mg := mg) (base := base) (d_l_codes.df X G) bi
  have p_l_encode := ok_l_encode (P := l.prog) (w := w) (K := K) (T := T) (mg := mg) (base := base) (d_l_encode.df X G) bi (CalD.mono p_l_codes (by decide)) 8
  have p_l_digest := ok_l_digest (P := l.prog) (w := w) (K := K) (T := T) (mg := mg) (base := base) (d_l_digest.df X G) bi (CalD.mono p_l_encode (by decide))
  have p_l_rule := ok_l_rule (P := l.prog) (w := w) (K := K) (T := T) (mg := mg) (base := base) (d_l_rule.df X G) bi (CalD.mono p_l_draw (by decide))
  have p_l_key := ok_l_key (P := l.prog) (w := w) (K := K) (T := T) (mg := mg) (base := base) (d_l_key.df X G) bi (CalD.mono p_l_draw (by decide))
  have p_l_row := ok_l_row (P := l.prog) (w := w) (K := K) (T := T) (mg := mg) (base := base) (d_l_row.df X G) bi (CalD.mono p_l_draw (by decide))
  have p_l_table := ok_l_table (P := l.prog) (w := w) (K := K) (T := T) (mg := mg) (base := base) (d_l_table.df X G) bi (CalD.mono p_l_draw (by decide)) (CalD.mono p_l_key (by decide)) (CalD.mono p_l_row (by decide))
  have p_l_bound := ok_l_bound (P := l.prog) (w := w) (K := K) (T := T) (mg := mg) (base := base) (d_l_bound.df X G) bi (CalD.mono p_l_draw (by decide)) (CalD.mono p_l_key (by decide))
  have p_l_some_key := ok_l_some_key (P := l.prog) (w := w) (K := K) (T := T) (mg := mg) (base := base) (d_l_some_key.df X G) bi (CalD.mono p_l_draw (by decide)) (CalD.mono p_l_key (by decide))
  have p_l_query := ok_l_query (P := l.prog) (w := w) (K := K) (T := T) (mg := mg) (base := base) (d_l_query.df X G) bi (CalD.mono p_l_draw (by decide)) (CalD.mono p_l_some_key (by decide)) (CalD.mono p_l_bound (by decide))
  have p_l_within := ok_l_within (P := l.prog) (w := w) (K := K) (T := T) (mg := mg) (base := base) (d_l_within.df X G) bi
  have p_l_cell := ok_l_cell (P := l.prog) (w := w) (K := K) (T := T) (mg := mg) (base := base) (d_l_cell.df X G) bi
  have p_l_answer := ok_l_answer (P := l.prog) (w := w) (K := K) (T := T) (mg := mg) (base := base) (d_l_answer.df X G) bi (CalD.mono p_l_within (by decide)) (CalD.mono p_l_cell (by decide))
  have p_l_rank := ok_l_rank (P := l.prog) (w := w) (K := K) (T := T) (mg := mg) (base := base) (d_l_rank.df X G) bi (CalD.mono p_l_codes (by decide))
  have p_l_top := ok_l_top (P := l.prog) (w := w) (K := K) (T := T) (mg := mg) (base := base) (d_l_top.df X G) bi (CalD.mono p_l_rank (by decide))
  have p_l_link := ok_l_link (P := l.prog) (w := w) (K := K) (T := T) (mg := mg) (base := base) (d_l_link.df X G) bi (CalD.mono p_l_cell (by decide)) (CalD.mono p_l_digest (by decide))
  have p_l_tree := ok_l_tree (P := l.prog) (w := w) (K := K) (T := T) (mg := mg) (base := base) (d_l_tree.df X G) bi (CalD.mono p_l_digest (by decide)) (CalD.mono p_l_top (by decide)) (CalD.mono p_l_link (by decide)) 13
  exact ok_law F bi (CalD.mono p_l_rule (by decide)) (CalD.mono p_l_table (by decide)) (CalD.mono p_l_query (by decide)) (CalD.mono p_l_answer (by decide)) (CalD.mono p_l_tree (by decide)) (CalD.mono p_answered (by decide)) (CalD.mono p_read (by decide))
end DL
open PySem PySem.W PyProof.Rows in
set_option maxRecDepth 100000 in
set_option maxHeartbeats 0 in
theorem PySem.Challenge.cw_rightrows_k09_right_certificates_are_tak_holds : PySem.Challenge.rw_rightrows_k09_right_certificates_are_tak.Holds := by
  w_on; o_law; k_head; (case hw => w_witness2)
  k_fill
  refine DL.walk_G (l := PySem.Challenge.rw_rightrows_k09_right_certificates_are_tak) (k := 30) (x := "_law_script") ["is_key", "is_row", "is_link", "is_entry"] rfl rfl ⟨rfl, by decide, by decide⟩ (by decide +kernel) (fun w h Y => PySem.W.kIn_of Y) (fun w => by kernel_rfl) ?F
  case F =>
    intro w mg fa h KX G hmg
    refine' DL.all_mk KX G hmg ?d0 ?d1 ?d2 ?d3 ?d4 ?d5 ?d6 ?d7 ?d8 ?d9 ?d10 ?d11 ?d12 ?d13 ?d14 ?d15 ?d16 ?d17 ?d18 ?d19 ?d20 ?d21 ?d22 ?d23 ?d24 ?d25 ?d26 ?d27 ?d28 ?d29 ?d30 ?d31 ?d32 ?d33 ?d34 ?d35 ?d36 ?d37 ?d38 ?d39 ?d40 ?d41 ?d42 ?d43 ?d44 ?d45 ?d46 ?d47 ?d48 ?d49 ?d50 ?d51 ?d52 ?d53 ?d54 ?d55 ?d56 ?d57 ?d58 ?d59 ?d60 ?bi
    (case d0 => refine' DL.dfin ?a ?l ?c ?k; (case a => k_is); (case l => k_is); (case c => k_is); (case k => k_is))
    (case d1 => refine' DL.dfin ?a ?l ?c ?k; (case a => k_is); (case l => k_is); (case c => k_is); (case k => k_is))
    (case d2 => refine' DL.minI ?a ?b ?c ?d ?e ?l ?k ?g1 ?g2 ?g3 ?g4 ?na; (case a => k_is); (case b => k_is); (case c => k_is); (case d => k_is); (case e => k_is); (case l => k_is); (case k => k_is); (case g1 => k_is); (case g2 => k_is); (case g3 => k_is); (case g4 => k_is); (case na => refine' DL.na_cons ?n2_0 (DL.na_cons ?n2_1 (DL.na_cons ?n2_2 (DL.na_cons ?n2_3 (DL.na_nil)))) <;> k_is))
    (case d3 => refine' DL.dfin ?a ?l ?c ?k; (case a => k_is); (case l => k_is); (case c => k_is); (case k => k_is))
    (case d4 => refine' DL.dfin ?a ?l ?c ?k; (case a => k_is); (case l => k_is); (case c => k_is); (case k => k_is))
    (case d5 => refine' DL.dfin ?a ?l ?c ?k; (case a => k_is); (case l => k_is); (case c => k_is); (case k => k_is))
    (case d6 => refine' DL.dfin ?a ?l ?c ?k; (case a => k_is); (case l => k_is); (case c => k_is); (case k => k_is))
    (case d7 => refine' DL.dfin ?a ?l ?c ?k; (case a => k_is); (case l => k_is); (case c => k_is); (case k => k_is))
    (case d8 => refine' DL.dfin ?a ?l ?c ?k; (case a => k_is); (case l => k_is); (case c => k_is); (case k => k_is))
    (case d9 => refine' DL.dfin ?a ?l ?c ?k; (case a => k_is); (case l => k_is); (case c => k_is); (case k => k_is))
    (case d10 => refine' DL.dfin ?a ?l ?c ?k; (case a => k_is); (case l => k_is); (case c => k_is); (case k => k_is))
    (case d11 => refine' DL.minI ?a ?b ?c ?d ?e ?l ?k ?g1 ?g2 ?g3 ?g4 ?na; (case a => k_is); (case b => k_is); (case c => k_is); (case d => k_is); (case e => k_is); (case l => k_is); (case k => k_is); (case g1 => k_is); (case g2 => k_is); (case g3 => k_is); (case g4 => k_is); (case na => refine' DL.na_cons ?n11_0 (DL.na_cons ?n11_1 (DL.na_cons ?n11_2 (DL.na_nil))) <;> k_is))
    (case d12 => refine' DL.minI ?a ?b ?c ?d ?e ?l ?k ?g1 ?g2 ?g3 ?g4 ?na; (case a => k_is); (case b => k_is); (case c => k_is); (case d => k_is); (case e => k_is); (case l => k_is); (case k => k_is); (case g1 => k_is); (case g2 => k_is); (case g3 => k_is); (case g4 => k_is); (case na => refine' DL.na_cons ?n12_0 (DL.na_cons ?n12_1 (DL.na_cons ?n12_2 (DL.na_cons ?n12_3 (DL.na_nil)))) <;> k_is))
    (case d13 => refine' DL.sbI ?a ?b ?c ?d ?e ?g1 ?g2 ?g3 ?g4 ?na ?lk ?hcd ?hcode ?hvs ?hfile ?hcell ?hD ?hsub ?htop ?hany ?hnx ?hty ?hfi ?l2 ?k2 ?ns; (case a => k_is); (case b => k_is); (case c => k_is); (case d => k_is); (case e => k_is); (case g1 => k_is); (case g2 => k_is); (case g3 => k_is); (case g4 => k_is); (case lk => k_is); (case hcd => k_is); (case hcode => k_is); (case hcell => k_is); (case hD => k_is); (case hsub => k_is); (case hany => k_is); (case hnx => ks_is); (case hty => k_is); (case hfi => k_is); (case l2 => k_is); (case k2 => k_is); (case ns => k_is); (case hvs => rfl); (case hfile => first | rfl | decide +kernel); (case htop => decide +kernel); (case na => refine' DL.na_cons ?n13_0 (DL.na_cons ?n13_1 (DL.na_nil)) <;> k_is))
    (case d14 => refine' DL.mtI ?a ?g1 ?g2 ?g3 ?g4 ?m1 ?m2 ?m3 ?l ?k; (case a => k_is); (case g1 => k_is); (case g2 => k_is); (case g3 => k_is); (case g4 => k_is); (case m1 => k_is); (case m2 => k_is); (case m3 => k_is); (case l => k_is); (case k => k_is))
    (case d15 => refine' DL.mtI ?a ?g1 ?g2 ?g3 ?g4 ?m1 ?m2 ?m3 ?l ?k; (case a => k_is); (case g1 => k_is); (case g2 => k_is); (case g3 => k_is); (case g4 => k_is); (case m1 => k_is); (case m2 => k_is); (case m3 => k_is); (case l => k_is); (case k => k_is))
    (case d16 => refine' DL.mtI ?a ?g1 ?g2 ?g3 ?g4 ?m1 ?m2 ?m3 ?l ?k; (case a => k_is); (case g1 => k_is); (case g2 => k_is); (case g3 => k_is); (case g4 => k_is); (case m1 => k_is); (case m2 => k_is); (case m3 => k_is); (case l => k_is); (case k => k_is))
    (case d17 => refine' DL.mtI ?a ?g1 ?g2 ?g3 ?g4 ?m1 ?m2 ?m3 ?l ?k; (case a => k_is); (case g1 => k_is); (case g2 => k_is); (case g3 => k_is); (case g4 => k_is); (case m1 => k_is); (case m2 => k_is); (case m3 => k_is); (case l => k_is); (case k => k_is))
    (case d18 => refine' DL.dfin ?a ?l ?c ?k; (case a => k_is); (case l => k_is); (case c => k_is); (case k => k_is))
    (case d19 => refine' DL.dfin ?a ?l ?c ?k; (case a => k_is); (case l => k_is); (case c => k_is); (case k => k_is))
    (case d20 => refine' DL.dfin ?a ?l ?c ?k; (case a => k_is); (case l => k_is); (case c => k_is); (case k => k_is))
    (case d21 => refine' DL.dfin ?a ?l ?c ?k; (case a => k_is); (case l => k_is); (case c => k_is); (case k => k_is))
    (case d22 => refine' DL.dfin ?a ?l ?c ?k; (case a => k_is); (case l => k_is); (case c => k_is); (case k => k_is))
    (case d23 => refine' DL.dfin ?a ?l ?c ?k; (case a => k_is); (case l => k_is); (case c => k_is); (case k => k_is))
    (case d24 => refine' DL.dfin ?a ?l ?c ?k; (case a => k_is); (case l => k_is); (case c => k_is); (case k => k_is))
    (case d25 => refine' DL.dfin ?a ?l ?c ?k; (case a => k_is); (case l => k_is); (case c => k_is); (case k => k_is))
    (case d26 => refine' DL.dfin ?a ?l ?c ?k; (case a => k_is); (case l => k_is); (case c => k_is); (case k => k_is))
    (case d27 => refine' DL.reI ?a ?lkC ?rf ?sa ?exC ?tyC ?kC ?iC ?tI ?ga ?gg ?hdC ?sC ?no ?lk ?hcd ?hcode ?hvs ?hfile ?hcell ?hD ?hsub ?htop ?hany ?hnx ?sb ?ns; (case a => k_is); (case lkC => k_is); (case sa => k_is); (case exC => k_is); (case tyC => k_is); (case kC => k_is); (case iC => k_is); (case tI => k_is); (case ga => k_is); (case gg => k_is); (case hdC => k_is); (case sC => k_is); (case lk => k_is); (case hcd => k_is); (case hcode => k_is); (case hcell => k_is); (case hD => k_is); (case hsub => k_is); (case hany => k_is); (case hnx => ks_is); (case sb => k_is); (case ns => k_is); (case rf => decide +kernel); (case hvs => rfl); (case hfile => first | rfl | decide +kernel); (case htop => decide +kernel); (case no => refine' DL.no_cons ?n27_0 (DL.no_cons ?n27_1 (DL.no_nil)) <;> k_is))
    (case d28 => refine' DL.dfin ?a ?l ?c ?k; (case a => k_is); (case l => k_is); (case c => k_is); (case k => k_is))
    (case d29 => refine' DL.dfin ?a ?l ?c ?k; (case a => k_is); (case l => k_is); (case c => k_is); (case k => k_is))
    (case d30 => refine' DL.dfin ?a ?l ?c ?k; (case a => k_is); (case l => k_is); (case c => k_is); (case k => k_is))
    (case d31 => refine' DL.dfin ?a ?l ?c ?k; (case a => k_is); (case l => k_is); (case c => k_is); (case k => k_is))
    (case d32 => refine' DL.dfin ?a ?l ?c ?k; (case a => k_is); (case l => k_is); (case c => k_is); (case k => k_is))
    (case d33 => refine' DL.sbI ?a ?b ?c ?d ?e ?g1 ?g2 ?g3 ?g4 ?na ?lk ?hcd ?hcode ?hvs ?hfile ?hcell ?hD ?hsub ?htop ?hany ?hnx ?hty ?hfi ?l2 ?k2 ?ns; (case a => k_is); (case b => k_is); (case c => k_is); (case d => k_is); (case e => k_is); (case g1 => k_is); (case g2 => k_is); (case g3 => k_is); (case g4 => k_is); (case lk => k_is); (case hcd => k_is); (case hcode => k_is); (case hcell => k_is); (case hD => k_is); (case hsub => k_is); (case hany => k_is); (case hnx => ks_is); (case hty => k_is); (case hfi => k_is); (case l2 => k_is); (case k2 => k_is); (case ns => k_is); (case hvs => rfl); (case hfile => first | rfl | decide +kernel); (case htop => decide +kernel); (case na => refine' DL.na_cons ?n33_0 (DL.na_cons ?n33_1 (DL.na_cons ?n33_2 (DL.na_nil))) <;> k_is))
    (case d34 => refine' DL.mtI ?a ?g1 ?g2 ?g3 ?g4 ?m1 ?m2 ?m3 ?l ?k; (case a => k_is); (case g1 => k_is); (case g2 => k_is); (case g3 => k_is); (case g4 => k_is); (case m1 => k_is); (case m2 => k_is); (case m3 => k_is); (case l => k_is); (case k => k_is))
    (case d35 => refine' DL.mtI ?a ?g1 ?g2 ?g3 ?g4 ?m1 ?m2 ?m3 ?l ?k; (case a => k_is); (case g1 => k_is); (case g2 => k_is); (case g3 => k_is); (case g4 => k_is); (case m1 => k_is); (case m2 => k_is); (case m3 => k_is); (case l => k_is); (case k => k_is))
    (case d36 => refine' DL.mtI ?a ?g1 ?g2 ?g3 ?g4 ?m1 ?m2 ?m3 ?l ?k; (case a => k_is); (case g1 => k_is); (case g2 => k_is); (case g3 => k_is); (case g4 => k_is); (case m1 => k_is); (case m2 => k_is); (case m3 => k_is); (case l => k_is); (case k => k_is))
    (case d37 => refine' DL.mtI ?a ?g1 ?g2 ?g3 ?g4 ?m1 ?m2 ?m3 ?l ?k; (case a => k_is); (case g1 => k_is); (case g2 => k_is); (case g3 => k_is); (case g4 => k_is); (case m1 => k_is); (case m2 => k_is); (case m3 => k_is); (case l => k_is); (case k => k_is))
    (case d38 => refine' DL.dfin ?a ?l ?c ?k; (case a => k_is); (case l => k_is); (case c => k_is); (case k => k_is))
    (case d39 => refine' DL.dfin ?a ?l ?c ?k; (case a => k_is); (case l => k_is); (case c => k_is); (case k => k_is))
    (case d40 => refine' DL.dfin ?a ?l ?c ?k; (case a => k_is); (case l => k_is); (case c => k_is); (case k => k_is))
    (case d41 => refine' DL.dfin ?a ?l ?c ?k; (case a => k_is); (case l => k_is); (case c => k_is); (case k => k_is))
    (case d42 => refine' DL.dfin ?a ?l ?c ?k; (case a => k_is); (case l => k_is); (case c => k_is); (case k => k_is))
    (case d43 => refine' DL.dfin ?a ?l ?c ?k; (case a => k_is); (case l => k_is); (case c => k_is); (case k => k_is))
    (case d44 => refine' DL.dfin ?a ?l ?c ?k; (case a => k_is); (case l => k_is); (case c => k_is); (case k => k_is))
    (case d45 => refine' DL.dfin ?a ?l ?c ?k; (case a => k_is); (case l => k_is); (case c => k_is); (case k => k_is))
    (case d46 => refine' DL.dfin ?a ?l ?c ?k; (case a => k_is); (case l => k_is); (case c => k_is); (case k => k_is))
    (case d47 => refine' DL.dfin ?a ?l ?c ?k; (case a => k_is); (case l => k_is); (case c => k_is); (case k => k_is))
    (case d48 => refine' DL.dfin ?a ?l ?c ?k; (case a => k_is); (case l => k_is); (case c => k_is); (case k => k_is))
    (case d49 => refine' DL.dfin ?a ?l ?c ?k; (case a => k_is); (case l => k_is); (case c => k_is); (case k => k_is))
    (case d50 => refine' DL.dfin ?a ?l ?c ?k; (case a => k_is); (case l => k_is); (case c => k_is); (case k => k_is))
    (case d51 => refine' DL.dfin ?a ?l ?c ?k; (case a => k_is); (case l => k_is); (case c => k_is); (case k => k_is))
    (case d52 => refine' DL.dfin ?a ?l ?c ?k; (case a => k_is); (case l => k_is); (case c => k_is); (case k => k_is))
    (case d53 => refine' DL.dfin ?a ?l ?c ?k; (case a => k_is); (case l => k_is); (case c => k_is); (case k => k_is))
    (case d54 => refine' DL.dfin ?a ?l ?c ?k; (case a => k_is); (case l => k_is); (case c => k_is); (case k => k_is))
    (case d55 => refine' DL.dfin ?a ?l ?c ?k; (case a => k_is); (case l => k_is); (case c => k_is); (case k => k_is))
    (case d56 => refine' DL.dfin ?a ?l ?c ?k; (case a => k_is); (case l => k_is); (case c => k_is); (case k => k_is))
    (case d57 => refine' DL.cin ?h; (case h => k_is))
    (case d58 => refine' DL.cis ?h; (case h => k_is))
    (case d59 => refine' DL.cin ?h; (case h => k_is))
    (case d60 => refine' DL.dfin ?a ?l ?c ?k; (case a => k_is); (case l => k_is); (case c => k_is); (case k => k_is))
    (case bi => refine' ⟨?b0, ?b1, ?b2, ?b3, ?b4, ?b5, ?b6, ?b7, ?b8, ?b9, ?b10, ?b11, ?b12, ?b13, ?b14, ?b15, ?b16, ?b17, ?b18, ?b19⟩ <;> k_is)
#print axioms PySem.Challenge.cw_rightrows_k09_right_certificates_are_tak_holds
