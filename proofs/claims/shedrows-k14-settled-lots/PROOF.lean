import PyProof.Rows.All
import Wide.All
import OpenK.AllK
import Wide.FinOn
import HandS.ForMost
import HandS.ForExc
import HandS.Deep
import HandS.Lambda
import HandS.TupAny
import HandS.Style
import HandS.TupLe
import HandS.TupMul
import HandS.WideBits
import HandS.Gcd
import HandS.Conv
import HandS.RaiseMore
import HandS.TupLen
import HandS.Zip
import HandS.Flow
import HandS.ExcInit
import HandS.IsInst
import HandS.NamedTupSort
import HandS.SortRule
import HandS.SortInts
import HandS.TupSets
import HandS.SetFor
import HandS.Defaults
import HandS.EndTab
import HandS.HeadWalk
import HandS.TryMany
import HandS.ExcField
import HandS.HeadHook4
import HandS.Codes
import HandS.New0
import HandS.More
import PyProof.ReprBulk
import PySem.Challenge.RW_shedrows_k14_settled_lots
import HandS.Head0
import HandS.Head1
import HandS.Head2
import HandS.HeadEnd
import HandS.Head3
set_option Elab.async  false
set_option linter.all  false
set_option maxRecDepth  100000
namespace Sh
open L2 PySem PySem.Spec PyProof.Rows

inductive D where
  | non | bl (b : Bool) | int (i : Int) | str (x : Str) | ty (n : String) | glo (x : Str) | pen
  | tup (l : List D) | lst (l : List D) | dct (t : Bool) (l : List (D × D)) | ins (c : Str) (l : List (Str × D))
  | clo (n : Nat) (l : List D) | lam (n : Nat)

/-- what is fixed for a whole law -/
structure Tx where
  K : PySem.W.Frag
  mg : Str → Option Value
  tb : List (Addr × Str)
  kts : List (List D)
  lo : Nat → Str → Arguments → Expr → Scope → Prop

/-- the pen: its dict, its cells -/
structure Px where
  pen : Addr
  pc : Addr
  ns : List Int
  cl : List (Str × Addr)
  me : Addr := 0

/-- what the written part says of an own class -/
structure ClsF (K : PySem.W.Frag) (C : Addr) : Prop where
  cl : Cls K C
  ha : PySem.W.findIn K (.ref C) "__class__" = some (some (.builtin "object.__class__"))
  hn : PySem.W.specialIn K (.builtin "object.__class__") "__get__" = some (some (.builtin "getset_descriptor.__get__"))
  tk : PySem.W.takesIn K (.builtin "object.__class__") = some true
  mr : PySem.W.mroIn K C (.type "object") = some true

/-- exactly that object -/
def ExO (a : Addr) (o : Obj) : HO := .ext fun h => h.get? a = some o
/-- a function object of the n-th lambda, its cells, its code object -/
def LamAt (T : Tx) (n : Nat) (cl : List (Str × Addr)) (c : Addr) (q : Str) (sc : Scope) (o : Obj) : Prop := ∃ ps body pm ct, T.lo n q ps body sc ∧ o = PySem.W.kla_obj "<lambda>" q ps body sc cl pm c ct
def kD : Key → D
  | .inl i => .int i
  | .inr x => .str x

mutual
inductive Hd (T : Tx) (P : Px) (G : Hp) : D → V → Prop
  | non : Hd T P G .non .non
  | bl (b : Bool) : Hd T P G (.bl b) (.bl b)
  | int (i : Int) : Hd T P G (.int i) (.int i)
  | str (x : Str) : Hd T P G (.str x) (.str x)
  | ty (n : String) : Hd T P G (.ty n) (.ty n)
  | glo {x : Str} {a : Addr} : T.mg x = some (.ref a) → Hd T P G (.glo x) (.ref a)
  | pen : Hd T P G .pen (.ref P.pen)
  | obj {d : D} {a : Addr} {o : HO} : G a = some o → Ho T P G d o → Hd T P G d (.ref a)
  | kt {ds : List D} {a : Addr} {vs : List V} : ds ∈ T.kts → (∀ H, SqT T.K H a vs) → Hl T P G ds vs → Hd T P G (.tup ds) (.ref a)
  | clo {n : Nat} {ds : List D} {a c : Addr} {q : Str} {sc : Scope} {cl : List (Str × Addr)} {o : Obj} : G a = some (ExO a o) → LamAt T n cl c q sc o → G c = some (LamX.CodeO c q) → (cl.map (·.2)).Nodup ∧ (∃ cells, cl = cloFrom cells sc.names []) → Hc T P G ds cl → Hd T P G (.clo n ds) (.ref a)
  | lam {n : Nat} {a c : Addr} {q : Str} {sc : Scope} {cl : List (Str × Addr)} {o : Obj} : G a = some (ExO a o) → LamAt T n cl c q sc o → G c = some (LamX.CodeO c q) → cl = cloFrom P.cl sc.names [] → Hd T P G (.lam n) (.ref a)
inductive Hc (T : Tx) (P : Px) (G : Hp) : List D → List (Str × Addr) → Prop
  | nil : Hc T P G [] []
  | cons {x : Str} {c : Addr} {o : Obj} {u : Value} {v : V} {d : D} {ds : List D} {cl : List (Str × Addr)} : G c = some (ExO c o) → o.data = .cell (some u) → RelV v u → Hd T P G d v → Hc T P G ds cl → Hc T P G (d :: ds) ((x, c) :: cl)
inductive Ho (T : Tx) (P : Px) (G : Hp) : D → HO → Prop
  | tup {ds : List D} {vs : List V} : Hl T P G ds vs → Ho T P G (.tup ds) (.tup vs)
  | lst {ds : List D} {vs : List V} : Hl T P G ds vs → Ho T P G (.lst ds) (.lst vs)
  | dK {l : List (D × D)} {m : List (Key × V)} : Hk T P G l m → Ho T P G (.dct false l) (.dK m)
  | dT {l : List (D × D)} {m : List (List Key × V)} : Ht T P G l m → Ho T P G (.dct true l) (.dT m)
  | ins {c : Str} {C dx : Addr} {fs : List (Str × D)} {gs : List (Str × V)} : T.mg c = some (.ref C) → ClsF T.K C → (∀ f, fs.lookup f ≠ none → NoAttr T.K C f) → Hf T P G fs gs → Ho T P G (.ins c fs) (.ins C dx gs)
inductive Hl (T : Tx) (P : Px) (G : Hp) : List D → List V → Prop
  | nil : Hl T P G [] []
  | cons {d : D} {v : V} {ds : List D} {vs : List V} : Hd T P G d v → Hl T P G ds vs → Hl T P G (d :: ds) (v :: vs)
inductive Hf (T : Tx) (P : Px) (G : Hp) : List (Str × D) → List (Str × V) → Prop
  | nil : Hf T P G [] []
  | cons {f : Str} {d : D} {v : V} {ds : List (Str × D)} {vs : List (Str × V)} : Hd T P G d v → Hf T P G ds vs → Hf T P G ((f, d) :: ds) ((f, v) :: vs)
inductive Hk (T : Tx) (P : Px) (G : Hp) : List (D × D) → List (Key × V) → Prop
  | nil : Hk T P G [] []
  | cons {k : Key} {d : D} {v : V} {ds : List (D × D)} {vs : List (Key × V)} : Hd T P G d v → Hk T P G ds vs → Hk T P G ((kD k, d) :: ds) ((k, v) :: vs)
inductive Ht (T : Tx) (P : Px) (G : Hp) : List (D × D) → List (List Key × V) → Prop
  | nil : Ht T P G [] []
  | cons {k : List Key} {d : D} {v : V} {ds : List (D × D)} {vs : List (List Key × V)} : Hd T P G d v → Ht T P G ds vs → Ht T P G ((.tup (k.map kD), d) :: ds) ((k, v) :: vs)
end

/-- the one heap within the other -/
def Sub (G H : Hp) : Prop := ∀ a o, G a = some o → H a = some o
theorem Sub.refl (G : Hp) : Sub G G := fun _ _ h => h
theorem Sub.trans {A B C : Hp} (h : Sub A B) (k : Sub B C) : Sub A C := fun a o e => k a o (h a o e)
theorem sub_upd {G : Hp} {p : Addr} {o : HO} (h : G p = none) : Sub G (upd G p o) := fun a x e => by
  rw [upd_ne (ne_of_none e h)]; exact e

section
variable {T : Tx} {P : Px} {G G' : Hp}
mutual
theorem Hd.mono (s : Sub G G') : ∀ {d : D} {v : V}, Hd T P G d v → Hd T P G' d v
  | _, _, .non => .non
  | _, _, .bl b => .bl b
  | _, _, .int i => .int i
  | _, _, .str x => .str x
  | _, _, .ty n => .ty n
  | _, _, .glo h => .glo h
  | _, _, .pen => .pen
  | _, _, .obj h k => .obj (s _ _ h) (Ho.mono s k)
  | _, _, .kt m h k => .kt m h (Hl.mono s k)
  | _, _, .clo h l k nd t => .clo (s _ _ h) l (s _ _ k) nd (Hc.mono s t)
  | _, _, .lam h l k t => .lam (s _ _ h) l (s _ _ k) t
theorem Hc.mono (s : Sub G G') : ∀ {d : List D} {v : List (Str × Addr)}, Hc T P G d v → Hc T P G' d v
  | _, _, .nil => .nil
  | _, _, .cons h e r k t => .cons (s _ _ h) e r (Hd.mono s k) (Hc.mono s t)
theorem Ho.mono (s : Sub G G') : ∀ {d : D} {o : HO}, Ho T P G d o → Ho T P G' d o
  | _, _, .tup h => .tup (Hl.mono s h)
  | _, _, .lst h => .lst (Hl.mono s h)
  | _, _, .dK h => .dK (Hk.mono s h)
  | _, _, .dT h => .dT (Ht.mono s h)
  | _, _, .ins e c n h => .ins e c n (Hf.mono s h)
theorem Hl.mono (s : Sub G G') : ∀ {d : List D} {v : List V}, Hl T P G d v → Hl T P G' d v
  | _, _, .nil => .nil
  | _, _, .cons h t => .cons (Hd.mono s h) (Hl.mono s t)
theorem Hf.mono (s : Sub G G') : ∀ {d : List (Str × D)} {v : List (Str × V)}, Hf T P G d v → Hf T P G' d v
  | _, _, .nil => .nil
  | _, _, .cons h t => .cons (Hd.mono s h) (Hf.mono s t)
theorem Hk.mono (s : Sub G G') : ∀ {d : List (D × D)} {v : List (Key × V)}, Hk T P G d v → Hk T P G' d v
  | _, _, .nil => .nil
  | _, _, .cons h t => .cons (Hd.mono s h) (Hk.mono s t)
theorem Ht.mono (s : Sub G G') : ∀ {d : List (D × D)} {v : List (List Key × V)}, Ht T P G d v → Ht T P G' d v
  | _, _, .nil => .nil
  | _, _, .cons h t => .cons (Hd.mono s h) (Ht.mono s t)
end
theorem Hl.length : ∀ {ds : List D} {vs : List V}, Hl T P G ds vs → ds.length = vs.length
  | _, _, .nil => rfl
  | _, _, .cons _ t => congrArg (· + 1) (Hl.length t)
theorem Hl.append : ∀ {ds es : List D} {vs us : List V}, Hl T P G ds vs → Hl T P G es us → Hl T P G (ds ++ es) (vs ++ us)
  | _, _, _, _, .nil, k => k
  | _, _, _, _, .cons h t, k => .cons h (Hl.append t k)
theorem Hl.get : ∀ {ds : List D} {vs : List V} {i : Nat} {d : D}, Hl T P G ds vs → ds[i]? = some d → ∃ v, vs[i]? = some v ∧ Hd T P G d v
  | _, _, _, _, .nil, e => by simp at e
  | _, _, 0, _, .cons h _, e => by simp at e; subst e; exact ⟨_, rfl, h⟩
  | _, _, i + 1, _, .cons _ t, e => by
    obtain ⟨v, h1, h2⟩ := Hl.get (i := i) t (by simpa using e)
    exact ⟨v, by simpa using h1, h2⟩
theorem Hl.take : ∀ {ds : List D} {vs : List V} (n : Nat), Hl T P G ds vs → Hl T P G (ds.take n) (vs.take n)
  | _, _, 0, _ => by simpa using Hl.nil
  | _, _, n + 1, .nil => by simpa using Hl.nil
  | _, _, n + 1, .cons h t => by simpa using Hl.cons h (Hl.take n t)
theorem Hl.drop : ∀ {ds : List D} {vs : List V} (n : Nat), Hl T P G ds vs → Hl T P G (ds.drop n) (vs.drop n)
  | _, _, 0, h => h
  | _, _, n + 1, .nil => by simpa using Hl.nil
  | _, _, n + 1, .cons h t => by simpa using Hl.drop n t
theorem Hl.set {d : D} {v : V} (h : Hd T P G d v) : ∀ {ds : List D} {vs : List V} (n : Nat), Hl T P G ds vs → Hl T P G (ds.set n d) (vs.set n v)
  | _, _, _, .nil => by simpa using Hl.nil
  | _, _, 0, .cons _ t => .cons h t
  | _, _, n + 1, .cons k t => by simpa using Hl.cons k (Hl.set h n t)
theorem Hl.eraseIdx : ∀ {ds : List D} {vs : List V} (n : Nat), Hl T P G ds vs → Hl T P G (ds.eraseIdx n) (vs.eraseIdx n)
  | _, _, _, .nil => by simpa using Hl.nil
  | _, _, 0, .cons _ t => t
  | _, _, n + 1, .cons k t => by simpa using Hl.cons k (Hl.eraseIdx n t)
theorem Hl.reverse {ds : List D} {vs : List V} (h : Hl T P G ds vs) : Hl T P G ds.reverse vs.reverse := by
  have key : ∀ {ds : List D} {vs : List V}, Hl T P G ds vs → ∀ {es : List D} {us : List V}, Hl T P G es us → Hl T P G (ds.reverse ++ es) (vs.reverse ++ us) := by
    intro ds
    induction ds with
    | nil => intro vs h es us k; cases h; simpa using k
    | cons d r ih =>
      intro vs h es us k
      cases h with
      | cons h t => simpa using ih t (.cons h k)
  simpa using key h Hl.nil
theorem Hl.of_get : ∀ {ds : List D} {vs : List V}, ds.length = vs.length → (∀ (i : Nat) (d : D) (v : V), ds[i]? = some d → vs[i]? = some v → Hd T P G d v) → Hl T P G ds vs
  | [], [], _, _ => .nil
  | [], _ :: _, h, _ => by simp at h
  | _ :: _, [], h, _ => by simp at h
  | d :: ds, v :: vs, h, k => .cons (k 0 d v rfl rfl) (Hl.of_get (by simpa using h) fun i d' v' h1 h2 => k (i + 1) d' v' (by simpa using h1) (by simpa using h2))
theorem Hf.lookup {f : Str} {d : D} : ∀ {fs : List (Str × D)} {gs : List (Str × V)}, Hf T P G fs gs → fs.lookup f = some d → ∃ v, gs.lookup f = some v ∧ Hd T P G d v
  | _, _, .nil, e => by simp at e
  | _, _, .cons (f := g) h t, e => by
    simp only [List.lookup_cons] at e ⊢
    cases hb : f == g with
    | true => rw [hb] at e; cases e; exact ⟨_, rfl, h⟩
    | false => rw [hb] at e; exact Hf.lookup t e
theorem Hf.length : ∀ {fs : List (Str × D)} {gs : List (Str × V)}, Hf T P G fs gs → fs.length = gs.length
  | _, _, .nil => rfl
  | _, _, .cons _ t => congrArg (· + 1) (Hf.length t)

def MkO : HO → Prop
  | .lst _ => True
  | .dK _ => True
  | .dT _ => True
  | .ins _ _ _ => True
  | _ => False
/-- a value that stands for d, its own object perhaps not frozen -/
def Av (T : Tx) (P : Px) (G H : Hp) (d : D) (v : V) : Prop := Hd T P G d v ∨ ∃ a o, v = .ref a ∧ H a = some o ∧ MkO o ∧ Ho T P G d o
theorem Av.hd {G H : Hp} {d : D} {v : V} (h : Av T P G H d v) (n : ∀ o, MkO o → ¬ Ho T P G d o) : Hd T P G d v := h.elim id fun ⟨_, o, _, _, m, k⟩ => absurd k (n o m)
theorem Av.tupH {G H : Hp} {l : List D} {v : V} (h : Av T P G H (.tup l) v) : Hd T P G (.tup l) v := h.hd fun o m k => by cases k; exact m
variable {H : Hp} {a : Addr} {v : V}
theorem Av.mono (s : Sub G G') {d : D} (h : Av T P G H d v) : Av T P G' H d v := h.elim (fun h => .inl (h.mono s)) fun ⟨a, o, e, h, m, k⟩ => .inr ⟨a, o, e, h, m, k.mono s⟩
theorem Av.tup (s : Sub G H) {ds : List D} (h : Av T P G H (.tup ds) v) : ∃ a vs, v = .ref a ∧ SqT T.K H a vs ∧ Hl T P G ds vs := by
  rcases h with h | ⟨a, o, e, h, m, k⟩
  · cases h with
    | obj h k => cases k with | tup k => exact ⟨_, _, rfl, SqT.of (s _ _ h), k⟩
    | kt m h k => exact ⟨_, _, rfl, h H, k⟩
  · cases k with | tup k => exact ⟨_, _, e, SqT.of h, k⟩
theorem Av.lst (s : Sub G H) {ds : List D} (h : Av T P G H (.lst ds) v) : ∃ a vs, v = .ref a ∧ H a = some (.lst vs) ∧ Hl T P G ds vs := by
  rcases h with h | ⟨a, o, e, h, m, k⟩
  · cases h with
    | obj h k => cases k with | lst k => exact ⟨_, _, rfl, s _ _ h, k⟩
  · cases k with | lst k => exact ⟨_, _, e, h, k⟩
theorem Av.ins (s : Sub G H) {c : Str} {fs : List (Str × D)} (h : Av T P G H (.ins c fs) v) : ∃ a C dx gs, v = .ref a ∧ H a = some (.ins C dx gs) ∧ T.mg c = some (.ref C) ∧ ClsF T.K C ∧ (∀ f, fs.lookup f ≠ none → NoAttr T.K C f) ∧ Hf T P G fs gs := by
  rcases h with h | ⟨a, o, e, h, m, k⟩
  · cases h with
    | obj h k => cases k with | ins e c n k => exact ⟨_, _, _, _, rfl, s _ _ h, e, c, n, k⟩
  · cases k with | ins e' c n k => exact ⟨_, _, _, _, e, h, e', c, n, k⟩
theorem Av.dct (s : Sub G H) {t : Bool} {l : List (D × D)} (h : Av T P G H (.dct t l) v) : ∃ a o, v = .ref a ∧ H a = some o ∧ Ho T P G (.dct t l) o := by
  rcases h with h | ⟨a, o, e, h, m, k⟩
  · cases h with
    | obj h k => exact ⟨_, _, rfl, s _ _ h, k⟩
  · exact ⟨a, o, e, h, k⟩
theorem Av.int_ {i : Int} (h : Av T P G H (.int i) v) : v = .int i := by
  rcases h with h | ⟨a, o, e, h, m, k⟩
  · cases h with
    | int => rfl
    | obj _ k => cases k
  · cases k
theorem Av.bl_ {i : Bool} (h : Av T P G H (.bl i) v) : v = .bl i := by
  rcases h with h | ⟨a, o, e, h, m, k⟩
  · cases h with
    | bl => rfl
    | obj _ k => cases k
  · cases k
theorem Av.str_ {i : Str} (h : Av T P G H (.str i) v) : v = .str i := by
  rcases h with h | ⟨a, o, e, h, m, k⟩
  · cases h with
    | str => rfl
    | obj _ k => cases k
  · cases k
theorem Av.non_ (h : Av T P G H .non v) : v = .non := by
  rcases h with h | ⟨a, o, e, h, m, k⟩
  · cases h with
    | non => rfl
    | obj _ k => cases k
  · cases k
theorem Av.ty_ {n : String} (h : Av T P G H (.ty n) v) : v = .ty n := by
  rcases h with h | ⟨a, o, e, h, m, k⟩
  · cases h with
    | ty => rfl
    | obj _ k => cases k
  · cases k
theorem Av.glo_ {x : Str} (h : Av T P G H (.glo x) v) : ∃ a, T.mg x = some (.ref a) ∧ v = .ref a := by
  rcases h with h | ⟨a, o, e, h, m, k⟩
  · cases h with
    | glo h => exact ⟨_, h, rfl⟩
    | obj _ k => cases k
  · cases k
theorem Av.pen_ (h : Av T P G H .pen v) : v = .ref P.pen := by
  rcases h with h | ⟨a, o, e, h, m, k⟩
  · cases h with
    | pen => rfl
    | obj _ k => cases k
  · cases k
end

mutual
def D.py : D → Option PyData
  | .non => some .none
  | .bl b => some (.bool b)
  | .int i => some (.int i)
  | .str x => some (.str x)
  | .tup l => (pyL l).map .tuple
  | .lst l => (pyL l).map .list
  | _ => none
def pyL : List D → Option (List PyData)
  | [] => some []
  | d :: r => d.py.bind fun p => (pyL r).map fun q => p :: q
end
section
variable {T : Tx} {P : Px} {G H : Hp}
mutual
theorem Hd.dp (s : Sub G H) : ∀ {d : D} {v : V} {p : PyData}, Hd T P G d v → d.py = some p → Dp T.K H v p
  | _, _, _, .non, e => by simp only [D.py, Option.some.injEq] at e; subst e; exact .non
  | _, _, _, .bl b, e => by simp only [D.py, Option.some.injEq] at e; subst e; exact .bl b
  | _, _, _, .int b, e => by simp only [D.py, Option.some.injEq] at e; subst e; exact .int b
  | _, _, _, .str b, e => by simp only [D.py, Option.some.injEq] at e; subst e; exact .str b
  | _, _, _, .ty _, e => by simp [D.py] at e
  | _, _, _, .glo _, e => by simp [D.py] at e
  | _, _, _, .pen, e => by simp [D.py] at e
  | _, _, _, .obj h k, e => Ho.dp s k e (s _ _ h)
  | _, _, _, .kt m h k, e => by
    simp only [D.py, Option.map_eq_some_iff] at e
    obtain ⟨q, e1, rfl⟩ := e
    exact .tup (h H) (Hl.dp s k e1)
  | _, _, _, .clo _ _ _ _ _, e => by simp [D.py] at e
  | _, _, _, .lam _ _ _ _, e => by simp [D.py] at e
theorem Ho.dp (s : Sub G H) : ∀ {d : D} {o : HO} {p : PyData} {a : Addr}, Ho T P G d o → d.py = some p → H a = some o → Dp T.K H (.ref a) p
  | _, _, _, _, .tup k, e, h => by
    simp only [D.py, Option.map_eq_some_iff] at e
    obtain ⟨q, e1, rfl⟩ := e
    exact .tup (SqT.of h) (Hl.dp s k e1)
  | _, _, _, _, .lst k, e, h => by
    simp only [D.py, Option.map_eq_some_iff] at e
    obtain ⟨q, e1, rfl⟩ := e
    exact .lst (SqL.of h) (Hl.dp s k e1)
  | _, _, _, _, .dK _, e, _ => by simp [D.py] at e
  | _, _, _, _, .dT _, e, _ => by simp [D.py] at e
  | _, _, _, _, .ins _ _ _ _, e, _ => by simp [D.py] at e
theorem Hl.dp (s : Sub G H) : ∀ {ds : List D} {vs : List V} {ps : List PyData}, Hl T P G ds vs → pyL ds = some ps → DpAll T.K H vs ps
  | _, _, _, .nil, e => by simp only [pyL, Option.some.injEq] at e; subst e; exact .nil
  | _, _, _, .cons h t, e => by
    simp only [pyL, Option.bind_eq_some_iff, Option.map_eq_some_iff] at e
    obtain ⟨p, e1, q, e2, rfl⟩ := e
    exact .cons (Hd.dp s h e1) (Hl.dp s t e2)
end
theorem Av.dp (s : Sub G H) {d : D} {v : V} {p : PyData} (h : Av T P G H d v) (e : d.py = some p) : Dp T.K H v p := by
  rcases h with h | ⟨a, o, rfl, h, m, k⟩
  · exact h.dp s e
  · exact k.dp s e h
end
end Sh
namespace Sh
open L2 PySem PySem.Spec PyProof.Rows

inductive Sv where
  | no | sh (d : D) | ow (d : D) | me
structure En where
  ρ : List Sv
  b : Nat
inductive Rs where
  | val (d : D) | tmp (d : D) | slt (i : Nat)
/-- an exception: its class's name, its fields -/
structure Xc where
  c : Str
  fs : List (Str × D)

def NT (o : HO) : Prop := ∀ ps, o ≠ .tbl ps
def penH (P : Px) (at_ dg ct fo : Int) : HO := .dK [(.inr "cells", .ref P.pc), (.inr "at", .int at_), (.inr "digits", .int dg), (.inr "count", .int ct), (.inr "fold", .int fo)]
/-- the pen's dict; b: how many draws are yet allowed -/
def PenOk (P : Px) (b : Nat) (H : Hp) : Prop := ∃ at_ dg ct fo : Int, H P.pen = some (penH P at_ dg ct fo) ∧ (0 ≤ at_ ∧ at_ ≤ P.ns.length) ∧ 0 ≤ dg ∧ (0 ≤ ct ∧ ct + b ≤ 2 ^ 40) ∧ (0 ≤ fo ∧ fo < 2147483171)

/-- what is fixed for a def's run: the frozen heap and the heap at its entry, the pen -/
structure Bs where
  G0 : Hp
  H0 : Hp
  P : Px

theorem MkO.nt {o : HO} (h : MkO o) : NT o := fun ps e => by subst e; exact h
theorem MkO.mut {o : HO} (h : MkO o) : Mut (some o) := by cases o <;> first | trivial | exact h.elim

/-- an object that nothing frozen reaches, younger than the entry -/
structure OwnA (B : Bs) (G : Hp) (a : Addr) : Prop where
  g : G a = none
  h : B.H0 a = none
structure OwnO (T : Tx) (B : Bs) (G H : Hp) (d : D) (a : Addr) (o : HO) : Prop where
  own : OwnA B G a
  at_ : H a = some o
  mo : MkO o
  ho : Ho T B.P G d o
def SlotOk (T : Tx) (B : Bs) (G : Hp) (σ : L2.St) (H : Hp) (i : Nat) : Sv → Prop
  | .no => True
  | .sh d => ∃ v, σ[i]? = some (some v) ∧ Hd T B.P G d v
  | .ow d => ∃ a o, σ[i]? = some (some (.ref a)) ∧ OwnO T B G H d a o
  | .me => σ[i]? = some (some (.ref B.P.me))
/-- the modules' dict is none of ours -/
def SysM (H : Hp) : Prop := ∃ o u, H sysModules = some (.frz o u)
structure BOk (T : Tx) (B : Bs) : Prop where
  g0 : Sub B.G0 B.H0
  pen : B.H0 B.P.pen ≠ none
  gpen : B.G0 B.P.pen = none
  pc : B.H0 B.P.pc = some (.lst (B.P.ns.map V.int))
  pne : B.P.pc ≠ B.P.pen
  tab : ∀ p ∈ T.tb, B.H0 p.1 ≠ none ∧ p.1 ≠ B.P.pen ∧ p.1 ≠ B.P.pc ∧ B.G0 p.1 = none
  sm : SysM B.H0
  smp : sysModules ≠ B.P.pen

/-- the tables of code objects; the code objects are frozen -/
def TabF (tb : List (Addr × Str)) (G H : Hp) : Prop := ∀ p ∈ tb, ∃ ps : Array Value, H p.1 = some (.tbl ps) ∧ TriplesOk ps.toList ∧ ∀ (pos : Pos) (cv : Value), codeAmong pos ps.toList = some cv → ∃ c, cv = .ref c ∧ G c = some (LamX.CodeO c p.2)
theorem TabF.keep {tb : List (Addr × Str)} {G G' H H' : Hp} (t : TabF tb G H) (s : Sub G G') (k : ∀ p ∈ tb, H' p.1 = H p.1) : TabF tb G' H' := fun p hp => by
  obtain ⟨ps, h1, h2, h3⟩ := t p hp
  refine ⟨ps, (k p hp).trans h1, h2, fun pos cv h => ?_⟩
  obtain ⟨c, e, g⟩ := h3 pos cv h
  exact ⟨c, e, s _ _ g⟩
theorem TabF.grow {tb : List (Addr × Str)} {G G' H H' : Hp} (t : TabF tb G H) (s : Sub G G') (k : Sub H H') : TabF tb G' H' := t.keep s fun p hp => by
  obtain ⟨ps, h1, _⟩ := t p hp
  rw [h1]; exact k _ _ h1
structure Rep (T : Tx) (B : Bs) (n : En) (τ : List (Addr × HO)) (G : Hp) (σ : L2.St) (H : Hp) : Prop where
  bok : BOk T B
  sub : Sub G H
  ext : ∀ a o, B.H0 a = some o → a ≠ B.P.pen → NT o → H a = some o
  dom : ∀ a, B.H0 a ≠ none → H a ≠ none
  g0 : Sub B.G0 G
  new : ∀ a, G a ≠ none → B.G0 a ≠ none ∨ B.H0 a = none
  nt : ∀ a o, G a = some o → NT o
  pen : PenOk B.P n.b H
  tabs : TabF T.tb G H
  len : σ.length = n.ρ.length
  slot : ∀ (i : Nat) (s : Sv), n.ρ[i]? = some s → SlotOk T B G σ H i s
  apart : ∀ (i j : Nat) (d e : D) (a : Addr), n.ρ[i]? = some (.ow d) → n.ρ[j]? = some (.ow e) → σ[i]? = some (some (.ref a)) → σ[j]? = some (some (.ref a)) → i = j
  tmp : ∀ p ∈ τ, H p.1 = some p.2 ∧ MkO p.2 ∧ OwnA B G p.1 ∧ ∀ (i : Nat) (d : D), n.ρ[i]? = some (.ow d) → σ[i]? ≠ some (some (.ref p.1))

section
variable {T : Tx} {B : Bs} {n : En} {τ : List (Addr × HO)} {G : Hp} {σ : L2.St} {H : Hp}
theorem Rep.gpen (R : Rep T B n τ G σ H) : G B.P.pen = none := by
  cases e : G B.P.pen with
  | none => rfl
  | some o =>
    rcases R.new _ (by rw [e]; simp) with h | h
    · exact absurd R.bok.gpen h
    · exact absurd h R.bok.pen
theorem Rep.pc (R : Rep T B n τ G σ H) : H B.P.pc = some (.lst (B.P.ns.map V.int)) := R.ext _ _ R.bok.pc R.bok.pne fun ps => nofun
theorem Rep.sysM (R : Rep T B n τ G σ H) : SysM H := by
  obtain ⟨o, u, h⟩ := R.bok.sm
  exact ⟨o, u, R.ext _ _ h R.bok.smp fun ps z => by cases z⟩
theorem Rep.fresh (R : Rep T B n τ G σ H) {p : Addr} (h : H p = none) : OwnA B G p := by
  refine ⟨?_, ?_⟩
  · cases e : G p with
    | none => rfl
    | some o => rw [R.sub _ _ e] at h; cases h
  · cases e : B.H0 p with
    | none => rfl
    | some o => exact absurd h (R.dom p (by rw [e]; simp))
theorem OwnA.ne_pen {a : Addr} (h : OwnA B G a) (b : BOk T B) : a ≠ B.P.pen := fun e => b.pen (e ▸ h.h)
theorem OwnA.ne_pc {a : Addr} (h : OwnA B G a) (b : BOk T B) : a ≠ B.P.pc := fun e => by
  have := h.h; rw [e, b.pc] at this; cases this
theorem OwnA.ne_tab {a : Addr} (h : OwnA B G a) (b : BOk T B) : ∀ p ∈ T.tb, a ≠ p.1 := fun p hp e => (b.tab p hp).1 (e ▸ h.h)
theorem codeO_not {c : Addr} {q : Str} {o : HO} (h : MkO o) : o ≠ LamX.CodeO c q := fun e => by
  unfold LamX.CodeO at e
  subst e
  exact h

/-- a new object is laid -/
theorem Rep.laid (R : Rep T B n τ G σ H) {p : Addr} (o : HO) (hp : H p = none) : Rep T B n τ G σ (upd H p o) := by
  have sb : Sub H (upd H p o) := sub_upd hp
  have ne : ∀ {a o}, H a = some o → a ≠ p := fun e => ne_of_none e hp
  refine ⟨R.bok, R.sub.trans sb, fun a o h1 h2 h3 => sb _ _ (R.ext a o h1 h2 h3), fun a h => ?_, R.g0, R.new, R.nt, ?_, R.tabs.grow (.refl _) sb, R.len, fun i s e => ?_, R.apart, fun q hq => ?_⟩
  · unfold upd
    split
    · simp
    · exact R.dom a h
  · obtain ⟨a1, a2, a3, a4, h1, h2⟩ := R.pen
    exact ⟨a1, a2, a3, a4, sb _ _ h1, h2⟩
  · have k := R.slot i s e
    cases s with
    | no => trivial
    | me => exact k
    | sh d => exact k
    | ow d =>
      obtain ⟨a, o, h1, h2, h3, h4, h5⟩ := k
      exact ⟨a, o, h1, h2, sb _ _ h3, h4, h5⟩
  · obtain ⟨h1, h2, h3, h4⟩ := R.tmp q hq
    exact ⟨sb _ _ h1, h2, h3, h4⟩
/-- the frozen heap grows by an object that nothing owns -/
theorem Rep.frozen (R : Rep T B n τ G σ H) {p : Addr} {o : HO} (hp : H p = some o) (hn : NT o) (own : OwnA B G p) (h1 : ∀ (i : Nat) (d : D), n.ρ[i]? = some (.ow d) → σ[i]? ≠ some (some (.ref p))) (h2 : ∀ q ∈ τ, q.1 ≠ p) :
    Rep T B n τ (upd G p o) σ H := by
  have sb : Sub G (upd G p o) := sub_upd own.g
  have keep : ∀ {a}, OwnA B G a → a ≠ p → OwnA B (upd G p o) a := fun h e => ⟨by rw [upd_ne e]; exact h.g, h.h⟩
  refine ⟨R.bok, fun a x e => ?_, R.ext, R.dom, R.g0.trans sb, fun a e => ?_, fun a x e => ?_, R.pen, R.tabs.grow sb (.refl _), R.len, fun i s e => ?_, R.apart, fun q hq => ?_⟩
  · by_cases h : a = p
    · subst h; rw [upd_same] at e; cases e; exact hp
    · rw [upd_ne h] at e; exact R.sub _ _ e
  · by_cases h : a = p
    · subst h; exact .inr own.h
    · rw [upd_ne h] at e; exact R.new _ e
  · by_cases h : a = p
    · subst h; rw [upd_same] at e; cases e; exact hn
    · rw [upd_ne h] at e; exact R.nt _ _ e
  · have k := R.slot i s e
    cases s with
    | no => trivial
    | me => exact k
    | sh d =>
      obtain ⟨v, e1, e2⟩ := k
      exact ⟨v, e1, e2.mono sb⟩
    | ow d =>
      obtain ⟨a, x, e1, e2⟩ := k
      have : a ≠ p := fun z => h1 i d e (z ▸ e1)
      exact ⟨a, x, e1, keep e2.own this, e2.at_, e2.mo, e2.ho.mono sb⟩
  · obtain ⟨k1, k2, k3, k4⟩ := R.tmp q hq
    exact ⟨k1, k2, keep k3 (h2 q hq), k4⟩
/-- no slot owns what is new -/
theorem Rep.slot_ne (R : Rep T B n τ G σ H) {p : Addr} (hp : H p = none) (i : Nat) (d : D) (e : n.ρ[i]? = some (.ow d)) : σ[i]? ≠ some (some (.ref p)) := fun z => by
  obtain ⟨a, o, e1, e2⟩ := R.slot i _ e
  rw [e1] at z
  cases z
  rw [e2.at_] at hp; cases hp
theorem Rep.tmp_ne (R : Rep T B n τ G σ H) {p : Addr} (hp : H p = none) : ∀ q ∈ τ, q.1 ≠ p := fun q hq z => by
  have := (R.tmp q hq).1
  rw [z, hp] at this; cases this
/-- a new object, frozen at once -/
theorem Rep.laidF (R : Rep T B n τ G σ H) {p : Addr} {o : HO} (hp : H p = none) (hn : NT o) : Rep T B n τ (upd G p o) σ (upd H p o) :=
  (R.laid o hp).frozen upd_same hn (R.fresh hp) (R.slot_ne hp) (R.tmp_ne hp)
/-- more that is kept aside -/
theorem Rep.push (R : Rep T B n τ G σ H) {a : Addr} {o : HO} (h : H a = some o) (mk : MkO o) (own : OwnA B G a) (k : ∀ (i : Nat) (d : D), n.ρ[i]? = some (.ow d) → σ[i]? ≠ some (some (.ref a))) : Rep T B n ((a, o) :: τ) G σ H :=
  ⟨R.bok, R.sub, R.ext, R.dom, R.g0, R.new, R.nt, R.pen, R.tabs, R.len, R.slot, R.apart, fun p hp => (List.mem_cons.mp hp).elim (fun e => by subst e; exact ⟨h, mk, own, k⟩) (R.tmp p)⟩
theorem Rep.sel (R : Rep T B n τ G σ H) {τ' : List (Addr × HO)} (h : ∀ p ∈ τ', p ∈ τ) : Rep T B n τ' G σ H :=
  ⟨R.bok, R.sub, R.ext, R.dom, R.g0, R.new, R.nt, R.pen, R.tabs, R.len, R.slot, R.apart, fun p hp => R.tmp p (h p hp)⟩
theorem Rep.pop {p : Addr × HO} (R : Rep T B n (p :: τ) G σ H) : Rep T B n τ G σ H := R.sel fun _ h => List.mem_cons_of_mem _ h
end

/-- a result and the value that stands for it -/
def ResOk (T : Tx) (B : Bs) (n : En) (τ : List (Addr × HO)) (G : Hp) (σ : L2.St) (H : Hp) : Rs → V → Prop
  | .val d, v => Hd T B.P G d v
  | .tmp d, v => ∃ a o, v = .ref a ∧ OwnO T B G H d a o ∧ (∀ q ∈ τ, q.1 ≠ a) ∧ ∀ (i : Nat) (d : D), n.ρ[i]? = some (.ow d) → σ[i]? ≠ some (some (.ref a))
  | .slt i, v => σ[i]? = some (some v)

/-- what a result holds now -/
def fet (n : En) : Rs → Option D
  | .val d => some d
  | .tmp d => some d
  | .slt i => match n.ρ[i]? with
    | some (.sh d) => some d
    | some (.ow d) => some d
    | _ => none
/-- a result as a value that may be kept: what was owned is frozen -/
def frz (n : En) (r : Rs) (K : D → En → Prop) : Prop := match r with
  | .val d => K d n
  | .tmp d => K d n
  | .slt i => match n.ρ[i]? with
    | some (.sh d) => K d n
    | some (.ow d) => K d { n with ρ := n.ρ.set i (.sh d) }
    | _ => False

abbrev KE := Rs → En → Prop
abbrev TD := En → KE → Prop

section
variable {T : Tx} {B : Bs} {n : En} {τ : List (Addr × HO)} {G : Hp} {σ : L2.St} {H : Hp}
/-- the owner of slot i gives it up -/
theorem Rep.yield (R : Rep T B n τ G σ H) {i : Nat} {d : D} (e : n.ρ[i]? = some (.ow d)) : ∃ a o G', σ[i]? = some (some (.ref a)) ∧ G' = upd G a o ∧ G a = none ∧ Sub G G' ∧ Rep T B { n with ρ := n.ρ.set i (.sh d) } τ G' σ H ∧ Hd T B.P G' d (.ref a) := by
  obtain ⟨a, o, e1, k⟩ := R.slot i _ e
  have sb : Sub G (upd G a o) := sub_upd k.own.g
  have hi : i < n.ρ.length := by
    rw [List.getElem?_eq_some_iff] at e; exact e.1
  refine ⟨a, o, _, e1, rfl, k.own.g, sb, ?_, .obj upd_same (k.ho.mono sb)⟩
  have oth : ∀ (j : Nat) (d' : D), (n.ρ.set i (.sh d))[j]? = some (.ow d') → j ≠ i ∧ n.ρ[j]? = some (.ow d') := fun j d' h => by
    by_cases hj : j = i
    · subst hj; rw [List.getElem?_set_self hi] at h; cases h
    · rw [List.getElem?_set_ne (Ne.symm hj)] at h; exact ⟨hj, h⟩
  have R1 : Rep T B { n with ρ := n.ρ.set i (.no) } τ G σ H := by
    have oth : ∀ (j : Nat) (s : Sv), (n.ρ.set i (.no))[j]? = some s → s ≠ .no → j ≠ i ∧ n.ρ[j]? = some s := fun j s h ns => by
      by_cases hj : j = i
      · subst hj; rw [List.getElem?_set_self hi] at h; cases h; exact absurd rfl ns
      · rw [List.getElem?_set_ne (Ne.symm hj)] at h; exact ⟨hj, h⟩
    refine ⟨R.bok, R.sub, R.ext, R.dom, R.g0, R.new, R.nt, R.pen, R.tabs, by rw [List.length_set]; exact R.len, fun j s h => ?_, fun j k d e a h1 h2 => R.apart j k d e a (oth j _ h1 nofun).2 (oth k _ h2 nofun).2, fun p hp => ?_⟩
    · cases s with
      | no => trivial
      | me => exact R.slot j _ (oth j _ h nofun).2
      | sh d' => exact R.slot j _ (oth j _ h nofun).2
      | ow d' => exact R.slot j _ (oth j _ h nofun).2
    · obtain ⟨h1, h2, h3, h4⟩ := R.tmp p hp
      exact ⟨h1, h2, h3, fun j d' h => h4 j d' (oth j _ h nofun).2⟩
  have R2 := R1.frozen (p := a) (o := o) k.at_ k.mo.nt k.own (fun j d' h z => by
    have h' : n.ρ[j]? = some (.ow d') ∧ j ≠ i := by
      by_cases hj : j = i
      · subst hj
        have h : (n.ρ.set j (.no))[j]? = some (.ow d') := h
        rw [List.getElem?_set_self hi] at h; cases h
      · have h : (n.ρ.set i (.no))[j]? = some (.ow d') := h
        rw [List.getElem?_set_ne (Ne.symm hj)] at h; exact ⟨h, hj⟩
    exact h'.2 (R.apart j i d' d a h'.1 e z e1)) (fun q hq z => by
    have := (R.tmp q hq).2.2.2 i d e
    rw [z] at this
    exact this e1)
  refine ⟨R2.bok, R2.sub, R2.ext, R2.dom, R2.g0, R2.new, R2.nt, R2.pen, R2.tabs, by rw [List.length_set]; exact R.len, fun j s h => ?_, fun j k' d1 d2 b h1 h2 => R.apart j k' d1 d2 b (oth j _ h1).2 (oth k' _ h2).2, fun p hp => ?_⟩
  · by_cases hj : j = i
    · subst hj
      have h : (n.ρ.set j (.sh d))[j]? = some s := h
      rw [List.getElem?_set_self hi] at h
      cases h
      exact ⟨_, e1, .obj upd_same (k.ho.mono sb)⟩
    · refine R2.slot j s ?_
      have h : (n.ρ.set i (.sh d))[j]? = some s := h
      rw [List.getElem?_set_ne (Ne.symm hj)] at h
      show (n.ρ.set i (.no))[j]? = some s
      rw [List.getElem?_set_ne (Ne.symm hj)]; exact h
  · obtain ⟨h1, h2, h3, h4⟩ := R2.tmp p hp
    refine ⟨h1, h2, h3, fun j d' h => h4 j d' ?_⟩
    obtain ⟨hj, h⟩ := oth j d' h
    show (n.ρ.set i (.no))[j]? = some (.ow d')
    rw [List.getElem?_set_ne (Ne.symm hj)]; exact h

/-- what a result holds stands there, whatever was read behind it -/
theorem Rep.fet_av (R : Rep T B n τ G σ H) {r : Rs} {v : V} {d : D} (h : ResOk T B n τ G σ H r v) (e : fet n r = some d) : Av T B.P G H d v := by
  cases r with
  | val d' => cases e; exact .inl h
  | tmp d' =>
    cases e
    obtain ⟨a, o, rfl, k, _⟩ := h
    exact .inr ⟨a, o, rfl, k.at_, k.mo, k.ho⟩
  | slt i =>
    have h1 : σ[i]? = some (some v) := h
    have e : (match n.ρ[i]? with | some (.sh d) => some d | some (.ow d) => some d | _ => none) = some d := e
    cases h2 : n.ρ[i]? with
    | none => rw [h2] at e; cases e
    | some s =>
      rw [h2] at e
      have k := R.slot i s h2
      cases s with
      | no => cases e
      | me => cases e
      | sh d' =>
        cases e
        obtain ⟨v', e1, k⟩ := k
        rw [h1] at e1; cases e1
        exact .inl k
      | ow d' =>
        cases e
        obtain ⟨a, o, e1, k⟩ := k
        rw [h1] at e1; cases e1
        exact .inr ⟨a, o, rfl, k.at_, k.mo, k.ho⟩
theorem frz_ok (R : Rep T B n τ G σ H) {r : Rs} {v : V} {K : D → En → Prop} (h : ResOk T B n τ G σ H r v) (q : frz n r K) :
    ∃ d n' G', Sub G G' ∧ Rep T B n' τ G' σ H ∧ Hd T B.P G' d v ∧ K d n' := by
  cases r with
  | val d => exact ⟨d, n, G, .refl G, R, h, q⟩
  | tmp d =>
    obtain ⟨a, o, rfl, k, h1, h2⟩ := h
    have sb : Sub G (upd G a o) := sub_upd k.own.g
    exact ⟨d, n, _, sb, R.frozen k.at_ k.mo.nt k.own h2 h1, .obj upd_same (k.ho.mono sb), q⟩
  | slt i =>
    have h1 : σ[i]? = some (some v) := h
    have q : (match n.ρ[i]? with | some (.sh d) => K d n | some (.ow d) => K d { n with ρ := n.ρ.set i (.sh d) } | _ => False) := q
    cases h2 : n.ρ[i]? with
    | none => rw [h2] at q; exact q.elim
    | some s =>
      rw [h2] at q
      cases s with
      | no => exact q.elim
      | me => exact q.elim
      | sh d =>
        obtain ⟨v', e1, k⟩ := R.slot i _ h2
        rw [h1] at e1; cases e1
        exact ⟨d, n, G, .refl G, R, k, q⟩
      | ow d =>
        obtain ⟨a, o, G', e1, _, _, sb, R', hd⟩ := R.yield h2
        rw [h1] at e1
        cases e1
        exact ⟨d, _, G', sb, R', hd, q⟩
end

/-- a data reading as a reading of the hand layer -/
def up (T : Tx) (B : Bs) (t : TD) : TE := fun σ H Q => ∃ n τ G K, Rep T B n τ G σ H ∧ t n K ∧ ∀ r n' v H' G', Rep T B n' τ G' σ H' → Sub G G' → ResOk T B n' τ G' σ H' r v → K r n' → Q v H'
/-- .. of a test -/
abbrev TDt := En → (Bool → En → Prop) → Prop
def upT (T : Tx) (B : Bs) (t : TDt) : TT := fun σ H Q => ∃ n τ G K, Rep T B n τ G σ H ∧ t n K ∧ ∀ b n' H' G', Rep T B n' τ G' σ H' → Sub G G' → K b n' → Q b H'
/-- .. of arguments, all of them frozen -/
abbrev TDa := En → (List D → En → Prop) → Prop
def upA (T : Tx) (B : Bs) (t : TDa) : TA := fun σ H Q => ∃ n τ G K, Rep T B n τ G σ H ∧ t n K ∧ ∀ ds n' vs H' G', Rep T B n' τ G' σ H' → Sub G G' → Hl T B.P G' ds vs → K ds n' → Q vs H'
theorem PE.imp {X : Cx} {e : Expr} {t t' : TE} (h : PE X e t) (i : ∀ σ H Q, t' σ H Q → t σ H Q) : PE X e t' := ⟨fun pins s σ H Q I q => h.run pins s σ H Q I (i σ H Q q)⟩
theorem PT.imp {X : Cx} {e : Expr} {t t' : TT} (h : PT X e t) (i : ∀ σ H Q, t' σ H Q → t σ H Q) : PT X e t' := ⟨fun pins s σ H Q I q => h.run pins s σ H Q I (i σ H Q q)⟩
theorem PA.imp {X : Cx} {e : List Expr} {t t' : TA} (h : PA X e t) (i : ∀ σ H Q, t' σ H Q → t σ H Q) : PA X e t' := ⟨fun pos pins s σ H Q I q => h.run pos pins s σ H Q I (i σ H Q q)⟩
theorem PS.imp {X : Cx} {e : Stmt} {t t' : TS} (h : PS X e t) (i : ∀ D σ H, t' D σ H → t D σ H) : PS X e t' := ⟨fun pins s σ H D I q => h.run pins s σ H D I (i D σ H q)⟩
theorem PSs.imp {X : Cx} {e : List Stmt} {t t' : TS} (h : PSs X e t) (i : ∀ D σ H, t' D σ H → t D σ H) : PSs X e t' := ⟨fun pins s σ H D I q => h.run pins s σ H D I (i D σ H q)⟩
end Sh
namespace Sh
open L2 PySem PySem.Spec PyProof.Rows

section
variable {T : Tx} {B : Bs} {n : En} {τ : List (Addr × HO)} {G : Hp} {σ : L2.St} {H : Hp}
/-- a result is kept aside while more is read -/
theorem Rep.hold (R : Rep T B n τ G σ H) {r : Rs} {v : V} (h : ResOk T B n τ G σ H r v) : ∃ τ', Rep T B n τ' G σ H ∧ (∀ p ∈ τ, p ∈ τ') ∧
    ∀ n2 G2 H2, Rep T B n2 τ' G2 σ H2 → Sub G G2 → ResOk T B n2 τ G2 σ H2 r v := by
  cases r with
  | val d => exact ⟨τ, R, fun _ h => h, fun n2 G2 H2 _ s => Hd.mono s h⟩
  | slt i => exact ⟨τ, R, fun _ h => h, fun n2 G2 H2 _ s => h⟩
  | tmp d =>
    obtain ⟨a, o, rfl, k, h1, h2⟩ := h
    refine ⟨(a, o) :: τ, R.push k.at_ k.mo k.own h2, fun _ h => List.mem_cons_of_mem _ h, fun n2 G2 H2 R2 s => ?_⟩
    obtain ⟨e1, e2, e3, e4⟩ := R2.tmp (a, o) List.mem_cons_self
    exact ⟨a, o, rfl, ⟨e3, e1, e2, k.ho.mono s⟩, h1, e4⟩
end

/-- what an operation gives: a value that is there, a new tuple, a new list -/
inductive Ef where
  | ret (d : D) | newT (l : List D) | newL (l : List D)
def resOf : Ef → Rs
  | .ret d => .val d
  | .newT l => .val (.tup l)
  | .newL l => .tmp (.lst l)
def Ct (T : Tx) (P : Px) (G H : Hp) (e : Ef) (Q : VK) : Prop := match e with
  | .ret d => ∀ v, Hd T P G d v → Q v H
  | .newT l => (∀ p vs, H p = none → Hl T P G l vs → Q (.ref p) (upd H p (.tup vs))) ∧ ∀ v, Hd T P G (.tup l) v → Q v H
  | .newL l => ∀ p vs, H p = none → Hl T P G l vs → Q (.ref p) (upd H p (.lst vs))
section
variable {T : Tx} {B : Bs} {n : En} {τ : List (Addr × HO)} {G : Hp} {σ : L2.St} {H : Hp}
theorem ct_of (R : Rep T B n τ G σ H) {e : Ef} {Q : VK} (h : ∀ r v H' G', Rep T B n τ G' σ H' → Sub G G' → ResOk T B n τ G' σ H' r v → r = resOf e → Q v H') : Ct T B.P G H e Q := by
  cases e with
  | ret d => exact fun v k => h (.val d) v H G R (.refl G) k rfl
  | newT l =>
    refine ⟨fun p vs hp k => ?_, fun v k => h (.val _) v H G R (.refl G) k rfl⟩
    have own := R.fresh hp
    have sb : Sub G (upd G p (.tup vs)) := sub_upd own.g
    exact h (.val (.tup l)) _ _ _ (R.laidF hp fun ps => nofun) sb (Hd.obj upd_same (.tup (k.mono sb))) rfl
  | newL l =>
    intro p vs hp k
    exact h (.tmp (.lst l)) _ _ G (R.laid _ hp) (.refl G) ⟨p, _, rfl, ⟨R.fresh hp, upd_same, trivial, .lst k⟩, R.tmp_ne hp, R.slot_ne hp⟩ rfl

/-- a two-place operation by data -/
abbrev F2 := D → D → Ef → Prop
abbrev F1 := D → Ef → Prop
def rF2 (T : Tx) (P : Px) (F : F2) : R2 := fun x y H Q => ∃ G dx dy e, Sub G H ∧ Av T P G H dx x ∧ Av T P G H dy y ∧ F dx dy e ∧ Ct T P G H e Q
def rF1 (T : Tx) (P : Px) (F : F1) : V → Hp → VK → Prop := fun x H Q => ∃ G dx e, (Sub G H ∧ SysM H) ∧ Av T P G H dx x ∧ F dx e ∧ Ct T P G H e Q
def dBin (F : F2) (ta tb : TD) : TD := fun n K => ta n fun x n1 => tb n1 fun y n2 => ∃ dx dy e, fet n2 x = some dx ∧ fet n2 y = some dy ∧ F dx dy e ∧ K (resOf e) n2
def dUn (F : F1) (ta : TD) : TD := fun n K => ta n fun x n1 => ∃ dx e, fet n1 x = some dx ∧ F dx e ∧ K (resOf e) n1
theorem up_bin {F : F2} {ta tb : TD} {Q : VK} (h : up T B (dBin F ta tb) σ H Q) : tOp (rF2 T B.P F) (up T B ta) (up T B tb) σ H Q := by
  obtain ⟨n, τ, G, K, R, t, q⟩ := h
  refine ⟨n, τ, G, _, R, t, fun x n1 v1 H1 G1 R1 s1 k1 t1 => ?_⟩
  obtain ⟨τ1, R1', sb, keep⟩ := R1.hold k1
  refine ⟨n1, τ1, G1, _, R1', t1, fun y n2 v2 H2 G2 R2 s2 k2 t2 => ?_⟩
  obtain ⟨dx, dy, e, ex, ey, hF, hK⟩ := t2
  have R2' := R2.sel sb
  refine ⟨G2, dx, dy, e, R2.sub, R2'.fet_av (keep n2 G2 H2 R2 s2) ex, R2.fet_av k2 ey, hF, ct_of R2' fun r v H' G' R' s' k' er => ?_⟩
  subst er
  exact q _ n2 v H' G' R' (s1.trans (s2.trans s')) k' hK
theorem up_un {F : F1} {ta : TD} {Q : VK} (h : up T B (dUn F ta) σ H Q) : tUn (rF1 T B.P F) (up T B ta) σ H Q := by
  obtain ⟨n, τ, G, K, R, t, q⟩ := h
  refine ⟨n, τ, G, _, R, t, fun x n1 v1 H1 G1 R1 s1 k1 t1 => ?_⟩
  obtain ⟨dx, e, ex, hF, hK⟩ := t1
  refine ⟨G1, dx, e, ⟨R1.sub, R1.sysM⟩, R1.fet_av k1 ex, hF, ct_of R1 fun r v H' G' R' s' k' er => ?_⟩
  subst er
  exact q _ n1 v H' G' R' (s1.trans s') k' hK
end

def Z : Nat := 16777216
def fAdd : F2 := fun x y e => (∃ i j, x = .int i ∧ y = .int j ∧ e = .ret (.int (i + j))) ∨ (∃ l m, x = .tup l ∧ y = .tup m ∧ l.length + m.length ≤ Z ∧ e = .newT (l ++ m)) ∨
  (∃ l m, x = .lst l ∧ y = .lst m ∧ l.length + m.length ≤ Z ∧ e = .newL (l ++ m))
def fI (g : Int → Int → Int) (C : Int → Int → Prop) : F2 := fun x y e => ∃ i j, x = .int i ∧ y = .int j ∧ C i j ∧ e = .ret (.int (g i j))
def fB (g : Int → Int → Bool) : F2 := fun x y e => ∃ i j, x = .int i ∧ y = .int j ∧ e = .ret (.bl (g i j))
def fEq (neg : Bool) : F2 := fun x y e => (∃ p q, x.py = some p ∧ y.py = some q ∧ SeqAt.shaped p = true ∧ SeqAt.shaped q = true ∧ e = .ret (.bl (if neg then !PyData.eqv p q else PyData.eqv p q))) ∨ ∃ a b, x = .str a ∧ y = .str b ∧ e = .ret (.bl (if neg then !decide (a = b) else decide (a = b)))
def fIsN (neg : Bool) : F2 := fun x y e => (∃ a b, x = .bl a ∧ y = .bl b ∧ e = .ret (.bl (if neg then !decide (a = b) else decide (a = b)))) ∨ y = .non ∧ ((x = .non ∧ e = .ret (.bl !neg)) ∨ ((∀ T P G H v, Av T P G H x v → v ≠ .non) ∧ e = .ret (.bl neg)))
def fIn (neg : Bool) : F2 := fun x y e => ∃ l p q, (y = .lst l ∨ y = .tup l) ∧ x.py = some p ∧ pyL l = some q ∧ SeqAt.shaped p = true ∧ SeqAt.shaped (.list q) = true ∧ e = .ret (.bl (if neg then !q.any fun z => PyData.eqv z p else q.any fun z => PyData.eqv z p))

section
variable {X : Cx} {T : Tx} {P : Px}
theorem hd_int {T : Tx} {P : Px} {G : Hp} {i : Int} : Hd T P G (.int i) (.int i) := .int i
theorem opI_of {f : Value → Value → Sem Value} {g : Int → Int → Int} {C : Int → Int → Prop} (h : OpR X f (rI C fun i j => .int (g i j))) : OpR X f (rF2 T P (fI g C)) := by
  intro pins s σ H x y v u Q I rx ry q
  obtain ⟨G, dx, dy, e, sb, hx, hy, ⟨i, j, rfl, rfl, hc, rfl⟩, k⟩ := q
  obtain rfl := hx.int_
  obtain rfl := hy.int_
  exact h pins s σ H _ _ v u Q I rx ry ⟨i, j, rfl, rfl, hc, k _ (.int _)⟩
theorem opB_of {f : Value → Value → Sem Value} {g : Int → Int → Bool} (h : OpR X f (rI0 fun i j => .bl (g i j))) : OpR X f (rF2 T P (fB g)) := by
  intro pins s σ H x y v u Q I rx ry q
  obtain ⟨G, dx, dy, e, sb, hx, hy, ⟨i, j, rfl, rfl, rfl⟩, k⟩ := q
  obtain rfl := hx.int_
  obtain rfl := hy.int_
  exact h pins s σ H _ _ v u Q I rx ry ⟨i, j, rfl, rfl, k _ (.bl _)⟩
theorem rI0_rI {f : Value → Value → Sem Value} {g : Int → Int → V} (h : OpR X f (rI0 g)) : OpR X f (rI (fun _ _ => True) g) := by
  intro pins s σ H x y v u Q I rx ry ⟨i, j, e1, e2, _, q⟩
  exact h pins s σ H _ _ v u Q I rx ry ⟨i, j, e1, e2, q⟩
theorem opd_add (hK : X.K = T.K) : OpR X (binaryOp .Add) (rF2 T P fAdd) := by
  intro pins s σ H x y v u Q I rx ry q
  obtain ⟨G, dx, dy, e, sb, hx, hy, hF, k⟩ := q
  rcases hF with ⟨i, j, rfl, rfl, rfl⟩ | ⟨l, m, rfl, rfl, hz, rfl⟩ | ⟨l, m, rfl, rfl, hz, rfl⟩
  · obtain rfl := hx.int_
    obtain rfl := hy.int_
    exact op_add pins s σ H _ _ v u Q I rx ry ⟨i, j, rfl, rfl, k _ (.int _)⟩
  · obtain ⟨a, vs, rfl, ha, h1⟩ := hx.tup sb
    obtain ⟨b, us, rfl, hb, h2⟩ := hy.tup sb
    have hl : vs.length + us.length ≤ sizeLine := by rw [← h1.length, ← h2.length, sizeLine_eq]; exact hz
    refine op_catA pins s σ H _ _ v u Q I rx ry ⟨a, b, vs, us, rfl, rfl, hK ▸ ha, hK ▸ hb, hl, fun e => ?_, fun _ e => ?_, fun _ _ p hp => k.1 p _ hp (h1.append h2)⟩
    · subst e
      cases h1
      exact k.2 _ hy.tupH
    · subst e
      cases h2
      exact k.2 _ (by rw [List.append_nil]; exact hx.tupH)
  · obtain ⟨a, vs, rfl, ha, h1⟩ := hx.lst sb
    obtain ⟨b, us, rfl, hb, h2⟩ := hy.lst sb
    have hl : vs.length + us.length ≤ sizeLine := by rw [← h1.length, ← h2.length, sizeLine_eq]; exact hz
    exact op_cat pins s σ H _ _ v u Q I rx ry ⟨a, b, vs, us, rfl, rfl, ha, hb, hl, fun p hp => k p _ hp (h1.append h2)⟩
end
end Sh
namespace Sh
open L2 PySem PySem.Spec PyProof.Rows

mutual
inductive RT where
  | nm (i : Nat) | tp (l : RTs)
inductive RTs where
  | nil | cons (a : RT) (l : RTs)
end
/-- a class as isinstance names it -/
inductive TyS where
  | ty (n : String) | own (c : Str)
/-- operations of one place, of two places -/
inductive B1 where
  | len | tuple | list | all | any | sum | abs | int | maxL | minL | repr | neg | att (f : Str) | rev | rgT | rgL | isi (ts : List TyS) | isiT (ts : List TyS) | sorted | sset | str | bitl
inductive B2 where
  | op (o : Operator) | cmp (o : CmpOp) | ix | max | min | gcd | rgT | rgL
mutual
inductive RX where
  | var (i : Nat) | c (d : D) | b1 (f : B1) (a : RX) | b2 (f : B2) (a b : RX) | chain (o p : CmpOp) (a b c : RX)
  | and (a b : RX) | or (a b : RX) | not (a : RX) | ite (c : RC) (a b : RX) | tup (l : RXs) | lst (l : RXs) | dctN (t : Bool) | cut (a : RX) (lo hi : RO)
  | call (k : Nat) (l : RXs) | callV (i : Nat) (l : RXs) | callS (k : Nat) (l : RXs) | app (i : Nat) (e : RX) | pop (i : Nat) | pop0 (i : Nat) | popI (i : Nat) (e : RX) | lc (it : RI) (g : RT) (own : List Nat) (c : RC) (e : RX)
inductive RXs where
  | nil | cons (a : RX) (l : RXs)
inductive RC where
  | yes | v (a : RX) | cmp (o : CmpOp) (a b : RX) | chain (o p : CmpOp) (a b c : RX) | not (a : RC) | and (a b : RC) | or (a b : RC)
inductive RO where
  | no | so (a : RX)
inductive RI where
  | seq (a : RX) | rg1 (l : RXs) | rg2 (l : RXs) | enum (a : RX) | zip (a b : RX)
end
mutual
inductive RS where
  | asg (i : Nat) (e : RX) | asgT (t : RT) (e : RX) | par (l : List Nat) (e : RXs) | aug (i : Nat) (e : RX) | put (i : Nat) (k v : RX) | fld (i : Nat) (f : Str) (v : RX)
  | ex (e : RX) | ret (e : RX) | retN | raise (k : Nat) (l : RXs) | pass | brk | cnt
  | ite (c : RC) (a b : RSs) | for (it : RI) (g : RT) (b : RSs) | whl (c : RC) (b : RSs)
  | fgt (l : List Nat) | shr (i : Nat)
inductive RSs where
  | nil | cons (a : RS) (l : RSs)
end

/-- no text stands for it: slots are forgotten, an own list is handed on -/
def RS.mute : RS → Bool
  | .fgt _ => true
  | .shr _ => true
  | _ => false

/-- what a def does with its arguments: result (and whether it is a new object of the caller's), what is raised; draws are counted -/
abbrev DSp := List D → Nat → (D → Bool → Nat → Prop) → (Xc → Nat → Prop) → Prop
abbrev Fns := Nat → DSp

def dC (d : D) : TD := fun n K => K (.val d) n
def dVar (i : Nat) : TD := fun n K => match n.ρ[i]? with
  | some (.sh d) => K (.val d) n
  | some (.ow _) => K (.slt i) n
  | _ => False
def dNil : TDa := fun n K => K [] n
def dCons (t : TD) (u : TDa) : TDa := fun n K => t n fun r n1 => frz n1 r fun d n2 => u n2 fun ds n3 => K (d :: ds) n3
def dTup (t : TDa) : TD := fun n K => t n fun ds n1 => ds.length ≤ Z ∧ K (.val (.tup ds)) n1
def dLst (t : TDa) : TD := fun n K => t n fun ds n1 => ds.length ≤ Z ∧ K (.tmp (.lst ds)) n1
def dtOf (t : TD) : TDt := fun n K => t n fun r n1 => ∃ b, r = .val (.bl b) ∧ K b n1
def dAnd (t u : TD) : TD := fun n K => t n fun r n1 => ∃ b, r = .val (.bl b) ∧ if b = true then u n1 K else K (.val (.bl false)) n1
def dOr (t u : TD) : TD := fun n K => t n fun r n1 => ∃ b, r = .val (.bl b) ∧ if b = true then K (.val (.bl true)) n1 else u n1 K
def dNot (t : TD) : TD := fun n K => t n fun r n1 => ∃ b, r = .val (.bl b) ∧ K (.val (.bl (!b))) n1
def dtAnd (t u : TDt) : TDt := fun n K => t n fun b n1 => if b = true then u n1 K else K false n1
def dtOr (t u : TDt) : TDt := fun n K => t n fun b n1 => if b = true then K true n1 else u n1 K
def dtNot (t : TDt) : TDt := fun n K => t n fun b n1 => K (!b) n1
def dIte (c : TDt) (t u : TD) : TD := fun n K => c n fun b n1 => if b = true then t n1 K else u n1 K
def dChain (F G : F2) (t u v : TD) : TD := fun n K => t n fun x n1 => u n1 fun y n2 => ∃ dx dy b, fet n2 x = some dx ∧ fet n2 y = some dy ∧ F dx dy (.ret (.bl b)) ∧
  if b = true then v n2 fun z n3 => ∃ dy' dz e, fet n3 y = some dy' ∧ fet n3 z = some dz ∧ G dy' dz e ∧ K (resOf e) n3 else K (.val (.bl false)) n2
def dCall (Ex : Xc → Nat → Prop) (S : DSp) (t : TDa) : TD := fun n K => t n fun ds n1 => S ds n1.b (fun d fr b' => K (if fr = true then .tmp d else .val d) { n1 with b := b' }) Ex
/-- a call of a closure that a slot holds -/
def dCallV (Ex : Xc → Nat → Prop) (C : Nat → List D → DSp) (i : Nat) (t : TDa) : TD := fun n K => ∃ m caps, n.ρ[i]? = some (.sh (.clo m caps)) ∧ t n fun ds n1 => C m caps ds n1.b (fun d _ b' => K (.val d) { n1 with b := b' }) Ex
mutual
def D.plain : D → Bool
  | .tup l => plainL l
  | .lst l => plainL l
  | .dct _ l => plainP l
  | .ins _ l => plainF l
  | .clo _ _ => false
  | .lam _ => false
  | _ => true
def plainL : List D → Bool
  | [] => true
  | d :: r => d.plain && plainL r
def plainP : List (D × D) → Bool
  | [] => true
  | (_, d) :: r => d.plain && plainP r
def plainF : List (Str × D) → Bool
  | [] => true
  | (_, d) :: r => d.plain && plainF r
end
mutual
def D.snap (cv : Nat → Option (List D)) : D → Option D
  | .tup l => (snapL cv l).map .tup
  | .lst l => (snapL cv l).map .lst
  | .lam n => (cv n).map (.clo n)
  | d => if d.plain = true then some d else none
def snapL (cv : Nat → Option (List D)) : List D → Option (List D)
  | [] => some []
  | d :: r => (d.snap cv).bind fun x => (snapL cv r).map fun y => x :: y
end
def slD (ρ : List Sv) (i : Nat) : Option D := match ρ[i]? with
  | some (.sh d) => if d.plain = true then some d else none
  | _ => none
def cvOf (ρ : List Sv) : List Nat → Option (List D)
  | [] => some []
  | i :: l => (slD ρ i).bind fun x => (cvOf ρ l).map fun y => x :: y
def noX : Xc → Nat → Prop := fun _ _ => False
def dCallS (S : DSp) (lf : Nat → List Nat) (t : TDa) : TD := fun n K => t n fun ds n1 => ∃ ds', snapL (fun j => cvOf n1.ρ (lf j)) ds = some ds' ∧ S ds' n1.b (fun d _ b' => d.plain = true ∧ K (.val d) { n1 with b := b' }) noX
end Sh
namespace Sh
open L2 PySem PySem.Spec PyProof.Rows

section
variable {T : Tx} {B : Bs} {n : En} {τ : List (Addr × HO)} {G : Hp} {σ : L2.St} {H : Hp}
/-- an owned object changes -/
theorem Rep.mut (R : Rep T B n τ G σ H) {i : Nat} {d d' : D} (e : n.ρ[i]? = some (.ow d)) {a : Addr} {o' : HO} (ha : σ[i]? = some (some (.ref a))) (mk : MkO o') (ho : Ho T B.P G d' o') :
    Rep T B { n with ρ := n.ρ.set i (.ow d') } τ G σ (upd H a o') := by
  obtain ⟨a', o, e1, k⟩ := R.slot i _ e
  rw [ha] at e1; cases e1
  have hi : i < n.ρ.length := by rw [List.getElem?_eq_some_iff] at e; exact e.1
  have keep : ∀ {b x}, H b = some x → b ≠ a → upd H a o' b = some x := fun h hn => by rw [upd_ne hn]; exact h
  have gne : ∀ {b x}, G b = some x → b ≠ a := fun h z => by rw [z, k.own.g] at h; cases h
  have oth : ∀ (j : Nat) (x : D), (n.ρ.set i (.ow d'))[j]? = some (.ow x) → ∃ y, n.ρ[j]? = some (.ow y) := fun j x h => by
    by_cases hj : j = i
    · subst hj; exact ⟨d, e⟩
    · rw [List.getElem?_set_ne (Ne.symm hj)] at h; exact ⟨x, h⟩
  refine ⟨R.bok, fun b x h => keep (R.sub _ _ h) (gne h), fun b x h1 h2 h3 => keep (R.ext b x h1 h2 h3) (fun z => by rw [z, k.own.h] at h1; cases h1), fun b h => ?_, R.g0, R.new, R.nt, ?_, ?_, by rw [List.length_set]; exact R.len, fun j s h => ?_, fun j l x y b h1 h2 h3 h4 => ?_, fun p hp => ?_⟩
  · unfold upd
    split
    · simp
    · exact R.dom b h
  · obtain ⟨a1, a2, a3, a4, h1, h2⟩ := R.pen
    exact ⟨a1, a2, a3, a4, keep h1 (k.own.ne_pen R.bok).symm, h2⟩
  · exact R.tabs.keep (.refl _) fun p hp => upd_ne (k.own.ne_tab R.bok p hp).symm
  · by_cases hj : j = i
    · subst hj
      have h : (n.ρ.set j (.ow d'))[j]? = some s := h
      rw [List.getElem?_set_self hi] at h; cases h
      exact ⟨a, o', ha, k.own, upd_same, mk, ho⟩
    · have h : (n.ρ.set i (.ow d'))[j]? = some s := h
      rw [List.getElem?_set_ne (Ne.symm hj)] at h
      have q := R.slot j s h
      cases s with
      | no => trivial
      | me => exact q
      | sh x => exact q
      | ow x =>
        obtain ⟨b, y, e1, q⟩ := q
        exact ⟨b, y, e1, q.own, keep q.at_ (fun z => hj (R.apart j i x d a h e (by rw [← z]; exact e1) ha)), q.mo, q.ho⟩
  · obtain ⟨x', h1⟩ := oth j x h1
    obtain ⟨y', h2⟩ := oth l y h2
    exact R.apart j l x' y' b h1 h2 h3 h4
  · obtain ⟨h1, h2, h3, h4⟩ := R.tmp p hp
    refine ⟨keep h1 fun z => h4 i d e (by rw [z]; exact ha), h2, h3, fun j x h => ?_⟩
    obtain ⟨y, h⟩ := oth j x h
    exact h4 j y h
theorem Rep.own_at (R : Rep T B n τ G σ H) {i : Nat} {d : D} (e : n.ρ[i]? = some (.ow d)) : ∃ a o, σ[i]? = some (some (.ref a)) ∧ OwnO T B G H d a o := R.slot i _ e

theorem up_c {d : D} {v : V} (h : ∀ G, Hd T B.P G d v) {Q : VK} (q : up T B (dC d) σ H Q) : tC v σ H Q := by
  obtain ⟨n, τ, G, K, R, t, q⟩ := q
  exact q (.val d) n v H G R (.refl G) (h G) t
theorem up_var {i : Nat} {Q : VK} (q : up T B (dVar i) σ H Q) : tVar i σ H Q := by
  obtain ⟨n, τ, G, K, R, t, q⟩ := q
  have t : (match n.ρ[i]? with | some (.sh d) => K (.val d) n | some (.ow _) => K (.slt i) n | _ => False) := t
  cases h : n.ρ[i]? with
  | none => rw [h] at t; exact t.elim
  | some s =>
    rw [h] at t
    have k := R.slot i s h
    cases s with
    | no => exact t.elim
    | me => exact t.elim
    | sh d =>
      obtain ⟨v, e, k⟩ := k
      exact ⟨v, e, q (.val d) n v H G R (.refl G) k t⟩
    | ow d =>
      obtain ⟨a, o, e, k⟩ := k
      exact ⟨_, e, q (.slt i) n _ H G R (.refl G) e t⟩
theorem up_nil {Q : List V → Hp → Prop} (q : upA T B dNil σ H Q) : tNil σ H Q := by
  obtain ⟨n, τ, G, K, R, t, q⟩ := q
  exact q [] n [] H G R (.refl G) .nil t
theorem up_cons {t : TD} {u : TDa} {Q : List V → Hp → Prop} (q : upA T B (dCons t u) σ H Q) : tCons (up T B t) (upA T B u) σ H Q := by
  obtain ⟨n, τ, G, K, R, t, q⟩ := q
  refine ⟨n, τ, G, _, R, t, fun x n1 v1 H1 G1 R1 s1 k1 t1 => ?_⟩
  obtain ⟨d, n2, G2, s2, R2, h2, t2⟩ := frz_ok R1 k1 t1
  refine ⟨n2, τ, G2, _, R2, t2, fun ds n3 vs H3 G3 R3 s3 k3 t3 => ?_⟩
  exact q _ n3 _ H3 G3 R3 (s1.trans (s2.trans s3)) (.cons (h2.mono s3) k3) t3
theorem up_tup {t : TDa} {Q : VK} (q : up T B (dTup t) σ H Q) : tTup (upA T B t) σ H Q := by
  obtain ⟨n, τ, G, K, R, t, q⟩ := q
  refine ⟨n, τ, G, _, R, t, fun ds n1 vs H1 G1 R1 s1 k1 t1 => ?_⟩
  refine ⟨by rw [← k1.length, sizeLine_eq]; exact t1.1, fun p hp => ?_⟩
  have own := R1.fresh hp
  have sb : Sub G1 (upd G1 p (.tup vs)) := sub_upd own.g
  exact q (.val (.tup ds)) n1 _ _ _ (R1.laidF hp fun ps => nofun) (s1.trans sb) (Hd.obj upd_same (.tup (k1.mono sb))) t1.2
theorem up_lst {t : TDa} {Q : VK} (q : up T B (dLst t) σ H Q) : tLst (upA T B t) σ H Q := by
  obtain ⟨n, τ, G, K, R, t, q⟩ := q
  refine ⟨n, τ, G, _, R, t, fun ds n1 vs H1 G1 R1 s1 k1 t1 => ?_⟩
  refine ⟨by rw [← k1.length, sizeLine_eq]; exact t1.1, fun p hp => ?_⟩
  exact q (.tmp (.lst ds)) n1 _ _ G1 (R1.laid _ hp) s1 ⟨p, _, rfl, ⟨R1.fresh hp, upd_same, trivial, .lst k1⟩, R1.tmp_ne hp, R1.slot_ne hp⟩ t1.2

theorem res_bl {b : Bool} {v : V} (h : ResOk T B n τ G σ H (.val (.bl b)) v) : v = .bl b := Av.bl_ (H := H) (.inl h)
theorem up_tOf {t : TD} {Q : Bool → Hp → Prop} (q : upT T B (dtOf t) σ H Q) : tB (up T B t) σ H Q := by
  obtain ⟨n, τ, G, K, R, t, q⟩ := q
  refine ⟨n, τ, G, _, R, t, fun x n1 v1 H1 G1 R1 s1 k1 t1 => ?_⟩
  obtain ⟨b, rfl, t1⟩ := t1
  obtain rfl := res_bl k1
  exact ⟨b, rfl, q b n1 H1 G1 R1 s1 t1⟩
theorem up_and {t u : TD} {Q : VK} (q : up T B (dAnd t u) σ H Q) : tAndV (up T B t) (up T B u) σ H Q := by
  obtain ⟨n, τ, G, K, R, t, q⟩ := q
  refine ⟨n, τ, G, _, R, t, fun x n1 v1 H1 G1 R1 s1 k1 t1 => ?_⟩
  obtain ⟨b, rfl, t1⟩ := t1
  obtain rfl := res_bl k1
  refine ⟨b, rfl, ?_⟩
  cases b with
  | true => exact ⟨n1, τ, G1, _, R1, t1, fun r n2 v H2 G2 R2 s2 k2 t2 => q r n2 v H2 G2 R2 (s1.trans s2) k2 t2⟩
  | false => exact q _ n1 _ H1 G1 R1 s1 k1 t1
theorem up_or {t u : TD} {Q : VK} (q : up T B (dOr t u) σ H Q) : tOrV (up T B t) (up T B u) σ H Q := by
  obtain ⟨n, τ, G, K, R, t, q⟩ := q
  refine ⟨n, τ, G, _, R, t, fun x n1 v1 H1 G1 R1 s1 k1 t1 => ?_⟩
  obtain ⟨b, rfl, t1⟩ := t1
  obtain rfl := res_bl k1
  refine ⟨b, rfl, ?_⟩
  cases b with
  | false => exact ⟨n1, τ, G1, _, R1, t1, fun r n2 v H2 G2 R2 s2 k2 t2 => q r n2 v H2 G2 R2 (s1.trans s2) k2 t2⟩
  | true => exact q _ n1 _ H1 G1 R1 s1 k1 t1
theorem up_not {t : TD} {Q : VK} (q : up T B (dNot t) σ H Q) : tNotV (up T B t) σ H Q := by
  obtain ⟨n, τ, G, K, R, t, q⟩ := q
  refine ⟨n, τ, G, _, R, t, fun x n1 v1 H1 G1 R1 s1 k1 t1 => ?_⟩
  obtain ⟨b, rfl, t1⟩ := t1
  obtain rfl := res_bl k1
  exact ⟨b, rfl, q (.val (.bl (!b))) n1 _ H1 G1 R1 s1 (Hd.bl _) t1⟩
theorem up_tAnd {t u : TDt} {Q : Bool → Hp → Prop} (q : upT T B (dtAnd t u) σ H Q) : tAnd (upT T B t) (upT T B u) σ H Q := by
  obtain ⟨n, τ, G, K, R, t, q⟩ := q
  refine ⟨n, τ, G, _, R, t, fun b n1 H1 G1 R1 s1 t1 => ?_⟩
  cases b with
  | true => exact ⟨n1, τ, G1, _, R1, t1, fun r n2 H2 G2 R2 s2 t2 => q r n2 H2 G2 R2 (s1.trans s2) t2⟩
  | false => exact q _ n1 H1 G1 R1 s1 t1
theorem up_tOr {t u : TDt} {Q : Bool → Hp → Prop} (q : upT T B (dtOr t u) σ H Q) : tOr (upT T B t) (upT T B u) σ H Q := by
  obtain ⟨n, τ, G, K, R, t, q⟩ := q
  refine ⟨n, τ, G, _, R, t, fun b n1 H1 G1 R1 s1 t1 => ?_⟩
  cases b with
  | false => exact ⟨n1, τ, G1, _, R1, t1, fun r n2 H2 G2 R2 s2 t2 => q r n2 H2 G2 R2 (s1.trans s2) t2⟩
  | true => exact q _ n1 H1 G1 R1 s1 t1
theorem up_tNot {t : TDt} {Q : Bool → Hp → Prop} (q : upT T B (dtNot t) σ H Q) : tNot (upT T B t) σ H Q := by
  obtain ⟨n, τ, G, K, R, t, q⟩ := q
  exact ⟨n, τ, G, _, R, t, fun b n1 H1 G1 R1 s1 t1 => q _ n1 H1 G1 R1 s1 t1⟩
theorem up_ite {c : TDt} {t u : TD} {Q : VK} (q : up T B (dIte c t u) σ H Q) : tIf (upT T B c) (up T B t) (up T B u) σ H Q := by
  obtain ⟨n, τ, G, K, R, t, q⟩ := q
  refine ⟨n, τ, G, _, R, t, fun b n1 H1 G1 R1 s1 t1 => ?_⟩
  cases b with
  | false => exact ⟨n1, τ, G1, _, R1, t1, fun r n2 v H2 G2 R2 s2 k2 t2 => q r n2 v H2 G2 R2 (s1.trans s2) k2 t2⟩
  | true => exact ⟨n1, τ, G1, _, R1, t1, fun r n2 v H2 G2 R2 s2 k2 t2 => q r n2 v H2 G2 R2 (s1.trans s2) k2 t2⟩
theorem up_chain {F F' : F2} {t u v : TD} {Q : VK} (q : up T B (dChain F F' t u v) σ H Q) : tChain (rF2 T B.P F) (rF2 T B.P F') (up T B t) (up T B u) (up T B v) σ H Q := by
  obtain ⟨n, τ, G, K, R, t, q⟩ := q
  refine ⟨n, τ, G, _, R, t, fun x n1 v1 H1 G1 R1 s1 k1 t1 => ?_⟩
  obtain ⟨τ1, R1', sb1, keep1⟩ := R1.hold k1
  refine ⟨n1, τ1, G1, _, R1', t1, fun y n2 v2 H2 G2 R2 s2 k2 t2 => ?_⟩
  obtain ⟨dx, dy, b, ex, ey, hF, hK⟩ := t2
  have R2' := R2.sel sb1
  refine ⟨G2, dx, dy, _, R2.sub, R2'.fet_av (keep1 n2 G2 H2 R2 s2) ex, R2.fet_av k2 ey, hF, fun w hw => ?_⟩
  obtain rfl := Av.bl_ (H := H2) (.inl hw)
  refine ⟨b, rfl, ?_⟩
  cases b with
  | false => exact q (.val (.bl false)) n2 _ H2 G2 R2' (s1.trans s2) hw hK
  | true =>
    obtain ⟨τ2, R2'', sb2, keep2⟩ := R2.hold k2
    refine ⟨n2, τ2, G2, _, R2'', hK, fun z n3 v3 H3 G3 R3 s3 k3 t3 => ?_⟩
    obtain ⟨dy', dz, e, ey', ez, hF', hK'⟩ := t3
    have R3' : Rep T B n3 τ G3 σ H3 := R3.sel fun p hp => sb2 p (sb1 p hp)
    refine ⟨G3, dy', dz, e, R3.sub, R3'.fet_av (r := y) ?_ ey', R3.fet_av k3 ez, hF', ct_of R3' fun r v H' G' R' s' k' er => ?_⟩
    · have k := keep2 n3 G3 H3 R3 s3
      cases y with
      | val _ => exact k
      | slt _ => exact k
      | tmp _ =>
        obtain ⟨a, o, h1, h2, h3, h4⟩ := k
        exact ⟨a, o, h1, h2, fun p hp => h3 p (sb1 p hp), h4⟩
    · subst er
      exact q _ n3 v H' G' R' (s1.trans (s2.trans (s3.trans s'))) k' hK'
end
end Sh
set_option maxHeartbeats  4000000
namespace Sh
open L2 PySem PySem.Spec PyProof.Rows

theorem tuple_mul1 (l : Addr) (items : Array Value) (n : Nat) (dd : Option Addr) (sl : Array (Option Value)) (u : Tok) :
    Meets (Builtin.«tuple.__mul__» ⟨[.ref l, .int 1 u], []⟩) (fun _ R s => s.heap.get? l = some { cls := .type "tuple", dict := dd, data := .seq items n, slots := sl } ∧ R (.ok (.ret (Value.ref l))) s) :=
  .of_wp fun prog w A R s h => by
    obtain ⟨hp, g, d, tk, os⟩ := s
    obtain ⟨hl, h⟩ := h
    have f1 := AutoSeq1.idx_int
    have c1 : (items.isEmpty || (1 : Int) == 1) = true := by simp
    have c0 : (decide ((1 : Int) < -(2 ^ 63)) || decide ((1 : Int) ≥ 2 ^ 63)) = false := by decide
    wp_walk using wpAny_loadPart' hl
    repeat (first
      | (refine wpAny_ite_false (decide_eq_false (by rw [c0]; exact Bool.false_ne_true)) ?_; wp_walk using wpAny_loadPart' hl)
      | (refine wpAny_ite_true (decide_eq_true (by rw [c1])) ?_; wp_walk using wpAny_loadPart' hl))
    exact ⟨_, rfl, h⟩
theorem op_repT1 {X : Cx} : OpR X (binaryOp .Mult) (fun x y H Q => ∃ l xs, x = V.ref l ∧ y = V.int 1 ∧ SqT X.K H l xs ∧ Q (.ref l) H) := by
  intro pins s σ H x y v u Q I rx ry h
  obtain ⟨l, xs, rfl, rfl, hT, q⟩ := h
  cases rx
  obtain ⟨t, rfl⟩ := ry
  obtain ⟨its, r, ⟨⟨cls, dd, data, sl⟩, ho, hc, n, hd⟩, hs⟩ := I.tuple hT
  simp only at hc hd
  subst hc hd
  refine wpAny_binaryOp_repeat_ref (T := "tuple") (U := "int") (by decide) ⟨_, ho, rfl⟩ (fun s' => typeIs_int s' 1 t) noFill_tuple_mul F.fills_int_mul F.slot_int_rmul repeat_tuple F.slot_int_index.lookup
    (call_meets F.slot_int_rmul (typeIs_int s 1 t) F.entry_int_rmul (F.args_int_rmul_2 _ _) (int_rmul_tuple 1 t l its.toArray n dd sl)
      ⟨ho, rfl, ⟨_, ho, rfl⟩, call_meets F.slot_tuple_mul ⟨_, ho, rfl⟩ F.entry_tuple_mul (F.args_tuple_mul_2 _ _) (tuple_mul1 l its.toArray n dd sl t) ⟨ho, ?_⟩⟩)
  exact ⟨.ref l, _, I, rfl, q⟩
section
variable {T : Tx} {P : Px} {G : Hp}
theorem Hl.rep {ds : List D} {vs : List V} (h : Hl T P G ds vs) : ∀ n : Nat, Hl T P G (List.replicate n ds).flatten (List.replicate n vs).flatten
  | 0 => .nil
  | n + 1 => by
    rw [List.replicate_succ, List.replicate_succ, List.flatten_cons, List.flatten_cons]
    exact h.append (Hl.rep h n)
end
end Sh
namespace Sh
open L2 PySem PySem.Spec PyProof.Rows

def fSub : F2 := fI (fun i j => i - j) fun _ _ => True
def fMul : F2 := fun x y e => fI (fun i j => i * j) CMul x y e ∨ (∃ l k, x = .tup l ∧ y = .int k ∧ l ≠ [] ∧ 1 ≤ k ∧ k ≤ 1000 ∧ l.length ≤ 1000 ∧ e = .newT (List.replicate k.toNat l).flatten) ∨
  ∃ l k, x = .lst l ∧ y = .int k ∧ 0 ≤ k ∧ k ≤ 1000 ∧ l.length ≤ 1000 ∧ e = .newL (List.replicate k.toNat l).flatten
def fDiv : F2 := fI (fun i j => i.fdiv j) CDivN
def fMod : F2 := fI (fun i j => i % j) fun _ j => 0 < j
def fPow : F2 := fI (fun i j => i ^ j.toNat) CPow
def fShl : F2 := fI (fun i j => i * 2 ^ j.toNat) CPow
def fShr : F2 := fI (fun i j => i / 2 ^ j.toNat) fun _ j => 0 ≤ j
def fAnd : F2 := fI Builtin.bitAnd fun _ _ => True
def fOp : Operator → F2
  | .Add => fAdd
  | .Sub => fSub
  | .Mult => fMul
  | .FloorDiv => fDiv
  | .Mod => fMod
  | .Pow => fPow
  | .LShift => fShl
  | .RShift => fShr
  | .BitAnd => fAnd
  | _ => fun _ _ _ => False
def fCmp : CmpOp → F2
  | .Eq => fEq false
  | .NotEq => fEq true
  | .Lt => fB fun i j => decide (i < j)
  | .LtE => fB fun i j => decide (i ≤ j)
  | .Gt => fB fun i j => decide (j < i)
  | .GtE => fB fun i j => decide (j ≤ i)
  | .Is => fIsN false
  | .IsNot => fIsN true
  | .In => fIn false
  | .NotIn => fIn true
def fNeg : F1 := fun x e => ∃ i, x = .int i ∧ e = .ret (.int (-i))
def fIx : F2 := fun x y e => ∃ l i d, (x = .lst l ∨ x = .tup l) ∧ y = .int i ∧ atI l i = some d ∧ e = .ret d
def fAtt (f : Str) : F1 := fun x e => ∃ c fs d, x = .ins c fs ∧ fs.lookup f = some d ∧ e = .ret d

section
variable {X : Cx} {T : Tx} {P : Px}
theorem opd_mul (hK : X.K = T.K) : OpR X (binaryOp .Mult) (rF2 T P fMul) := by
  intro pins s σ H x y v u Q I rx ry q
  obtain ⟨G, dx, dy, e, sb, hx, hy, hF, k⟩ := q
  rcases hF with hF | ⟨l, j, rfl, rfl, h0, h1, h2, h3, rfl⟩ | ⟨l, j, rfl, rfl, h1, h2, h3, rfl⟩
  · exact opI_of op_mul pins s σ H x y v u Q I rx ry ⟨G, dx, dy, e, sb, hx, hy, hF, k⟩
  · obtain ⟨a, vs, rfl, ha, hl⟩ := hx.tup sb
    obtain rfl := hy.int_
    by_cases e1 : j = 1
    · subst e1
      refine op_repT1 pins s σ H _ _ v u Q I rx ry ⟨a, vs, rfl, rfl, hK ▸ ha, k.2 _ ?_⟩
      have : (List.replicate (1 : Int).toNat l).flatten = l := by simp
      rw [this]
      exact hx.tupH
    · refine op_repT pins s σ H _ _ v u Q I rx ry ⟨a, j, vs, rfl, rfl, hK ▸ ha, fun z => h0 ?_, by omega, h2, by rw [← hl.length]; exact h3, fun p hp => k.1 p _ hp (hl.rep _)⟩
      have := hl.length
      rw [z] at this
      exact List.eq_nil_of_length_eq_zero this
  · obtain ⟨a, vs, rfl, ha, hl⟩ := hx.lst sb
    obtain rfl := hy.int_
    refine op_rep pins s σ H _ _ v u Q I rx ry ⟨a, j, vs, rfl, rfl, ha, by omega, by omega, ?_, fun p hp => k p _ hp (hl.rep _)⟩
    rw [← hl.length, sizeLine_eq]
    have := Nat.mul_le_mul h3 (show j.toNat ≤ 1000 by omega)
    omega
theorem opd_fOp (hK : X.K = T.K) : ∀ op : Operator, OpR X (binaryOp op) (rF2 T P (fOp op))
  | .Add => opd_add hK
  | .Sub => opI_of (rI0_rI op_sub)
  | .Mult => opd_mul hK
  | .FloorDiv => opI_of op_fdivN
  | .Mod => opI_of op_mod
  | .Pow => opI_of op_pow
  | .LShift => opI_of op_shl
  | .RShift => opI_of op_shr
  | .BitAnd => opI_of (rI0_rI op_and)
  | .MatMult => fun _ _ _ _ _ _ _ _ _ _ _ _ ⟨_, _, _, _, _, _, _, z, _⟩ => z.elim
  | .Div => fun _ _ _ _ _ _ _ _ _ _ _ _ ⟨_, _, _, _, _, _, _, z, _⟩ => z.elim
  | .BitOr => fun _ _ _ _ _ _ _ _ _ _ _ _ ⟨_, _, _, _, _, _, _, z, _⟩ => z.elim
  | .BitXor => fun _ _ _ _ _ _ _ _ _ _ _ _ ⟨_, _, _, _, _, _, _, z, _⟩ => z.elim
theorem opd_eq (hK : X.K = T.K) (hu : X.A.units + 65 < cLine) (neg : Bool) : OpR X (compareOp (if neg then .NotEq else .Eq)) (rF2 T P (fEq neg)) := by
  intro pins s σ H x y v u Q I rx ry q
  obtain ⟨G, dx, dy, e, sb, hx, hy, ⟨p, q', e1, e2, s1, s2, rfl⟩ | ⟨a, b, rfl, rfl, rfl⟩, k⟩ := q
  rotate_left
  · obtain rfl := hx.str_
    obtain rfl := hy.str_
    have ed : decide (V.str a = V.str b) = decide (a = b) := by simp
    cases neg with
    | false => exact op_eq pins s σ H _ _ v u Q I rx ry ⟨rfl, by rw [ed]; exact k _ (.bl _)⟩
    | true => exact op_ne pins s σ H _ _ v u Q I rx ry ⟨rfl, by rw [ed]; exact k _ (.bl _)⟩
  have d1 := hx.dp sb e1
  have d2 := hy.dp sb e2
  cases neg with
  | false => exact op_eqD (by omega) pins s σ H _ _ v u Q I rx ry ⟨p, q', hK ▸ d1, hK ▸ d2, s1, s2, k _ (.bl _)⟩
  | true => exact op_neD (by omega) pins s σ H _ _ v u Q I rx ry ⟨p, q', hK ▸ d1, hK ▸ d2, s1, s2, k _ (.bl _)⟩
theorem opd_isN (neg : Bool) : OpR X (compareOp (if neg then .IsNot else .Is)) (rF2 T P (fIsN neg)) := by
  intro pins s σ H x y v u Q I rx ry q
  obtain ⟨G, dx, dy, e, sb, hx, hy, ⟨a, b, rfl, rfl, rfl⟩ | ⟨rfl, h⟩, k⟩ := q
  · obtain rfl := hx.bl_
    obtain rfl := hy.bl_
    cases neg with
    | false => exact op_is_bl pins s σ H _ _ v u Q I rx ry ⟨a, b, rfl, rfl, k _ (.bl _)⟩
    | true => exact op_isnot_bl pins s σ H _ _ v u Q I rx ry ⟨a, b, rfl, rfl, k _ (.bl _)⟩
  obtain rfl := hy.non_
  have fin : ∃ b, x = .non ∧ b = true ∧ e = .ret (.bl (if neg then !b else b)) ∨ x ≠ .non ∧ b = false ∧ e = .ret (.bl (if neg then !b else b)) := by
    rcases h with ⟨rfl, rfl⟩ | ⟨h, rfl⟩
    · exact ⟨true, .inl ⟨hx.non_, rfl, by cases neg <;> rfl⟩⟩
    · exact ⟨false, .inr ⟨h _ _ _ _ _ hx, rfl, by cases neg <;> rfl⟩⟩
  obtain ⟨b, h⟩ := fin
  have hb : decide (x = .non) = b := by
    rcases h with ⟨h1, h2, _⟩ | ⟨h1, h2, _⟩
    · rw [h2]; exact decide_eq_true h1
    · rw [h2]; exact decide_eq_false h1
  have he : e = .ret (.bl (if neg then !b else b)) := h.elim (fun h => h.2.2) fun h => h.2.2
  subst he
  cases neg with
  | false => exact op_isN pins s σ H _ _ v u Q I rx ry ⟨rfl, by rw [hb]; exact k _ (.bl _)⟩
  | true => exact op_notN pins s σ H _ _ v u Q I rx ry ⟨rfl, by rw [hb]; exact k _ (.bl _)⟩
theorem opd_in (hK : X.K = T.K) (hu : X.A.units + 65 < cLine) (neg : Bool) : OpR X (compareOp (if neg then .NotIn else .In)) (rF2 T P (fIn neg)) := by
  intro pins s σ H x y v u Q I rx ry q
  obtain ⟨G, dx, dy, e, sb, hx, hy, ⟨l, p, q', hl, e1, e2, s1, s2, rfl⟩, k⟩ := q
  have d1 : Dp X.K H x p := hK ▸ hx.dp sb e1
  have fin := k _ (.bl _)
  rcases hl with rfl | rfl
  · have d2 : Dp X.K H y (.list q') := hK ▸ hy.dp sb (by simp [D.py, e2])
    cases neg with
    | false => exact op_inD hu pins s σ H _ _ v u Q I rx ry ⟨p, q', d1, d2, s1, s2, fin⟩
    | true => exact op_notInD hu pins s σ H _ _ v u Q I rx ry ⟨p, q', d1, d2, s1, s2, fin⟩
  · have d2 : Dp X.K H y (.tuple q') := hK ▸ hy.dp sb (by simp [D.py, e2])
    obtain ⟨as, r1⟩ := Dp.reads I p x v d1 rx
    obtain ⟨bs, r2⟩ := Dp.reads I (.tuple q') y u d2 ry
    have sh : PyData.canLay0 (.tuple q') = true := by
      have := SeqAt.canLay_of_shaped s2
      simpa [PyData.canLay0] using this
    cases neg with
    | false => exact SeqAt.in_tuple_reads r2 r1 sh (SeqAt.canLay_of_shaped s1) (room_in_shaped s1 hu) ⟨.bl _, H, I, rfl, fin⟩
    | true => exact SeqAt.notIn_tuple_reads r2 r1 sh (SeqAt.canLay_of_shaped s1) (room_in_shaped s1 hu) ⟨.bl _, H, I, rfl, fin⟩
theorem opd_fCmp (hK : X.K = T.K) (hu : X.A.units + 65 < cLine) : ∀ op : CmpOp, OpR X (compareOp op) (rF2 T P (fCmp op))
  | .Eq => opd_eq hK hu false
  | .NotEq => opd_eq hK hu true
  | .Lt => opB_of op_lt
  | .LtE => opB_of op_le
  | .Gt => opB_of op_gt
  | .GtE => opB_of op_ge
  | .Is => opd_isN false
  | .IsNot => opd_isN true
  | .In => opd_in hK hu false
  | .NotIn => opd_in hK hu true
theorem opd_neg : UnR X (unaryOp .USub) (rF1 T P fNeg) := by
  intro pins s σ H x v Q I rx q
  obtain ⟨G, dx, e, ⟨sb, sm⟩, hx, ⟨i, rfl, rfl⟩, k⟩ := q
  obtain rfl := hx.int_
  exact un_neg pins s σ H _ v Q I rx ⟨i, rfl, k _ (.int _)⟩
theorem ixd (hK : X.K = T.K) : IxR X (rF2 T P fIx) := by
  intro value slice pins s σ H x y v u Q I rx ry q hs
  obtain ⟨G, dx, dy, e, sb, hx, hy, ⟨l, i, d, hl, rfl, hi, rfl⟩, k⟩ := q
  obtain rfl := hy.int_
  have go : ∀ {vs : List V}, Hl T P G l vs → ∃ w, atI vs i = some w ∧ Q w H := fun {vs} h => by
    unfold atI at hi ⊢
    rw [← h.length]
    cases hj : ixN l.length i with
    | none => rw [hj] at hi; cases hi
    | some j =>
      rw [hj] at hi
      obtain ⟨w, h1, h2⟩ := h.get hi
      exact ⟨w, h1, k w h2⟩
  rcases hl with rfl | rfl
  · obtain ⟨a, vs, rfl, ha, h⟩ := hx.lst sb
    obtain ⟨w, h1, h2⟩ := go h
    exact ix_list value slice pins s σ H _ _ v u Q I rx ry ⟨a, vs, i, w, rfl, rfl, SqL.of ha, h1, h2⟩ hs
  · obtain ⟨a, vs, rfl, ha, h⟩ := hx.tup sb
    obtain ⟨w, h1, h2⟩ := go h
    exact ix_tup value slice pins s σ H _ _ v u Q I rx ry ⟨a, vs, i, w, rfl, rfl, hK ▸ ha, h1, h2⟩ hs
/-- what is before the dot is not super() -/
def noSuper : Expr → Bool
  | .Call (.Name _ _) [] [] _ => false
  | _ => true
theorem base_of {e : Expr} {f : Str} {env : Env} {m : Sem Value} (h : noSuper e = true) : attributeBase e f env m = m := by
  unfold attributeBase
  split
  · simp [noSuper] at h
  · rfl
theorem pe_att {e : Expr} {f : Str} {pos : Pos} {B : Bs} {t : TD} (hK : X.K = T.K) (hb : noSuper e = true) (h : PE X e (up T B t)) : PE X (.Attribute e f pos) (up T B (dUn (fAtt f) t)) := by
  refine PE.imp (pe_fld h (base_of hb)) fun σ H Q q => ?_
  obtain ⟨n, τ, G, K, R, t, q⟩ := q
  refine ⟨n, τ, G, _, R, t, fun x n1 v1 H1 G1 R1 s1 k1 t1 => ?_⟩
  obtain ⟨dx, e, ex, ⟨c, fs, d, rfl, hl, rfl⟩, hK'⟩ := t1
  obtain ⟨a, C, dx, gs, rfl, ha, hm, hc, hn, hf⟩ := (R1.fet_av k1 ex).ins R1.sub
  obtain ⟨w, hw, hd⟩ := hf.lookup hl
  exact ⟨a, C, dx, gs, w, rfl, ha, hK ▸ hc.cl, hK ▸ hn f (by rw [hl]; simp), hw, q (.val d) n1 w H1 G1 R1 s1 hd hK'⟩
end
end Sh
namespace Sh
open L2 PySem PySem.Spec PyProof.Rows

mutual
def D.pyd : D → Option PyData
  | .non => some .none
  | .bl b => some (.bool b)
  | .int i => some (.int i)
  | .str x => some (.str x)
  | .tup l => (pydL l).map .tuple
  | .lst l => (pydL l).map .list
  | .dct _ [] => some (.dict [])
  | _ => none
def pydL : List D → Option (List PyData)
  | [] => some []
  | d :: r => d.pyd.bind fun p => (pydL r).map fun q => p :: q
end
theorem emptyD {h : Heap} {a : Addr} {o : Obj} {es : Array DictEntry} {ep : Nat} (ho : h.get? a = some o) (hx : o.ExactDict) (hd : o.data = .dict es ep) (he : es.toList = []) (hs : (a == sysModules) = false) : ∃ as, Reads h (.ref a) (.dict []) as ∧ sysModules ∉ as :=
  ⟨_, .dict ho hx.1 hd (by rw [he]; exact .nil) (by rw [he]; exact .nil), by
    have : a ≠ sysModules := beq_eq_false_iff_ne.mp hs
    simp [Ne.symm this]⟩
section
variable {X : Cx} {T : Tx} {P : Px} {G H : Hp} {pins : List (Addr × Obj)} {σ : L2.St} {s : Shared}
mutual
theorem Hd.reads (hK : X.K = T.K) (I : Inv X pins σ H s) (sm : SysM H) (sb : Sub G H) : ∀ {d : D} {v : V} {u : Value} {p : PyData}, Hd T P G d v → d.pyd = some p → RelV v u → ∃ as, Reads s.heap u p as ∧ sysModules ∉ as
  | _, _, _, _, .non, e, r => by
    simp only [D.pyd, Option.some.injEq] at e; subst e; cases r; exact ⟨_, .none, by simp⟩
  | _, _, _, _, .bl b, e, r => by
    simp only [D.pyd, Option.some.injEq] at e; subst e; cases r; exact ⟨_, .bool b, by simp⟩
  | _, _, _, _, .int b, e, r => by
    simp only [D.pyd, Option.some.injEq] at e; subst e; obtain ⟨t, rfl⟩ := r; exact ⟨_, .int b t, by simp⟩
  | _, _, _, _, .str b, e, r => by
    simp only [D.pyd, Option.some.injEq] at e; subst e; obtain ⟨t, rfl⟩ := r; exact ⟨_, .str b t, by simp⟩
  | _, _, _, _, .ty _, e, _ => by simp [D.pyd] at e
  | _, _, _, _, .glo _, e, _ => by simp [D.pyd] at e
  | _, _, _, _, .pen, e, _ => by simp [D.pyd] at e
  | _, _, _, _, .clo _ _ _ _ _, e, _ => by simp [D.pyd] at e
  | _, _, _, _, .lam _ _ _ _, e, _ => by simp [D.pyd] at e
  | _, _, u, _, .kt m h k, e, r => by
    simp only [D.pyd, Option.map_eq_some_iff] at e
    obtain ⟨q, e1, rfl⟩ := e
    cases r
    obtain ⟨its, rv, ⟨o, ho, hc, n, hd⟩, _⟩ := I.tuple (hK ▸ h H)
    obtain ⟨as, h1, h2⟩ := Hl.reads hK I sm sb k e1 rv
    exact ⟨_, .tuple ho hc hd h1, h2⟩
  | _, _, _, _, .obj h k, e, r => by
    cases r
    exact Ho.reads hK I sm sb k e (sb _ _ h)
theorem Ho.reads (hK : X.K = T.K) (I : Inv X pins σ H s) (sm : SysM H) (sb : Sub G H) : ∀ {d : D} {o : HO} {a : Addr} {p : PyData}, Ho T P G d o → d.pyd = some p → H a = some o → ∃ as, Reads s.heap (.ref a) p as ∧ sysModules ∉ as
  | _, _, _, _, .tup k, e, h => by
    simp only [D.pyd, Option.map_eq_some_iff] at e
    obtain ⟨q, e1, rfl⟩ := e
    obtain ⟨its, rv, ⟨o, ho, hc, n, hd⟩, _⟩ := I.tuple (SqT.of h)
    obtain ⟨as, h1, h2⟩ := Hl.reads hK I sm sb k e1 rv
    exact ⟨_, .tuple ho hc hd h1, h2⟩
  | _, _, a, _, .lst k, e, h => by
    simp only [D.pyd, Option.map_eq_some_iff] at e
    obtain ⟨q, e1, rfl⟩ := e
    obtain ⟨its, rv, ⟨o, n, ho, hc, _, hd⟩, _⟩ := I.list (SqL.of h)
    obtain ⟨as, h1, h2⟩ := Hl.reads hK I sm sb k e1 rv
    have ne : sysModules ≠ a := fun z => by
      obtain ⟨o', u, h'⟩ := sm
      rw [z, h] at h'; cases h'
    exact ⟨_, .list ho hc hd h1, by simp only [List.mem_cons, not_or]; exact ⟨ne, h2⟩⟩
  | _, _, a, _, .dK k, e, h => by
    cases k with
    | cons _ _ => simp [D.pyd] at e
    | nil =>
    simp only [D.pyd, Option.some.injEq] at e
    subst e
    obtain ⟨_, hs, vs, rel, o, es, ep, ho, hx, hd, _, pr, _⟩ := dk_of I.hok h
    cases rel
    have he : es.toList = [] := by cases hl : es.toList with | nil => rfl | cons x l => rw [hl] at pr; cases pr
    exact emptyD ho hx hd he hs
  | _, _, _, _, .dT k, e, h => by
    cases k with
    | cons _ _ => simp [D.pyd] at e
    | nil =>
    simp only [D.pyd, Option.some.injEq] at e
    subst e
    obtain ⟨_, hs, xs, rel, o, es, ep, ho, hx, hd, he, _⟩ := dt_of I.hok h
    cases rel
    exact emptyD ho hx hd he hs
  | _, _, _, _, .ins _ _ _ _, e, _ => by simp [D.pyd] at e
theorem Hl.reads (hK : X.K = T.K) (I : Inv X pins σ H s) (sm : SysM H) (sb : Sub G H) : ∀ {ds : List D} {vs : List V} {us : List Value} {ps : List PyData}, Hl T P G ds vs → pydL ds = some ps → Vals vs us → ∃ as, ReadsAll s.heap us ps as ∧ sysModules ∉ as
  | _, _, _, _, .nil, e, r => by
    simp only [pydL, Option.some.injEq] at e; subst e; cases r; exact ⟨_, .nil, by simp⟩
  | _, _, _, _, .cons h t, e, r => by
    simp only [pydL, Option.bind_eq_some_iff, Option.map_eq_some_iff] at e
    obtain ⟨p, e1, q, e2, rfl⟩ := e
    cases r with
    | cons r1 r2 =>
      obtain ⟨as, a1, a2⟩ := Hd.reads hK I sm sb h e1 r1
      obtain ⟨bs, b1, b2⟩ := Hl.reads hK I sm sb t e2 r2
      exact ⟨_, .cons a1 b1, by simp only [List.mem_append, not_or]; exact ⟨a2, b2⟩⟩
end
end
def rC1 (T : Tx) (P : Px) (F : F1) : List V → Hp → VK → Prop := fun xs H Q => ∃ x, xs = [x] ∧ rF1 T P F x H Q
def rC2 (T : Tx) (P : Px) (F : F2) : List V → Hp → VK → Prop := fun xs H Q => ∃ x y, xs = [x, y] ∧ rF2 T P F x y H Q
section
variable {T : Tx} {B : Bs} {σ : L2.St} {H : Hp}
theorem up_b1 {F : F1} {ta : TD} {Q : VK} (h : up T B (dUn F ta) σ H Q) : tCB (rC1 T B.P F) (tCons (up T B ta) tNil) σ H Q := by
  have k := up_un h
  obtain ⟨n, τ, G, K, R, t, q⟩ := k
  exact ⟨n, τ, G, K, R, t, fun r n' v H' G' a b c d => ⟨v, rfl, q r n' v H' G' a b c d⟩⟩
theorem up_b2 {F : F2} {ta tb : TD} {Q : VK} (h : up T B (dBin F ta tb) σ H Q) : tCB (rC2 T B.P F) (tCons (up T B ta) (tCons (up T B tb) tNil)) σ H Q := by
  have k := up_bin h
  obtain ⟨n, τ, G, K, R, t, q⟩ := k
  refine ⟨n, τ, G, K, R, t, fun r n' v H' G' a b c d => ?_⟩
  obtain ⟨n2, τ2, G2, K2, R2, t2, q2⟩ := q r n' v H' G' a b c d
  exact ⟨n2, τ2, G2, K2, R2, t2, fun r2 n3 v2 H3 G3 a2 b2 c2 d2 => ⟨v, v2, rfl, q2 r2 n3 v2 H3 G3 a2 b2 c2 d2⟩⟩
end

def fLen : F1 := fun x e => (∃ l, (x = .lst l ∨ x = .tup l) ∧ e = .ret (.int l.length)) ∨ ∃ t l, x = .dct t l ∧ e = .ret (.int l.length)
def fTuple : F1 := fun x e => ∃ l, (x = .lst l ∨ x = .tup l) ∧ e = .newT l
def fList : F1 := fun x e => ∃ l, (x = .lst l ∨ x = .tup l) ∧ e = .newL l
def fAll : F1 := fun x e => ∃ l : List Bool, x = .lst (l.map .bl) ∧ e = .ret (.bl (l.all id))
def fAny : F1 := fun x e => ∃ l : List Bool, x = .lst (l.map .bl) ∧ e = .ret (.bl (l.any id))
def fSum : F1 := fun x e => ∃ l : List Int, x = .lst (l.map .int) ∧ e = .ret (.int l.sum)
def fAbs : F1 := fun x e => ∃ i, x = .int i ∧ e = .ret (.int (if i < 0 then -i else i))
def fInt : F1 := fun x e => (∃ i, x = .int i ∧ e = .ret (.int i)) ∨ ∃ b, x = .bl b ∧ e = .ret (.int (if b then 1 else 0))
def fMaxL : F1 := fun x e => ∃ (l : List Int) (m : Int), x = .lst (l.map .int) ∧ m ∈ l ∧ (∀ y, y ∈ l → y ≤ m) ∧ e = .ret (.int m)
def fMinL : F1 := fun x e => ∃ (l : List Int) (m : Int), x = .lst (l.map .int) ∧ m ∈ l ∧ (∀ y, y ∈ l → m ≤ y) ∧ e = .ret (.int m)
def fRepr : F1 := fun x e => ∃ p, x.pyd = some p ∧ p.showable = true ∧ p.depth ≤ 64 ∧ p.shown.length ≤ Z ∧ e = .ret (.str p.shown)
def fMax2 : F2 := fI (fun i j => if j > i then j else i) fun _ _ => True
def fMin2 : F2 := fI (fun i j => if j < i then j else i) fun _ _ => True
def fGcd : F2 := fI (fun i j => ((Nat.gcd i.natAbs j.natAbs : Nat) : Int)) fun _ _ => True

section
variable {X : Cx} {T : Tx} {P : Px} {G H : Hp}
theorem Hl.ints : ∀ {l : List Int} {vs : List V}, Hl T P G (l.map .int) vs → vs = l.map V.int
  | [], _, .nil => rfl
  | i :: l, _, .cons h t => by rw [List.map_cons, ← Hl.ints t, Av.int_ (H := G) (.inl h)]
theorem Hl.bls : ∀ {l : List Bool} {vs : List V}, Hl T P G (l.map .bl) vs → vs = l.map V.bl
  | [], _, .nil => rfl
  | i :: l, _, .cons h t => by rw [List.map_cons, ← Hl.bls t, Av.bl_ (H := G) (.inl h)]
theorem Hk.length : ∀ {l : List (D × D)} {m : List (Key × V)}, Hk T P G l m → l.length = m.length
  | _, _, .nil => rfl
  | _, _, .cons _ t => congrArg (· + 1) (Hk.length t)
theorem Ht.length : ∀ {l : List (D × D)} {m : List (List Key × V)}, Ht T P G l m → l.length = m.length
  | _, _, .nil => rfl
  | _, _, .cons _ t => congrArg (· + 1) (Ht.length t)
/-- a sequence that is read -/
theorem Av.sq (s : Sub G H) {x : D} {v : V} {l : List D} (h : Av T P G H x v) (e : x = .lst l ∨ x = .tup l) : ∃ a vs, v = .ref a ∧ (SqL T.K H a vs ∨ SqT T.K H a vs) ∧ Hl T P G l vs := by
  rcases e with rfl | rfl
  · obtain ⟨a, vs, rfl, h, k⟩ := h.lst s
    exact ⟨a, vs, rfl, .inl (SqL.of h), k⟩
  · obtain ⟨a, vs, rfl, h, k⟩ := h.tup s
    exact ⟨a, vs, rfl, .inr h, k⟩
theorem cd_len (hK : X.K = T.K) : CallR X (.builtin "len") (rC1 T P fLen) := by
  intro pins s σ H xs us Q I r q
  obtain ⟨x, rfl, G, dx, e, ⟨sb, sm⟩, hx, hF, k⟩ := q
  rcases hF with ⟨l, hl, rfl⟩ | ⟨_, l, rfl, rfl⟩
  · obtain ⟨a, vs, rfl, h1, h2⟩ := hx.sq sb hl
    exact call_len_seq pins s σ H _ us Q I r ⟨a, vs, rfl, hK ▸ h1, by rw [← h2.length]; exact k _ (.int _)⟩
  · obtain ⟨a, o, rfl, h1, h2⟩ := hx.dct sb
    cases h2 with
    | dK h2 =>
      obtain ⟨u, rfl, ru⟩ := r.one
      cases ru
      exact d_len I (.inl h1) fun t s' I' => ⟨.int _, H, I', ⟨t, rfl⟩, by rw [← h2.length]; exact k _ (.int _)⟩
    | dT h2 => exact call_len_dT pins s σ H _ us Q I r ⟨a, _, rfl, h1, by rw [← h2.length]; exact k _ (.int _)⟩
theorem cd_tuple (hK : X.K = T.K) : CallR X (.type "tuple") (rC1 T P fTuple) := by
  intro pins s σ H xs us Q I r q
  obtain ⟨x, rfl, G, dx, e, ⟨sb, sm⟩, hx, ⟨l, hl, rfl⟩, k⟩ := q
  rcases hl with rfl | rfl
  · obtain ⟨a, vs, rfl, h1, h2⟩ := hx.lst sb
    exact call_tuple_of pins s σ H _ us Q I r ⟨a, vs, rfl, .inl ⟨SqL.of h1, fun p hp => k.1 p vs hp h2⟩⟩
  · obtain ⟨a, vs, rfl, h1, h2⟩ := hx.tup sb
    exact call_tuple_of pins s σ H _ us Q I r ⟨a, vs, rfl, .inr ⟨hK ▸ h1, k.2 _ hx.tupH⟩⟩
theorem cd_list (hK : X.K = T.K) : CallR X (.type "list") (rC1 T P fList) := by
  intro pins s σ H xs us Q I r q
  obtain ⟨x, rfl, G, dx, e, ⟨sb, sm⟩, hx, ⟨l, hl, rfl⟩, k⟩ := q
  obtain ⟨a, vs, rfl, h1, h2⟩ := hx.sq sb hl
  exact call_list_of pins s σ H _ us Q I r ⟨a, vs, rfl, hK ▸ h1, fun p hp => k p vs hp h2⟩
theorem cd_all (hc : X.calm = true) : CallR X (.builtin "all") (rC1 T P fAll) := by
  intro pins s σ H xs us Q I r q
  obtain ⟨x, rfl, G, dx, e, ⟨sb, sm⟩, hx, ⟨l, rfl, rfl⟩, k⟩ := q
  obtain ⟨a, vs, rfl, h1, h2⟩ := hx.lst sb
  obtain rfl := h2.bls
  exact cr_all hc pins s σ H _ us Q I r ⟨a, l, rfl, SqL.of h1, k _ (.bl _)⟩
theorem cd_any (hc : X.calm = true) : CallR X (.builtin "any") (rC1 T P fAny) := by
  intro pins s σ H xs us Q I r q
  obtain ⟨x, rfl, G, dx, e, ⟨sb, sm⟩, hx, ⟨l, rfl, rfl⟩, k⟩ := q
  obtain ⟨a, vs, rfl, h1, h2⟩ := hx.lst sb
  obtain rfl := h2.bls
  exact cr_any hc pins s σ H _ us Q I r ⟨a, l, rfl, SqL.of h1, k _ (.bl _)⟩
theorem cd_sum (hc : X.calm = true) : CallR X (.builtin "sum") (rC1 T P fSum) := by
  intro pins s σ H xs us Q I r q
  obtain ⟨x, rfl, G, dx, e, ⟨sb, sm⟩, hx, ⟨l, rfl, rfl⟩, k⟩ := q
  obtain ⟨a, vs, rfl, h1, h2⟩ := hx.lst sb
  obtain rfl := h2.ints
  exact cr_sum hc pins s σ H _ us Q I r ⟨a, l, rfl, SqL.of h1, k _ (.int _)⟩
theorem cd_maxL (hc : X.calm = true) : CallR X (.builtin "max") (rC1 T P fMaxL) := by
  intro pins s σ H xs us Q I r q
  obtain ⟨x, rfl, G, dx, e, ⟨sb, sm⟩, hx, ⟨l, m, rfl, hm, hle, rfl⟩, k⟩ := q
  obtain ⟨a, vs, rfl, h1, h2⟩ := hx.lst sb
  obtain rfl := h2.ints
  refine cr_max hc pins s σ H _ us Q I r ⟨a, l, rfl, SqL.of h1, List.length_pos_of_mem hm, fun m' h1' h2' => ?_⟩
  have e : m' = m := Int.le_antisymm (hle _ h1') (h2' _ hm)
  rw [e]
  exact k _ (.int _)
theorem cd_minL (hc : X.calm = true) : CallR X (.builtin "min") (rC1 T P fMinL) := by
  intro pins s σ H xs us Q I r q
  obtain ⟨x, rfl, G, dx, e, ⟨sb, sm⟩, hx, ⟨l, m, rfl, hm, hle, rfl⟩, k⟩ := q
  obtain ⟨a, vs, rfl, h1, h2⟩ := hx.lst sb
  obtain rfl := h2.ints
  refine cr_min hc pins s σ H _ us Q I r ⟨a, l, rfl, SqL.of h1, List.length_pos_of_mem hm, fun m' h1' h2' => ?_⟩
  have e : m' = m := Int.le_antisymm (h2' _ hm) (hle _ h1')
  rw [e]
  exact k _ (.int _)
theorem cd_abs : CallR X (.builtin "abs") (rC1 T P fAbs) := by
  intro pins s σ H xs us Q I r q
  obtain ⟨x, rfl, G, dx, e, ⟨sb, sm⟩, hx, ⟨i, rfl, rfl⟩, k⟩ := q
  obtain rfl := hx.int_
  exact call_abs pins s σ H _ us Q I r ⟨i, rfl, k _ (.int _)⟩
theorem cd_int : CallR X (.type "int") (rC1 T P fInt) := by
  intro pins s σ H xs us Q I r q
  obtain ⟨x, rfl, G, dx, e, ⟨sb, sm⟩, hx, hF, k⟩ := q
  rcases hF with ⟨i, rfl, rfl⟩ | ⟨b, rfl, rfl⟩
  · obtain rfl := hx.int_
    exact call_int1 pins s σ H _ us Q I r (.inl ⟨i, rfl, k _ (.int _)⟩)
  · obtain rfl := hx.bl_
    exact call_int1 pins s σ H _ us Q I r (.inr ⟨b, rfl, k _ (.int _)⟩)
theorem cd_max2 (hc : X.calm = true) : CallR X (.builtin "max") (rC2 T P fMax2) := by
  intro pins s σ H xs us Q I r q
  obtain ⟨x, y, rfl, G, dx, dy, e, sb, hx, hy, ⟨i, j, rfl, rfl, _, rfl⟩, k⟩ := q
  obtain rfl := hx.int_
  obtain rfl := hy.int_
  exact call_max2 hc pins s σ H _ us Q I r ⟨i, j, rfl, k _ (.int _)⟩
theorem cd_min2 (hc : X.calm = true) : CallR X (.builtin "min") (rC2 T P fMin2) := by
  intro pins s σ H xs us Q I r q
  obtain ⟨x, y, rfl, G, dx, dy, e, sb, hx, hy, ⟨i, j, rfl, rfl, _, rfl⟩, k⟩ := q
  obtain rfl := hx.int_
  obtain rfl := hy.int_
  exact call_min2 hc pins s σ H _ us Q I r ⟨i, j, rfl, k _ (.int _)⟩
theorem cd_gcd : CallR X (.builtin "math.gcd") (rC2 T P fGcd) := by
  intro pins s σ H xs us Q I r q
  obtain ⟨x, y, rfl, G, dx, dy, e, sb, hx, hy, ⟨i, j, rfl, rfl, _, rfl⟩, k⟩ := q
  obtain rfl := hx.int_
  obtain rfl := hy.int_
  exact cr_gcd pins s σ H _ us Q I r ⟨i, j, rfl, k _ (.int _)⟩
/-- repr of plain data -/
theorem cd_repr (hK : X.K = T.K) (hg : X.A.guards = some []) (hu : X.A.units + 66 < cLine) : CallR X (.builtin "repr") (rC1 T P fRepr) := by
  intro pins s σ H xs us Q I r q
  obtain ⟨x, rfl, G, dx, e, ⟨sb, sm⟩, hx, ⟨p, ep, hs, hdep, hz, rfl⟩, k⟩ := q
  obtain ⟨u, rfl, ru⟩ := r.one
  obtain ⟨as, rd, hsm⟩ : ∃ as, Reads s.heap u p as ∧ sysModules ∉ as := by
    rcases hx with hx | ⟨a, o, rfl, h1, _, h2⟩
    · exact Hd.reads hK I sm sb hx ep ru
    · cases ru
      exact Ho.reads hK I sm sb h2 ep h1
  have hz : p.shown.length ≤ sizeLine := by rw [sizeLine_eq]; exact hz
  have fin : ∀ h' tk t, (∀ b o, s.heap.get? b = some o → h'.get? b = some o) → EP X pins σ Q (.str p.shown t) { s with heap := h', toks := tk } := fun h' tk t kp => ⟨.str _, H, I.kept kp, ⟨t, rfl⟩, k _ (.str _)⟩
  have big : ∀ {a : Addr}, u = .ref a → wpAny (model X.prog X.w) X.A (call (.builtin "repr") [u]) (EP X pins σ Q) X.xe s := fun {a} e => by
    subst e
    exact repr_of_reads' rd hs (fun _ => hsm) hg (by omega) (fun _ _ h => h) (fun h' t tk kp => fin h' tk t kp) hz
  have sm : ∀ t, EP X pins σ Q (.str p.shown t) { s with toks := s.toks + 1 } := fun t => fin s.heap _ t fun _ _ h => h
  cases rd with
  | none => exact PySem.P.repr_of_none (sm _)
  | bool b => exact PySem.P.repr_of_bool (sm _)
  | int i t =>
    refine PySem.P.repr_of_int ?_ (sm _)
    simpa [PyData.showable] using hs
  | str x t => exact PySem.P.repr_of_str (sm _) hz
  | list => exact big rfl
  | tuple => exact big rfl
  | dict => exact big rfl
end
end Sh
namespace Sh
open L2 PySem PySem.Spec PyProof.Rows

section
variable {T : Tx} {B : Bs} {n : En} {τ : List (Addr × HO)} {G : Hp} {σ : L2.St} {H : Hp}
/-- slot i forgets what it had; whatever value stands there -/
theorem Rep.drop (R : Rep T B n τ G σ H) (i : Nat) (x : Option V) : Rep T B { n with ρ := n.ρ.set i .no } τ G (σ.set i x) H := by
  have hl := R.len
  have oth : ∀ (j : Nat) (s : Sv), (n.ρ.set i .no)[j]? = some s → s ≠ .no → j ≠ i ∧ n.ρ[j]? = some s ∧ (σ.set i x)[j]? = σ[j]? := fun j s h ns => by
    by_cases hj : j = i
    · subst hj
      have hi : j < n.ρ.length := by
        by_cases hi : j < n.ρ.length
        · exact hi
        · rw [List.getElem?_eq_none (by simpa using hi)] at h; cases h
      rw [List.getElem?_set_self hi] at h; cases h; exact absurd rfl ns
    · rw [List.getElem?_set_ne (Ne.symm hj)] at h
      exact ⟨hj, h, List.getElem?_set_ne (Ne.symm hj)⟩
  refine ⟨R.bok, R.sub, R.ext, R.dom, R.g0, R.new, R.nt, R.pen, R.tabs, by rw [List.length_set, List.length_set]; exact hl, fun j s h => ?_, fun j k d e a h1 h2 h3 h4 => ?_, fun p hp => ?_⟩
  · cases s with
    | no => trivial
    | me =>
      obtain ⟨_, h1, h2⟩ := oth j _ h nofun
      exact h2.trans (R.slot j _ h1)
    | sh d =>
      obtain ⟨_, h1, h2⟩ := oth j _ h nofun
      obtain ⟨v, e, k⟩ := R.slot j _ h1
      exact ⟨v, by rw [h2]; exact e, k⟩
    | ow d =>
      obtain ⟨_, h1, h2⟩ := oth j _ h nofun
      obtain ⟨a, o, e, k⟩ := R.slot j _ h1
      exact ⟨a, o, by rw [h2]; exact e, k⟩
  · obtain ⟨_, a1, a2⟩ := oth j _ h1 nofun
    obtain ⟨_, b1, b2⟩ := oth k _ h2 nofun
    exact R.apart j k d e a a1 b1 (by rw [← a2]; exact h3) (by rw [← b2]; exact h4)
  · obtain ⟨h1, h2, h3, h4⟩ := R.tmp p hp
    refine ⟨h1, h2, h3, fun j d h => ?_⟩
    obtain ⟨_, a1, a2⟩ := oth j _ h nofun
    rw [a2]
    exact h4 j d a1
theorem Rep.put_sh (R : Rep T B n τ G σ H) {i : Nat} {d : D} {v : V} (hd : Hd T B.P G d v) : Rep T B { n with ρ := n.ρ.set i (.sh d) } τ G (σ.set i (some v)) H := by
  by_cases hi : i < n.ρ.length
  rotate_left
  · have e1 : n.ρ.set i (.sh d) = n.ρ := List.set_eq_of_length_le (by omega)
    have e2 : σ.set i (some v) = σ := List.set_eq_of_length_le (by rw [R.len]; omega)
    rw [e1, e2]
    exact R
  have R1 := R.drop i (some v)
  have oth : ∀ (j : Nat) (x : D), (n.ρ.set i (.sh d))[j]? = some (.ow x) → (n.ρ.set i .no)[j]? = some (.ow x) := fun j x h => by
    by_cases hj : j = i
    · subst hj; rw [List.getElem?_set_self hi] at h; cases h
    · rw [List.getElem?_set_ne (Ne.symm hj)] at h ⊢; exact h
  refine ⟨R1.bok, R1.sub, R1.ext, R1.dom, R1.g0, R1.new, R1.nt, R1.pen, R1.tabs, by rw [List.length_set, List.length_set]; exact R.len, fun j s h => ?_, fun j k x y a h1 h2 => R1.apart j k x y a (oth j x h1) (oth k y h2), fun p hp => ?_⟩
  · by_cases hj : j = i
    · subst hj
      have h : (n.ρ.set j (.sh d))[j]? = some s := h
      rw [List.getElem?_set_self hi] at h; cases h
      exact ⟨v, List.getElem?_set_self (by rw [R.len]; exact hi), hd⟩
    · refine R1.slot j s ?_
      have h : (n.ρ.set i (.sh d))[j]? = some s := h
      rw [List.getElem?_set_ne (Ne.symm hj)] at h
      show (n.ρ.set i .no)[j]? = some s
      rw [List.getElem?_set_ne (Ne.symm hj)]; exact h
  · obtain ⟨h1, h2, h3, h4⟩ := R1.tmp p hp
    exact ⟨h1, h2, h3, fun j x h => h4 j x (oth j x h)⟩
theorem Rep.put_ow (R : Rep T B n τ G σ H) {i : Nat} {d : D} {a : Addr} {o : HO} (k : OwnO T B G H d a o) (hτ : ∀ q ∈ τ, q.1 ≠ a) (hs : ∀ (j : Nat) (x : D), n.ρ[j]? = some (.ow x) → σ[j]? ≠ some (some (.ref a))) :
    Rep T B { n with ρ := n.ρ.set i (.ow d) } τ G (σ.set i (some (.ref a))) H := by
  by_cases hi : i < n.ρ.length
  rotate_left
  · have e1 : n.ρ.set i (.ow d) = n.ρ := List.set_eq_of_length_le (by omega)
    have e2 : σ.set i (some (V.ref a)) = σ := List.set_eq_of_length_le (by rw [R.len]; omega)
    rw [e1, e2]
    exact R
  have R1 := R.drop i (some (.ref a))
  have ai : (σ.set i (some (V.ref a)))[i]? = some (some (.ref a)) := List.getElem?_set_self (by rw [R.len]; exact hi)
  have oth : ∀ (j : Nat) (x : D), (n.ρ.set i (.ow d))[j]? = some (.ow x) → j ≠ i → (n.ρ.set i .no)[j]? = some (.ow x) ∧ (σ.set i (some (V.ref a)))[j]? ≠ some (some (.ref a)) := fun j x h hj => by
    rw [List.getElem?_set_ne (Ne.symm hj)] at h ⊢
    rw [List.getElem?_set_ne (Ne.symm hj)]
    exact ⟨h, hs j x h⟩
  refine ⟨R1.bok, R1.sub, R1.ext, R1.dom, R1.g0, R1.new, R1.nt, R1.pen, R1.tabs, by rw [List.length_set, List.length_set]; exact R.len, fun j s h => ?_, fun j l x y b h1 h2 h3 h4 => ?_, fun p hp => ?_⟩
  · by_cases hj : j = i
    · subst hj
      have h : (n.ρ.set j (.ow d))[j]? = some s := h
      rw [List.getElem?_set_self hi] at h; cases h
      exact ⟨a, o, ai, k⟩
    · refine R1.slot j s ?_
      have h : (n.ρ.set i (.ow d))[j]? = some s := h
      rw [List.getElem?_set_ne (Ne.symm hj)] at h
      show (n.ρ.set i .no)[j]? = some s
      rw [List.getElem?_set_ne (Ne.symm hj)]; exact h
  · by_cases hj : j = i
    · by_cases hl : l = i
      · rw [hj, hl]
      · subst hj
        rw [ai] at h3; cases h3
        exact absurd h4 (oth l y h2 hl).2
    · by_cases hl : l = i
      · subst hl
        rw [ai] at h4; cases h4
        exact absurd h3 (oth j x h1 hj).2
      · exact R1.apart j l x y b (oth j x h1 hj).1 (oth l y h2 hl).1 h3 h4
  · obtain ⟨h1, h2, h3, h4⟩ := R1.tmp p hp
    refine ⟨h1, h2, h3, fun j x h => ?_⟩
    by_cases hj : j = i
    · subst hj
      rw [ai]
      intro z
      exact hτ p hp (V.ref.inj (Option.some.inj (Option.some.inj z))).symm
    · exact h4 j x (oth j x h hj).1
end

mutual
def RT.slots : RT → List Nat
  | .nm i => [i]
  | .tp l => l.slots
def RTs.slots : RTs → List Nat
  | .nil => []
  | .cons a l => a.slots ++ l.slots
end
mutual
def bdT : RT → D → List Sv → Option (List Sv)
  | .nm i, d, ρ => some (ρ.set i (.sh d))
  | .tp l, .tup ds, ρ => bdTs l ds ρ
  | .tp _, _, _ => none
def bdTs : RTs → List D → List Sv → Option (List Sv)
  | .nil, [], ρ => some ρ
  | .cons a l, d :: ds, ρ => (bdT a d ρ).bind fun ρ' => bdTs l ds ρ'
  | _, _, _ => none
end
/-- only these slots differ -/
def Dif (l : List Nat) (σ σ' : L2.St) : Prop := σ'.length = σ.length ∧ ∀ j, j ∉ l → σ'[j]? = σ[j]?
theorem Dif.refl (l : List Nat) (σ : L2.St) : Dif l σ σ := ⟨rfl, fun _ _ => rfl⟩
theorem Dif.trans {l m : List Nat} {σ σ' σ'' : L2.St} (h : Dif l σ σ') (k : Dif m σ' σ'') : Dif (l ++ m) σ σ'' := ⟨k.1.trans h.1, fun j hj => by
  rw [List.mem_append, not_or] at hj
  exact (k.2 j hj.2).trans (h.2 j hj.1)⟩
def upG (T : Tx) (B : Bs) (t : RT) : TG := fun v σ H Q => ∃ n τ G d ρ', Rep T B n τ G σ H ∧ Hd T B.P G d v ∧ bdT t d n.ρ = some ρ' ∧ ∀ σ', Rep T B { n with ρ := ρ' } τ G σ' H → Dif t.slots σ σ' → Q σ' H
def upGs (T : Tx) (B : Bs) (t : RTs) : TGs := fun vs σ H Q => ∃ n τ G ds ρ', Rep T B n τ G σ H ∧ Hl T B.P G ds vs ∧ bdTs t ds n.ρ = some ρ' ∧ ∀ σ', Rep T B { n with ρ := ρ' } τ G σ' H → Dif t.slots σ σ' → Q σ' H
theorem PG.imp {X : Cx} {e : Expr} {t t' : TG} (h : PG X e t) (i : ∀ v σ H Q, t' v σ H Q → t v σ H Q) : PG X e t' := ⟨fun pins s σ H v u Q I r q => h.run pins s σ H v u Q I r (i v σ H Q q)⟩
theorem PGs.imp {X : Cx} {e : List Expr} {t t' : TGs} (h : PGs X e t) (i : ∀ v σ H Q, t' v σ H Q → t v σ H Q) : PGs X e t' := ⟨fun pins s σ H vs us Q I r q => h.run pins s σ H vs us Q I r (i vs σ H Q q)⟩
section
variable {T : Tx} {B : Bs} {σ : L2.St} {H : Hp}
theorem upG_nm {i : Nat} {v : V} {Q : L2.St → Hp → Prop} (q : upG T B (.nm i) v σ H Q) : gName i v σ H Q := by
  obtain ⟨n, τ, G, d, ρ', R, hd, e, q⟩ := q
  simp only [bdT, Option.some.injEq] at e
  subst e
  refine q _ (R.put_sh hd) ⟨List.length_set, fun j hj => List.getElem?_set_ne fun e => hj ?_⟩
  subst e
  simp [RT.slots]
theorem upG_tp {X : Cx} (hK : X.K = T.K) {l : RTs} {k : Nat} {v : V} {Q : L2.St → Hp → Prop} (hk : ∀ ds ρ ρ', bdTs l ds ρ = some ρ' → ds.length = k) (q : upG T B (.tp l) v σ H Q) : gTup X.K k (upGs T B l) v σ H Q := by
  obtain ⟨n, τ, G, d, ρ', R, hd, e, q⟩ := q
  cases d with
  | tup ds =>
    have e : bdTs l ds n.ρ = some ρ' := e
    obtain ⟨a, vs, rfl, h1, h2⟩ := Av.tup R.sub (.inl hd)
    exact ⟨a, vs, rfl, hK ▸ h1, by rw [← h2.length]; exact hk _ _ _ e, n, τ, G, ds, ρ', R, h2, e, q⟩
  | _ => cases e
theorem upGs_nil {vs : List V} {Q : L2.St → Hp → Prop} (q : upGs T B .nil vs σ H Q) : gNil vs σ H Q := by
  obtain ⟨n, τ, G, ds, ρ', R, hd, e, q⟩ := q
  cases ds with
  | nil =>
    cases hd
    simp only [bdTs, Option.some.injEq] at e
    subst e
    exact ⟨rfl, q σ R (.refl _ _)⟩
  | cons => cases e
theorem upGs_cons {a : RT} {l : RTs} {vs : List V} {Q : L2.St → Hp → Prop} (q : upGs T B (.cons a l) vs σ H Q) : gCons (upG T B a) (upGs T B l) vs σ H Q := by
  obtain ⟨n, τ, G, ds, ρ', R, hd, e, q⟩ := q
  cases ds with
  | nil => cases e
  | cons d ds =>
    cases hd with
    | cons h t =>
      have e : (bdT a d n.ρ).bind (fun ρ' => bdTs l ds ρ') = some ρ' := e
      obtain ⟨ρ1, e1, e2⟩ := Option.bind_eq_some_iff.mp e
      exact ⟨_, _, rfl, n, τ, G, d, ρ1, R, h, e1, fun σ1 R1 D1 => ⟨_, τ, G, ds, ρ', R1, t, e2, fun σ2 R2 D2 => q σ2 R2 (D1.trans D2)⟩⟩
end

abbrev TDi := En → (List D → En → Prop) → Prop
def ItOk (T : Tx) (P : Px) (G : Hp) (J : It) (ds : List D) : Prop := ∀ i H, Sub G H →
  (∀ d, ds[i]? = some d → J.go i H ∧ ∀ x H', J.yld i H x H' → (H' = H ∧ Hd T P G d x) ∨ ∃ p xs ls, d = .tup ls ∧ H p = none ∧ x = .ref p ∧ H' = upd H p (.tup xs) ∧ Hl T P G ls xs) ∧ (ds[i]? = none → J.stop i H)
def upI (T : Tx) (B : Bs) (t : TDi) : TI := fun σ H R => ∃ n τ G K, Rep T B n τ G σ H ∧ t n K ∧ ∀ ds n' J H' G', Rep T B n' τ G' σ H' → Sub G G' → ItOk T B.P G' J ds → K ds n' → R J H'
theorem PI.imp {X : Cx} {g e : Expr} {t t' : TI} (h : PI X g e t) (i : ∀ σ H Q, t' σ H Q → t σ H Q) : PI X g e t' := ⟨fun pins s σ H Q I q => h.run pins s σ H Q I (i σ H Q q)⟩
/-- a list or a tuple, by what stands there -/
def iSq (K : PySem.W.Frag) (tl : TE) : TI := fun σ H R => tl σ H fun x H1 => ∃ a, x = .ref a ∧ ((∃ xs, SqL K H1 a xs ∧ (xs.length ≤ sizeLine → R (Itl K a) H1)) ∨ (∃ xs, SqT K H1 a xs ∧ (xs.length ≤ sizeLine → R (Itt K a) H1)))
theorem pi_sq {X : Cx} {tg l : Expr} {tl : TE} (hl : PE X l tl) : PI X tg l (iSq X.K tl) := by
  constructor
  intro pins s σ H R I h
  refine thn (hl.run pins s σ H _ I h) ?_
  rintro v s1 ⟨x, H1, I1, r1, a, rfl, q1⟩
  cases r1
  have new : ∀ (o : Obj), Inv X pins σ H1 { s1 with heap := s1.heap.push o } := fun o => I1.kept (t' := s1.toks) fun b u e => Heap.get?_push_of_some _ e
  have own : ∀ b ∈ [s1.heap.objs.size], FpOk X pins H1 b := fun b hb => by
    obtain rfl := List.mem_singleton.mp hb
    exact I1.fpOk (Nat.le_refl _) (I1.hok.fresh (Nat.le_refl _))
  rcases q1 with ⟨xs, hq, q⟩ | ⟨xs, hq, q⟩
  · obtain ⟨its, _, pl, hz⟩ := I1.list hq
    have q := q hz
    refine wpAny_pyIter_list pl.isList ?_
    exact ⟨_, [_], _, Itl X.K a, H1, rfl, new _, turn_list a _, ⟨_, Heap.get?_push_size _ rfl, rfl, rfl⟩, own, q⟩
  · obtain ⟨its, _, pl, hz⟩ := I1.tuple hq
    have q := q hz
    refine wpAny_pyIter_tuple (show s1.heap.IsTuple a its.toArray from pl) ?_
    exact ⟨_, [_], _, Itt X.K a, H1, rfl, new _, turn_tuple a _, ⟨_, Heap.get?_push_size _ rfl, rfl, rfl⟩, own, q⟩

def diSeq (t : TD) : TDi := fun n K => t n fun r n1 => frz n1 r fun d n2 => ∃ l, (d = .lst l ∨ d = .tup l) ∧ (l.length ≤ Z → K l n2)
def diRg (t : TDa) : TDi := fun n K => t n fun ds n1 => ∃ a b : Int, (ds = [.int b] ∧ a = 0 ∨ ds = [.int a, .int b]) ∧ (-(2 ^ 62) ≤ a ∧ a < 2 ^ 62 ∧ -(2 ^ 62) ≤ b ∧ b < 2 ^ 62) ∧ K ((List.range (b - a).toNat).map fun i => .int (a + (i : Nat))) n1
def diEnum (t : TD) : TDi := fun n K => t n fun r n1 => frz n1 r fun d n2 => ∃ l, d = .lst l ∧ K (l.zipIdx.map fun p => .tup [.int (p.2 : Nat), p.1]) n2
def diZip (t u : TD) : TDi := fun n K => t n fun r n1 => frz n1 r fun d n2 => u n2 fun r n3 => frz n3 r fun e n4 => ∃ l m, ((d = .lst l ∧ e = .lst m) ∨ (d = .tup l ∧ e = .tup m)) ∧ K ((l.zip m).map fun p => .tup [p.1, p.2]) n4
section
variable {T : Tx} {B : Bs} {σ : L2.St} {H : Hp} {R : It → Hp → Prop} {P : Px} {G : Hp}
theorem itl_ok {K : PySem.W.Frag} (hK : K = T.K) {a : Addr} {vs : List V} {l : List D} (hg : ∀ H, Sub G H → SqL K H a vs) (h : Hl T P G l vs) : ItOk T P G (Itl K a) l := fun i H s => by
  refine ⟨fun d e => ?_, fun e => ?_⟩
  · obtain ⟨v, h1, h2⟩ := h.get e
    refine ⟨⟨vs, v, hg H s, h1⟩, fun x H' y => .inl ⟨y.1, ?_⟩⟩
    have := y.2 vs (hg H s)
    rw [h1] at this
    cases this
    exact h2
  · refine ⟨vs, hg H s, ?_⟩
    have := List.getElem?_eq_none_iff.mp e
    rw [← h.length]; exact this
theorem itt_ok {K : PySem.W.Frag} {a : Addr} {vs : List V} {l : List D} (hg : ∀ H, Sub G H → SqT K H a vs) (h : Hl T P G l vs) : ItOk T P G (Itt K a) l := fun i H s => by
  refine ⟨fun d e => ?_, fun e => ?_⟩
  · obtain ⟨v, h1, h2⟩ := h.get e
    refine ⟨⟨vs, v, hg H s, h1⟩, fun x H' y => .inl ⟨y.1, ?_⟩⟩
    have := y.2 vs (hg H s)
    rw [h1] at this
    cases this
    exact h2
  · refine ⟨vs, hg H s, ?_⟩
    have := List.getElem?_eq_none_iff.mp e
    rw [← h.length]; exact this
/-- a frozen sequence -/
theorem hd_lst {v : V} {l : List D} (h : Hd T P G (.lst l) v) : ∃ a vs, v = .ref a ∧ G a = some (.lst vs) ∧ Hl T P G l vs := by
  cases h with
  | obj h k => cases k with | lst k => exact ⟨_, _, rfl, h, k⟩
theorem hd_tup {v : V} {l : List D} (h : Hd T P G (.tup l) v) : ∃ a vs, v = .ref a ∧ (∀ H, Sub G H → SqT T.K H a vs) ∧ Hl T P G l vs := by
  cases h with
  | obj h k => cases k with | tup k => exact ⟨_, _, rfl, fun H s => SqT.of (s _ _ h), k⟩
  | kt m h k => exact ⟨_, _, rfl, fun H _ => h H, k⟩
theorem up_iSeq {K : PySem.W.Frag} (hK : K = T.K) {t : TD} (q : upI T B (diSeq t) σ H R) : iSq K (up T B t) σ H R := by
  obtain ⟨n, τ, G, Kd, R0, t, q⟩ := q
  refine ⟨n, τ, G, _, R0, t, fun x n1 v1 H1 G1 R1 s1 k1 t1 => ?_⟩
  obtain ⟨d, n2, G2, s2, R2, h2, l, hl, t2⟩ := frz_ok R1 k1 t1
  rcases hl with rfl | rfl
  · obtain ⟨a, vs, rfl, hg, hv⟩ := hd_lst h2
    have at_ : ∀ H, Sub G2 H → SqL K H a vs := fun H s => SqL.of (s _ _ hg)
    exact ⟨a, rfl, .inl ⟨vs, at_ _ R2.sub, fun hz => q l n2 _ H1 G2 R2 (s1.trans s2) (itl_ok hK at_ hv) (t2 (by rw [hv.length]; rw [sizeLine_eq] at hz; exact hz))⟩⟩
  · obtain ⟨a, vs, rfl, hg, hv⟩ := hd_tup h2
    subst hK
    exact ⟨a, rfl, .inr ⟨vs, hg _ R2.sub, fun hz => q l n2 _ H1 G2 R2 (s1.trans s2) (itt_ok hg hv) (t2 (by rw [hv.length]; rw [sizeLine_eq] at hz; exact hz))⟩⟩
end
end Sh
namespace Sh
open L2 PySem PySem.Spec PyProof.Rows

def rgD (a b : Int) : List D := (List.range (b - a).toNat).map fun i => .int (a + (i : Nat))
def InR (a : Int) : Prop := -(2 ^ 62) ≤ a ∧ a < 2 ^ 62
def diRg1 (t : TDa) : TDi := fun n K => t n fun ds n1 => ∃ b : Int, ds = [.int b] ∧ InR b ∧ K (rgD 0 b) n1
def diRg2 (t : TDa) : TDi := fun n K => t n fun ds n1 => ∃ a b : Int, ds = [.int a, .int b] ∧ InR a ∧ InR b ∧ K (rgD a b) n1
section
variable {T : Tx} {B : Bs} {σ : L2.St} {H : Hp} {R : It → Hp → Prop} {P : Px} {G : Hp}
theorem itr_ok {lo : Int} {n : Nat} : ItOk T P G (Itr lo n) ((List.range n).map fun i => .int (lo + (i : Nat))) := fun i H s => by
  refine ⟨fun d e => ?_, fun e => ?_⟩
  · rw [List.getElem?_map] at e
    have hi : i < n := by
      by_cases hi : i < n
      · exact hi
      · rw [List.getElem?_eq_none (by simpa using hi)] at e; cases e
    rw [List.getElem?_range hi] at e
    cases e
    refine ⟨hi, fun x H' y => .inl ⟨y.1, ?_⟩⟩
    rw [y.2]
    exact .int _
  · have := List.getElem?_eq_none_iff.mp e
    show n ≤ i
    simpa using this
theorem up_iRg1 {t : TDa} (q : upI T B (diRg1 t) σ H R) : iRng1 (upA T B t) σ H R := by
  obtain ⟨n, τ, G, Kd, R0, t, q⟩ := q
  refine ⟨n, τ, G, _, R0, t, fun ds n1 vs H1 G1 R1 s1 k1 t1 => ?_⟩
  obtain ⟨b, rfl, hb, t1⟩ := t1
  have e : vs = [.int b] := by
    cases k1 with
    | cons h t => cases t; rw [Av.int_ (H := H1) (.inl h)]
  have := q _ n1 (Itr 0 b.toNat) H1 G1 R1 s1 (by unfold rgD; rw [Int.sub_zero]; exact itr_ok) t1
  exact ⟨b, e, hb.1, hb.2, this⟩
theorem up_iRg2 {t : TDa} (q : upI T B (diRg2 t) σ H R) : iRng2 (upA T B t) σ H R := by
  obtain ⟨n, τ, G, Kd, R0, t, q⟩ := q
  refine ⟨n, τ, G, _, R0, t, fun ds n1 vs H1 G1 R1 s1 k1 t1 => ?_⟩
  obtain ⟨a, b, rfl, ha, hb, t1⟩ := t1
  have e : vs = [.int a, .int b] := by
    cases k1 with
    | cons h t =>
      cases t with
      | cons h' t => cases t; rw [Av.int_ (H := H1) (.inl h), Av.int_ (H := H1) (.inl h')]
  exact ⟨a, b, e, ⟨ha.1, ha.2, hb.1, hb.2⟩, q _ n1 (Itr a (b - a).toNat) H1 G1 R1 s1 itr_ok t1⟩
end

def wip : List Nat → List Sv → List Sv
  | [], ρ => ρ
  | i :: l, ρ => (wip l ρ).set i .no
def unw (ρ0 : List Sv) : List Nat → List Sv → List Sv
  | [], ρ => ρ
  | i :: l, ρ => (unw ρ0 l ρ).set i (ρ0[i]?.getD .no)
theorem wip_length (ρ : List Sv) : ∀ l : List Nat, (wip l ρ).length = ρ.length
  | [] => rfl
  | i :: l => by unfold wip; rw [List.length_set, wip_length ρ l]
theorem unw_length (ρ0 ρ : List Sv) : ∀ l : List Nat, (unw ρ0 l ρ).length = ρ.length
  | [] => rfl
  | i :: l => by unfold unw; rw [List.length_set, unw_length ρ0 ρ l]
theorem wip_out {ρ : List Sv} {j : Nat} : ∀ {l : List Nat}, j ∉ l → (wip l ρ)[j]? = ρ[j]?
  | [], _ => rfl
  | i :: l, h => by
    rw [List.mem_cons, not_or] at h
    unfold wip
    rw [List.getElem?_set_ne (fun e => h.1 e.symm), wip_out h.2]
theorem wip_in {ρ : List Sv} {j : Nat} {s : Sv} : ∀ {l : List Nat}, j ∈ l → (wip l ρ)[j]? = some s → s = .no
  | [], h, _ => by simp at h
  | i :: l, h, e => by
    unfold wip at e
    by_cases hj : i = j
    · subst hj
      by_cases hl : i < (wip l ρ).length
      · rw [List.getElem?_set_self hl] at e; cases e; rfl
      · rw [List.getElem?_eq_none (by simpa using hl)] at e; cases e
    · rw [List.getElem?_set_ne hj] at e
      exact wip_in ((List.mem_cons.mp h).resolve_left fun z => hj z.symm) e
theorem unw_out {ρ0 ρ : List Sv} {j : Nat} : ∀ {l : List Nat}, j ∉ l → (unw ρ0 l ρ)[j]? = ρ[j]?
  | [], _ => rfl
  | i :: l, h => by
    rw [List.mem_cons, not_or] at h
    unfold unw
    rw [List.getElem?_set_ne (fun e => h.1 e.symm), unw_out h.2]
theorem unw_in {ρ0 ρ : List Sv} {j : Nat} {s : Sv} : ∀ {l : List Nat}, j ∈ l → (unw ρ0 l ρ)[j]? = some s → s = ρ0[j]?.getD .no
  | [], h, _ => by simp at h
  | i :: l, h, e => by
    unfold unw at e
    by_cases hj : i = j
    · subst hj
      by_cases hl : i < (unw ρ0 l ρ).length
      · rw [List.getElem?_set_self hl] at e; cases e; rfl
      · rw [List.getElem?_eq_none (by simpa using hl)] at e; cases e
    · rw [List.getElem?_set_ne hj] at e
      exact unw_in ((List.mem_cons.mp h).resolve_left fun z => hj z.symm) e
theorem wipe_off {σ : L2.St} {i : Nat} : ∀ {vs : List Nat}, i ∉ vs → (wipe σ vs)[i]? = σ[i]?
  | [], _ => rfl
  | v :: vs, h => by
    rw [List.mem_cons, not_or] at h
    unfold wipe
    rw [List.getElem?_set_ne (fun e => h.1 e.symm), wipe_off h.2]
theorem wipe_on {σ : L2.St} {i : Nat} (hi : i < σ.length) : ∀ {vs : List Nat}, i ∈ vs → (wipe σ vs)[i]? = some none
  | [], h => by simp at h
  | v :: vs, h => by
    unfold wipe
    by_cases hv : v = i
    · subst hv
      rw [List.getElem?_set_self (by rw [wipe_length]; exact hi)]
    · rw [List.getElem?_set_ne hv]
      exact wipe_on hi ((List.mem_cons.mp h).resolve_left fun z => hv z.symm)
theorem wipe_dif {σ σ' : L2.St} {l vs : List Nat} (h : Dif l (wipe σ vs) σ') (hl : ∀ i ∈ l, i ∈ vs) : wipe σ' vs = wipe σ vs := by
  apply List.ext_getElem?
  intro i
  by_cases hi : i ∈ vs
  · by_cases hs : i < σ.length
    · rw [wipe_on hs hi, wipe_on (by rw [h.1, wipe_length]; exact hs) hi]
    · rw [List.getElem?_eq_none (by rw [wipe_length, h.1, wipe_length]; omega), List.getElem?_eq_none (by rw [wipe_length]; omega)]
  · rw [wipe_off hi, h.2 i fun z => hi (hl i z)]
section
variable {T : Tx} {B : Bs} {n : En} {τ : List (Addr × HO)} {G : Hp} {σ : L2.St} {H : Hp}
theorem Rep.wip (R : Rep T B n τ G σ H) : ∀ l : List Nat, Rep T B { n with ρ := wip l n.ρ } τ G (wipe σ l) H
  | [] => R
  | i :: l => (R.wip l).drop i none
/-- .. whatever the wiped slots hold -/
theorem Rep.wip' {σ' : L2.St} {l : List Nat} (R : Rep T B n τ G σ' H) (h : wipe σ' l = wipe σ l) : Rep T B { n with ρ := Sh.wip l n.ρ } τ G (wipe σ l) H := h ▸ R.wip l
/-- behind the block -/
theorem Rep.unw {n1 : En} {G1 H1 : Hp} {l : List Nat} (R : Rep T B n τ G (wipe σ l) H) (R1 : Rep T B n1 τ G1 σ H1) (s : Sub G1 G) (hw : ∀ i ∈ l, ∀ s, n.ρ[i]? = some s → s = .no) (no : ∀ i ∈ l, ∀ d, n1.ρ[i]? ≠ some (.ow d)) :
    Rep T B { n with ρ := unw n1.ρ l n.ρ } τ G σ H := by
  have own : ∀ (j : Nat) (d : D), (Sh.unw n1.ρ l n.ρ)[j]? = some (.ow d) → n.ρ[j]? = some (.ow d) ∧ (wipe σ l)[j]? = σ[j]? := fun j d h => by
    by_cases hj : j ∈ l
    · have e := unw_in hj h
      cases q : n1.ρ[j]? with
      | none => rw [q] at e; cases e
      | some s =>
        rw [q] at e
        exact absurd q (by rw [show s = .ow d from e.symm]; exact no j hj d)
    · rw [unw_out hj] at h
      exact ⟨h, wipe_off hj⟩
  refine ⟨R.bok, R.sub, R.ext, R.dom, R.g0, R.new, R.nt, R.pen, R.tabs, ?_, fun j x h => ?_, fun j k d e a h1 h2 h3 h4 => ?_, fun p hp => ?_⟩
  · show σ.length = (Sh.unw n1.ρ l n.ρ).length
    have := R.len
    rw [wipe_length] at this
    rw [unw_length]; exact this
  · by_cases hj : j ∈ l
    · have e := unw_in hj h
      cases q : n1.ρ[j]? with
      | none => rw [q] at e; subst e; trivial
      | some y =>
        rw [q] at e
        have e : x = y := e
        subst e
        have k := R1.slot j x q
        cases x with
        | no => trivial
        | me => exact k
        | sh d =>
          obtain ⟨v, e1, e2⟩ := k
          exact ⟨v, e1, e2.mono s⟩
        | ow d => exact absurd q (no j hj d)
    · have h : (Sh.unw n1.ρ l n.ρ)[j]? = some x := h
      rw [unw_out hj] at h
      have k := R.slot j x h
      have e : (wipe σ l)[j]? = σ[j]? := wipe_off hj
      cases x with
      | no => trivial
      | me => exact e.symm.trans k
      | sh d =>
        obtain ⟨v, e1, e2⟩ := k
        exact ⟨v, by rw [← e]; exact e1, e2⟩
      | ow d =>
        obtain ⟨a, o, e1, e2⟩ := k
        exact ⟨a, o, by rw [← e]; exact e1, e2⟩
  · obtain ⟨a1, a2⟩ := own j d h1
    obtain ⟨b1, b2⟩ := own k e h2
    exact R.apart j k d e a a1 b1 (by rw [a2]; exact h3) (by rw [b2]; exact h4)
  · obtain ⟨h1, h2, h3, h4⟩ := R.tmp p hp
    refine ⟨h1, h2, h3, fun j d h => ?_⟩
    obtain ⟨a1, a2⟩ := own j d h
    rw [← a2]
    exact h4 j d a1
/-- an object kept aside changes -/
theorem Rep.tmpw {a : Addr} {o o' : HO} (R : Rep T B n ((a, o) :: τ) G σ H) (hτ : ∀ q ∈ τ, q.1 ≠ a) (mk : MkO o') : Rep T B n ((a, o') :: τ) G σ (upd H a o') := by
  obtain ⟨h0, m0, own, hs⟩ := R.tmp (a, o) List.mem_cons_self
  have keep : ∀ {b x}, H b = some x → b ≠ a → upd H a o' b = some x := fun h hn => by rw [upd_ne hn]; exact h
  refine ⟨R.bok, fun b x h => keep (R.sub _ _ h) fun z => ?_, fun b x h1 h2 h3 => keep (R.ext b x h1 h2 h3) fun z => ?_, fun b h => ?_, R.g0, R.new, R.nt, ?_, ?_, R.len, fun j s h => ?_, R.apart, fun p hp => ?_⟩
  · rw [z, own.g] at h; cases h
  · rw [z, own.h] at h1; cases h1
  · unfold upd
    split
    · simp
    · exact R.dom b h
  · obtain ⟨a1, a2, a3, a4, h1, h2⟩ := R.pen
    exact ⟨a1, a2, a3, a4, keep h1 (own.ne_pen R.bok).symm, h2⟩
  · exact R.tabs.keep (.refl _) fun p hp => upd_ne (own.ne_tab R.bok p hp).symm
  · have q := R.slot j s h
    cases s with
    | no => trivial
    | me => exact q
    | sh x => exact q
    | ow x =>
      obtain ⟨b, y, e1, q⟩ := q
      exact ⟨b, y, e1, q.own, keep q.at_ (fun z => hs j x h (by rw [← z]; exact e1)), q.mo, q.ho⟩
  · rcases List.mem_cons.mp hp with e | hp'
    · subst e
      exact ⟨upd_same, mk, own, hs⟩
    · obtain ⟨h1, h2, h3, h4⟩ := R.tmp p (List.mem_cons_of_mem _ hp')
      exact ⟨keep h1 (hτ p hp'), h2, h3, h4⟩
/-- what an iterator gives -/
theorem Rep.item (R : Rep T B n τ G σ H) {J : It} {ds : List D} (ok : ItOk T B.P G J ds) {i : Nat} {d : D} (e : ds[i]? = some d) {x : V} {H' : Hp} (y : J.yld i H x H') :
    ∃ G', Sub G G' ∧ Rep T B n τ G' σ H' ∧ Hd T B.P G' d x := by
  rcases ((ok i H R.sub).1 d e).2 x H' y with ⟨rfl, h⟩ | ⟨p, xs, ls, rfl, hp, rfl, rfl, h⟩
  · exact ⟨G, .refl G, R, h⟩
  · have sb : Sub G (upd G p (.tup xs)) := sub_upd (R.fresh hp).g
    exact ⟨_, sb, R.laidF hp fun ps => nofun, .obj upd_same (.tup (h.mono sb))⟩
theorem ItOk.mono {P : Px} {G G' : Hp} {J : It} {ds : List D} (ok : ItOk T P G J ds) (s : Sub G G') : ItOk T P G' J ds := fun i H s' => by
  obtain ⟨h1, h2⟩ := ok i H (s.trans s')
  refine ⟨fun d e => ⟨(h1 d e).1, fun x H' y => ?_⟩, h2⟩
  rcases (h1 d e).2 x H' y with ⟨a, b⟩ | ⟨p, xs, ls, a, b, c, d', f⟩
  · exact .inl ⟨a, b.mono s⟩
  · exact .inr ⟨p, xs, ls, a, b, c, d', f.mono s⟩
end

def lcGo (g : RT) (c : TDt) (e : TD) (own : List Nat) : List D → List D → En → (List D → En → Prop) → Prop
  | [], acc, n, K => K acc n
  | x :: xs, acc, n, K => ∃ ρ', bdT g x n.ρ = some ρ' ∧ c { n with ρ := ρ' } fun b n2 => if b = true then e n2 fun r n3 => frz n3 r fun d n4 => acc.length < Z ∧ lcGo g c e own xs (acc ++ [d]) { n4 with ρ := wip own n4.ρ } K
      else lcGo g c e own xs acc { n2 with ρ := wip own n2.ρ } K
def dLc (t : TDi) (g : RT) (c : TDt) (e : TD) (own : List Nat) : TD := fun n K => t n fun l n1 => (∀ i ∈ own, ∀ d, n1.ρ[i]? ≠ some (.ow d)) ∧
  lcGo g c e own l [] { n1 with ρ := wip own n1.ρ } fun out n2 => K (.tmp (.lst out)) { n2 with ρ := unw n1.ρ own n2.ρ }
section
variable {T : Tx} {B : Bs} {σ : L2.St} {H : Hp}
theorem up_lc {t : TDi} {g : RT} {c : TDt} {e : TD} {own : List Nat} (hg : ∀ i ∈ g.slots, i ∈ own) {Q : VK} (q : up T B (dLc t g c e own) σ H Q) : tLc (upI T B t) (upG T B g) (upT T B c) (up T B e) own σ H Q := by
  obtain ⟨n, τ, G, K, R, t, q⟩ := q
  refine ⟨n, τ, G, _, R, t, fun l n1 J H1 G1 R1 s1 ok t1 Da hD => ?_⟩
  obtain ⟨no, t1⟩ := t1
  have hτ : ∀ p ∈ τ, p.1 ≠ Da := R1.tmp_ne hD
  -- the invariant
  let Inv' : Nat → Hp → Prop := fun i H => ∃ n2 G2 acc vs, Sub G1 G2 ∧ (∀ i ∈ own, ∀ s, n2.ρ[i]? = some s → s = .no) ∧ Rep T B n2 ((Da, .lst vs) :: τ) G2 (wipe σ own) H ∧ Hl T B.P G2 acc vs ∧
    lcGo g c e own (l.drop i) acc n2 fun out n2 => K (.tmp (.lst out)) { n2 with ρ := unw n1.ρ own n2.ρ }
  refine ⟨fun i m H => m = l.length - i ∧ Inv' i H, ⟨l.length, by simp, ?_⟩, ?_⟩
  · refine ⟨_, G1, [], [], .refl _, fun i hi s h => wip_in hi h, ?_, .nil, t1⟩
    exact ((R1.laid (.lst []) hD).wip own).push upd_same trivial (R1.fresh hD) fun j d h z => by
      by_cases hj : j ∈ own
      · cases wip_in hj h
      · have h : (wip own n1.ρ)[j]? = some (.ow d) := h
        rw [wip_out hj] at h
        rw [wipe_off hj] at z
        exact R1.slot_ne hD j d h z
  · rintro i m H ⟨rfl, n2, G2, acc, vs, s2, hw, R2, hl, go⟩
    cases hi : l[i]? with
    | none =>
      refine .inl ⟨(ok.mono s2 i H R2.sub).2 hi, ?_⟩
      have ed : l.drop i = [] := List.drop_eq_nil_iff.mpr (List.getElem?_eq_none_iff.mp hi)
      rw [ed] at go
      have R3 : Rep T B n2 τ G2 (wipe σ own) H := R2.pop
      obtain ⟨h0, m0, ow, hs⟩ := R2.tmp (Da, .lst vs) List.mem_cons_self
      have R4 := R3.unw R1 s2 hw no
      refine q (.tmp (.lst acc)) _ _ H G2 R4 (s1.trans s2) ⟨Da, _, rfl, ⟨ow, h0, trivial, .lst hl⟩, hτ, fun j d h z => ?_⟩ go
      by_cases hj : j ∈ own
      · have e := unw_in hj h
        cases q : n1.ρ[j]? with
        | none => rw [q] at e; cases e
        | some y => rw [q] at e; exact no j hj d (q.trans (congrArg some (show y = .ow d from e.symm)))
      · have h : (unw n1.ρ own n2.ρ)[j]? = some (.ow d) := h
        rw [unw_out hj] at h
        exact hs j d h (by rw [wipe_off hj]; exact z)
    | some d =>
      refine .inr ⟨((ok.mono s2 i H R2.sub).1 d hi).1, Inv' (i + 1), fun H' h => ⟨l.length - (i + 1), ?_, rfl, h⟩, fun x H' y => ?_⟩
      · have := (List.getElem?_eq_some_iff.mp hi).1
        omega
      have ed : l.drop i = d :: l.drop (i + 1) := by
        obtain ⟨h1, h2⟩ := List.getElem?_eq_some_iff.mp hi
        rw [← h2]; exact List.drop_eq_getElem_cons h1
      rw [ed] at go
      obtain ⟨ρ', eb, go⟩ := go
      obtain ⟨G3, s3, R3, hx⟩ := R2.item (ok.mono s2) hi y
      refine ⟨n2, _, G3, d, ρ', R3, hx, eb, fun σ2 R4 D4 => ⟨wipe_dif D4 hg, ?_⟩⟩
      have we := wipe_dif D4 hg
      refine ⟨_, _, G3, _, R4, go, fun b n5 H5 G5 R5 s5 go => ?_⟩
      have sall : Sub G1 G5 := s2.trans (s3.trans s5)
      cases b with
      | false =>
        have go : lcGo g c e own (l.drop (i + 1)) acc { n5 with ρ := wip own n5.ρ } _ := go
        show Inv' (i + 1) H5
        exact ⟨_, G5, acc, vs, sall, fun i hi s h => wip_in hi h, R5.wip' we, hl.mono (s3.trans s5), go⟩
      | true =>
        refine ⟨n5, _, G5, _, R5, go, fun r n6 v6 H6 G6 R6 s6 k6 go => ?_⟩
        obtain ⟨d7, n7, G7, s7, R7, h7, hz, go⟩ := frz_ok R6 k6 go
        obtain ⟨h0, _, _, _⟩ := R7.tmp (Da, .lst vs) List.mem_cons_self
        have hl7 : Hl T B.P G7 acc vs := hl.mono (s3.trans (s5.trans (s6.trans s7)))
        refine ⟨vs, h0, by rw [← hl7.length, sizeLine_eq]; exact hz, ?_⟩
        exact ⟨_, G7, acc ++ [d7], vs ++ [v6], sall.trans (s6.trans s7), fun i hi s h => wip_in hi h, (R7.wip' we).tmpw hτ trivial, hl7.append (.cons h7 .nil), go⟩
end
end Sh
namespace Sh
open L2 PySem PySem.Spec PyProof.Rows

structure Ko where
  nx : En → Prop
  rt : D → Bool → Nat → Prop
  bk : En → Prop := fun _ => False
  ct : En → Prop := fun _ => False
abbrev TDs := Ko → En → Prop
abbrev Post (T : Tx) (B : Bs) (b : Nat) (G H : Hp) : Prop := Rep T B ⟨[], b⟩ [] G [] H
def ResF (T : Tx) (B : Bs) (G H : Hp) (d : D) (fr : Bool) (v : V) : Prop := if fr = true then ∃ a o, v = .ref a ∧ OwnO T B G H d a o else Hd T B.P G d v
structure KoOk (T : Tx) (B : Bs) (G : Hp) (K : Ko) (E : Ends) : Prop where
  nx : ∀ n' σ' H' G', Rep T B n' [] G' σ' H' → Sub G G' → K.nx n' → E.nx σ' H'
  bk : ∀ n' σ' H' G', Rep T B n' [] G' σ' H' → Sub G G' → K.bk n' → E.bk σ' H'
  ct : ∀ n' σ' H' G', Rep T B n' [] G' σ' H' → Sub G G' → K.ct n' → E.ct σ' H'
  rt : ∀ d fr b v H' G', Post T B b G' H' → Sub G G' → ResF T B G' H' d fr v → K.rt d fr b → E.rt v H'
def upS (T : Tx) (B : Bs) (t : TDs) : TS := fun E σ H => ∃ n G K, Rep T B n [] G σ H ∧ t K n ∧ KoOk T B G K E
theorem KoOk.mono {T : Tx} {B : Bs} {G G' : Hp} {K : Ko} {E : Ends} (k : KoOk T B G K E) (s : Sub G G') : KoOk T B G' K E :=
  ⟨fun n' σ' H' G2 R s2 => k.nx n' σ' H' G2 R (s.trans s2), fun n' σ' H' G2 R s2 => k.bk n' σ' H' G2 R (s.trans s2), fun n' σ' H' G2 R s2 => k.ct n' σ' H' G2 R (s.trans s2), fun d fr b v H' G2 R s2 => k.rt d fr b v H' G2 R (s.trans s2)⟩

section
variable {T : Tx} {B : Bs} {n : En} {τ : List (Addr × HO)} {G : Hp} {σ : L2.St} {H : Hp}
theorem Rep.post (R : Rep T B n τ G σ H) : Post T B n.b G H :=
  ⟨R.bok, R.sub, R.ext, R.dom, R.g0, R.new, R.nt, R.pen, R.tabs, rfl, fun i s h => by simp at h, fun i j d e a h => by simp at h, fun p h => by simp at h⟩

def sSeq (t u : TDs) : TDs := fun K n => t { K with nx := u K } n
def sNx : TDs := fun K n => K.nx n
def sBk : TDs := fun K n => K.bk n
def sCt : TDs := fun K n => K.ct n
def sEx (t : TD) : TDs := fun K n => t n fun _ n1 => K.nx n1
def sIf (c : TDt) (t u : TDs) : TDs := fun K n => c n fun b n1 => if b = true then t K n1 else u K n1
def retK (K : Ko) (r : Rs) (n : En) : Prop := match r with
  | .val d => K.rt d false n.b
  | .tmp d => K.rt d true n.b
  | .slt i => match n.ρ[i]? with
    | some (.sh d) => K.rt d false n.b
    | some (.ow d) => K.rt d true n.b
    | _ => False
def sRet (t : TD) : TDs := fun K n => t n (retK K)
def sRetN : TDs := fun K n => K.rt .non false n.b
variable {E : Ends}
theorem upS_seq {t u : TDs} (q : upS T B (sSeq t u) E σ H) : tSeq (upS T B t) (upS T B u) E σ H := by
  obtain ⟨n, G, K, R, t, k⟩ := q
  exact ⟨n, G, _, R, t, ⟨fun n' σ' H' G' R' s h => ⟨n', G', K, R', h, k.mono s⟩, k.bk, k.ct, k.rt⟩⟩
theorem upS_nx (q : upS T B sNx E σ H) : tNext E σ H := by
  obtain ⟨n, G, K, R, t, k⟩ := q
  exact k.nx n σ H G R (.refl G) t
theorem upS_bk (q : upS T B sBk E σ H) : tBreak E σ H := by
  obtain ⟨n, G, K, R, t, k⟩ := q
  exact k.bk n σ H G R (.refl G) t
theorem upS_ct (q : upS T B sCt E σ H) : tCont E σ H := by
  obtain ⟨n, G, K, R, t, k⟩ := q
  exact k.ct n σ H G R (.refl G) t
theorem upS_ex {t : TD} (q : upS T B (sEx t) E σ H) : tDrop (up T B t) E σ H := by
  obtain ⟨n, G, K, R, t, k⟩ := q
  exact ⟨n, [], G, _, R, t, fun r n1 v H1 G1 R1 s1 _ h => k.nx n1 σ H1 G1 R1 s1 h⟩
theorem upS_if {c : TDt} {t u : TDs} (q : upS T B (sIf c t u) E σ H) : tIfS (upT T B c) (upS T B t) (upS T B u) E σ H := by
  obtain ⟨n, G, K, R, t, k⟩ := q
  refine ⟨n, [], G, _, R, t, fun b n1 H1 G1 R1 s1 h => ?_⟩
  cases b with
  | true => exact ⟨n1, G1, K, R1, h, k.mono s1⟩
  | false => exact ⟨n1, G1, K, R1, h, k.mono s1⟩
theorem resF_of (R : Rep T B n [] G σ H) {r : Rs} {v : V} {K : Ko} (k : ResOk T B n [] G σ H r v) (h : retK K r n) : ∃ d fr, ResF T B G H d fr v ∧ K.rt d fr n.b := by
  cases r with
  | val d => exact ⟨d, false, k, h⟩
  | tmp d =>
    obtain ⟨a, o, rfl, k, _⟩ := k
    exact ⟨d, true, ⟨a, o, rfl, k⟩, h⟩
  | slt i =>
    have k : σ[i]? = some (some v) := k
    have h : (match n.ρ[i]? with | some (.sh d) => K.rt d false n.b | some (.ow d) => K.rt d true n.b | _ => False) := h
    cases e : n.ρ[i]? with
    | none => rw [e] at h; exact h.elim
    | some s =>
      rw [e] at h
      have q := R.slot i s e
      cases s with
      | no => exact h.elim
      | me => exact h.elim
      | sh d =>
        obtain ⟨v', e1, q⟩ := q
        rw [k] at e1; cases e1
        exact ⟨d, false, q, h⟩
      | ow d =>
        obtain ⟨a, o, e1, q⟩ := q
        rw [k] at e1; cases e1
        exact ⟨d, true, ⟨a, o, rfl, q⟩, h⟩
theorem upS_ret {t : TD} (q : upS T B (sRet t) E σ H) : tRet (up T B t) E σ H := by
  obtain ⟨n, G, K, R, t, k⟩ := q
  refine ⟨n, [], G, _, R, t, fun r n1 v H1 G1 R1 s1 k1 h => ?_⟩
  obtain ⟨d, fr, h1, h2⟩ := resF_of R1 k1 h
  exact k.rt d fr n1.b v H1 G1 R1.post s1 h1 h2
theorem upS_retN (q : upS T B sRetN E σ H) : tRetN E σ H := by
  obtain ⟨n, G, K, R, t, k⟩ := q
  exact k.rt .non false n.b .non H G R.post (.refl G) (by show Hd _ _ _ _ _; exact .non) t

def sto (i : Nat) (r : Rs) (n : En) (K : En → Prop) : Prop := match r with
  | .val d => K { n with ρ := n.ρ.set i (.sh d) }
  | .tmp d => K { n with ρ := n.ρ.set i (.ow d) }
  | .slt j => frz n (.slt j) fun d n1 => K { n1 with ρ := n1.ρ.set i (.sh d) }
def sAsg (i : Nat) (t : TD) : TDs := fun K n => t n fun r n1 => sto i r n1 K.nx
theorem upS_asg {i : Nat} {t : TD} (q : upS T B (sAsg i t) E σ H) : tAsg (up T B t) (gName i) E σ H := by
  obtain ⟨n, G, K, R, t, k⟩ := q
  refine ⟨n, [], G, _, R, t, fun r n1 v H1 G1 R1 s1 k1 h => ?_⟩
  cases r with
  | val d => exact k.nx _ _ _ _ (R1.put_sh k1) s1 h
  | tmp d =>
    obtain ⟨a, o, rfl, k1, h1, h2⟩ := k1
    exact k.nx _ _ _ _ (R1.put_ow k1 h1 h2) s1 h
  | slt j =>
    have h : frz n1 (.slt j) (fun d n1 => K.nx { n1 with ρ := n1.ρ.set i (.sh d) }) := h
    obtain ⟨d, n2, G2, s2, R2, h2, h⟩ := frz_ok R1 k1 h
    exact k.nx _ _ _ _ (R2.put_sh h2) (s1.trans s2) h
/-- a, b = a tuple -/
def sAsgT (g : RT) (t : TD) : TDs := fun K n => t n fun r n1 => frz n1 r fun d n2 => ∃ ρ', bdT g d n2.ρ = some ρ' ∧ K.nx { n2 with ρ := ρ' }
theorem upS_asgT {g : RT} {t : TD} (q : upS T B (sAsgT g t) E σ H) : tAsg (up T B t) (upG T B g) E σ H := by
  obtain ⟨n, G, K, R, t, k⟩ := q
  refine ⟨n, [], G, _, R, t, fun r n1 v H1 G1 R1 s1 k1 h => ?_⟩
  obtain ⟨d, n2, G2, s2, R2, h2, ρ', e, h⟩ := frz_ok R1 k1 h
  exact ⟨n2, [], G2, d, ρ', R2, h2, e, fun σ' R' D' => k.nx _ _ _ _ R' (s1.trans s2) h⟩

inductive Rrs (T : Tx) (P : Px) (G : Hp) : List Rs → List V → List (Addr × HO) → Prop
  | nil : Rrs T P G [] [] []
  | val {d : D} {v : V} {rs : List Rs} {vs : List V} {τ : List (Addr × HO)} : Hd T P G d v → Rrs T P G rs vs τ → Rrs T P G (.val d :: rs) (v :: vs) τ
  | tmp {d : D} {a : Addr} {o : HO} {rs : List Rs} {vs : List V} {τ : List (Addr × HO)} : Ho T P G d o → Rrs T P G rs vs τ → (∀ q ∈ τ, q.1 ≠ a) → Rrs T P G (.tmp d :: rs) (.ref a :: vs) ((a, o) :: τ)
theorem Rrs.mono {P : Px} {G G' : Hp} (s : Sub G G') : ∀ {rs : List Rs} {vs : List V} {τ : List (Addr × HO)}, Rrs T P G rs vs τ → Rrs T P G' rs vs τ
  | _, _, _, .nil => .nil
  | _, _, _, .val h t => .val (h.mono s) (t.mono s)
  | _, _, _, .tmp h t k => .tmp (h.mono s) (t.mono s) k
theorem Rrs.length {P : Px} {G : Hp} : ∀ {rs : List Rs} {vs : List V} {τ : List (Addr × HO)}, Rrs T P G rs vs τ → rs.length = vs.length
  | _, _, _, .nil => rfl
  | _, _, _, .val _ t => congrArg (· + 1) t.length
  | _, _, _, .tmp _ t _ => congrArg (· + 1) t.length
abbrev TDr := En → (List Rs → En → Prop) → Prop
def rNil : TDr := fun n K => K [] n
def norm (r : Rs) (n : En) (K : Rs → En → Prop) : Prop := match r with
  | .slt i => frz n (.slt i) fun d n1 => K (.val d) n1
  | r => K r n
def rCons (t : TD) (u : TDr) : TDr := fun n K => t n fun r n1 => norm r n1 fun r n2 => u n2 fun rs n3 => K (r :: rs) n3
def upR (T : Tx) (B : Bs) (t : TDr) : TA := fun σ H Q => ∃ n τ G K, Rep T B n τ G σ H ∧ t n K ∧ ∀ rs n' vs H' G' τ', Rep T B n' (τ' ++ τ) G' σ H' → (∀ p ∈ τ', ∀ q ∈ τ, p.1 ≠ q.1) → Sub G G' → Rrs T B.P G' rs vs τ' → K rs n' → Q vs H'
theorem upR_nil {Q : List V → Hp → Prop} (q : upR T B rNil σ H Q) : tNil σ H Q := by
  obtain ⟨n, τ, G, K, R, t, q⟩ := q
  exact q [] n [] H G [] R (fun p hp => by simp at hp) (.refl G) .nil t
theorem upR_cons {t : TD} {u : TDr} {Q : List V → Hp → Prop} (q : upR T B (rCons t u) σ H Q) : tCons (up T B t) (upR T B u) σ H Q := by
  obtain ⟨n, τ, G, K, R, t, q⟩ := q
  refine ⟨n, τ, G, _, R, t, fun r n1 v H1 G1 R1 s1 k1 h => ?_⟩
  have go : ∀ {d n2 G2}, Sub G1 G2 → Rep T B n2 τ G2 σ H1 → Hd T B.P G2 d v → u n2 (fun rs n3 => K (.val d :: rs) n3) → upR T B u σ H1 fun vs H2 => Q (v :: vs) H2 := fun {d n2 G2} s2 R2 hd h =>
    ⟨n2, τ, G2, _, R2, h, fun rs n3 vs H3 G3 τ3 R3 ap s3 k3 h3 => q _ n3 _ H3 G3 τ3 R3 ap (s1.trans (s2.trans s3)) (.val (hd.mono s3) k3) h3⟩
  cases r with
  | val d => exact go (.refl _) R1 k1 h
  | slt i =>
    obtain ⟨d, n2, G2, s2, R2, h2, h⟩ := frz_ok R1 k1 h
    exact go s2 R2 h2 h
  | tmp d =>
    obtain ⟨a, o, rfl, k1, h1, h2⟩ := k1
    refine ⟨n1, (a, o) :: τ, G1, _, R1.push k1.at_ k1.mo k1.own h2, h, fun rs n3 vs H3 G3 τ3 R3 ap s3 k3 h3 => ?_⟩
    have na : ∀ p ∈ τ3, p.1 ≠ a := fun p hp => ap p hp (a, o) List.mem_cons_self
    refine q _ n3 _ H3 G3 ((a, o) :: τ3) (R3.sel fun p hp => ?_) (fun p hp q hq => ?_) (s1.trans s3) (.tmp (k1.ho.mono s3) k3 na) h3
    · rw [List.cons_append, List.mem_cons, List.mem_append] at hp
      rw [List.mem_append, List.mem_cons]
      rcases hp with h | h | h
      · exact .inr (.inl h)
      · exact .inl h
      · exact .inr (.inr h)
    · rcases List.mem_cons.mp hp with e | hp
      · subst e; exact (h1 q hq).symm
      · exact ap p hp q (List.mem_cons_of_mem _ hq)
def stoAll : List Nat → List Rs → List Sv → Option (List Sv)
  | [], [], ρ => some ρ
  | i :: l, .val d :: rs, ρ => stoAll l rs (ρ.set i (.sh d))
  | i :: l, .tmp d :: rs, ρ => stoAll l rs (ρ.set i (.ow d))
  | _, _, _ => none
def setAll : List Nat → List V → L2.St → L2.St
  | i :: l, v :: vs, σ => setAll l vs (σ.set i (some v))
  | _, _, σ => σ
theorem Rep.stoAll {rs : List Rs} {vs : List V} {τ : List (Addr × HO)} (k : Rrs T B.P G rs vs τ) : ∀ {l : List Nat} {n : En} {σ : L2.St} {ρ' : List Sv}, Rep T B n τ G σ H → Sh.stoAll l rs n.ρ = some ρ' → Rep T B { n with ρ := ρ' } [] G (setAll l vs σ) H := by
  induction k with
  | nil =>
    intro l n σ ρ' R e
    cases l with
    | nil =>
      simp only [Sh.stoAll, Option.some.injEq] at e
      subst e
      exact R
    | cons => simp [Sh.stoAll] at e
  | val h k ih =>
    intro l n σ ρ' R e
    cases l with
    | nil => simp [Sh.stoAll] at e
    | cons i l => exact ih (n := { n with ρ := n.ρ.set i (.sh _) }) (R.put_sh h) e
  | @tmp d a o rs vs τ h k na ih =>
    intro l n σ ρ' R e
    cases l with
    | nil => simp [Sh.stoAll] at e
    | cons i l =>
      obtain ⟨h0, m0, own, hs⟩ := R.tmp (a, o) List.mem_cons_self
      exact ih (n := { n with ρ := n.ρ.set i (.ow _) }) (R.pop.put_ow ⟨own, h0, m0, h⟩ na hs) e
def sPar (l : List Nat) (t : TDr) : TDs := fun K n => t n fun rs n1 => ∃ ρ', stoAll l rs n1.ρ = some ρ' ∧ K.nx { n1 with ρ := ρ' }
theorem stoAll_len : ∀ {l : List Nat} {rs : List Rs} {ρ ρ' : List Sv}, stoAll l rs ρ = some ρ' → rs.length = l.length
  | [], [], _, _, _ => rfl
  | i :: l, .val d :: rs, _, _, e => congrArg (· + 1) (stoAll_len (l := l) e)
  | i :: l, .tmp d :: rs, _, _, e => congrArg (· + 1) (stoAll_len (l := l) e)
  | i :: l, .slt d :: rs, _, _, e => by simp [stoAll] at e
  | [], _ :: _, _, _, e => by simp [stoAll] at e
  | _ :: _, [], _, _, e => by simp [stoAll] at e
theorem upS_par2 {i j : Nat} {t : TDr} (q : upS T B (sPar [i, j] t) E σ H) : tPar i j (upR T B t) E σ H := by
  obtain ⟨n, G, K, R, t, k⟩ := q
  refine ⟨n, [], G, _, R, t, fun rs n1 vs H1 G1 τ1 R1 _ s1 k1 h => ?_⟩
  obtain ⟨ρ', e, h⟩ := h
  have R2 := Rep.stoAll k1 (R1.sel fun p hp => List.mem_append_left _ hp) e
  have hl := k1.length
  rw [stoAll_len e] at hl
  match vs, hl with
  | [v, w], _ => exact ⟨v, w, rfl, k.nx _ _ _ _ R2 s1 h⟩
theorem upS_par3 {i j l : Nat} {t : TDr} (q : upS T B (sPar [i, j, l] t) E σ H) : tPar3 i j l (upR T B t) E σ H := by
  obtain ⟨n, G, K, R, t, k⟩ := q
  refine ⟨n, [], G, _, R, t, fun rs n1 vs H1 G1 τ1 R1 _ s1 k1 h => ?_⟩
  obtain ⟨ρ', e, h⟩ := h
  have R2 := Rep.stoAll k1 (R1.sel fun p hp => List.mem_append_left _ hp) e
  have hl := k1.length
  rw [stoAll_len e] at hl
  match vs, hl with
  | [v, w, x], _ => exact ⟨v, w, x, rfl, k.nx _ _ _ _ R2 s1 h⟩
/-- by a tuple of its own -/
def gNms : List Nat → TGs
  | [] => gNil
  | i :: l => gCons (gName i) (gNms l)
theorem gNms_all : ∀ {l : List Nat} {vs : List V} {σ : L2.St} {H : Hp} {Q : L2.St → Hp → Prop}, vs.length = l.length → Q (setAll l vs σ) H → gNms l vs σ H Q
  | [], [], _, _, _, _, q => ⟨rfl, q⟩
  | i :: l, v :: vs, _, _, _, e, q => ⟨v, vs, rfl, gNms_all (by simpa using e) q⟩
  | [], _ :: _, _, _, _, e, _ => by simp at e
  | _ :: _, [], _, _, _, e, _ => by simp at e
theorem upS_parT {K' : PySem.W.Frag} {l : List Nat} {t : TDr} (hz : l.length ≤ 1000) (q : upS T B (sPar l t) E σ H) : tAsg (tTup (upR T B t)) (gTup K' l.length (gNms l)) E σ H := by
  obtain ⟨n, G, K, R, t, k⟩ := q
  refine ⟨n, [], G, _, R, t, fun rs n1 vs H1 G1 τ1 R1 _ s1 k1 h => ?_⟩
  obtain ⟨ρ', e, h⟩ := h
  have hl : vs.length = l.length := by rw [← k1.length, stoAll_len e]
  refine ⟨by rw [hl, sizeLine_eq]; omega, fun p hp => ?_⟩
  have R2 := Rep.stoAll k1 ((R1.laid (.tup vs) hp).sel fun p hp => List.mem_append_left _ hp) e
  exact ⟨p, vs, rfl, SqT.of upd_same, hl, gNms_all hl (k.nx _ _ _ _ R2 s1 h)⟩
end
end Sh
namespace Sh
open L2 PySem PySem.Spec PyProof.Rows

def forGo (g : RT) (t : TDs) : List D → Ko → En → Prop
  | [], K, n => K.nx n
  | x :: xs, K, n => ∃ ρ', bdT g x n.ρ = some ρ' ∧ t { nx := forGo g t xs K, ct := forGo g t xs K, bk := K.nx, rt := K.rt } { n with ρ := ρ' }
def sFor (it : TDi) (g : RT) (t : TDs) : TDs := fun K n => it n fun l n1 => forGo g t l K n1
def sWhl (c : TDt) (t : TDs) : TDs := fun K n => ∃ I : Nat → En → Prop, (∃ m, I m n) ∧ ∀ m n, I m n → c n fun b n1 =>
  if b = true then t { nx := fun n' => ∃ m', m' < m ∧ I m' n', ct := fun n' => ∃ m', m' < m ∧ I m' n', bk := K.nx, rt := K.rt } n1 else K.nx n1
section
variable {T : Tx} {B : Bs} {n : En} {τ : List (Addr × HO)} {G : Hp} {σ : L2.St} {H : Hp} {E : Ends}
theorem upS_for {it : TDi} {g : RT} {t : TDs} (q : upS T B (sFor it g t) E σ H) : tFor (upI T B it) (upG T B g) (upS T B t) E σ H := by
  obtain ⟨n, G, K, R, t0, k⟩ := q
  refine ⟨n, [], G, _, R, t0, fun l n1 J H1 G1 R1 s1 ok t1 => ?_⟩
  let P : Nat → L2.St → Hp → Prop := fun i σ H => ∃ n G', Sub G1 G' ∧ Rep T B n [] G' σ H ∧ forGo g t (l.drop i) K n
  refine ⟨fun i m σ H => m = l.length - i ∧ P i σ H, ⟨l.length, by simp, n1, G1, .refl _, R1, t1⟩, ?_⟩
  rintro i m σ H ⟨rfl, n2, G2, s2, R2, go⟩
  have k2 := (k.mono s1).mono s2
  cases hi : l[i]? with
  | none =>
    have ed : l.drop i = [] := List.drop_eq_nil_iff.mpr (List.getElem?_eq_none_iff.mp hi)
    rw [ed] at go
    exact .inl ⟨(ok.mono s2 i H R2.sub).2 hi, k2.nx n2 σ H G2 R2 (.refl _) go⟩
  | some d =>
    refine .inr ⟨((ok.mono s2 i H R2.sub).1 d hi).1, P (i + 1), fun σ' H' h => ⟨l.length - (i + 1), ?_, rfl, h⟩, fun x H' y => ?_⟩
    · have := (List.getElem?_eq_some_iff.mp hi).1
      omega
    have ed : l.drop i = d :: l.drop (i + 1) := by
      obtain ⟨h1, h2⟩ := List.getElem?_eq_some_iff.mp hi
      rw [← h2]; exact List.drop_eq_getElem_cons h1
    rw [ed] at go
    obtain ⟨ρ', eb, go⟩ := go
    obtain ⟨G3, s3, R3, hx⟩ := R2.item (ok.mono s2) hi y
    refine ⟨n2, [], G3, d, ρ', R3, hx, eb, fun σ2 R4 D4 => ?_⟩
    have k3 := k2.mono s3
    exact ⟨_, G3, _, R4, go, ⟨fun n' σ' H' G' R' s' h => ⟨n', G', (s2.trans s3).trans s', R', h⟩, fun n' σ' H' G' R' s' h => k3.nx n' σ' H' G' R' s' h, fun n' σ' H' G' R' s' h => ⟨n', G', (s2.trans s3).trans s', R', h⟩, k3.rt⟩⟩
theorem upS_whl {c : TDt} {t : TDs} (q : upS T B (sWhl c t) E σ H) : tWhileW (wT (upT T B c)) (upS T B t) tNext E σ H := by
  obtain ⟨n, G, K, R, ⟨I, ⟨m0, i0⟩, hI⟩, k⟩ := q
  refine ⟨fun m σ H => ∃ n G', Sub G G' ∧ Rep T B n [] G' σ H ∧ I m n, ⟨m0, n, G, .refl _, R, i0⟩, ?_⟩
  rintro m σ H ⟨n1, G1, s1, R1, i1⟩
  have k1 := k.mono s1
  refine ⟨n1, [], G1, _, R1, hI m n1 i1, fun b n2 H2 G2 R2 s2 h => ?_⟩
  have k2 := k1.mono s2
  cases b with
  | false => exact k2.nx n2 σ H2 G2 R2 (.refl _) h
  | true =>
    refine ⟨fun σ' H' => ∃ m', m' < m ∧ ∃ n G', Sub G G' ∧ Rep T B n [] G' σ' H' ∧ I m' n, fun σ' H' h => h, n2, G2, _, R2, h, ?_⟩
    have nxt : ∀ n' σ' H' G', Rep T B n' [] G' σ' H' → Sub G2 G' → (∃ m', m' < m ∧ I m' n') → ∃ m', m' < m ∧ ∃ n G', Sub G G' ∧ Rep T B n [] G' σ' H' ∧ I m' n :=
      fun n' σ' H' G' R' s' ⟨m', l, i'⟩ => ⟨m', l, n', G', (s1.trans s2).trans s', R', i'⟩
    exact ⟨nxt, fun n' σ' H' G' R' s' h => k2.nx n' σ' H' G' R' s' h, nxt, k2.rt⟩
end
end Sh
namespace Sh
open L2 PySem PySem.Spec PyProof.Rows

def dApp (i : Nat) (t : TD) : TD := fun n K => (∃ l, n.ρ[i]? = some (.ow (.lst l))) ∧ t n fun r n1 => frz n1 r fun d n2 => ∃ l, n2.ρ[i]? = some (.ow (.lst l)) ∧ l.length < Z ∧ K (.val .non) { n2 with ρ := n2.ρ.set i (.ow (.lst (l ++ [d]))) }
def dPop (i : Nat) : TD := fun n K => ∃ l d, n.ρ[i]? = some (.ow (.lst l)) ∧ l[l.length - 1]? = some d ∧ K (.val d) { n with ρ := n.ρ.set i (.ow (.lst l.dropLast)) }
def dPop0 (i : Nat) : TD := fun n K => ∃ l d, n.ρ[i]? = some (.ow (.lst l)) ∧ l[0]? = some d ∧ K (.val d) { n with ρ := n.ρ.set i (.ow (.lst (l.eraseIdx 0))) }
def dPopI (i : Nat) (t : TD) : TD := fun n K => (∃ l, n.ρ[i]? = some (.ow (.lst l))) ∧ t n fun r n1 => ∃ (k : Nat) (l : List D) (d : D), fet n1 r = some (.int k) ∧ k < Z ∧ n1.ρ[i]? = some (.ow (.lst l)) ∧ l[k]? = some d ∧ K (.val d) { n1 with ρ := n1.ρ.set i (.ow (.lst (l.eraseIdx k))) }
def sPutL (i : Nat) (t u : TD) : TDs := fun K n => t n fun r n1 => frz n1 r fun d n2 => (∃ l, n2.ρ[i]? = some (.ow (.lst l))) ∧ u n2 fun y n3 => ∃ l k j, fet n3 y = some (.int k) ∧ n3.ρ[i]? = some (.ow (.lst l)) ∧ ixN l.length k = some j ∧ K.nx { n3 with ρ := n3.ρ.set i (.ow (.lst (l.set j d))) }

section
variable {T : Tx} {B : Bs} {n : En} {τ : List (Addr × HO)} {G : Hp} {σ : L2.St} {H : Hp}
theorem Rep.own_lst (R : Rep T B n τ G σ H) {i : Nat} {l : List D} (e : n.ρ[i]? = some (.ow (.lst l))) : ∃ a vs, σ[i]? = some (some (.ref a)) ∧ H a = some (.lst vs) ∧ Hl T B.P G l vs := by
  obtain ⟨a, o, e1, k⟩ := R.slot i _ e
  have h := k.ho
  cases h with
  | lst h => exact ⟨a, _, e1, k.at_, h⟩
theorem up_app {K' : PySem.W.Frag} {i : Nat} {t : TD} {Q : VK} (q : up T B (dApp i t) σ H Q) : tBM K' "list" rAppend (tVar i) (tCons (up T B t) tNil) σ H Q := by
  obtain ⟨n, τ, G, K, R, ⟨⟨l0, e0⟩, t⟩, q⟩ := q
  obtain ⟨a, vs, ea, ha, _⟩ := R.own_lst e0
  refine ⟨.ref a, ea, .inl ⟨rfl, vs, SqL.of ha⟩, n, τ, G, _, R, t, fun r n1 v H1 G1 R1 s1 k1 t1 => ?_⟩
  obtain ⟨d, n2, G2, s2, R2, h2, l, e2, hz, t2⟩ := frz_ok R1 k1 t1
  obtain ⟨a', us, ea', ha', hl⟩ := R2.own_lst e2
  rw [ea] at ea'; cases ea'
  refine ⟨a, us, v, rfl, rfl, ha', by rw [← hl.length, sizeLine_eq]; exact hz, ?_⟩
  exact q (.val .non) _ .non _ G2 (R2.mut e2 ea trivial (.lst (hl.append (.cons h2 .nil)))) (s1.trans s2) Hd.non t2
theorem up_pop {K' : PySem.W.Frag} {i : Nat} {Q : VK} (q : up T B (dPop i) σ H Q) : tBM0 K' "list" rPop (tVar i) σ H Q := by
  obtain ⟨n, τ, G, K, R, ⟨l, d, e, hd, t⟩, q⟩ := q
  obtain ⟨a, vs, ea, ha, hl⟩ := R.own_lst e
  obtain ⟨v, h1, h2⟩ := hl.get hd
  refine ⟨.ref a, ea, .inl ⟨rfl, vs, SqL.of ha⟩, a, vs, v, rfl, rfl, ha, by rw [← hl.length]; exact h1, ?_⟩
  have e' : l.dropLast = l.take (l.length - 1) := List.dropLast_eq_take
  have e'' : vs.dropLast = vs.take (l.length - 1) := by rw [List.dropLast_eq_take, hl.length]
  exact q (.val d) _ v _ G (R.mut e ea trivial (.lst (by rw [e', e'']; exact hl.take _))) (.refl G) h2 t
theorem up_pop0 {K' : PySem.W.Frag} {i : Nat} {Q : VK} (q : up T B (dPop0 i) σ H Q) : tBM K' "list" rPopAt (tVar i) (tCons (tC (.int 0)) tNil) σ H Q := by
  obtain ⟨n, τ, G, K, R, ⟨l, d, e, hd, t⟩, q⟩ := q
  obtain ⟨a, vs, ea, ha, hl⟩ := R.own_lst e
  obtain ⟨v, h1, h2⟩ := hl.get hd
  refine ⟨.ref a, ea, .inl ⟨rfl, vs, SqL.of ha⟩, a, vs, 0, 0, v, rfl, rfl, ha, by omega, by omega, ?_, h1, ?_⟩
  · exact seqIndex_of (by omega) (by have := (List.getElem?_eq_some_iff.mp h1).1; omega)
  · exact q (.val d) _ v _ G (R.mut e ea trivial (.lst (hl.eraseIdx 0))) (.refl G) h2 t
theorem up_popI {K' : PySem.W.Frag} {i : Nat} {t : TD} {Q : VK} (q : up T B (dPopI i t) σ H Q) : tBM K' "list" rPopAt (tVar i) (tCons (up T B t) tNil) σ H Q := by
  obtain ⟨n, τ, G, K, R, ⟨⟨l0, e0⟩, t⟩, q⟩ := q
  obtain ⟨a, vs, ea, ha, _⟩ := R.own_lst e0
  refine ⟨.ref a, ea, .inl ⟨rfl, vs, SqL.of ha⟩, n, τ, G, _, R, t, fun r n1 v H1 G1 R1 s1 k1 t1 => ?_⟩
  obtain ⟨k, l, d, ex, hz, e2, hd, t2⟩ := t1
  obtain rfl := (R1.fet_av k1 ex).int_
  obtain ⟨a', us, ea', ha', hl⟩ := R1.own_lst e2
  rw [ea] at ea'; cases ea'
  obtain ⟨w, h1, h2⟩ := hl.get hd
  have hz : k < 16777216 := hz
  refine ⟨a, us, k, k, w, rfl, rfl, ha', by omega, by omega, ?_, h1, ?_⟩
  · have := (List.getElem?_eq_some_iff.mp h1).1
    exact seqIndex_of (by omega) (by omega)
  · exact q (.val d) _ w _ G1 (R1.mut e2 ea trivial (.lst (hl.eraseIdx k))) s1 h2 t2
variable {E : Ends}
theorem upS_putL {i : Nat} {t u : TD} (q : upS T B (sPutL i t u) E σ H) : tAsg (up T B t) (gSub (tVar i) (up T B u) rSetL) E σ H := by
  obtain ⟨n, G, K, R, t, k⟩ := q
  refine ⟨n, [], G, _, R, t, fun r n1 v H1 G1 R1 s1 k1 t1 => ?_⟩
  obtain ⟨d, n2, G2, s2, R2, h2, ⟨l0, e0⟩, t2⟩ := frz_ok R1 k1 t1
  obtain ⟨a, vs, ea, ha, _⟩ := R2.own_lst e0
  refine ⟨.ref a, ea, n2, [], G2, _, R2, t2, fun y n3 w H3 G3 R3 s3 k3 t3 => ?_⟩
  obtain ⟨l, x, j, ex, e3, ej, t3⟩ := t3
  obtain rfl := (R3.fet_av k3 ex).int_
  obtain ⟨a', us, ea', ha', hl⟩ := R3.own_lst e3
  rw [ea] at ea'; cases ea'
  exact ⟨a, us, x, j, rfl, rfl, ha', by rw [← hl.length]; exact ej, k.nx _ _ _ _ (R3.mut e3 ea trivial (.lst (hl.set (h2.mono s3) j))) (s1.trans (s2.trans s3)) t3⟩
end
end Sh
namespace Sh
open L2 PySem PySem.Spec PyProof.Rows

/-- how an exception lies -/
def XcOk (T : Tx) (P : Px) (G H : Hp) (xc : Xc) (cls : Value) (d : Option Addr) : Prop :=
  T.mg xc.c = some cls ∧ ∃ C a gs, cls = .ref C ∧ d = some a ∧ H a = some (.xd gs) ∧ ∀ f e, xc.fs.lookup f = some e → ∃ v, gs.lookup f = some v ∧ Hd T P G e v
/-- what is wished of an exception that leaves a def -/
def exD (T : Tx) (B : Bs) (Ex : Xc → Nat → Prop) : XK := fun cls d H => ∃ b G xc, Post T B b G H ∧ XcOk T B.P G H xc cls d ∧ Ex xc b
abbrev wD (T : Tx) (B : Bs) (Ex : Xc → Nat → Prop) : WX := fun cls d _ H => exD T B Ex cls d H

/-- the ground of a call -/
structure Pre (T : Tx) (P : Px) (b : Nat) (G H : Hp) : Prop where
  ok : BOk T ⟨G, H, P⟩
  sub : Sub G H
  nt : ∀ a o, G a = some o → NT o
  pen : PenOk P b H
  tabs : TabF T.tb G H
/-- a def's promise, of values and heaps -/
def spD (T : Tx) (S : DSp) : Sp := fun vs H Q E => ∃ P b G ds KQ KE, Pre T P b G H ∧ Hl T P G ds vs ∧ S ds b KQ KE ∧
  (∀ d fr b' v H' G', Post T ⟨G, H, P⟩ b' G' H' → ResF T ⟨G, H, P⟩ G' H' d fr v → KQ d fr b' → Q v H') ∧
  ∀ xc b' cls d H' G', Post T ⟨G, H, P⟩ b' G' H' → XcOk T P G' H' xc cls d → KE xc b' → E cls d H'

section
variable {T : Tx} {B : Bs} {n : En} {τ : List (Addr × HO)} {G : Hp} {σ : L2.St} {H : Hp}
/-- a def begins -/
theorem Pre.start {P : Px} {b : Nat} (p : Pre T P b G H) {ds : List D} {vs : List V} (h : Hl T P G ds vs) (N : List Str) (hN : ds.length ≤ N.length) :
    Rep T ⟨G, H, P⟩ ⟨ds.map .sh ++ List.replicate (N.length - ds.length) .no, b⟩ [] G (L2.start N vs) H := by
  have hl := h.length
  have own : ∀ (i : Nat) (d : D), (ds.map Sv.sh ++ List.replicate (N.length - ds.length) .no)[i]? ≠ some (.ow d) := fun i d e => by
    have := List.mem_of_getElem? e
    rw [List.mem_append, List.mem_map] at this
    rcases this with ⟨_, _, z⟩ | z
    · cases z
    · cases List.eq_of_mem_replicate z
  refine ⟨p.ok, p.sub, fun a o h _ _ => h, fun a h => h, .refl _, fun a h => .inl h, p.nt, p.pen, p.tabs, ?_, fun i s e => ?_, fun i j d e a h => absurd h (own i d), fun p hp => by simp at hp⟩
  · unfold L2.start
    simp [hl]
  · unfold L2.start
    by_cases hi : i < ds.length
    · rw [List.getElem?_append_left (by simpa using hi), List.getElem?_map] at e
      cases hd : ds[i]? with
      | none => rw [hd] at e; cases e
      | some d =>
        rw [hd] at e
        cases e
        obtain ⟨v, h1, h2⟩ := h.get hd
        refine ⟨v, ?_, h2⟩
        rw [List.getElem?_append_left (by simpa using hl ▸ hi), List.getElem?_map, h1]
        rfl
    · rw [List.getElem?_append_right (by simpa using hi)] at e
      have := List.eq_of_mem_replicate (List.mem_of_getElem? e)
      subst this
      trivial
theorem Rep.pre (R : Rep T B n τ G σ H) : Pre T B.P n.b G H :=
  ⟨⟨R.sub, R.dom _ R.bok.pen, R.gpen, R.pc, R.bok.pne, fun p hp => ⟨R.dom _ (R.bok.tab p hp).1, (R.bok.tab p hp).2.1, (R.bok.tab p hp).2.2.1, by
    show G p.1 = none
    cases e : G p.1 with
    | none => rfl
    | some o =>
      rcases R.new _ (by rw [e]; simp) with h | h
      · exact absurd (R.bok.tab p hp).2.2.2 h
      · exact absurd h (R.bok.tab p hp).1⟩, R.sysM, R.bok.smp⟩, R.sub, R.nt, R.pen, R.tabs⟩
/-- behind a call -/
theorem Rep.after (R : Rep T B n τ G σ H) {b : Nat} {G' H' : Hp} (q : Post T ⟨G, H, B.P⟩ b G' H') : Rep T B { n with b := b } τ G' σ H' := by
  have keep : ∀ {a : Addr} {o : HO}, H a = some o → MkO o → OwnA B G a → H' a = some o ∧ OwnA B G' a := fun {a o} h m k => by
    refine ⟨q.ext a o h (k.ne_pen R.bok) m.nt, ?_, k.h⟩
    cases e : G' a with
    | none => rfl
    | some x =>
      rcases q.new a (by rw [e]; simp) with z | z
      · exact absurd k.g z
      · have z : H a = none := z
        rw [h] at z; cases z
  refine ⟨R.bok, q.sub, fun a o h1 h2 h3 => q.ext a o (R.ext a o h1 h2 h3) h2 h3, fun a h => q.dom a (R.dom a h), R.g0.trans q.g0, fun a h => ?_, q.nt, q.pen, q.tabs, R.len, fun i s e => ?_, R.apart, fun p hp => ?_⟩
  · rcases q.new a h with z | z
    · exact R.new a z
    · refine .inr ?_
      cases e : B.H0 a with
      | none => rfl
      | some o => exact absurd z (R.dom a (by rw [e]; simp))
  · have k := R.slot i s e
    cases s with
    | no => trivial
    | me => exact k
    | sh d =>
      obtain ⟨v, e1, k⟩ := k
      exact ⟨v, e1, k.mono q.g0⟩
    | ow d =>
      obtain ⟨a, o, e1, k⟩ := k
      obtain ⟨h1, h2⟩ := keep k.at_ k.mo k.own
      exact ⟨a, o, e1, h2, h1, k.mo, k.ho.mono q.g0⟩
  · obtain ⟨h1, h2, h3, h4⟩ := R.tmp p hp
    obtain ⟨k1, k2⟩ := keep h1 h2 h3
    exact ⟨k1, h2, k2, h4⟩
theorem Rep.afterR (R : Rep T B n τ G σ H) {b : Nat} {G' H' : Hp} (q : Post T ⟨G, H, B.P⟩ b G' H') {d : D} {fr : Bool} {v : V} (h : ResF T ⟨G, H, B.P⟩ G' H' d fr v) :
    ResOk T B { n with b := b } τ G' σ H' (if fr = true then .tmp d else .val d) v := by
  cases fr with
  | false => exact h
  | true =>
    obtain ⟨a, o, rfl, k⟩ := h
    have hn : H a = none := k.own.h
    refine ⟨a, o, rfl, ⟨⟨k.own.g, ?_⟩, k.at_, k.mo, k.ho⟩, R.tmp_ne hn, R.slot_ne hn⟩
    cases e : B.H0 a with
    | none => rfl
    | some x => exact absurd hn (R.dom a (by rw [e]; simp))
/-- a call's exception -/
theorem Rep.afterX (R : Rep T B n τ G σ H) {Ex : Xc → Nat → Prop} {xc : Xc} {b : Nat} {cls : Value} {d : Option Addr} {G' H' : Hp} (q : Post T ⟨G, H, B.P⟩ b G' H') (x : XcOk T B.P G' H' xc cls d) (e : Ex xc b) : exD T B Ex cls d H' :=
  ⟨b, G', xc, (R.after q).post, x, e⟩
/-- a call by data -/
theorem up_call {Ex : Xc → Nat → Prop} {S : DSp} {t : TDa} {Q : VK} (q : up T B (dCall Ex S t) σ H Q) : tCall (spD T S) [] (exD T B Ex) (upA T B t) σ H Q := by
  obtain ⟨n, τ, G, K, R, t, q⟩ := q
  refine ⟨n, τ, G, _, R, t, fun ds n1 vs H1 G1 R1 s1 k1 t1 => ?_⟩
  show spD T S (vs ++ []) H1 Q (exD T B Ex)
  rw [List.append_nil]
  refine ⟨B.P, n1.b, G1, ds, _, _, R1.pre, k1, t1, fun d fr b' v H' G' p r h => ?_, fun xc b' cls d H' G' p x h => R1.afterX p x h⟩
  exact q _ _ v H' G' (R1.after p) (s1.trans p.g0) (R1.afterR p r) h
end

section
variable {P : Program} {w : World} {K : PySem.W.Frag} {mg : Str → Option Value} {base : Heap}
/-- what stands at v may be called with as much room -/
def FnV (P : Program) (w : World) (K : PySem.W.Frag) (mg : Str → Option Value) (base : Heap) (lv : Nat) (v : Value) (sp : Sp) : Prop :=
  ∀ X : Cx, X.prog = P → X.w = w → X.K = K → X.mg = mg → X.base = base → Room lv X.A → X.A.guards = some [] → ∀ (pins : List (Addr × Obj)) (s : Shared) (σ : L2.St) (H : Hp) (us : List Value) (vs : List V) (Q : VK) (E : XK),
    (∀ pins σ H s e s', Inv X pins σ H s → L2.CX X.prog X.w X.stack H s E e s' → X.xe e s') → Inv X pins σ H s → Vals vs us → sp vs H Q E → wpAny (model X.prog X.w) X.A (call v us) (EP X pins σ Q) X.xe s
theorem FnV.mono {lv lv' : Nat} {v : Value} {sp : Sp} (h : FnV P w K mg base lv v sp) (hl : lv ≤ lv') : FnV P w K mg base lv' v sp :=
  fun X e1 e2 e3 e4 e5 r g => h X e1 e2 e3 e4 e5 (r.mono hl) g
/-- a def of the text, whoever calls it -/
structure FnG (P : Program) (w : World) (K : PySem.W.Frag) (mg : Str → Option Value) (base : Heap) (lv : Nat) (f : Addr) (fd : FuncData) (ps : List Str) (sp : Sp) : Prop where
  ar : ∀ vs H Q E, sp vs H Q E → vs.length = ps.length
  go : ∀ (A : Around) (outer : List Env) (s : Shared) (H : Hp) (args : Args) (us : List Value) (vs : List V) (Q : VK) (E : XK), Room lv A → A.guards = some [] → Env0 P w K mg base A outer s H → BindsTo s fd args (ps.zip us) → Vals vs us → sp vs H Q E →
    codeAny (model P w) A (.call (.ref f) args) (CR (L2.CX P w) outer P w H s Q E) s
theorem FnG.fnV {lv : Nat} {f : Addr} {fd : FuncData} {ps : List Str} {sp : Sp} (F : FnG P w K mg base lv f fd ps sp) (hb : Binds K fd ps []) : FnV P w K mg base lv (.ref f) sp := by
  intro X e1 e2 e3 e4 e5 room gd pins s σ H us vs Q E hx I rel h
  subst e1 e2 e3 e4 e5
  have ha : (us ++ []).length = ps.length := by rw [List.append_nil, ← rel.length, F.ar _ _ _ _ h]
  have hbind := hb s us I.kIn ha
  rw [List.append_nil] at hbind
  refine wpAny_call (codeAny_mono (F.go X.A X.stack s H _ us vs Q E room gd I.env0 hbind rel h) fun r s' hr => ?_)
  cases r with
  | error e => exact hx _ _ _ _ e s' I hr
  | ok fl =>
    cases fl with
    | ret u => exact I.after hr
    | next => cases hr
    | brk => cases hr
    | cont => cases hr
/-- f(e, ..), f a name of the text -/
theorem pe_callV {X : Cx} {lv : Nat} {x : Str} {v : Value} {sp : Sp} {E : XK} {p pos : Pos} {e : Expr} {es : List Expr} {t : TA} (F : FnV X.prog X.w X.K X.mg X.base lv v sp) (room : Room lv X.A) (gd : X.A.guards = some []) (hg : Gl X x) (hm : X.mg x = some v)
    (hk : PySem.W.keepIn X.K v = true ∨ ∃ id, v = .builtin id) (hx : ∀ pins σ H s e s', Inv X pins σ H s → L2.CX X.prog X.w X.stack H s E e s' → X.xe e s') (ha : PA X (e :: es) t) (hdb : (x == ("__debug__" : Str)) = false)
    (he : starEach (e :: es) X.env = (false, eval e X.env) :: starEach es X.env) (hpl : (backTo pos (starEach es X.env)).any (·.1) = false) : PE X (.Call (.Name x p) (e :: es) [] pos) (tCall sp [] E t) := by
  constructor
  intro pins s σ H Q I h
  have args : wpAny (model X.prog X.w) X.A (spliced (backTo pos (starEach (e :: es) X.env))) (fun us s1 => X.K.In s1.heap ∧ wpAny (model X.prog X.w) X.A (call v us) (EP X pins σ Q) X.xe s1) X.xe s := by
    refine thn (ha.run pos pins s σ H _ I h) fun us s1 hq => ?_
    obtain ⟨vs, H1, I1, r, q⟩ := hq
    rw [List.append_nil] at q
    exact ⟨I1.kIn, F X rfl rfl rfl rfl rfl room gd pins s1 σ H1 us vs Q E hx I1 r q⟩
  rcases hk with hk | ⟨id, rfl⟩
  · exact wpAny_Call_Name_kw (ld_glob I hg hm (PySem.W.callWith_K (h₀ := X.base) I.ok.mod.kin hk args he hpl) hdb)
  · exact wpAny_Call_Name_kw (ld_glob I hg hm (PyProof.Rows.callWith_builtin1 (thn args fun us s1 h => h.2) he hpl) hdb)
theorem pe_callV0 {X : Cx} {lv : Nat} {x : Str} {v : Value} {sp : Sp} {E : XK} {p pos : Pos} (F : FnV X.prog X.w X.K X.mg X.base lv v sp) (room : Room lv X.A) (gd : X.A.guards = some []) (hg : Gl X x) (hm : X.mg x = some v)
    (hk : PySem.W.keepIn X.K v = true ∨ ∃ id, v = .builtin id) (hx : ∀ pins σ H s e s', Inv X pins σ H s → L2.CX X.prog X.w X.stack H s E e s' → X.xe e s') (hdb : (x == ("__debug__" : Str)) = false) : PE X (.Call (.Name x p) [] [] pos) (tCall sp [] E tNil) := by
  constructor
  intro pins s σ H Q I h
  have run := F X rfl rfl rfl rfl rfl room gd pins s σ H [] [] Q E hx I .nil h
  rcases hk with hk | ⟨id, rfl⟩
  · exact wpAny_Call_Name_kw (ld_glob I hg hm (PySem.W.callWith_K0 I.kIn hk run) hdb)
  · exact wpAny_Call_Name_kw (ld_glob I hg hm (Calls.callWith_builtin rfl (PySem.evalArgs_none run)) hdb)

/-- the rule for a def of the text -/
theorem fnG_of {lv : Nat} {f : Addr} {name qual : Str} {params : Arguments} {body : List Stmt} {scope : Scope} {dV kV doc pm cdv ct oc : Value} {an od : Option Addr} {osl : Array (Option Value)} {N ps : List Str} {sp : Sp}
    (lk : K.lookup f = some ⟨oc, od, .func (PySem.W.fnOf name qual params body scope dV kV doc pm an cdv ct), osl⟩) (hcd : PySem.W.codeIn K cdv qual = true) (S : FnScope N ps scope) (ar : ∀ vs H Q E, sp vs H Q E → vs.length = ps.length)
    (hbody : ∀ (A : Around) (outer : List Env) (s : Shared) (H : Hp) (vs : List V) (Q : VK) (E : XK), Room lv (A.deeper (envOfC qual scope s.heap.objs.size f cdv)) → A.guards = some [] → sp vs H Q E →
      ∃ t, PSs (cxOf (L2.CX P w) P w K mg base N qual scope f cdv A outer s H E) body t ∧ t { nx := fun _ H' => Q .non H', rt := Q } (L2.start N vs) H) :
    FnG P w K mg base (lv + 1) f (PySem.W.fnOf name qual params body scope dV kV doc pm an cdv ct) ps sp := by
  constructor
  · exact ar
  · intro A outer s H args us vs Q E room gd env hb rel hsp
    have kIn : K.In s.heap := env.mod.kin.keeps fun b o z => (env.bs b o z).1
    have nolim : s.heap.NoLimit := env.mod.nolimit.keeps fun b o z => (env.bs b o z).1
    have par : ∀ y ∈ ps.zip us, scope.names.lookup y.1 = some .local ∨ (scope.names.lookup y.1 = some .cell ∧ ((cellsFrom (s.heap.objs.size + 1) scope.names []).lookup y.1).isSome = true) := by
      rintro ⟨y, u⟩ hy
      cases S.par y (List.of_mem_zip hy).1 with
      | inl k => exact .inl k
      | inr k => exact .inr ⟨k, PySem.W.cellsFrom_some _ _ _ (.inl k)⟩
    refine codeAny_call_function room.depth (kIn _ _ lk) rfl S.co S.gen rfl (PySem.W.codeRec_of kIn hcd) (hb _ _ _ _ (wpAny_newFunctionEnv_cells S.kind par ?_))
    rintro e rfl s1 ic
    have I := inv_start (CX := L2.CX P w) (E := E) (qual := qual) (f := f) (cd := cdv) S room.hd env (ar _ _ _ _ hsp) rel ic
    obtain ⟨t, ht, hq⟩ := hbody A outer s H vs Q E (room.deeper _) gd hsp
    refine ⟨nolim.keeps ic.toInCall.keep, codeAny_func (wpAny_mono (ht.run [] s1 _ H _ I hq) ?_ fun e s' he => he)⟩
    intro fl s' hs
    cases fl with
    | next =>
      obtain ⟨σ', H', J, q⟩ := hs
      exact ⟨V.non, H', J.os, J.bare, J.base, J.hok, rfl, q⟩
    | ret u =>
      obtain ⟨x, σ', H', J, rx, q⟩ := hs
      exact ⟨x, H', J.os, J.bare, J.base, J.hok, rx, q⟩
    | brk => obtain ⟨_, _, _, q⟩ := hs; cases q
    | cont => obtain ⟨_, _, _, q⟩ := hs; cases q
end

/-- what a closure promises where it stands -/
def spClo (T : Tx) (S : DSp) (n : Nat) (caps : List D) (a : Addr) : Sp := fun vs H Q E => ∃ P b G ds KQ KE, Pre T P b G H ∧ Hd T P G (.clo n caps) (.ref a) ∧ Hl T P G ds vs ∧ S ds b KQ KE ∧
  (∀ d fr b' v H' G', Post T ⟨G, H, P⟩ b' G' H' → Hd T P G' d v → KQ d fr b' → Q v H') ∧
  ∀ xc b' cls d H' G', Post T ⟨G, H, P⟩ b' G' H' → XcOk T P G' H' xc cls d → KE xc b' → E cls d H'
section
variable {T : Tx} {B : Bs} {X : Cx} {lv : Nat}
theorem fnAt_clo {pins : List (Addr × Obj)} {σ : L2.St} {H : Hp} {s : Shared} {P : Px} {G : Hp} {n : Nat} {caps : List D} {a : Addr} (I : Inv X pins σ H s) (sb : Sub G H) (h : Hd T P G (.clo n caps) (.ref a)) : PySem.W.FnAt a s.heap := by
  cases h with
  | obj h k => cases k
  | clo hg hlam hcode nda hcs =>
    obtain ⟨ps, body, pm, ct, lo, rfl⟩ := hlam
    have x : ObjOk X.prog X.w H s.heap a (.ext fun h => h.get? a = some _) := I.hok a _ (sb _ _ hg)
    exact ⟨_, _, _, _, x.1⟩
theorem pe_callC {C : Nat → List D → DSp} {Ex : Xc → Nat → Prop} {i : Nat} {x : Str} {p pos : Pos} {es : List Expr} {t : TDa} (F : ∀ n caps a, FnV X.prog X.w X.K X.mg X.base lv (.ref a) (spClo T (C n caps) n caps a)) (room : Room lv X.A) (gd : X.A.guards = some [])
    (hx : ∀ pins σ H s e s', Inv X pins σ H s → L2.CX X.prog X.w X.stack H s (exD T B Ex) e s' → X.xe e s') (hv : PE X (.Name x p) (tVar i)) {e : Expr} (ha : PA X (e :: es) (upA T B t)) (h1 : starEach (e :: es) X.env = (false, eval e X.env) :: starEach es X.env) (h2 : (backTo pos (starEach es X.env)).any (·.1) = false) :
    PE X (.Call (.Name x p) (e :: es) [] pos) (up T B (dCallV Ex C i t)) := by
  constructor
  intro pins s σ H Q I q
  obtain ⟨n, τ, G, K, R, ⟨m, caps, ei, t⟩, q⟩ := q
  obtain ⟨w, ew, hw⟩ := R.slot i _ ei
  have hw : Hd T B.P G (.clo m caps) w := hw
  have hr : ∃ a, w = .ref a := by
    cases hw with
    | obj _ k => cases k
    | clo => exact ⟨_, rfl⟩
  obtain ⟨a, rfl⟩ := hr
  refine wpAny_Call_Name_kw (thn (hv.run pins s σ H (fun v H' => v = .ref a ∧ H' = H) I ⟨_, ew, rfl, rfl⟩) fun u s0 ⟨v0, H0, I0, r0, e0, eH⟩ => ?_)
  subst e0 eH
  obtain rfl : u = Value.ref a := r0
  have args : wpAny (model X.prog X.w) X.A (spliced (backTo pos (starEach (e :: es) X.env))) (fun us s1 => PySem.W.FnAt a s1.heap ∧ wpAny (model X.prog X.w) X.A (call (.ref a) us) (EP X pins σ Q) X.xe s1) X.xe s0 := by
    refine thn (ha.run pos pins s0 σ H0 (fun vs H1 => ∃ n1 G1 ds, Rep T B n1 τ G1 σ H1 ∧ Sub G G1 ∧ Hl T B.P G1 ds vs ∧ C m caps ds n1.b (fun d _ b' => K (.val d) { n1 with b := b' }) Ex) I0 ⟨n, τ, G, _, R, t, fun ds n1 vs H1 G1 R1 s1 k1 h => ⟨n1, G1, ds, R1, s1, k1, h⟩⟩) fun us s1 hq => ?_
    obtain ⟨vs, H1, I1, rel, n1, G1, ds, R1, sb, hl, hC⟩ := hq
    refine ⟨fnAt_clo I1 R1.sub (hw.mono sb), ?_⟩
    refine F m caps a X rfl rfl rfl rfl rfl room gd pins s1 σ H1 us vs Q (exD T B Ex) hx I1 rel ⟨B.P, n1.b, G1, ds, _, _, R1.pre, hw.mono sb, hl, hC, fun d fr b' v H' G' p hd h => ?_, fun xc b' cls d H' G' p x h => R1.afterX p x h⟩
    exact q (.val d) _ v H' G' (R1.after p) (sb.trans p.g0) hd h
  exact PySem.W.callWith_F (fnAt_clo I0 R.sub hw) args h1 h2
theorem pe_callC0 {C : Nat → List D → DSp} {Ex : Xc → Nat → Prop} {i : Nat} {x : Str} {p pos : Pos} (F : ∀ n caps a, FnV X.prog X.w X.K X.mg X.base lv (.ref a) (spClo T (C n caps) n caps a)) (room : Room lv X.A) (gd : X.A.guards = some [])
    (hx : ∀ pins σ H s e s', Inv X pins σ H s → L2.CX X.prog X.w X.stack H s (exD T B Ex) e s' → X.xe e s') (hv : PE X (.Name x p) (tVar i)) : PE X (.Call (.Name x p) [] [] pos) (up T B (dCallV Ex C i dNil)) := by
  constructor
  intro pins s σ H Q I q
  obtain ⟨n, τ, G, K, R, ⟨m, caps, ei, hC⟩, q⟩ := q
  obtain ⟨w, ew, hw⟩ := R.slot i _ ei
  have hw : Hd T B.P G (.clo m caps) w := hw
  have hr : ∃ a, w = .ref a := by
    cases hw with
    | obj _ k => cases k
    | clo => exact ⟨_, rfl⟩
  obtain ⟨a, rfl⟩ := hr
  refine wpAny_Call_Name_kw (thn (hv.run pins s σ H (fun v H' => v = .ref a ∧ H' = H) I ⟨_, ew, rfl, rfl⟩) fun u s0 ⟨v0, H0, I0, r0, e0, eH⟩ => ?_)
  subst e0 eH
  obtain rfl : u = Value.ref a := r0
  refine PySem.W.callWith_F0 (fnAt_clo I0 R.sub hw) ?_
  refine F m caps a X rfl rfl rfl rfl rfl room gd pins s0 σ H0 [] [] Q (exD T B Ex) hx I0 .nil ⟨B.P, n.b, G, [], _, _, R.pre, hw, .nil, hC, fun d fr b' v H' G' p hd h => ?_, fun xc b' cls d H' G' p x h => R.afterX p x h⟩
  exact q (.val d) _ v H' G' (R.after p) p.g0 hd h
end
end Sh
namespace Sh
open L2 PySem PySem.Spec PyProof.Rows

theorem meth_eq {o : Expr} {m : Str} {apos pos : Pos} {args : List Expr} {env : Env} (hf : methodCallForm args.length (backTo pos (starEach args env)) (backToKw pos (keywordEach [] env)) = true) (hl : (apos.endLine == pos.line) = true)
    (hb : attributeBase o m env (eval o env) = eval o env) : eval (.Call (.Attribute o m apos) args [] pos) env = (do
      let ov ← eval o env
      standAt apos.atName
      let (f, first) ← holding [ov] (getMethod ov m (do return (← importBound o env).getD true))
      callWith pos f first (backTo pos (starEach args env)) (backToKw pos (keywordEach [] env))) := by
  rw [arm_eval_Call, hb]
  unfold methodCall
  have e : methodCallForm (args.length + ([] : List Keyword).length) (backTo pos (starEach args env)) (backToKw pos (keywordEach [] env)) = true := hf
  rw [e]
  have e2 : methodCallPos true o env apos pos = pure pos := by unfold methodCallPos; simp [hl]
  rw [e2]
  simp [calleeOf]
/-- C0.__init__ is ValueError's -/
structure InitBy (K : PySem.W.Frag) (C0 : Addr) (mc : Value) : Prop where
  rd : PySem.W.readsIn K C0 mc = true
  ga : PySem.W.specialIn K (.ref C0) "__getattribute__" = some (some (.builtin "type.__getattribute__"))
  at_ : PySem.W.findCls K (.ref C0) mc "__init__" = some (.val (.builtin "ValueError.__init__"))
section
variable {X : Cx}
/-- C0.__init__(self, ..) -/
theorem pe_c0init {x : Str} {C0 : Addr} {mc : Value} {e : Expr} {es : List Expr} {ta : TA} {p1 p2 pos : Pos} {pl : Sem Bool} (F : InitBy X.K C0 mc) (hg : Gl X x) (hm : X.mg x = some (.ref C0)) (hdb : (x == ("__debug__" : Str)) = false) (ha : PA X (e :: es) ta)
    (hc : eval (.Call (.Attribute (.Name x p1) "__init__" p2) (e :: es) [] pos) X.env = (do
      let ov ← eval (.Name x p1) X.env
      standAt p2.atName
      let (f, first) ← holding [ov] (getMethod ov "__init__" pl)
      callWith pos f first (backTo pos (starEach (e :: es) X.env)) (backToKw pos (keywordEach [] X.env))) := by rfl)
    (he : starEach (e :: es) X.env = (false, eval e X.env) :: starEach es X.env := by rfl) (hpl : (backTo pos (starEach es X.env)).any (·.1) = false) : PE X (.Call (.Attribute (.Name x p1) "__init__" p2) (e :: es) [] pos) (tVeI X.K ta) := by
  constructor
  intro pins s σ H Q I h
  refine PySem.W.methodCall_KW (ld_glob I hg hm ?_ hdb) hc
  refine PySem.W.method_cls I.kIn F.ga (PySem.W.cls_value I.kIn F.rd F.at_ rfl ?_)
  refine PyProof.Rows.callWith_method1 (thn (ha.run pos pins _ σ H _ (I.tok _) h) fun us s1 hq => ?_) he hpl
  obtain ⟨vs, H1, I1, rel, a, C, ws, ev, hz, T, ea, q⟩ := hq
  subst ev
  cases rel with
  | @cons _ u _ ur ra rest =>
    obtain rfl : u = Value.ref a := ra
    exact oinit_ok T I1 ea (by have := Paired.length rest; rw [sizeLine_eq]; omega) fun s' J => ⟨.non, H1, J, rfl, q⟩

/-- an __init__ that only stores its parameters: (field, the parameter's place) in their order -/
def initC (N : List Str) (sc : Scope) (self : Str) : List Stmt → List (Str × Nat) → Bool
  | [], [] => true
  | .Assign [.Attribute (.Name s _) f _] (.Name x _) _ :: r, (g, i) :: fs => s == self && f == g && decide (N[i]? = some x) && decide (0 < i) && (sc.names.lookup x == some .local) && !(x == ("__debug__" : Str)) && !(x == ("__classdict__" : Str)) && initC N sc self r fs
  | _, _ => false
/-- the fields as they lie: the last one first -/
def fldsV (vs : List V) : List (Str × Nat) → List (Str × V) → List (Str × V)
  | [], acc => acc
  | (f, i) :: r, acc => fldsV vs r ((f, vs.getD i .non) :: acc)
def fldsD (ds : List D) : List (Str × Nat) → List (Str × D) → List (Str × D)
  | [], acc => acc
  | (f, i) :: r, acc => fldsD ds r ((f, ds.getD i .non) :: acc)
theorem upd_upd {H : Hp} {a : Addr} {o o' : HO} : upd (upd H a o) a o' = upd H a o' := by
  funext b
  unfold upd
  split <;> rfl
theorem upd_comm {H : Hp} {a b : Addr} {o o' : HO} (h : a ≠ b) : upd (upd H a o) b o' = upd (upd H b o') a o := by
  funext c
  unfold upd
  by_cases h1 : c = b
  · subst h1
    rw [if_pos rfl, if_neg (Ne.symm h), if_pos rfl]
  · rw [if_neg h1]
    by_cases h2 : c = a
    · rw [if_pos h2, if_pos h2]
    · rw [if_neg h2, if_neg h2, if_neg h1]
/-- the stores behind the first one -/
theorem init_rest {self : Str} {C a : Addr} {sc : Scope} (hsc : X.env.scope = sc) (T : OexC X.K C) (hself : X.N[0]? = some self) (hv : Vis sc self) (h1 : (self == ("__debug__" : Str)) = false) (h2 : (self == ("__classdict__" : Str)) = false) :
    ∀ (body : List Stmt) (fs : List (Str × Nat)), initC X.N sc self body fs = true → (∀ p ∈ fs, PySem.W.findIn X.K (.ref C) p.1 = some none) →
    ∃ t, PSs X body t ∧ ∀ (E : Ends) (σ : L2.St) (vs : List V) (H : Hp) (d : Addr) (gs : List (Str × V)), σ[0]? = some (some (.ref a)) → (∀ p ∈ fs, σ[p.2]? = some (some (vs.getD p.2 .non))) → d ≠ a → gs.length + fs.length ≤ 900 →
      E.nx σ (upd (upd H d (exd d (fldsV vs fs gs))) a (exo a C (some d))) → t E σ (upd (upd H d (exd d gs)) a (exo a C (some d))) := by
  intro body
  induction body with
  | nil =>
    intro fs hC hno
    cases fs with
    | nil => exact ⟨tNext, pss_nil, fun E σ vs H d gs _ _ _ _ q => q⟩
    | cons => simp [initC] at hC
  | cons st r ih =>
    intro fs hC hno
    unfold initC at hC
    split at hC
    · rename_i h; cases h
    · rename_i s p1 f p2 x p3 pos r' g i fs' heq
      cases heq
      simp only [Bool.and_eq_true, beq_iff_eq, decide_eq_true_eq, Bool.not_eq_true'] at hC
      obtain ⟨⟨⟨⟨⟨⟨⟨hs, hf⟩, hN⟩, hi⟩, hx⟩, hd1⟩, hd2⟩, hr⟩ := hC
      subst hs hf
      obtain ⟨t, ht, hq⟩ := ih fs' hr fun p hp => hno p (List.mem_cons_of_mem _ hp)
      refine ⟨_, pss_cons (ps_ost (pe_var hself (hsc ▸ hv) h1 h2) (pe_var hN (hsc ▸ (.inl hx : Vis sc x)) hd1 hd2)) ht, ?_⟩
      intro E σ vs H d gs e0 ev hda hl q
      refine ⟨_, ev (f, i) List.mem_cons_self, .ref a, e0, a, C, rfl, T, hno (f, i) List.mem_cons_self, .inr ⟨d, gs, upd_same, ?_, ?_, ?_⟩⟩
      · rw [upd_ne hda, upd_same]
      · simp only [List.length_cons] at hl; omega
      · show t E σ _
        rw [upd_comm (Ne.symm hda), upd_upd]
        refine hq E σ vs H d _ e0 (fun p hp => ev p (List.mem_cons_of_mem _ hp)) hda ?_ q
        simp only [List.length_cons] at hl ⊢; omega
    · cases hC
/-- the stores of an exception of which nothing is stored yet -/
theorem init_all {self : Str} {C a : Addr} {sc : Scope} (hsc : X.env.scope = sc) (T : OexC X.K C) (hself : X.N[0]? = some self) (hv : Vis sc self) (h1 : (self == ("__debug__" : Str)) = false) (h2 : (self == ("__classdict__" : Str)) = false)
    (body : List Stmt) (fs : List (Str × Nat)) (hC : initC X.N sc self body fs = true) (hno : ∀ p ∈ fs, PySem.W.findIn X.K (.ref C) p.1 = some none) (h0 : fs ≠ []) (hz : fs.length ≤ 900) :
    ∃ t, PSs X body t ∧ ∀ (E : Ends) (σ : L2.St) (vs : List V) (H : Hp), σ[0]? = some (some (.ref a)) → (∀ p ∈ fs, σ[p.2]? = some (some (vs.getD p.2 .non))) → H a = some (exo a C none) →
      (∀ d, H d = none → d ≠ a → E.nx σ (upd (upd H d (exd d (fldsV vs fs []))) a (exo a C (some d)))) → t E σ H := by
  cases body with
  | nil =>
    cases fs with
    | nil => exact absurd rfl h0
    | cons => simp [initC] at hC
  | cons st r =>
    unfold initC at hC
    split at hC
    · rename_i h; cases h
    · rename_i s p1 f p2 x p3 pos r' g i fs' heq
      cases heq
      simp only [Bool.and_eq_true, beq_iff_eq, decide_eq_true_eq, Bool.not_eq_true'] at hC
      obtain ⟨⟨⟨⟨⟨⟨⟨hs, hf⟩, hN⟩, hi⟩, hx⟩, hd1⟩, hd2⟩, hr⟩ := hC
      subst hs hf
      obtain ⟨t, ht, hq⟩ := init_rest (a := a) hsc T hself hv h1 h2 r fs' hr fun p hp => hno p (List.mem_cons_of_mem _ hp)
      refine ⟨_, pss_cons (ps_ost (pe_var hself (hsc ▸ hv) h1 h2) (pe_var hN (hsc ▸ (.inl hx : Vis sc x)) hd1 hd2)) ht, ?_⟩
      intro E σ vs H e0 ev ea q
      refine ⟨_, ev (f, i) List.mem_cons_self, .ref a, e0, a, C, rfl, T, hno (f, i) List.mem_cons_self, .inl ⟨ea, fun d hd hda => ?_⟩⟩
      refine hq E σ vs H d _ e0 (fun p hp => ev p (List.mem_cons_of_mem _ hp)) hda ?_ (q d hd hda)
      simp only [List.length_cons, List.length_nil] at hz ⊢; omega
    · cases hC

end
/-- what such an __init__ promises -/
def spX (C : Addr) (n : Nat) (fs : List (Str × Nat)) : Sp := fun vs H Q _ => ∃ a ws, vs = .ref a :: ws ∧ ws.length = n ∧ H a = some (exo a C none) ∧ ∀ d, H d = none → d ≠ a → Q .non (upd (upd H d (exd d (fldsV vs fs []))) a (exo a C (some d)))
theorem fldsV_head {x y : V} {vs : List V} : ∀ {fs : List (Str × Nat)} {acc : List (Str × V)}, (∀ p ∈ fs, 0 < p.2) → fldsV (x :: vs) fs acc = fldsV (y :: vs) fs acc
  | [], _, _ => rfl
  | (f, 0) :: r, _, h => absurd (h (f, 0) List.mem_cons_self) (Nat.lt_irrefl 0)
  | (f, i + 1) :: r, acc, h => fldsV_head (fs := r) fun p hp => h p (List.mem_cons_of_mem _ hp)
theorem upA_mono {T : Tx} {B : Bs} {t : TDa} {σ : L2.St} {H : Hp} {Q Q' : List V → Hp → Prop} (h : ∀ vs H, Q vs H → Q' vs H) (q : upA T B t σ H Q) : upA T B t σ H Q' := by
  obtain ⟨n, τ, G, K, R, t, q⟩ := q
  exact ⟨n, τ, G, K, R, t, fun ds n' vs H' G' a b c d => h _ _ (q ds n' vs H' G' a b c d)⟩

section
variable {P : Program} {w : World} {K : PySem.W.Frag} {mg : Str → Option Value} {base : Heap}
theorem fnX_of {lv : Nat} {f C C0 : Addr} {mc : Value} {name qual self x0 : Str} {params : Arguments} {body : List Stmt} {scope : Scope} {dV kV doc pm cdv ct oc : Value} {an od : Option Addr} {osl : Array (Option Value)} {N ps : List Str} {n : Nat} {fs : List (Str × Nat)} {zc : Str} {kc : Nat} {p1 p2 p3 p4 p5 pe : Pos}
    (lk : K.lookup f = some ⟨oc, od, .func (PySem.W.fnOf name qual params (.Expr (.Call (.Attribute (.Name x0 p1) "__init__" p2) [.Name self p3, .Constant (.str zc) kc p4] [] p5) pe :: body) scope dV kV doc pm an cdv ct), osl⟩) (hcd : PySem.W.codeIn K cdv qual = true) (S : FnScope N ps scope)
    (T : OexC K C) (B : InitBy K C0 mc) (hm : mg x0 = some (.ref C0)) (hg : scope.names.lookup x0 = some .globalImplicit) (hdb : (x0 == ("__debug__" : Str)) = false)
    (hline : (p2.endLine == p5.line) = true) (hp : ps.length = n + 1) (hself : N[0]? = some self) (hv : scope.names.lookup self = some .local) (h1 : (self == ("__debug__" : Str)) = false) (h2 : (self == ("__classdict__" : Str)) = false)
    (hC : initC N scope self body fs = true) (hno : ∀ p ∈ fs, PySem.W.findIn K (.ref C) p.1 = some none) (h0 : fs ≠ []) (hz : fs.length ≤ 900) (hi : ∀ p ∈ fs, p.2 < n + 1) :
    FnOk P w K mg base (L2.CX P w) (lv + 1) f (PySem.W.fnOf name qual params (.Expr (.Call (.Attribute (.Name x0 p1) "__init__" p2) [.Name self p3, .Constant (.str zc) kc p4] [] p5) pe :: body) scope dV kV doc pm an cdv ct) ps (spX C n fs) := by
  refine fn_of lk hcd S (fun vs H Q E hs => ?_) fun A outer s H vs Q E room hs => ?_
  · obtain ⟨a, ws, rfl, hl, _⟩ := hs
    rw [hp, List.length_cons, hl]
  · obtain ⟨a, ws, rfl, hl, ea, hq⟩ := hs
    have hN : n + 1 ≤ N.length := by
      have := congrArg List.length S.pre
      rw [List.length_take, hp] at this; omega
    have st : ∀ i, i < n + 1 → (L2.start N (.ref a :: ws))[i]? = some (some ((V.ref a :: ws).getD i .non)) := fun i hi => by
      have hlen : (V.ref a :: ws).length = n + 1 := by rw [List.length_cons, hl]
      unfold L2.start
      rw [List.getElem?_append_left (by rw [List.length_map, hlen]; exact hi), List.getElem?_map, List.getElem?_eq_getElem (by rw [hlen]; exact hi), List.getD_eq_getElem?_getD, List.getElem?_eq_getElem (by rw [hlen]; exact hi)]
      rfl
    obtain ⟨t, ht, hr⟩ := init_all (X := cxOf (L2.CX P w) P w K mg base N qual scope f cdv A outer s H E) (a := a) (sc := scope) rfl T hself (.inl hv) h1 h2 body fs hC hno h0 hz
    refine ⟨_, pss_cons (ps_expr (pe_c0init B hg hm hdb (pa_cons (pe_var hself (.inl hv) h1 h2) (pa_cons pe_str pa_nil)) (meth_eq rfl hline rfl) rfl rfl)) ht, ?_⟩
    refine ⟨_, st 0 (by omega), ?_⟩
    refine ⟨a, C, [.str zc], rfl, by simp, T, ea, ?_⟩
    exact hr _ _ (.ref a :: ws) H (st 0 (by omega)) (fun p hp => st p.2 (hi p hp)) ea fun d hd hda => hq d hd hda
/-- raise C(..), whoever says it -/
def RzV (P : Program) (w : World) (K : PySem.W.Frag) (mg : Str → Option Value) (base : Heap) (lv : Nat) (x : Str) (C : Addr) (n : Nat) (fs : List (Str × Nat)) : Prop :=
  ∀ X : Cx, X.prog = P → X.w = w → X.K = K → X.mg = mg → X.base = base → Room lv X.A → Gl X x → ∀ (p pos : Pos) (e : Expr) (es : List Expr) (T : Tx) (B : Bs) (t : TDa), PA X (e :: es) (upA T B t) → starEach (e :: es) X.env = (false, eval e X.env) :: starEach es X.env →
    (backTo pos (starEach es X.env)).any (·.1) = false → PMk X (.Call (.Name x p) (e :: es) [] pos) (fun σ H Q => upA T B t σ H fun vs H1 => vs.length = n ∧ ∀ d, H1 d = none → Q (.ref C) (some d) (upd H1 d (.xd (fldsV (.non :: vs) fs []))))
theorem rzV_of {lv : Nat} {x : Str} {C fI : Addr} {fd : FuncData} {ps : List Str} {n : Nat} {fs : List (Str × Nat)} (T : OexC K C) (iC : PySem.W.findIn K (.ref C) "__init__" = some (some (.ref fI))) (tI : PySem.W.typeIn K (.ref fI) = some (.type "function"))
    (F : FnOk P w K mg base (L2.CX P w) lv fI fd ps (spX C n fs)) (hb : Binds K fd ps []) (hm : mg x = some (.ref C)) (hn : n ≤ 900) (hdb : (x == ("__debug__" : Str)) = false) (hpos : ∀ p ∈ fs, 0 < p.2) : RzV P w K mg base (lv + 1) x C n fs := by
  intro X e1 e2 e3 e4 e5 room hg p pos e es T' B t ha he hpl
  subst e1 e2 e3 e4 e5
  have r := pmk_oex T iC tI F room hb .nil (fun _ _ _ _ _ _ _ z => by obtain ⟨_, _, _, _, _, _, _, _, _, _, _, _, z⟩ := z; exact z.elim) hg hm ha hdb he hpl (pos := pos) (p := p)
  intro pins s σ H Q I q
  refine r pins s σ H Q I (upA_mono (fun vs H1 ⟨hl, q⟩ => ?_) q)
  refine ⟨by omega, fun a hna => ?_⟩
  rw [List.append_nil]
  refine ⟨a, vs, rfl, hl, upd_same, fun d hd hda => ⟨rfl, d, _, upd_same, by rw [upd_ne hda, upd_same], ?_, ?_⟩⟩
  · rw [upd_ne hda] at hd; exact hd
  · have e : upd (del (upd (upd (upd H1 a (exo a C none)) d (exd d (fldsV (.ref a :: vs) fs []))) a (exo a C (some d))) a) d (.xd (fldsV (.ref a :: vs) fs [])) = upd H1 d (.xd (fldsV (.non :: vs) fs [])) := by
      rw [fldsV_head (x := .ref a) (y := .non) hpos]
      funext b
      by_cases hb : b = d
      · rw [hb, upd_same, upd_same]
      · rw [upd_ne hb, upd_ne hb]
        by_cases hba : b = a
        · rw [hba, del_same, hna]
        · rw [del_ne hba, upd_ne hba, upd_ne hb, upd_ne hba]
    rw [e]
    refine q d ?_
    rw [upd_ne hda] at hd; exact hd
end

section
variable {T : Tx} {B : Bs} {σ : L2.St} {H : Hp} {E : Ends}
theorem fldsV_D {P : Px} {G : Hp} {ds : List D} {vs : List V} (h : Hl T P G ds vs) : ∀ {fs : List (Str × Nat)} {a : List (Str × D)} {b : List (Str × V)}, (∀ p ∈ fs, 0 < p.2 ∧ p.2 < ds.length + 1) → Hf T P G a b → Hf T P G (fldsD (.non :: ds) fs a) (fldsV (.non :: vs) fs b)
  | [], _, _, _, k => k
  | (f, i) :: r, a, b, hi, k => by
    refine fldsV_D h (fs := r) (fun p hp => hi p (List.mem_cons_of_mem _ hp)) (.cons ?_ k)
    have h' : Hl T P G (.non :: ds) (.non :: vs) := .cons .non h
    obtain ⟨_, hb⟩ := hi (f, i) List.mem_cons_self
    have hb : i < (D.non :: ds).length := by simpa using hb
    have hb2 : i < (V.non :: vs).length := by rw [← h'.length]; exact hb
    obtain ⟨v, h1, h2⟩ := h'.get (List.getElem?_eq_getElem hb)
    rw [List.getD_eq_getElem?_getD, List.getD_eq_getElem?_getD, List.getElem?_eq_getElem hb, h1]
    exact h2
def sRaise (Ex : Xc → Nat → Prop) (c : Str) (n : Nat) (fs : List (Str × Nat)) (t : TDa) : TDs := fun _ m => t m fun ds n1 => ds.length = n ∧ Ex ⟨c, fldsD (.non :: ds) fs []⟩ n1.b
theorem upS_raise {Ex : Xc → Nat → Prop} {c : Str} {C : Addr} {n : Nat} {fs : List (Str × Nat)} (hm : T.mg c = some (.ref C)) (hi : ∀ p ∈ fs, 0 < p.2 ∧ p.2 < n + 1) {t : TDa} (q : upS T B (sRaise Ex c n fs t) E σ H) :
    upA T B t σ H fun vs H1 => vs.length = n ∧ ∀ d, H1 d = none → wD T B Ex (.ref C) (some d) σ (upd H1 d (.xd (fldsV (.non :: vs) fs []))) := by
  obtain ⟨m, G, K, R, t, k⟩ := q
  refine ⟨m, [], G, _, R, t, fun ds n1 vs H1 G1 R1 s1 k1 h => ?_⟩
  obtain ⟨hl, h⟩ := h
  refine ⟨by rw [← k1.length]; exact hl, fun d hd => ⟨n1.b, G1, _, (R1.laid _ hd).post, ⟨hm, C, d, _, rfl, rfl, upd_same, fun f e he => ?_⟩, h⟩⟩
  have hf : Hf T B.P G1 (fldsD (.non :: ds) fs []) (fldsV (.non :: vs) fs []) := fldsV_D k1 (by rw [hl]; exact hi) .nil
  exact hf.lookup he
end
end Sh
set_option maxHeartbeats  1000000
namespace Sh
open L2 PySem PySem.Spec PyProof.Rows

section
variable {prog : Program} {w : World} {A : Around} {E : Value → Shared → Prop} {s : Shared}
theorem revPlaces (n : Nat) : Builtin.Slice.slicePlaces ((n : Int) - 1) (-1) (-1) = n := by
  unfold Builtin.Slice.slicePlaces
  rw [if_neg (by decide)]
  by_cases h : (n : Int) - 1 > -1
  · rw [if_pos h, show (-(-1 : Int)) = 1 by decide, Int.ediv_one]
    omega
  · rw [if_neg h]
    omega
theorem sliceApplied_rev {sl : Addr} {vs : Value} {n : Nat} {Q : Int × Int × Nat → Shared → Prop} (hs : s.heap.IsSliceOf sl .none .none vs) (ps : IsPart vs (some (-1))) (h : Q ((n : Int) - 1, -1, n) s) :
    wpAny (model prog w) A (Builtin.Slice.sliceApplied (.ref sl) (pure (n : Int))) Q E s := by
  obtain ⟨os, hos, hcs, hds⟩ := id hs
  unfold Builtin.Slice.sliceApplied Builtin.Slice.sliceFields
  refine wpAny_bind (wpAny_bind (wpAny_field hos hds (x := .none) rfl (wpAny_bind (wpAny_field hos hds (x := .none) rfl (wpAny_bind (wpAny_field hos hds (x := vs) rfl (wpAny_pure ?_)))))))
  cases ps with
  | int i t =>
    refine wpAny_bind (slicePart_int ?_)
    show wpAny _ _ (if ((-1 : Int) == 0) = true then _ else _) _ _ s
    rw [if_neg (by decide)]
    refine wpAny_bind (slicePart_none (wpAny_bind (slicePart_none (wpAny_bind (wpAny_pure ?_)))))
    show wpAny _ _ (pure ((n : Int) - 1, (-1 : Int), Builtin.Slice.slicePlaces ((n : Int) - 1) (-1) (-1))) _ _ s
    rw [revPlaces]
    exact wpAny_pure h
theorem fmap_congr {α β : Type} {f g : α → Option β} : ∀ {l : List α}, (∀ a ∈ l, f a = g a) → l.filterMap f = l.filterMap g
  | [], _ => rfl
  | a :: l, h => by
    rw [List.filterMap_cons, List.filterMap_cons, h a List.mem_cons_self, fmap_congr fun b hb => h b (List.mem_cons_of_mem _ hb)]
theorem pick_rev (xs : Array Value) : ((List.range xs.size).filterMap fun (m : Nat) => xs[(((xs.size : Int) - 1) + (m : Int) * (-1)).toNat]?).toArray = xs.toList.reverse.toArray := by
  have e : (List.range xs.size).filterMap (fun (m : Nat) => xs[(((xs.size : Int) - 1) + (m : Int) * (-1)).toNat]?) = ((List.range xs.size).map fun k => xs.size - 1 - k).filterMap (xs[·]?) := by
    rw [List.filterMap_map]
    refine fmap_congr fun m hm => ?_
    have : (((xs.size : Int) - 1) + (m : Int) * (-1)).toNat = xs.size - 1 - m := by omega
    rw [this]; rfl
  rw [e, PySem.W.krv_range, List.filterMap_reverse, PySem.W.krv_all]
theorem getItem_tuple_rev {t sl : Addr} {items : Array Value} {vs : Value} {Q : Value → Shared → Prop} (ht : IsTup s.heap t items) (hs : s.heap.IsSliceOf sl .none .none vs) (ps : IsPart vs (some (-1)))
    (h : Q (.ref s.heap.objs.size) { s with heap := s.heap.push { cls := .type "tuple", data := .seq items.toList.reverse.toArray } }) (hsz : items.size ≤ sizeLine) : wpAny (model prog w) A (getItem (.ref t) (.ref sl)) Q E s := by
  have htake : sizeOk (.seq items.toList.reverse.toArray) := by
    show items.toList.reverse.toArray.size ≤ sizeLine
    rw [List.size_toArray, List.length_reverse, Array.length_toList]
    exact hsz
  obtain ⟨os, hos, hcs, hds⟩ := id hs
  have hTs : s.TypeIs (.ref sl) "slice" := ⟨os, hos, hcs⟩
  unfold getItem
  try with_reducible refine wpAny_holding ?_
  first | refine wpAny_bind (wpAny_pure ?_) | skip
  refine wpAny_bind (wpAny_sequenceKey ht.typeIs (by decide) ?_)
  refine wpAny_bind (wpAny_callSpecial?_slot (name := Str.ofString "__getitem__") ht.typeIs PyProof.Rows.slot_tuple_getitem
    (wpAny_call_entry PyProof.Rows.slot_tuple_getitem ht.typeIs entry_tuple_getitem ?_ (args_tuple_getitem _ _)))
  show wpAny _ _ (Builtin.Tuple.tupleItemsOf (.ref t) >>= _) _ _ s
  refine wpAny_bind (tupleItemsOf_ ht ?_)
  refine wpAny_bind (wpAny_typeOf hTs ?_)
  rw [if_pos (by decide)]
  refine wpAny_bind (sliceApplied_rev hs ps ?_)
  show wpAny _ _ (if ((((items.size : Int) - 1) == 0 && (-1 : Int) == 1 && items.size == items.size) = true) then _ else _) _ _ s
  rw [if_neg (by simp), pick_rev]
  first
    | exact wpAny_bind (m := Builtin.Tuple.tupleExact _) (wpAny_newObj_type (wpAny_pure ⟨_, rfl, wpAny_pure h⟩) htake)
    | exact wpAny_bind (m := Builtin.Tuple.tupleExact _) (wpAny_newObj_type (wpAny_bind (wpAny_pure (wpAny_pure ⟨_, rfl, wpAny_pure h⟩))) htake)
    | exact wpAny_bind (wpAny_bind (m := Builtin.Tuple.tupleExact _) (wpAny_newObj_type (wpAny_pure (wpAny_pure ⟨_, rfl, wpAny_pure h⟩)) htake))
    | exact wpAny_bind (wpAny_bind (m := Builtin.Tuple.tupleExact _) (wpAny_newObj_type (wpAny_pure ⟨_, rfl, wpAny_pure h⟩) htake))
end
section
variable {X : Cx} {T : Tx} {B : Bs} {t : TD}
/-- a list or a tuple, turned about -/
def tRevA (K : PySem.W.Frag) (te : TE) : TE := fun σ H Q => te σ H fun x H1 => ∃ a xs, x = V.ref a ∧ ((SqL K H1 a xs ∧ ∀ p, H1 p = none → Q (.ref p) (upd H1 p (.lst xs.reverse))) ∨ (SqT K H1 a xs ∧ ∀ p, H1 p = none → Q (.ref p) (upd H1 p (.tup xs.reverse))))
theorem pe_revA {e : Expr} {te : TE} {k : Nat} {p1 p2 p3 pos : Pos} (he : PE X e te) : PE X (.Subscript e (.Slice none none (some (.UnaryOp .USub (.Constant (.int 1) k p1) p2)) p3) pos) (tRevA X.K te) := by
  refine ⟨fun pins s σ H Q I h => ?_⟩
  refine Subscript_ (thn (he.run pins s σ H _ I h) fun v s1 ⟨x, H1, I1, r1, q1⟩ => ?_)
  obtain ⟨a, xs, ex, q⟩ := q1
  subst ex
  cases r1
  have hst : PO X (some (.UnaryOp .USub (.Constant (.int 1) k p1) p2)) (tPart (tUn (rU fun i => .int (-i)) (tC (.int 1)))) := po_some (pe_un un_neg pe_int)
  refine wpAny_Slice (thn (po_none.run pins s1 σ H1 (fun o H2 => o = none ∧ H2 = H1) I1 ⟨rfl, rfl⟩) fun vl s2 ⟨l, H2, I2, pl, el, e2⟩ => ?_)
  subst el e2
  refine thn (po_none.run pins s2 σ H2 (fun o H3 => o = none ∧ H3 = H2) I2 ⟨rfl, rfl⟩) fun vu s3 ⟨u, H3, I3, pu, eu, e3⟩ => ?_
  subst eu e3
  refine thn (hst.run pins s3 σ H3 (fun o H4 => o = some (-1) ∧ H4 = H3) I3 ⟨1, rfl, -1, rfl, rfl, rfl⟩) fun vs s4 ⟨o, H4, I4, ps, eo, e4⟩ => ?_
  subst eo e4
  have I5 : Inv X pins σ H4 { s4 with heap := s4.heap.push { cls := .type "slice", data := .fields #[vl, vu, vs] } } := I4.kept (t' := s4.toks) fun b ob q => Heap.get?_push_of_some _ q
  show wpAny (model X.prog X.w) X.A (subscriptTail e (.Slice none none (some (.UnaryOp .USub (.Constant (.int 1) k p1) p2)) p3) (.ref a) (.ref s4.heap.objs.size)) (EP X pins σ Q) X.xe { s4 with heap := s4.heap.push { cls := .type "slice", data := .fields #[vl, vu, vs] } }
  rcases q with ⟨hx, q⟩ | ⟨hx, q⟩
  · obtain ⟨its, r, ht, hz⟩ := I5.list hx
    have hlen := r.length
    refine tail_any (ops := [.ref a, .ref s4.heap.objs.size]) ht.isList.typeIs (PySem.slot_list_getitem.lookup) ?_ (by with_unfolding_all rfl)
    refine wpAny_getItem_list_slice ht.isList (Heap.IsSliceOf.new _ vl vu vs) pl pu ps (by decide) ?_ (by rw [List.size_toArray]; omega)
    rw [PySem.W.krv_pick]
    refine ⟨.ref _, _, I5.laid (t' := s4.toks) (o := .lst xs.reverse) (fun b ob q => Heap.get?_push_of_some _ q) (Nat.le_refl _) ?_, rfl, q _ (I5.hok.fresh (Nat.le_refl _))⟩
    exact ⟨by rw [List.length_reverse]; exact hz, _, 0, r.reverse, Heap.get?_push_size _ rfl⟩
  · obtain ⟨its, r, ht, hz⟩ := I5.tuple hx
    have hlen := r.length
    cases pl
    cases pu
    refine tail_any (ops := [.ref a, .ref s4.heap.objs.size]) ht.typeIs (PyProof.Rows.slot_tuple_getitem.lookup) ?_ (by with_unfolding_all rfl)
    refine getItem_tuple_rev ht (Heap.IsSliceOf.new _ .none .none vs) ps ?_ (by rw [List.size_toArray]; omega)
    refine ⟨.ref _, _, I5.laid (t' := s4.toks) (o := .tup xs.reverse) (fun b ob q => Heap.get?_push_of_some _ q) (Nat.le_refl _) ?_, rfl, q _ (I5.hok.fresh (Nat.le_refl _))⟩
    exact ⟨by rw [List.length_reverse]; exact hz, _, r.reverse, IsTup.new _ _⟩
end
end Sh
namespace Sh
open L2 PySem PySem.Spec PyProof.Rows

def dTy : D → Option TyS
  | .non => some (.ty "NoneType")
  | .bl _ => some (.ty "bool")
  | .int _ => some (.ty "int")
  | .str _ => some (.ty "str")
  | .tup _ => some (.ty "tuple")
  | .lst _ => some (.ty "list")
  | .dct _ _ => some (.ty "dict")
  | .ins c _ => some (.own c)
  | _ => none
def tyNs : List String := ["NoneType", "bool", "int", "str", "tuple", "list", "dict"]
def ty1 : TyS → TyS → Bool
  | .ty a, .ty b => a == b || (a == "bool" && b == "int")
  | .own c, .own d => c == d
  | _, _ => false
/-- the fields' names -/
def fldNs : List Str := (["a", "b", "c", "column", "depth", "great", "high", "later", "limit", "line", "links", "lot", "lots", "low", "many", "name", "now", "number", "numbers", "one", "order", "other", "pairs", "point", "promise"] : List Str) ++ (["row", "rows", "shares", "side", "size", "small", "table", "thing", "toll", "tolls", "tree", "value", "what", "within", "witness", "x", "y"] : List Str)
/-- what isinstance says of own classes -/
structure KitOk (T : Tx) (cs : List Str) : Prop where
  ref : ∀ c ∈ cs, ∃ C, T.mg c = some (.ref C)
  tyC : ∀ c ∈ cs, ∀ a ∈ tyNs, ∀ C, T.mg c = some (.ref C) → PySem.W.kitOne T.K (.type a) (.ref C) = some false
  cTy : ∀ c ∈ cs, ∀ a ∈ tyNs, ∀ C, T.mg c = some (.ref C) → PySem.W.kitOne T.K (.ref C) (.type a) = some false
  cC : ∀ c ∈ cs, ∀ d ∈ cs, ∀ C D, T.mg c = some (.ref C) → T.mg d = some (.ref D) → PySem.W.kitOne T.K (.ref C) (.ref D) = some (c == d)
  nof : ∀ c ∈ cs, ∀ C, T.mg c = some (.ref C) → ∀ f ∈ fldNs, NoAttr T.K C f
  cls : ∀ c ∈ cs, ∀ C, T.mg c = some (.ref C) → ClsF T.K C
def putFD (f : Str) (d : D) : List (Str × D) → List (Str × D)
  | [] => [(f, d)]
  | (g, x) :: r => if g = f then (g, d) :: r else (g, x) :: putFD f d r
theorem Hf.put {T : Tx} {P : Px} {G : Hp} {f : Str} {d : D} {v : V} (h : Hd T P G d v) : ∀ {fs : List (Str × D)} {gs : List (Str × V)}, Hf T P G fs gs → Hf T P G (putFD f d fs) (putF f v gs)
  | _, _, .nil => .cons h .nil
  | _, _, .cons (f := g) k t => by
    unfold putFD putF
    by_cases e : g = f
    · rw [if_pos e, if_pos e]; exact .cons h t
    · rw [if_neg e, if_neg e]; exact .cons k (Hf.put h t)
theorem look_put {f g : Str} {d : D} : ∀ {fs : List (Str × D)}, (putFD f d fs).lookup g ≠ none → g = f ∨ fs.lookup g ≠ none
  | [], h => by
    unfold putFD at h
    rw [List.lookup_cons] at h
    by_cases e : g = f
    · exact .inl e
    · rw [beq_eq_false_iff_ne.mpr e] at h; exact absurd rfl h
  | (k, x) :: r, h => by
    unfold putFD at h
    by_cases e : k = f
    · rw [if_pos e] at h
      by_cases e2 : g = k
      · exact .inl (e2.trans e)
      · rw [List.lookup_cons, beq_eq_false_iff_ne.mpr e2] at h
        rw [List.lookup_cons, beq_eq_false_iff_ne.mpr e2]
        exact .inr h
    · rw [if_neg e] at h
      rw [List.lookup_cons] at h ⊢
      cases q : g == k with
      | true => simp
      | false => rw [q] at h; exact look_put h
def sFldD (cs : List Str) (i : Nat) (f : Str) (t : TD) : TDs := fun K n => t n fun r n1 => frz n1 r fun d n2 => ∃ c fs, c ∈ cs ∧ f ∈ fldNs ∧ n2.ρ[i]? = some (.ow (.ins c fs)) ∧ fs.length < 900 ∧ K.nx { n2 with ρ := n2.ρ.set i (.ow (.ins c (putFD f d fs))) }
theorem upS_fld {T : Tx} {B : Bs} {σ : L2.St} {H : Hp} {E : Ends} {cs : List Str} (kit : KitOk T cs) {i : Nat} {f : Str} {t : TD} (q : upS T B (sFldD cs i f t) E σ H) : sFld T.K (tVar i) (up T B t) f E σ H := by
  obtain ⟨n, G, K, R, t, k⟩ := q
  refine ⟨n, [], G, _, R, t, fun r n1 v H1 G1 R1 s1 k1 t1 => ?_⟩
  obtain ⟨d, n2, G2, s2, R2, h2, c, fs, hc, hf, e, hz, t2⟩ := frz_ok R1 k1 t1
  obtain ⟨a, o, ea, ko⟩ := R2.slot i _ e
  have ho := ko.ho
  cases ho with
  | @ins _ C dx _ gs em ec en ef =>
    refine ⟨.ref a, ea, a, C, dx, gs, rfl, ko.at_, (kit.cls c hc C em).cl, kit.nof c hc C em f hf, by rw [← ef.length]; omega, ?_⟩
    exact k.nx _ _ _ _ (R2.mut e ea trivial (.ins em ec (fun g hg => (look_put hg).elim (fun e => e ▸ kit.nof c hc C em f hf) (en g)) (ef.put h2))) (s1.trans s2) t2
theorem kit_tys : (tyNs.all fun a => tyNs.all fun b => decide (kitB a b = some (ty1 (.ty a) (.ty b)))) = true := by decide +kernel
theorem kit_two {K : PySem.W.Frag} {a b : String} (ha : a ∈ tyNs) (hb : b ∈ tyNs) : PySem.W.kitOne K (.type a) (.type b) = some (ty1 (.ty a) (.ty b)) := by
  have h := kit_tys
  rw [List.all_eq_true] at h
  have h2 := h a ha
  rw [List.all_eq_true] at h2
  exact kit_ty (of_decide_eq_true (h2 b hb))
/-- the class objects that a list of names stands for -/
inductive TyVs (T : Tx) (cs : List Str) : List TyS → List V → List Value → Prop
  | nil : TyVs T cs [] [] []
  | ty {n : String} {ts : List TyS} {vs : List V} {us : List Value} : n ∈ tyNs → TyVs T cs ts vs us → TyVs T cs (.ty n :: ts) (.ty n :: vs) (.type n :: us)
  | own {c : Str} {C : Addr} {ts : List TyS} {vs : List V} {us : List Value} : c ∈ cs → T.mg c = some (.ref C) → TyVs T cs ts vs us → TyVs T cs (.own c :: ts) (.ref C :: vs) (.ref C :: us)
theorem TyVs.cls {T : Tx} {cs : List Str} : ∀ {ts : List TyS} {vs : List V} {us : List Value}, TyVs T cs ts vs us → Paired ClsV vs us
  | _, _, _, .nil => .nil
  | _, _, _, .ty _ t => .cons (.ty _) t.cls
  | _, _, _, .own _ _ t => .cons (.own _) t.cls
theorem TyVs.length {T : Tx} {cs : List Str} : ∀ {ts : List TyS} {vs : List V} {us : List Value}, TyVs T cs ts vs us → vs.length = ts.length
  | _, _, _, .nil => rfl
  | _, _, _, .ty _ t => congrArg (· + 1) t.length
  | _, _, _, .own _ _ t => congrArg (· + 1) t.length
def fIsi (cs : List Str) (ts : List TyS) : F1 := fun x e => ∃ t, dTy x = some t ∧ (∀ c, t = .own c → c ∈ cs) ∧ e = .ret (.bl (ts.any (ty1 t)))
section
variable {X : Cx} {T : Tx} {P : Px} {G H : Hp}
/-- the type of what stands there -/
def tyW (T : Tx) : TyS → Option Value
  | .ty n => some (.type n)
  | .own c => T.mg c
theorem Av.tyX (s : Sub G H) {d : D} {v : V} {t : TyS} (h : Av T P G H d v) (e : dTy d = some t) : ∃ w, tyW T t = some w ∧ TyX T.K H v w ∧ ((∃ n, t = .ty n ∧ n ∈ tyNs) ∨ ∃ c C, t = .own c ∧ w = .ref C) := by
  cases d <;> simp only [dTy, Option.some.injEq] at e <;> try cases e
  · obtain rfl := h.non_; exact ⟨_, rfl, .base .non, .inl ⟨_, rfl, by simp [tyNs]⟩⟩
  · obtain rfl := h.bl_; exact ⟨_, rfl, .base (.bl _), .inl ⟨_, rfl, by simp [tyNs]⟩⟩
  · obtain rfl := h.int_; exact ⟨_, rfl, .base (.int _), .inl ⟨_, rfl, by simp [tyNs]⟩⟩
  · obtain rfl := h.str_; exact ⟨_, rfl, .base (.str _), .inl ⟨_, rfl, by simp [tyNs]⟩⟩
  · obtain ⟨a, vs, rfl, q, _⟩ := h.tup s
    refine ⟨_, rfl, ?_, .inl ⟨_, rfl, by simp [tyNs]⟩⟩
    rcases q with q | ⟨o, its, n, hk, hc, _⟩
    · rcases q with q | ⟨o, q⟩
      · exact .base (.tup q)
      · exact .fTuple q
    · exact .kTuple hk hc
  · obtain ⟨a, vs, rfl, q, _⟩ := h.lst s
    exact ⟨_, rfl, .base (.lst q), .inl ⟨_, rfl, by simp [tyNs]⟩⟩
  · obtain ⟨a, o, rfl, q, k⟩ := h.dct s
    refine ⟨_, rfl, ?_, .inl ⟨_, rfl, by simp [tyNs]⟩⟩
    cases k with
    | dK _ => exact .base (.dK q)
    | dT _ => exact .base (.dT q)
  · obtain ⟨a, C, dx, gs, rfl, q, hm, F, _, _⟩ := h.ins s
    exact ⟨_, hm, .base (.ins q F.cl F.ha F.hn F.tk F.mr), .inr ⟨_, C, rfl, rfl⟩⟩
theorem kit_any {cs : List Str} (kit : KitOk T cs) {t : TyS} {w : Value} (hw : tyW T t = some w) (hc : ∀ c, t = .own c → c ∈ cs) (hn : ∀ n, t = .ty n → n ∈ tyNs) (hr : ∀ c, t = .own c → ∃ C, w = .ref C) :
    ∀ {ts : List TyS} {vs : List V} {us : List Value}, TyVs T cs ts vs us → PySem.W.kitAny T.K w us = some (ts.any (ty1 t))
  | _, _, _, .nil => rfl
  | _, _, _, .ty (n := n) (ts := ts) hn' r => by
    have ih := kit_any kit hw hc hn hr r
    have one : PySem.W.kitOne T.K w (.type n) = some (ty1 t (.ty n)) := by
      cases t with
      | ty m => cases hw; exact kit_two (hn m rfl) hn'
      | own c =>
        obtain ⟨C, rfl⟩ := hr c rfl
        exact kit.cTy c (hc c rfl) n hn' C hw
    refine kitAny_cons one (fun h => ?_) (fun h => ?_)
    · rw [ih, List.any_cons, h, Bool.false_or]
    · rw [List.any_cons, h, Bool.true_or]
  | _, _, _, .own (c := c) (C := C) (ts := ts) hc' hm r => by
    have ih := kit_any kit hw hc hn hr r
    have one : PySem.W.kitOne T.K w (.ref C) = some (ty1 t (.own c)) := by
      cases t with
      | ty m => cases hw; exact kit.tyC c hc' m (hn m rfl) C hm
      | own d =>
        obtain ⟨D, rfl⟩ := hr d rfl
        exact kit.cC d (hc d rfl) c hc' D C hw hm
    refine kitAny_cons one (fun h => ?_) (fun h => ?_)
    · rw [ih, List.any_cons, h, Bool.false_or]
    · rw [List.any_cons, h, Bool.true_or]
end

section
variable {X : Cx} {T : Tx} {B : Bs} {t : TD}
theorem pe_isi1 {cs : List Str} {p pos : Pos} {x c : Expr} {ty : TyS} {v : V} {u : Value} (hK : X.K = T.K) (kit : KitOk T cs) (hg : Gl X "isinstance") (hm : X.mg "isinstance" = none) (hx : PE X x (up T B t)) (hc : PE X c (tC v)) (hv : TyVs T cs [ty] [v] [u])
    (h1 : starEach [x, c] X.env = (false, eval x X.env) :: starEach [c] X.env) (h2 : starEach [c] X.env = (false, eval c X.env) :: starEach [] X.env) : PE X (.Call (.Name "isinstance" p) [x, c] [] pos) (up T B (dUn (fIsi cs [ty]) t)) := by
  refine PE.imp (pe_callB call_isi hg hm PyProof.Rows.boot_isinstance (pa_cons hx (pa_cons hc pa_nil h2) h1) (by decide) (by decide) h1 (by rw [h2]; rfl)) fun σ H Q q => ?_
  obtain ⟨n, τ, G, K, R, t, q⟩ := q
  refine ⟨n, τ, G, _, R, t, fun r n1 v1 H1 G1 R1 s1 k1 h => ?_⟩
  obtain ⟨d, e, ed, ⟨ty', e1, hcs, rfl⟩, hk⟩ := h
  obtain ⟨w, hw, tx, ho⟩ := (R1.fet_av k1 ed).tyX R1.sub e1
  have ka := kit_any kit hw hcs (fun n hn => by
    rcases ho with ⟨m, rfl, hm⟩ | ⟨c, C, rfl, _⟩
    · cases hn; exact hm
    · cases hn) (fun c hc => by
    rcases ho with ⟨m, rfl, _⟩ | ⟨c', C, rfl, rfl⟩
    · cases hc
    · exact ⟨C, rfl⟩) hv
  have k1 : PySem.W.kitOne T.K w u = some (List.any [ty] (ty1 ty')) := by
    unfold PySem.W.kitAny at ka
    cases z : PySem.W.kitOne T.K w u with
    | none => rw [z] at ka; cases ka
    | some b =>
      rw [z] at ka
      cases b with
      | true => exact ka
      | false => exact ka
  have cl := hv.cls
  cases cl with
  | cons cl _ => exact ⟨v1, v, w, u, _, rfl, cl, hK ▸ tx, hK ▸ k1, q (.val (.bl _)) n1 _ H1 G1 R1 s1 (Hd.bl _) hk⟩
def tCs (vs : List V) : TA := fun _ H Q => Q vs H
theorem pa_tcons {e : Expr} {es : List Expr} {v : V} {vs : List V} (h : PE X e (tC v)) (k : PA X es (tCs vs)) (hs : starEach (e :: es) X.env = (false, eval e X.env) :: starEach es X.env) : PA X (e :: es) (tCs (v :: vs)) := pa_cons h k hs
theorem pe_isiT {cs : List Str} {p pos tp : Pos} {kk : Nat} {x : Expr} {es : List Expr} {ts : List TyS} {vs : List V} {us : List Value} (hK : X.K = T.K) (kit : KitOk T cs) (hg : Gl X "isinstance") (hm : X.mg "isinstance" = none) (hx : PE X x (up T B t)) (hc : PA X es (tCs vs)) (hv : TyVs T cs ts vs us)
    (hz : ts.length ≤ 1000) (h1 : starEach [x, .Tuple es kk tp] X.env = (false, eval x X.env) :: starEach [.Tuple es kk tp] X.env) : PE X (.Call (.Name "isinstance" p) [x, .Tuple es kk tp] [] pos) (up T B (dUn (fIsi cs ts) t)) := by
  refine PE.imp (pe_callB call_isiT hg hm PyProof.Rows.boot_isinstance (pa_cons hx (pa_cons (pe_tup hc) pa_nil rfl) h1) (by decide) (by decide) h1 rfl) fun σ H Q q => ?_
  obtain ⟨n, τ, G, K, R, t, q⟩ := q
  refine ⟨n, τ, G, _, R, t, fun r n1 v1 H1 G1 R1 s1 k1 h => ?_⟩
  obtain ⟨d, e, ed, ⟨ty', e1, hcs, rfl⟩, hk⟩ := h
  have hl := hv.length
  refine ⟨by rw [sizeLine_eq]; omega, fun p hp => ?_⟩
  have sb : Sub H1 (upd H1 p (.tup vs)) := sub_upd hp
  have R2 := R1.laid (.tup vs) hp
  have k2 : ResOk T B n1 τ G1 σ (upd H1 p (.tup vs)) r v1 := by
    cases r with
    | val d => exact k1
    | slt i => exact k1
    | tmp d =>
      obtain ⟨a, o, h1, h2, h3⟩ := k1
      exact ⟨a, o, h1, ⟨h2.own, sb _ _ h2.at_, h2.mo, h2.ho⟩, h3⟩
  obtain ⟨w, hw, tx, ho⟩ := (R2.fet_av k2 ed).tyX R2.sub e1
  have ka := kit_any kit hw hcs (fun n hn => by
    rcases ho with ⟨m, rfl, hm⟩ | ⟨c, C, rfl, _⟩
    · cases hn; exact hm
    · cases hn) (fun c hc => by
    rcases ho with ⟨m, rfl, _⟩ | ⟨c', C, rfl, rfl⟩
    · cases hc
    · exact ⟨C, rfl⟩) hv
  exact ⟨v1, p, vs, w, us, _, rfl, upd_same, hv.cls, hK ▸ tx, hK ▸ ka, q (.val (.bl _)) n1 _ _ G1 R2 s1 (Hd.bl _) hk⟩

def dNo : En → (Option Int → En → Prop) → Prop := fun n K => K none n
def dSo (t : TD) : En → (Option Int → En → Prop) → Prop := fun n K => t n fun r n1 => ∃ i, fet n1 r = some (.int i) ∧ K (some i) n1
def cutD (xs : List D) (lo hi : Option Int) : List D := (xs.drop (HT.sIx xs.length 0 lo)).take (HT.sIx xs.length xs.length hi - HT.sIx xs.length 0 lo)
def dCut (t : TD) (l h : En → (Option Int → En → Prop) → Prop) : TD := fun n K => t n fun r n1 => frz n1 r fun d n2 => l n2 fun lo n3 => h n3 fun hi n4 => (∃ xs, d = .tup xs ∧ K (.val (.tup (cutD xs lo hi))) n4) ∨ ∃ xs, d = .lst xs ∧ K (.tmp (.lst (cutD xs lo hi))) n4
def upO (T : Tx) (B : Bs) (t : En → (Option Int → En → Prop) → Prop) : TO := fun σ H Q => ∃ n τ G K, Rep T B n τ G σ H ∧ t n K ∧ ∀ o n' H' G', Rep T B n' τ G' σ H' → Sub G G' → K o n' → Q o H'
theorem PO.imp {X : Cx} {e : Option Expr} {t t' : TO} (h : PO X e t) (i : ∀ σ H Q, t' σ H Q → t σ H Q) : PO X e t' := ⟨fun pins s σ H Q I q => h.run pins s σ H Q I (i σ H Q q)⟩
theorem po_no : PO X none (upO T B dNo) := PO.imp po_none fun σ H Q q => by
  obtain ⟨n, τ, G, K, R, t, q⟩ := q
  exact q none n H G R (.refl G) t
theorem po_so {e : Expr} (h : PE X e (up T B t)) : PO X (some e) (upO T B (dSo t)) := PO.imp (po_some h) fun σ H Q q => by
  obtain ⟨n, τ, G, K, R, t, q⟩ := q
  refine ⟨n, τ, G, _, R, t, fun r n1 v H1 G1 R1 s1 k1 h => ?_⟩
  obtain ⟨i, e, h⟩ := h
  exact ⟨i, (R1.fet_av k1 e).int_, q (some i) n1 H1 G1 R1 s1 h⟩
theorem Hl.cut {P : Px} {G : Hp} {ds : List D} {vs : List V} (h : Hl T P G ds vs) (lo hi : Option Int) : Hl T P G (cutD ds lo hi) (cutV vs lo hi) := by
  unfold cutD cutV
  rw [h.length]
  exact (h.drop _).take _
theorem pe_cut {e : Expr} {lo hi : Option Expr} {l u : En → (Option Int → En → Prop) → Prop} {p2 pos : Pos} (hK : X.K = T.K) (he : PE X e (up T B t)) (hl : PO X lo (upO T B l)) (hh : PO X hi (upO T B u)) : PE X (.Subscript e (.Slice lo hi none p2) pos) (up T B (dCut t l u)) := by
  refine PE.imp (pe_slice (sl_tupA.or sl_list) he hl hh) fun σ H Q q => ?_
  obtain ⟨n, τ, G, K, R, t, q⟩ := q
  refine ⟨n, τ, G, _, R, t, fun r n1 v H1 G1 R1 s1 k1 hA => ?_⟩
  obtain ⟨d, n2, G2, s2, R2, h2, hB⟩ := frz_ok R1 k1 hA
  refine ⟨n2, τ, G2, _, R2, hB, fun o n3 H3 G3 R3 s3 hC => ?_⟩
  refine ⟨n3, τ, G3, _, R3, hC, fun o' n4 H4 G4 R4 s4 hE => ?_⟩
  have hd : Hd T B.P G4 d v := h2.mono (s3.trans s4)
  rcases hE with ⟨xs, rfl, hF⟩ | ⟨xs, rfl, hF⟩
  · obtain ⟨a, vs, rfl, hq', hv⟩ := hd_tup hd
    have hq := hq' H4 R4.sub
    refine .inl ⟨a, vs, rfl, hK ▸ hq, fun w => ?_, fun w p hp => ?_⟩
    · have e : cutD xs o o' = xs := by
        unfold cutD
        rw [hv.length, w.1, w.2, ← hv.length]
        simp
      rw [e] at hF
      exact q (.val _) n4 _ H4 G4 R4 (s1.trans (s2.trans (s3.trans s4))) hd hF
    · have sb : Sub G4 (upd G4 p (.tup (cutV vs o o'))) := sub_upd (R4.fresh hp).g
      exact q (.val _) n4 _ _ _ (R4.laidF hp fun ps => nofun) ((s1.trans (s2.trans (s3.trans s4))).trans sb) (Hd.obj upd_same (.tup ((hv.cut o o').mono sb))) hF
  · obtain ⟨a, vs, rfl, hq, hv⟩ := hd_lst hd
    refine .inr ⟨a, vs, rfl, SqL.of (R4.sub _ _ hq), fun p hp => ?_⟩
    exact q (.tmp _) n4 _ _ G4 (R4.laid _ hp) (s1.trans (s2.trans (s3.trans s4))) ⟨p, _, rfl, ⟨R4.fresh hp, upd_same, trivial, .lst (hv.cut o o')⟩, R4.tmp_ne hp, R4.slot_ne hp⟩ hF
end

def fRgT1 : F1 := fun x e => ∃ n, x = .int n ∧ RgOk 0 n ∧ e = .newT (rgD 0 n)
def fRgL1 : F1 := fun x e => ∃ n, x = .int n ∧ RgOk 0 n ∧ e = .newL (rgD 0 n)
def fRgT2 : F2 := fun x y e => ∃ a b, x = .int a ∧ y = .int b ∧ RgOk a b ∧ e = .newT (rgD a b)
def fRgL2 : F2 := fun x y e => ∃ a b, x = .int a ∧ y = .int b ∧ RgOk a b ∧ e = .newL (rgD a b)
def fRevL : F1 := fun x e => (∃ l, x = .lst l ∧ e = .newL l.reverse) ∨ ∃ l, x = .tup l ∧ e = .newT l.reverse
def fBitl : F1 := fun x e => ∃ i, x = .int i ∧ e = .ret (.int (Builtin.Int.intBits i : Nat))
def fStr : F1 := fun x e => (∃ i : Int, x = .int i ∧ i.natAbs.log2 < 1920 ∧ e = .ret (.str (toString i))) ∨ ∃ s, x = .str s ∧ e = .ret (.str s)
theorem rgV_D {T : Tx} {P : Px} {G : Hp} {a b : Int} : Hl T P G (rgD a b) (rgV a b) := by
  unfold rgD rgV
  refine Hl.of_get (by simp) fun i d v h1 h2 => ?_
  rw [List.getElem?_map, Option.map_eq_some_iff] at h1 h2
  obtain ⟨j, e1, rfl⟩ := h1
  obtain ⟨k, e2, rfl⟩ := h2
  rw [e1] at e2; cases e2
  exact .int _
section
variable {X : Cx} {T : Tx} {B : Bs} {t u : TD}
theorem pe_rgT1 {x : Expr} {p p2 pos pos2 : Pos} (hc : X.calm = true) (hg : Gl X "tuple") (hm : X.mg "tuple" = none) (hg2 : Gl X "range") (hm2 : X.mg "range" = none) (hx : PE X x (up T B t)) (h1 : starEach [x] X.env = (false, eval x X.env) :: starEach [] X.env) :
    PE X (.Call (.Name "tuple" p) [.Call (.Name "range" p2) [x] [] pos2] [] pos) (up T B (dUn fRgT1 t)) := by
  refine PE.imp (pe_tupRg hc hg hm (prg_1 hg2 hm2 hx h1)) fun σ H Q q => ?_
  obtain ⟨n, τ, G, K, R, t, q⟩ := up_un q
  refine ⟨n, τ, G, K, R, t, fun r n1 v H1 G1 a b c d => ?_⟩
  obtain ⟨G2, dx, e, ⟨sb, sm⟩, hx, ⟨m, rfl, ok, rfl⟩, k⟩ := q r n1 v H1 G1 a b c d
  exact ⟨m, hx.int_, ok, fun p hp => k.1 p _ hp rgV_D⟩
theorem pe_rgL1 {x : Expr} {p p2 pos pos2 : Pos} (hc : X.calm = true) (hg : Gl X "list") (hm : X.mg "list" = none) (hg2 : Gl X "range") (hm2 : X.mg "range" = none) (hx : PE X x (up T B t)) (h1 : starEach [x] X.env = (false, eval x X.env) :: starEach [] X.env) :
    PE X (.Call (.Name "list" p) [.Call (.Name "range" p2) [x] [] pos2] [] pos) (up T B (dUn fRgL1 t)) := by
  refine PE.imp (pe_listRg hc hg hm (prg_1 hg2 hm2 hx h1)) fun σ H Q q => ?_
  obtain ⟨n, τ, G, K, R, t, q⟩ := up_un q
  refine ⟨n, τ, G, K, R, t, fun r n1 v H1 G1 a b c d => ?_⟩
  obtain ⟨G2, dx, e, ⟨sb, sm⟩, hx, ⟨m, rfl, ok, rfl⟩, k⟩ := q r n1 v H1 G1 a b c d
  exact ⟨m, hx.int_, ok, fun p hp => k p _ hp rgV_D⟩
theorem pe_rgT2 {x y : Expr} {p p2 pos pos2 : Pos} (hc : X.calm = true) (hg : Gl X "tuple") (hm : X.mg "tuple" = none) (hg2 : Gl X "range") (hm2 : X.mg "range" = none) (hx : PE X x (up T B t)) (hy : PE X y (up T B u))
    (h1 : starEach [x, y] X.env = (false, eval x X.env) :: starEach [y] X.env) (h2 : starEach [y] X.env = (false, eval y X.env) :: starEach [] X.env) : PE X (.Call (.Name "tuple" p) [.Call (.Name "range" p2) [x, y] [] pos2] [] pos) (up T B (dBin fRgT2 t u)) := by
  refine PE.imp (pe_tupRg hc hg hm (prg_2 hg2 hm2 hx hy h1 h2 (by rw [h2]; rfl))) fun σ H Q q => ?_
  obtain ⟨n, τ, G, K, R, t, q⟩ := up_bin q
  refine ⟨n, τ, G, K, R, t, fun r n1 v H1 G1 a b c d => ?_⟩
  obtain ⟨n2, τ2, G2, K2, R2, t2, q2⟩ := q r n1 v H1 G1 a b c d
  refine ⟨n2, τ2, G2, K2, R2, t2, fun r2 n3 v2 H3 G3 a2 b2 c2 d2 => ?_⟩
  obtain ⟨G4, dx, dy, e, sb, hx, hy, ⟨i, j, rfl, rfl, ok, rfl⟩, k⟩ := q2 r2 n3 v2 H3 G3 a2 b2 c2 d2
  exact ⟨i, j, hx.int_, hy.int_, ok, fun p hp => k.1 p _ hp rgV_D⟩
theorem pe_rgL2 {x y : Expr} {p p2 pos pos2 : Pos} (hc : X.calm = true) (hg : Gl X "list") (hm : X.mg "list" = none) (hg2 : Gl X "range") (hm2 : X.mg "range" = none) (hx : PE X x (up T B t)) (hy : PE X y (up T B u))
    (h1 : starEach [x, y] X.env = (false, eval x X.env) :: starEach [y] X.env) (h2 : starEach [y] X.env = (false, eval y X.env) :: starEach [] X.env) : PE X (.Call (.Name "list" p) [.Call (.Name "range" p2) [x, y] [] pos2] [] pos) (up T B (dBin fRgL2 t u)) := by
  refine PE.imp (pe_listRg hc hg hm (prg_2 hg2 hm2 hx hy h1 h2 (by rw [h2]; rfl))) fun σ H Q q => ?_
  obtain ⟨n, τ, G, K, R, t, q⟩ := up_bin q
  refine ⟨n, τ, G, K, R, t, fun r n1 v H1 G1 a b c d => ?_⟩
  obtain ⟨n2, τ2, G2, K2, R2, t2, q2⟩ := q r n1 v H1 G1 a b c d
  refine ⟨n2, τ2, G2, K2, R2, t2, fun r2 n3 v2 H3 G3 a2 b2 c2 d2 => ?_⟩
  obtain ⟨G4, dx, dy, e, sb, hx, hy, ⟨i, j, rfl, rfl, ok, rfl⟩, k⟩ := q2 r2 n3 v2 H3 G3 a2 b2 c2 d2
  exact ⟨i, j, hx.int_, hy.int_, ok, fun p hp => k p _ hp rgV_D⟩
theorem pe_revD {x : Expr} {k : Nat} {p1 p2 p3 pos : Pos} (hK : X.K = T.K) (hx : PE X x (up T B t)) : PE X (.Subscript x (.Slice none none (some (.UnaryOp .USub (.Constant (.int 1) k p1) p2)) p3) pos) (up T B (dUn fRevL t)) := by
  refine PE.imp (pe_revA hx) fun σ H Q q => ?_
  obtain ⟨n, τ, G, K, R, t, q⟩ := up_un q
  refine ⟨n, τ, G, K, R, t, fun r n1 v H1 G1 a b c d => ?_⟩
  obtain ⟨G2, dx, e, ⟨sb, sm⟩, hx, hf, k⟩ := q r n1 v H1 G1 a b c d
  rcases hf with ⟨l, rfl, rfl⟩ | ⟨l, rfl, rfl⟩
  · obtain ⟨a, vs, rfl, h1, h2⟩ := hx.lst sb
    exact ⟨a, vs, rfl, .inl ⟨SqL.of h1, fun p hp => k p _ hp h2.reverse⟩⟩
  · obtain ⟨a, vs, rfl, h1, h2⟩ := hx.tup sb
    exact ⟨a, vs, rfl, .inr ⟨hK ▸ h1, fun p hp => k.1 p _ hp h2.reverse⟩⟩
theorem pe_bitD {x : Expr} {apos pos : Pos} (hx : PE X x (up T B t)) (hb : attributeBase x "bit_length" X.env (eval x X.env) = eval x X.env) (hl : (apos.endLine == pos.line) = true) : PE X (.Call (.Attribute x "bit_length" apos) [] [] pos) (up T B (dUn fBitl t)) := by
  refine PE.imp (pe_bits hx hb hl) fun σ H Q q => ?_
  obtain ⟨n, τ, G, K, R, t, q⟩ := up_un q
  refine ⟨n, τ, G, K, R, t, fun r n1 v H1 G1 a b c d => ?_⟩
  obtain ⟨G2, dx, e, ⟨sb, sm⟩, hx, ⟨i, rfl, rfl⟩, k⟩ := q r n1 v H1 G1 a b c d
  exact ⟨i, hx.int_, k _ (.int _)⟩
theorem cd_str {P : Px} : CallR X (.type "str") (rC1 T P fStr) := by
  intro pins s σ H xs us Q I r q
  obtain ⟨x, rfl, G, dx, e, ⟨sb, sm⟩, hx, hF, k⟩ := q
  rcases hF with ⟨i, rfl, hz, rfl⟩ | ⟨z, rfl, rfl⟩
  · obtain rfl := hx.int_
    exact call_str_int pins s σ H _ us Q I r ⟨i, rfl, hz, k _ (.str _)⟩
  · obtain rfl := hx.str_
    exact SkE.call_str_str pins s σ H _ us Q I r ⟨z, rfl, k _ (.str _)⟩
end
end Sh
namespace Sh
open L2 PySem PySem.Spec PyProof.Rows

/-- a tuple of these ints -/
def Ti (h : Heap) (v : Value) (ns : List Int) : Prop := ∃ a o items n, v = .ref a ∧ h.get? a = some o ∧ o.cls = .type "tuple" ∧ o.data = .seq items n ∧ IntsAre items.toList ns
theorem Ti.keeps {h h' : Heap} {v : Value} {ns : List Int} (x : Ti h v ns) (k : ∀ b o, v = .ref b → h.get? b = some o → h'.get? b = some o) : Ti h' v ns := by
  obtain ⟨a, o, items, n, e, g, c⟩ := x
  exact ⟨a, o, items, n, e, k _ _ e g, c⟩
def fstV (h : Heap) (v : Value) : Option Value := match v with
  | .ref a => (match h.get? a with
    | some o => (match o.data with
      | .seq items _ => items[0]?
      | _ => none)
    | none => none)
  | _ => none
section
variable {prog : Program} {w : World} {A : Around} {M : Model} {E : Value → Shared → Prop} {s : Shared}
theorem mapM_fn {β : Type} {f : Value → Sem β} {g : Value → β} : ∀ (vs : List Value) {Q : List β → Shared → Prop}, (∀ v ∈ vs, ∀ Q' : β → Shared → Prop, Q' (g v) s → wpAny M A (f v) Q' E s) → Q (vs.map g) s → wpAny M A (vs.mapM f) Q E s
  | [], _, _, h => by rw [List.mapM_nil]; exact wpAny_pure h
  | v :: vs, Q, hf, h => by
    rw [List.mapM_cons]
    refine wpAny_bind (hf v List.mem_cons_self _ (wpAny_bind (mapM_fn vs (Q := fun bs s' => wpAny M A (pure (g v :: bs)) Q E s') (fun u hu => hf u (List.mem_cons_of_mem _ hu)) (wpAny_pure h))))
theorem ti_first {v : Value} {ns : List Int} (x : Ti s.heap v ns) {Q : Option Value → Shared → Prop} (h : Q (fstV s.heap v) s) : wpAny M A (firstOfTuple' v) Q E s := by
  obtain ⟨a, o, items, n, rfl, ho, hc, hd, hi⟩ := x
  have e : fstV s.heap (.ref a) = items[0]? := by simp [fstV, ho, hd]
  rw [e] at h
  rw [PySem.W.kas_first_eq]
  refine wpAny_bind (PySem.W.Looks.here (show PySem.W.Looks M s.heap (typeOf (.ref a)) o.cls from (PySem.W.Looks.ld ho).andThen .now) ?_)
  rw [hc, if_neg (by simp)]
  exact wpAny_bind (listItems_at ho hd (wpAny_pure h))
theorem ti_fst {v : Value} {ns : List Int} {h : Heap} (x : Ti h v ns) : (fstV h v).isSome = !ns.isEmpty := by
  obtain ⟨a, o, items, n, rfl, ho, hc, hd, hi⟩ := x
  have e : fstV h (.ref a) = items[0]? := by simp [fstV, ho, hd]
  have hl := hi.length
  rw [e]
  cases ns with
  | nil =>
    have : items.size = 0 := by simpa using hl
    simp [this]
  | cons x r =>
    have : 0 < items.size := by
      rw [Array.length_toList] at hl
      rw [hl]; simp
    simp [this]
theorem ti_type {v : Value} {ns : List Int} (x : Ti s.heap v ns) : PySem.W.Looks M s.heap (typeOf v) (.type "tuple") := by
  obtain ⟨a, o, items, n, rfl, ho, hc, hd, hi⟩ := x
  rw [← hc]
  exact (PySem.W.Looks.ld ho).andThen .now
/-- one of them is empty -/
theorem ti_kindE {vs : List Value} {k : Value → List Int} (h0 : 0 < vs.length) (hv : ∀ v ∈ vs, Ti s.heap v (k v)) {v0 : Value} (hm : v0 ∈ vs) (he : k v0 = []) : ∃ κ, (κ = general' ∨ κ = oneType') ∧ ∀ (Q : SortKind → Shared → Prop) (E : Value → Shared → Prop), Q κ s → wpAny M A (keyKind' vs.toArray) Q E s := by
  have hall : ((vs.map (fstV s.heap)).toArray.all fun x => x.isSome) = false := by
    rw [Bool.eq_false_iff]
    intro z
    simp only [List.all_toArray, List.all_map, List.all_eq_true] at z
    have z1 := z v0 hm
    have z2 := ti_fst (hv v0 hm)
    rw [he] at z2
    have z1 : (fstV s.heap v0).isSome = true := z1
    rw [z2] at z1
    cases z1
  cases hf : ((vs.map (fstV s.heap)).toArray[0]?.bind id).isSome with
  | true =>
    refine ⟨general', .inl rfl, fun Q E h => ?_⟩
    rw [kat_kind_eq, List.mapM_toArray, map_eq_pure_bind]
    refine wpAny_bind (wpAny_bind (mapM_fn vs (fun v hv' Q' hq => ti_first (hv v hv') hq) (wpAny_pure ?_)))
    rw [hall, if_neg (by simp), hf, if_pos rfl]
    exact wpAny_pure h
  | false =>
    refine ⟨oneType', .inr rfl, fun Q E h => ?_⟩
    rw [kat_kind_eq, List.mapM_toArray, map_eq_pure_bind]
    refine wpAny_bind (wpAny_bind (mapM_fn vs (fun v hv' Q' hq => ti_first (hv v hv') hq) (wpAny_pure ?_)))
    rw [hall, if_neg (by simp), hf, if_neg (by simp)]
    rw [oneTypeOnly'_eq, List.mapM_toArray, map_eq_pure_bind]
    refine wpAny_bind (wpAny_bind (wpAny_bind (mapM_fn (g := fun _ => Value.type "tuple") vs (fun v hv' Q' hq => (ti_type (hv v hv')).here hq) (wpAny_pure ?_))))
    obtain ⟨v1, r, rfl⟩ : ∃ v1 r, vs = v1 :: r := by
      cases vs with
      | nil => simp at h0
      | cons a r => exact ⟨a, r, rfl⟩
    have h1 : ((List.map (fun _ => Value.type "tuple") (v1 :: r)).toArray.all fun x => x == Value.type "tuple") = true := by
      simp only [List.all_toArray, List.all_map, List.all_eq_true]
      intro _ _
      exact beq_self_eq_true _
    have h2 : (List.map (fun _ => Value.type "tuple") (v1 :: r)).toArray[0]? = some (.type "tuple") := by simp
    rw [h2]
    simp only [h1, if_true]
    exact wpAny_pure (wpAny_pure h)
/-- the others -/
theorem ti_kindF {vs : List Value} {k : Value → List Int} (h0 : 0 < vs.length) (hv : ∀ v ∈ vs, Ti s.heap v (k v)) (he : ∀ v ∈ vs, k v ≠ []) (Q : SortKind → Shared → Prop) (E : Value → Shared → Prop) (h : Q (tuples' true) s) : wpAny M A (keyKind' vs.toArray) Q E s := by
  have key : ∀ vs : List Value, (∀ v ∈ vs, Ti s.heap v (k v) ∧ k v ≠ []) → ∃ fs, PySem.W.KatTups s.heap vs fs ∧ fs.length = vs.length ∧ ∀ f ∈ fs, ∃ x t, f = Value.int x t := by
    intro vs
    induction vs with
    | nil => exact fun _ => ⟨[], .nil, rfl, fun f hf => by cases hf⟩
    | cons v r ih =>
      intro hv
      obtain ⟨fs, f1, f2, f3⟩ := ih fun u hu => hv u (List.mem_cons_of_mem _ hu)
      obtain ⟨⟨a, o, items, n, rfl, ho, hc, hd, hi⟩, hne⟩ := hv v List.mem_cons_self
      obtain ⟨x, t, hf⟩ : ∃ x t, items[0]? = some (Value.int x t) := by
        rw [← Array.getElem?_toList]
        generalize items.toList = l at hi
        generalize k (Value.ref a) = ns at hi hne
        cases hi with
        | nil => exact absurd rfl hne
        | cons x t _ => exact ⟨x, t, rfl⟩
      exact ⟨.int x t :: fs, .cons ho hc hd hf f1, by simp [f2], fun f hf => by
        rcases List.mem_cons.mp hf with rfl | hf
        · exact ⟨x, t, rfl⟩
        · exact f3 f hf⟩
  obtain ⟨fs, f1, f2, f3⟩ := key vs fun v hm => ⟨hv v hm, he v hm⟩
  refine PySem.W.kat_kind (T := .type "int") f1 (by omega) (fun f hm => ?_) (by rfl) ?_
  · obtain ⟨x, t, rfl⟩ := f3 f hm
    exact PySem.W.Looks.now
  · have e : (Value.type "int" != Value.type "tuple") = true := by decide +kernel
    rw [e]
    exact h
theorem lex_mix {b fin : Bool} {Q : Bool → Shared → Prop} : ∀ {xs ys : List Value} {ns ms : List Int} (i : Nat), IntsAre xs ns → IntsAre ys ms → fin = decide (ns.length < ms.length) → Q (HT.lexLt ns ms) s → PySem.W.KatLex prog w A b fin Q (xs.zip ys) i s := by
  intro xs ys ns ms i hx
  induction hx generalizing ys ms i with
  | nil =>
    intro hy hf h
    cases hy with
    | nil =>
      rw [HT.lexLt_nil_nil] at h
      subst hf
      exact PySem.W.kat_nil h
    | cons q u hy =>
      rw [HT.lexLt_nil_cons] at h
      have hf : fin = true := by rw [hf]; simp
      subst hf
      exact PySem.W.kat_nil h
  | @cons p t xs ns hx ih =>
    intro hy hf h
    cases hy with
    | nil =>
      rw [HT.lexLt_cons_nil] at h
      have hf : fin = false := by rw [hf]; simp
      subst hf
      exact PySem.W.kat_nil h
    | @cons q u ys ms hy =>
      show PySem.W.KatLex prog w A b fin Q ((Value.int p t, Value.int q u) :: xs.zip ys) i s
      rw [HT.lexLt_cons] at h
      refine PySem.W.kat_cons (wpAny_eqBool_int ?_)
      by_cases e : p = q
      · subst e
        rw [if_pos rfl] at h
        rw [beq_self_eq_true]
        exact PySem.W.kat_yes (ih (i + 1) hy (by simpa using hf) h)
      · rw [if_neg e] at h
        rw [show (p == q) = false from beq_eq_false_iff_ne.mpr e]
        exact PySem.W.kat_no (TS.oneLt_ints _ h)
theorem ti_call {a b : Addr} {o o2 : Obj} {items items2 : Array Value} {n n2 : Nat} {ns ms : List Int} {Q : Value → Shared → Prop} (ga : s.heap.get? a = some o) (ca : o.cls = .type "tuple") (da : o.data = .seq items n) (gb : s.heap.get? b = some o2) (cb : o2.cls = .type "tuple") (db : o2.data = .seq items2 n2)
    (ia : IntsAre items.toList ns) (ib : IntsAre items2.toList ms) (h : Q (.bool (HT.lexLt ns ms)) s) : wpAny (model prog w) A (call (.builtin "tuple.__lt__") [.ref a, .ref b]) Q E s := by
  have iv : PySem.W.Looks (model prog w) s.heap (isInstance (.ref a) (.type "tuple")) true := (show PySem.W.Looks _ _ (typeOf (.ref a)) (.type "tuple") from ca ▸ (PySem.W.Looks.ld ga).andThen .now).andThen PySem.W.Looks.now
  obtain ⟨c1, d1, t1, s1⟩ := o
  obtain ⟨c2, d2, t2, s2⟩ := o2
  dsimp only at ca da cb db
  subst ca da cb db
  refine wpAny_call (codeAny_call_builtin PySem.F.slot_tuple_lt.plain PySem.F.entry_tuple_lt (@PySem.W.check_slot (model prog w) _ _ _ "tuple.__lt__" "tuple" "__lt__" (.ref a) [.ref b] [] _ (by decide +kernel) (by decide +kernel) iv (PySem.F.args_tuple_lt_2 _ _) ?_))
  refine wpAny_mono (HT.tuple_lt_ints a b items items2 n n2 d1 d2 s1 s2 ns ms ia ib prog w _ (wants Q E) s ⟨ga, gb, h⟩) (fun fin s' q => ?_) fun _ _ z => z
  cases fin with
  | done f => exact q
  | again c => exact q
theorem ti_cmp {κ : SortKind} {vs : List Value} {k : Value → List Int} (hu : A.units < cLine) (hκ : κ = tuples' true ∨ κ = general' ∨ κ = oneType') (hv : ∀ v ∈ vs, Ti s.heap v (k v)) : SrtO.Cmp prog w A s κ (fun p => p.1 ∈ vs) (SrtO.lt2 fun v u => HT.lexLt (k v) (k u)) := by
  rintro ⟨p1, p2⟩ ⟨q1, q2⟩ hp hq
  show wpAny (model prog w) A (keyLt' κ p1 q1) (fun r s' => s' = s ∧ r = HT.lexLt (k p1) (k q1)) (fun _ _ => False) s
  obtain ⟨a, o, items, n, ea, ga, ca, da, ia⟩ := hv p1 hp
  obtain ⟨b, o2, items2, n2, eb, gb, cb, db, ib⟩ := hv q1 hq
  subst ea eb
  rcases hκ with rfl | rfl | rfl
  · refine PySem.W.kat_lt ga da gb db (lex_mix 0 ia ib ?_ ⟨rfl, rfl⟩)
    have l1 := ia.length
    have l2 := ib.length
    rw [Array.length_toList] at l1 l2
    rw [l1, l2]
  · show wpAny (model prog w) A (oneLt' false (.ref a) (.ref b)) _ _ _
    refine PySem.W.kat_one _ _ (HT.lt_tupInts ⟨o, ga, ca, n, da⟩ ⟨o2, gb, cb, n2, db⟩ ia ib hu ?_)
    exact ⟨rfl, rfl⟩
  · rw [keyLt'_oneType, oneLt'_eq]
    simp only [if_true]
    refine wpAny_bind (wpAny_cRoomFor hu ?_)
    refine wpAny_bind (wpAny_callSpecialIfBound?_slot (T := "tuple") ⟨o, ga, ca⟩ PySem.F.slot_tuple_lt (ti_call ga ca da gb cb db ia ib ?_))
    exact wpAny_truthy_bool ⟨rfl, rfl⟩
theorem ti_sortable {a : Addr} {vs : List Value} {k : Value → List Int} (h2 : 2 ≤ vs.length) (hu : A.units < cLine) (hv : ∀ v ∈ vs, Ti s.heap v (k v)) (ha : ∀ v ∈ vs, v ≠ .ref a) : SrtO.SortableO prog w A s a vs fun v u => HT.lexLt (k v) (k u) := by
  intro h' keep
  have hv' : ∀ v ∈ vs, Ti h' v (k v) := fun v hm => (hv v hm).keeps fun b o e g => keep b o (fun z => ha v hm (by rw [e, z])) g
  by_cases he : ∃ v0 ∈ vs, k v0 = []
  · obtain ⟨v0, hm, h0⟩ := he
    obtain ⟨κ, hκ, hk⟩ := ti_kindE (M := model prog w) (A := A) (s := { s with heap := h' }) (by omega) hv' hm h0
    exact ⟨κ, hk, ti_cmp (s := { s with heap := h' }) hu (.inr hκ) hv'⟩
  · exact ⟨tuples' true, ti_kindF (s := { s with heap := h' }) (by omega) hv' fun v hm z => he ⟨v, hm, z⟩, ti_cmp (s := { s with heap := h' }) hu (.inl rfl) hv'⟩
end
section
variable {prog : Program} {w : World} {A : Around} {E : Value → Shared → Prop} {s : Shared}
theorem collect_tup {l : Addr} {vs : List Value} {Q : List Value → Shared → Prop} (hl : s.heap.IsTuple l vs.toArray) (h : Q vs { s with heap := (s.heap.push (seqObj "list" #[] 0)).update s.heap.objs.size (Obj.mapSeq (· ++ vs.toArray)) }) (hz : vs.length ≤ sizeLine) : wpAny (model prog w) A (collect (.ref l)) Q E s := by
  obtain ⟨o, ho, hc, n, hd⟩ := id hl
  have up : ∀ u : Obj, (s.heap.push u).get? l = some o := fun u => Heap.get?_push_of_some _ ho
  have new : (s.heap.push (seqObj "list" #[] 0)).get? s.heap.objs.size = some (seqObj "list" #[] 0) := Heap.get?_push_size _ rfl
  unfold collect
  refine wpAny_bind (wpAny_runValue (codeAny_builtin entry_proto_collect' ?_))
  show wpAny _ _ (newList [] >>= fun z => again (.builtin "list.__iadd__" ⟨[z, .ref l], []⟩)) _ _ s
  refine wpAny_bind (wpAny_newList (wpAny_pure ⟨Code.quiet_builtin _ (by decide +kernel), codeAny_builtin entry_list_iadd' ?_⟩))
  show wpAny _ _ (Builtin.List.listExtendWith (.ref s.heap.objs.size) (.ref l) (.ref s.heap.objs.size)) _ _ _
  unfold Builtin.List.listExtendWith
  refine wpAny_bind (wpAny_typeOf (T := "tuple") ⟨o, up _, hc⟩ ?_)
  rw [if_pos (by simp)]
  refine wpAny_bind (listItems_at (up _) hd (wpAny_bind (listItems_at (xs := #[]) (n := 0) new rfl ?_)))
  rw [if_neg (by simp)]
  refine wpAny_bind (listUpdate_at (xs := #[]) (n := 0) new rfl ?_ (Nat.zero_le _) (by show (#[] ++ vs.toArray).size ≤ sizeLine + 1; rw [Array.size_append]; simp; omega))
  refine wpAny_pure ?_
  refine wpAny_bind (wpAny_load (get?_update_seq new _) ?_)
  show wpAny _ _ (pure ((#[] : Array Value) ++ vs.toArray).toList) Q E _
  simp only [Array.empty_append, List.toList_toArray]
  exact wpAny_pure h
theorem sorted_any {l : Addr} {vs : List Value} {ltv : Value → Value → Bool} {Q : Value → Shared → Prop} (O : SrtO.Swo ltv) (hl : s.heap.IsList l vs.toArray ∨ s.heap.IsTuple l vs.toArray) (hz : vs.length ≤ sizeLine)
    (hS : 2 ≤ vs.length → ∀ (h1 : Heap) (a : Addr), h1.get? a = some (seqObj "list" vs.toArray 0) → (∀ b o, s.heap.get? b = some o → b ≠ a ∧ h1.get? b = some o) → SrtO.SortableO prog w A.in1.in1 { s with heap := h1 } a vs ltv)
    (h : ∀ out : List Value, SrtO.Srtd ltv out → SrtO.Stb ltv out vs → Q (.ref (s.heap.objs.size + 1)) { s with heap := sortedAll s.heap vs out.toArray }) : wpAny (model prog w) A (call (.builtin "sorted") [.ref l]) Q E s := by
  rcases hl with hl | hl
  · exact SrtO.sorted_ord O hl hz hS h
  refine Calls.call_function_entry kind_sorted plain_sorted entry_sorted (args_sorted1 _) ?_
  unfold Builtin.«sorted»
  refine wpAny_bind (m := checkCount "sorted" 1 1 _) (wpAny_pure (wpAny_bind (collect_tup hl (wpAny_bind (wpAny_newList ?_ hz)) hz)))
  generalize e1 : (s.heap.push (seqObj "list" #[] 0)).update s.heap.objs.size (Obj.mapSeq (· ++ vs.toArray)) = h1
  have z1 : h1.objs.size = s.heap.objs.size + 1 := by
    rw [← e1, Heap.size_update, size_push']
  have at1 : (h1.push (seqObj "list" vs.toArray 0)).get? h1.objs.size = some (seqObj "list" vs.toArray 0) := Heap.get?_push_size _ rfl
  have keep : ∀ b o, s.heap.get? b = some o → b ≠ h1.objs.size ∧ (h1.push (seqObj "list" vs.toArray 0)).get? b = some o := fun b o q => by
    have lt := Heap.lt_size q
    refine ⟨by rw [z1]; exact Nat.ne_of_lt (Nat.lt_succ_of_lt lt), Heap.get?_push_of_some _ ?_⟩
    rw [← e1, Heap.get?_update_ne _ _ _ _ (Nat.ne_of_lt lt)]
    exact Heap.get?_push_of_some _ q
  refine wpAny_bind (wpAny_holding (wpAny_call_entry slot_list_sort ⟨_, at1, rfl⟩ entry_list_sort (SrtO.list_sort_ord (s := { s with heap := h1.push (seqObj "list" vs.toArray 0) }) O at1 hz (fun h2 => hS h2 _ _ at1 keep) fun out a1 a2 => ⟨_, rfl, ?_⟩) (args_list_sort _)))
  have q := h out a1 a2
  unfold sortedAll at q
  rw [e1, ← z1] at q
  exact wpAny_pure ⟨_, rfl, q⟩
end
section
variable {X : Cx}
theorem Inv.seqs {pins : List (Addr × Obj)} {σ : L2.St} {H : Hp} {s : Shared} (I : Inv X pins σ H s) {a : Addr} {xs : List V} (h : SqL X.K H a xs ∨ SqT X.K H a xs) : ∃ its, Vals xs its ∧ (s.heap.IsList a its.toArray ∨ s.heap.IsTuple a its.toArray) ∧ xs.length ≤ sizeLine := by
  rcases h with h | h
  · obtain ⟨its, rv, hl, hz⟩ := I.list h
    exact ⟨its, rv, .inl hl.isList, hz⟩
  · obtain ⟨its, rv, hl, hz⟩ := I.tuple h
    exact ⟨its, rv, .inr hl, hz⟩
def rSortIA (K : PySem.W.Frag) : List V → Hp → VK → Prop := fun vs H Q => ∃ (a : Addr) (ns : List Int), vs = [V.ref a] ∧ (SqL K H a (ns.map V.int) ∨ SqT K H a (ns.map V.int)) ∧ ∀ (ns' : List Int) (p : Addr), ns'.Perm ns → ns'.Pairwise (· ≤ ·) → H p = none → Q (.ref p) (upd H p (.lst (ns'.map V.int)))
theorem cr_sortIA : CallR X (.builtin "sorted") (rSortIA X.K) := by
  intro pins s σ H vs us Q I r h
  obtain ⟨a, ns, rfl, hs, q⟩ := h
  obtain ⟨its, rv, hl, hz⟩ := Inv.seqs I hs
  obtain ⟨u, rfl, ru⟩ := vals1 r
  obtain rfl : u = Value.ref a := ru
  have hi := rv.ints
  refine sorted_any SrtO.swo_int hl (by rw [← rv.length]; exact hz) (fun h2 _ _ _ _ => SrtO.ints_sortable hi h2) fun out h1 h2 => ?_
  obtain ⟨k1, k2, k3⟩ := SrtO.ints_out hi h1 h2
  obtain ⟨n, hn⟩ := sortedAll_at s.heap its out.toArray
  have hlen : ((out.map SrtO.iv).map V.int).length ≤ sizeLine := by
    rw [List.length_map] at hz
    rw [List.length_map, k2.length_eq]
    exact hz
  have hge : s.heap.objs.size ≤ s.heap.objs.size + 1 := Nat.le_succ _
  exact ⟨.ref _, upd H (s.heap.objs.size + 1) (.lst ((out.map SrtO.iv).map V.int)), I.laid (t' := s.toks) (fun _ _ => sortedAll_old) hge ⟨hlen, out, n, vals_of_ints k1, hn⟩, rfl, q _ _ k2 k3 (I.hok.fresh hge)⟩
def rSortL (K : PySem.W.Frag) : List V → Hp → VK → Prop := fun vs H Q => ∃ (a : Addr) (xs : List V) (k : V → List Int), vs = [V.ref a] ∧ (SqL K H a xs ∨ SqT K H a xs) ∧ (∀ x ∈ xs, ∃ t, x = V.ref t ∧ SqT K H t ((k x).map V.int)) ∧
  ∀ ys p, SrtO.Srtd (fun x y => HT.lexLt (k x) (k y)) ys → ys.Perm xs → H p = none → Q (.ref p) (upd H p (.lst ys))
theorem cr_sortL (hu : X.A.units + 64 < cLine) : CallR X (.builtin "sorted") (rSortL X.K) := by
  intro pins s σ H vs us Q I r h
  obtain ⟨a, xs, k, rfl, hs, hx, q⟩ := h
  obtain ⟨its, rv, hl, hz⟩ := Inv.seqs I hs
  obtain ⟨u, rfl, ru⟩ := vals1 r
  obtain rfl : u = Value.ref a := ru
  obtain ⟨e1, e2⟩ := refs_back rv fun x m => by
    obtain ⟨t, e, _⟩ := hx x m
    exact ⟨t, e⟩
  have hti : ∀ v ∈ its, Ti s.heap v (k (backV v)) := fun v hv => by
    obtain ⟨t, rfl⟩ := e2 v hv
    have hm : V.ref t ∈ xs := by rw [e1]; exact List.mem_map.mpr ⟨_, hv, rfl⟩
    obtain ⟨t', e, ht⟩ := hx _ hm
    cases e
    obtain ⟨its2, r2, ⟨o, ho, hc, n, hd⟩, _⟩ := I.tuple ht
    exact ⟨t, o, its2.toArray, n, rfl, ho, hc, hd, by show IntsAre its2.toArray.toList (k (V.ref t)); simpa using (Vals.ints r2)⟩
  refine sorted_any (NtL.swo_lexL fun u => k (backV u)) hl (by rw [← rv.length]; exact hz) (fun h2 h₁ d hd kp => ?_) fun out h1 h2 => ?_
  · refine ti_sortable (s := { s with heap := h₁ }) h2 (by show X.A.units + 1 + 1 < cLine; omega) (fun v hv => (hti v hv).keeps fun b o _ g => (kp b o g).2) fun v hv z => ?_
    obtain ⟨b, o, _, _, e, g, _⟩ := hti v hv
    rw [z] at e
    cases e
    exact (kp _ o g).1 rfl
  · have h3 : ∀ u ∈ out, ∃ a, u = Value.ref a := fun u hu => e2 u (h2.perm.mem_iff.mp hu)
    obtain ⟨n, hn⟩ := sortedAll_at s.heap its out.toArray
    have hb : (out.map backV).Perm xs := by
      rw [e1]
      exact h2.perm.map backV
    have hge : s.heap.objs.size ≤ s.heap.objs.size + 1 := Nat.le_succ _
    refine ⟨.ref _, upd H (s.heap.objs.size + 1) (.lst (out.map backV)), I.laid (t' := s.toks) (fun _ _ => sortedAll_old) hge ⟨?_, out, n, vals_back h3, hn⟩, rfl, q _ _ (SrtO.srtd_map h1) hb (I.hok.fresh hge)⟩
    rw [hb.length_eq]
    exact hz
end
end Sh
namespace Sh
open L2 PySem PySem.Spec PyProof.Rows

def tupI (ns : List Int) : D := .tup (ns.map .int)
theorem srt_uniq {α : Type} {r : α → α → Prop} (anti : ∀ a b, r a b → r b a → a = b) : ∀ {l m : List α}, l.Perm m → l.Pairwise r → m.Pairwise r → l = m
  | [], m, p, _, _ => (List.Perm.nil_eq p)
  | a :: l, [], p, _, _ => absurd p.length_eq (by simp)
  | a :: l, b :: m, p, h1, h2 => by
    have ha : a ∈ b :: m := p.mem_iff.mp List.mem_cons_self
    have hb : b ∈ a :: l := p.mem_iff.mpr List.mem_cons_self
    rw [List.pairwise_cons] at h1 h2
    have e : a = b := by
      rcases List.mem_cons.mp ha with e | ha
      · exact e
      · rcases List.mem_cons.mp hb with e | hb
        · exact e.symm
        · exact anti a b (h1.1 b hb) (h2.1 a ha)
    subst e
    rw [srt_uniq anti (List.perm_cons a |>.mp p) h1.2 h2.2]
theorem lex_anti : ∀ a b : List Int, HT.lexLt b a = false → HT.lexLt a b = false → a = b
  | [], [], _, _ => rfl
  | [], b :: bs, _, h => by rw [HT.lexLt_nil_cons] at h; cases h
  | a :: as, [], h, _ => by rw [HT.lexLt_nil_cons] at h; cases h
  | a :: as, b :: bs, h, k => by
    rw [HT.lexLt_cons] at h k
    by_cases e : a = b
    · subst e
      rw [if_pos rfl] at h k
      rw [lex_anti as bs h k]
    · rw [if_neg (Ne.symm e)] at h
      rw [if_neg e] at k
      have := of_decide_eq_false h
      have := of_decide_eq_false k
      omega
def fSorted : F1 := fun x e => (∃ l out : List Int, (x = .lst (l.map .int) ∨ x = .tup (l.map .int)) ∧ out.Perm l ∧ out.Pairwise (· ≤ ·) ∧ e = .newL (out.map .int)) ∨
  ∃ ls out : List (List Int), (x = .lst (ls.map tupI) ∨ x = .tup (ls.map tupI)) ∧ out.Perm ls ∧ out.Pairwise (fun a b => HT.lexLt b a = false) ∧ e = .newL (out.map tupI)
section
variable {X : Cx} {T : Tx} {P : Px} {G H : Hp}
abbrev Ks : Type := List (Addr × List Int)
def refK (p : Addr × List Int) : V := .ref p.1
theorem Hl.tups (s : Sub G H) : ∀ {ls : List (List Int)} {vs : List V}, Hl T P G (ls.map tupI) vs → ∃ ks : Ks, vs = ks.map refK ∧ ks.map (·.2) = ls ∧ ∀ p ∈ ks, SqT T.K H p.1 (p.2.map V.int) ∧ Hd T P G (tupI p.2) (.ref p.1)
  | [], vs, h => by
    cases h
    exact ⟨[], rfl, rfl, fun p hp => by cases hp⟩
  | ns :: ls, _, h => by
    rw [List.map_cons] at h
    cases h with
    | @cons _ v _ vs hd tl =>
      obtain ⟨ks, e1, e2, e3⟩ := Hl.tups s tl
      obtain ⟨t, us, e4, h4, h5⟩ := Av.tup s (.inl hd)
      subst e4
      obtain rfl := h5.ints
      exact ⟨(t, ns) :: ks, by rw [e1]; rfl, by rw [List.map_cons, e2], fun p hp => by
        rcases List.mem_cons.mp hp with rfl | hp
        · exact ⟨h4, hd⟩
        · exact e3 p hp⟩
theorem Hl.ofK : ∀ {ks : Ks}, (∀ p ∈ ks, Hd T P G (tupI p.2) (.ref p.1)) → Hl T P G ((ks.map (·.2)).map tupI) (ks.map refK)
  | [], _ => .nil
  | p :: ks, h => .cons (h p List.mem_cons_self) (Hl.ofK fun q hq => h q (List.mem_cons_of_mem _ hq))
theorem sq_one {pins : List (Addr × Obj)} {σ : L2.St} {s : Shared} (I : Inv X pins σ H s) {t : Addr} {ns ms : List Int} (h : SqT X.K H t (ns.map V.int)) (k : SqT X.K H t (ms.map V.int)) : ns = ms := by
  have a := tupI_raw I h
  have b := tupI_raw I k
  exact a.ints.symm.trans b.ints
def kOf (ks : Ks) : V → List Int
  | .ref t => (ks.lookup t).getD []
  | _ => []
theorem mem_lkA {β : Type} {b : Addr} {o : β} : ∀ {l : List (Addr × β)}, l.lookup b = some o → (b, o) ∈ l
  | [], h => by cases h
  | (c, u) :: l, h => by
    rw [List.lookup_cons] at h
    by_cases e : b = c
    · subst e
      rw [beq_self_eq_true] at h
      cases h
      exact List.mem_cons_self
    · rw [beq_eq_false_iff_ne.mpr e] at h
      exact List.mem_cons_of_mem _ (mem_lkA h)
theorem kOf_eq {ks : Ks} (one : ∀ p ∈ ks, ∀ q ∈ ks, p.1 = q.1 → p.2 = q.2) {p : Addr × List Int} (hp : p ∈ ks) : kOf ks (refK p) = p.2 := by
  show (ks.lookup p.1).getD [] = p.2
  cases q : ks.lookup p.1 with
  | none =>
    have : ∀ l : Ks, p ∈ l → l.lookup p.1 ≠ none := by
      intro l
      induction l with
      | nil => intro h; cases h
      | cons a l ih =>
        intro h
        obtain ⟨a1, a2⟩ := a
        rw [List.lookup_cons]
        cases e : p.1 == a1 with
        | true => simp
        | false =>
          rcases List.mem_cons.mp h with z | z
          · rw [z] at e; simp at e
          · exact ih z
    exact absurd q (this ks hp)
  | some ns => exact one (p.1, ns) (mem_lkA q) p hp rfl
theorem cd_sorted (hK : X.K = T.K) (hu : X.A.units + 64 < cLine) : CallR X (.builtin "sorted") (rC1 T P fSorted) := by
  intro pins s σ H xs us Q I r q
  obtain ⟨x, rfl, G, dx, e, ⟨sb, sm⟩, hx, hf, k⟩ := q
  have seqA : ∀ {ds : List D}, (dx = .lst ds ∨ dx = .tup ds) → ∃ a vs, x = .ref a ∧ (SqL X.K H a vs ∨ SqT X.K H a vs) ∧ Hl T P G ds vs := fun {ds} z => by
    rcases z with rfl | rfl
    · obtain ⟨a, vs, rfl, h1, h2⟩ := hx.lst sb
      exact ⟨a, vs, rfl, .inl (SqL.of h1), h2⟩
    · obtain ⟨a, vs, rfl, h1, h2⟩ := hx.tup sb
      exact ⟨a, vs, rfl, .inr (hK ▸ h1), h2⟩
  rcases hf with ⟨l, out, ex, hp, ho, rfl⟩ | ⟨ls, out, ex, hp, ho, rfl⟩
  · obtain ⟨a, vs, rfl, h1, h2⟩ := seqA ex
    obtain rfl := h2.ints
    refine cr_sortIA pins s σ H _ us Q I r ⟨a, l, rfl, h1, fun ns' p p1 p2 hn => ?_⟩
    obtain rfl := srt_uniq (fun a b h k => Int.le_antisymm h k) (p1.trans hp.symm) p2 ho
    refine k p _ hn ?_
    have : ∀ l : List Int, Hl T P G (l.map .int) (l.map V.int) := fun l => by
      induction l with
      | nil => exact .nil
      | cons a l ih => exact .cons (.int a) ih
    exact this _
  · obtain ⟨a, vs, rfl, h1, h2⟩ := seqA ex
    obtain ⟨ks, rfl, rfl, h3⟩ := Hl.tups sb h2
    have one : ∀ p ∈ ks, ∀ q ∈ ks, p.1 = q.1 → p.2 = q.2 := fun p hp q hq z => by
      have a1 := (h3 p hp).1
      have a2 := (h3 q hq).1
      rw [z] at a1
      exact sq_one I (hK ▸ a1) (hK ▸ a2)
    refine cr_sortL hu pins s σ H _ us Q I r ⟨a, ks.map refK, kOf ks, rfl, h1, fun x hx => ?_, fun ys p s1 s2 hn => ?_⟩
    · obtain ⟨p, hp', rfl⟩ := List.mem_map.mp hx
      exact ⟨p.1, rfl, by rw [kOf_eq one hp']; exact hK ▸ (h3 p hp').1⟩
    · -- the rows behind the sorting
      have hys : ∀ ys : List V, (∀ y ∈ ys, y ∈ ks.map refK) → ∃ ks' : Ks, ys = ks'.map refK ∧ ∀ p ∈ ks', p ∈ ks := by
        intro ys
        induction ys with
        | nil => exact fun _ => ⟨[], rfl, fun p hp => by cases hp⟩
        | cons y ys ih =>
          intro h
          obtain ⟨p0, hp0, rfl⟩ := List.mem_map.mp (h y List.mem_cons_self)
          obtain ⟨k1, e1, e2⟩ := ih fun z hz => h z (List.mem_cons_of_mem _ hz)
          exact ⟨p0 :: k1, by rw [e1]; rfl, fun p hp => by
            rcases List.mem_cons.mp hp with rfl | hp
            · exact hp0
            · exact e2 p hp⟩
      obtain ⟨ks', rfl, hs'⟩ := hys ys fun y hy => s2.mem_iff.mp hy
      have kk : ∀ l : Ks, (∀ p ∈ l, p ∈ ks) → (l.map refK).map (kOf ks) = l.map (·.2) := fun l hl => by
        rw [List.map_map]
        exact List.map_congr_left fun p hp => kOf_eq one (hl p hp)
      have p1 : (ks'.map (·.2)).Perm (ks.map (·.2)) := by
        have z := s2.map (kOf ks)
        rw [kk ks' hs', kk ks fun _ h => h] at z
        exact z
      have p2 : (ks'.map (·.2)).Pairwise (fun a b => HT.lexLt b a = false) := by
        have z := SrtO.srtd_map (lt := HT.lexLt) (f := kOf ks) s1
        rw [kk ks' hs'] at z
        exact z
      obtain rfl := srt_uniq (r := fun a b => HT.lexLt b a = false) (fun a b h k => lex_anti a b h k) (hp.trans p1.symm) ho p2
      exact k p _ hn (Hl.ofK fun p hp => (h3 p (hs' p hp)).2)
end
end Sh
set_option maxHeartbeats  3200000
namespace Sh
open L2 PySem PySem.Spec PyProof.Rows

/-- few unlike rows -/
def FewK (ks : Ks) : Prop := ∀ L : Ks, (∀ p ∈ L, p ∈ ks) → (L.map (·.2)).Nodup → L.length + 1 < 64
section
variable {prog : Program} {w : World} {A : Around} {E : Value → Shared → Prop} {s : Shared}
/-- the adding, one by one -/
theorem loopT {I S : Addr} {fp wr : List Addr} {G : Array GenState → Array GenState → Prop} {n : Nat} {Pv : Nat → Value → Prop} {St : Nat → Shared → Prop} {R : Result → Shared → Prop} {ks : Ks} {h0 : Heap} (W : WalksS prog w A.in1 I fp wr G n Pv St)
    (nS : S ∉ fp) (en : n = ks.length) (few : FewK ks) (val : ∀ i v, Pv i v → ∃ p, ks[i]? = some p ∧ v = .ref p.1) (isk : ∀ p ∈ ks, IsT prog w h0 p.2 p.1) (noS : h0.get? S = none) (nowr : ∀ b ∈ wr, h0.get? b = none) (room : A.in1.units < cLine)
    (m : Nat) : ∀ (i : Nat) (s : Shared) (L : Ks) es ep t, n - i = m → i ≤ n → St i s → (∀ b o, h0.get? b = some o → s.heap.get? b = some o) → SetTR prog w s.heap S L es ep t → Got ks i L →
      (∀ s' L es ep t, Moved (S :: wr) G s s' → SetTR prog w s'.heap S L es ep t → Got ks n L → (∀ b o, h0.get? b = some o → s'.heap.get? b = some o) → R (.ok (.ret .none)) s') → codeAny (model prog w) A (.builtin "set.update.loop" ⟨[.ref S, .ref I], []⟩) R s := by
  have outS : S ∉ wr := fun z => nS (W.sub _ z)
  have up1 : ∀ b ∈ wr, b ∈ S :: wr := fun _ z => List.mem_cons_of_mem _ z
  have still : ∀ {x y : Shared}, Moved wr G x y → (∀ b o, h0.get? b = some o → x.heap.get? b = some o) → ∀ b o, h0.get? b = some o → y.heap.get? b = some o := by
    intro x y mv kp b o e
    refine mv.heap b o (fun z => ?_) (kp b o e)
    rw [nowr b z] at e
    cases e
  induction m with
  | zero =>
    intro i s L es ep t em le st kp TR g q
    obtain rfl : i = n := by omega
    refine codeAny_builtin F.entry_set_update_loop ?_
    rw [Around.under_plainId F.plain_set_update_loop _]
    show wpAny _ A.in1 (pyNext (.ref I) >>= _) _ _ _
    refine wpAny_bind (W.done s _ _ st fun y mv => ?_)
    have kp1 := still mv kp
    refine wpAny_pure (q y L es ep t (mv.mono up1) (TR.keep (fun o e => mv.heap S o outS e) fun p hp => ?_) g kp1)
    exact isT_keep (isk p (List.mem_of_mem_take (g.sub p hp))) kp1
  | succ m ih =>
    intro i s L es ep t em le st kp TR g q
    refine codeAny_builtin F.entry_set_update_loop ?_
    rw [Around.under_plainId F.plain_set_update_loop _]
    show wpAny _ A.in1 (pyNext (.ref I) >>= _) _ _ _
    refine wpAny_bind (W.item i s _ _ (by omega) st fun u y hu hst mv => ?_)
    obtain ⟨p, hp, rfl⟩ := val i u hu
    have kp1 := still mv kp
    have inks : ∀ q ∈ L, q ∈ ks := fun q hq => List.mem_of_mem_take (g.sub q hq)
    have TR1 : SetTR prog w y.heap S L es ep t := TR.keep (fun o e => mv.heap S o outS e) fun r hr => isT_keep (isk r (inks r hr)) kp1
    have one : IsT prog w y.heap p.2 p.1 := isT_keep (isk p (List.mem_of_getElem? hp)) kp1
    show wpAny _ A.in1 (holding [Value.ref p.1] (setAdd S (.ref p.1)) >>= _) _ _ y
    refine wpAny_bind (wpAny_holding (wpAny_holding (wpAny_bind (wpAny_pyHash_tuple room one ?_))))
    refine add_at (s := { y with toks := y.toks + (p.2.length + 1) }) TR1 one room (few L inks TR1.nd) fun b h1 L1 es1 ep1 t1 sb TR2 c1 c2 => ?_
    have g1 : Got ks (i + 1) L1 := by
      by_cases c : p.2 ∈ L.map (·.2)
      · rw [c1 c]
        exact g.same hp c
      · exact g.more hp (c2 c)
    have kp2 : ∀ b o, h0.get? b = some o → h1.get? b = some o := fun b o e => by
      rw [sb.2 b fun z => by rw [z, noS] at e; cases e]
      exact kp1 b o e
    refine wpAny_pure ⟨plainId_quiet F.plain_set_update_loop _, ih (i + 1) _ L1 es1 ep1 t1 (by omega) (by omega) (W.frame _ y _ _ hst (Nat.le_add_right _ _) fun b hb o e => ?_) kp2 TR2 g1 fun z L2 es2 ep2 t2 mv2 TR3 g2 kp3 => ?_⟩
    · rw [sb.2 b fun z => nS (z ▸ hb)]
      exact e
    · refine q z L2 es2 ep2 t2 (Moved.trans W.gtrans ((mv.mono up1).then_heap (Nat.le_add_right _ _) fun b o hb e => ?_) mv2) TR3 g2 kp3
      rw [sb.2 b fun z => hb (z ▸ List.mem_cons_self)]
      exact e
/-- set(xs) of a list (T = list) | a tuple -/
theorem setOf_any {T it : String} {l : Addr} {items : Array Value} {ks : Ks} {Q : Value → Shared → Prop} (hsub1 : isSubtype (.type T) (.type "set") = pure false) (hsub2 : isSubtype (.type T) (.type "frozenset") = pure false) (hnd : (Value.type T == Value.type "dict") = false)
    (iter : ∀ {A : Around} {E : Value → Shared → Prop} {s : Shared} {Q : Value → Shared → Prop}, (∃ o, s.heap.get? l = some o ∧ o.cls = .type T ∧ ∃ n, o.data = .seq items n) → Q (.ref s.heap.objs.size) { s with heap := s.heap.push { cls := .type it, data := .fields #[.ref l, .int 0 0] } } → wpAny (model prog w) A (pyIter (.ref l)) Q E s)
    (walk : ∀ {A : Around} (I : Addr), A.handled = none → l ≠ I → ∃ St : Nat → Heap → Prop, Walks prog w A I [I, l] [I] items.size (fun i v => items[i]? = some v) St ∧ ∀ h : Heap, (∃ o, h.get? l = some o ∧ o.cls = .type T ∧ ∃ n, o.data = .seq items n) → h.get? I = some { cls := .type it, data := .fields #[.ref l, .int 0 0] } → St 0 h)
    (hh : A.handled = none) (hl : ∃ o, s.heap.get? l = some o ∧ o.cls = .type T ∧ ∃ n, o.data = .seq items n) (hit : items.toList = ks.map fun p => Value.ref p.1) (isk : ∀ p ∈ ks, IsT prog w s.heap p.2 p.1) (few : FewK ks) (hu : A.units + 3 < cLine)
    (h : ∀ (h' : Heap) (tk : Nat) L es ep t, SetTR prog w h' s.heap.objs.size L es ep t → Got ks ks.length L → (∀ b o, s.heap.get? b = some o → h'.get? b = some o) → Q (.ref s.heap.objs.size) { s with heap := h', toks := tk }) :
    wpAny (model prog w) A (call (.type "set") [.ref l]) Q E s := by
  have hisz : items.size = ks.length := by
    rw [← Array.length_toList, hit, List.length_map]
  obtain ⟨c, tl, hmro⟩ := F.called_set.mro
  have hmade := F.called_set.made
  have hsub := F.called_set.sub
  refine wpAny_call (codeAny_of_tree ?_)
  refine wpAny_pure ⟨Code.quiet_builtin _ (by decide +kernel), codeAny_builtin F.entry_type_call ?_⟩
  rw [Around.under_plain (weight_type_call_type "set" [.ref l] []) rfl]
  have h1 := F.called_set.notType
  have h2 := F.called_set.canCreate
  have hct := F.typeCall_set_1 (.ref l)
  repeat (any_goals (first | assumption | wp_step))
  generalize eo : ({ cls := .type "set", dict := none, data := .set #[] 0 (.fresh 0 0 (!w.params.followText "set-order")) } : Obj) = o0
  refine codeAny_mono (code_set_led1 (.ref l) (E := E) (Q₁ := fun obj s1 => obj = .ref s.heap.objs.size ∧ s1 = { s with heap := s.heap.push o0 }) ⟨rfl, by rw [← eo]⟩) fun r s1 hr => ?_
  cases r with
  | error e => exact hr
  | ok fl =>
    cases fl with
    | ret obj =>
      obtain ⟨rfl, rfl⟩ := hr
      have hS : (s.heap.push o0).get? s.heap.objs.size = some o0 := Heap.get?_push_size _ (by rw [← eo]; rfl)
      have hT : Shared.TypeIs { s with heap := s.heap.push o0 } (.ref s.heap.objs.size) "set" := ⟨_, hS, by rw [← eo]⟩
      have hli := F.called_set.init.lookup
      have hbi := F.called_set.init.bind (.ref s.heap.objs.size)
      repeat (any_goals (first | assumption | wp_step))
      refine codeAny_mono (codeAny_call_builtin (R := wants (fun r z => r = .none ∧ ∃ h' tk L es ep t, z = { s with heap := h', toks := tk } ∧ SetTR prog w h' s.heap.objs.size L es ep t ∧ Got ks ks.length L ∧ ∀ b o, s.heap.get? b = some o → h'.get? b = some o) E) F.called_set.init.plain F.entry_set_init (check_set_init_1 hT ?_)) fun r2 s2 hr2 => ?_
      · obtain ⟨ol, hol, hcl, nl, hdl⟩ := hl
        have hlS := Heap.lt_size hol
        have hol' : (s.heap.push o0).get? l = some ol := Heap.get?_push_of_some _ hol
        have h3 : A.in1.in1.in1.handled = none := by simp [hh]
        have neI : l ≠ (s.heap.push o0).objs.size := by
          rw [Heap.size_push]
          exact Nat.ne_of_lt (Nat.lt_succ_of_lt hlS)
        obtain ⟨St, wk, st0⟩ := walk _ h3 neI
        obtain ⟨ocls, odict, odata, oslots⟩ := ol
        simp only at hcl hdl
        subst hcl
        subst hdl
        have hl1 : ∃ o, (s.heap.push o0).get? l = some o ∧ o.cls = .type T ∧ ∃ n, o.data = .seq items n := ⟨_, hol', rfl, nl, rfl⟩
        have gI : ((s.heap.push o0).push { cls := .type it, data := .fields #[.ref l, .int 0 0] }).get? (s.heap.push o0).objs.size = some { cls := .type it, data := .fields #[.ref l, .int 0 0] } := Heap.get?_push_size _ rfl
        subst eo
        unfold Builtin.«set.__init__» noKeywords Builtin.Frozenset.updateFrom
        generalize hPI : pyIter = PI
        wp_walk
        subst hPI
        refine iter hl1 ?_
        refine wpAny_bind (wpAny_runValue ?_)
        have gone : ∀ b, s.heap.objs.size ≤ b → s.heap.get? b = none := fun b hb => by
          cases q : s.heap.get? b with
          | none => rfl
          | some o => exact absurd (Heap.lt_size q) (Nat.not_lt.mpr hb)
        refine loopT (h0 := s.heap) (ks := ks) wk.toS (fun z => ?_) hisz few (fun i v e => ?_) isk (gone _ (Nat.le_refl _)) (fun b hb => gone b ?_) hu items.size 0 _ [] #[] 0 _ rfl (Nat.zero_le _) (st0 _ ⟨_, Heap.get?_push_of_some _ hol', rfl, nl, rfl⟩ gI) (fun b o e => Heap.get?_push_of_some _ (Heap.get?_push_of_some _ e))
          (setTR_fresh (Heap.get?_push_of_some _ hS)) (Got.zero ks) fun z L es ep t mv TR g kp => ?_
        · rw [Heap.size_push] at z
          rcases List.mem_cons.mp z with z | z
          · exact absurd z (Nat.ne_of_lt (Nat.lt_succ_self _))
          · exact absurd (List.mem_singleton.mp z) (Nat.ne_of_gt hlS)
        · have q : items.toList[i]? = some v := by rw [Array.getElem?_toList]; exact e
          rw [hit, List.getElem?_map] at q
          obtain ⟨p, hp, e2⟩ := Option.map_eq_some_iff.mp q
          exact ⟨p, hp, e2.symm⟩
        · rw [List.mem_singleton.mp hb, Heap.size_push]
          exact Nat.le_succ _
        · obtain ⟨hz, gz, dz, tz, oz⟩ := z
          obtain rfl : gz = s.gens := mv.gens
          obtain rfl : dz = s.drawn := mv.drawn
          obtain rfl : oz = s.os := mv.os
          refine wpAny_pure (wpAny_pure ⟨rfl, hz, tz, L, es, ep, t, rfl, TR, ?_, kp⟩)
          rw [← hisz]
          exact g
      · cases r2 with
        | error e => exact hr2
        | ok fl2 =>
          cases fl2 with
          | ret r =>
            obtain ⟨rfl, h', tk, L, es, ep, t, rfl, TR, g, kp⟩ := hr2
            repeat (any_goals (first | assumption | wp_step))
            exact h _ _ _ _ _ _ TR g kp
          | _ => exact hr2.elim
    | _ => exact hr.elim
end
end Sh
namespace Sh
open L2 PySem PySem.Spec PyProof.Rows
section
variable {prog : Program} {w : World} {A : Around} {E : Value → Shared → Prop} {s : Shared}
theorem setI_any {T it : String} {l : Addr} {items : Array Value} {ns : List Int} {Q : Value → Shared → Prop} (hsub1 : isSubtype (.type T) (.type "set") = pure false) (hsub2 : isSubtype (.type T) (.type "frozenset") = pure false) (hnd : (Value.type T == Value.type "dict") = false)
    (iter : ∀ {A : Around} {E : Value → Shared → Prop} {s : Shared} {Q : Value → Shared → Prop}, (∃ o, s.heap.get? l = some o ∧ o.cls = .type T ∧ ∃ n, o.data = .seq items n) → Q (.ref s.heap.objs.size) { s with heap := s.heap.push { cls := .type it, data := .fields #[.ref l, .int 0 0] } } → wpAny (model prog w) A (pyIter (.ref l)) Q E s)
    (walk : ∀ {A : Around} (I : Addr), A.handled = none → l ≠ I → ∃ St : Nat → Heap → Prop, Walks prog w A I [I, l] [I] items.size (fun i v => items[i]? = some v) St ∧ ∀ h : Heap, (∃ o, h.get? l = some o ∧ o.cls = .type T ∧ ∃ n, o.data = .seq items n) → h.get? I = some { cls := .type it, data := .fields #[.ref l, .int 0 0] } → St 0 h)
    (hh : A.handled = none) (hl : ∃ o, s.heap.get? l = some o ∧ o.cls = .type T ∧ ∃ n, o.data = .seq items n) (hit : IntsAre items.toList ns) (hb : ns.length < 64)
    (h : ∀ (h' : Heap) (tk c : Nat), SetR w h' s.heap.objs.size (fun j => decide (j ∈ ns)) c → c ≤ ns.length → (∀ b o, s.heap.get? b = some o → h'.get? b = some o) → Q (.ref s.heap.objs.size) { s with heap := h', toks := tk }) :
    wpAny (model prog w) A (call (.type "set") [.ref l]) Q E s := by
  have hisz : items.size = ns.length := by
    have q := IntsAre.length hit
    rw [Array.length_toList] at q
    exact q
  have hbs : ns.length + 1 < scanBound := by unfold scanBound; omega
  obtain ⟨c, tl, hmro⟩ := F.called_set.mro
  have hmade := F.called_set.made
  have hsub := F.called_set.sub
  refine wpAny_call (codeAny_of_tree ?_)
  refine wpAny_pure ⟨Code.quiet_builtin _ (by decide +kernel), codeAny_builtin F.entry_type_call ?_⟩
  rw [Around.under_plain (weight_type_call_type "set" [.ref l] []) rfl]
  have h1 := F.called_set.notType
  have h2 := F.called_set.canCreate
  have hct := F.typeCall_set_1 (.ref l)
  repeat (any_goals (first | assumption | wp_step))
  generalize eo : ({ cls := .type "set", dict := none, data := .set #[] 0 (.fresh 0 0 (!w.params.followText "set-order")) } : Obj) = o0
  refine codeAny_mono (code_set_led1 (.ref l) (E := E) (Q₁ := fun obj s1 => obj = .ref s.heap.objs.size ∧ s1 = { s with heap := s.heap.push o0 }) ⟨rfl, by rw [← eo]⟩) fun r s1 hr => ?_
  cases r with
  | error e => exact hr
  | ok fl =>
    cases fl with
    | ret obj =>
      obtain ⟨rfl, rfl⟩ := hr
      have hS : (s.heap.push o0).get? s.heap.objs.size = some o0 := Heap.get?_push_size _ (by rw [← eo]; rfl)
      have hT : Shared.TypeIs { s with heap := s.heap.push o0 } (.ref s.heap.objs.size) "set" := ⟨_, hS, by rw [← eo]⟩
      have hli := F.called_set.init.lookup
      have hbi := F.called_set.init.bind (.ref s.heap.objs.size)
      repeat (any_goals (first | assumption | wp_step))
      refine codeAny_mono (codeAny_call_builtin (R := wants (fun r z => r = .none ∧ ∃ h' tk c, z = { s with heap := h', toks := tk } ∧ SetR w h' s.heap.objs.size (fun j => decide (j ∈ ns)) c ∧ c ≤ ns.length ∧ ∀ b o, s.heap.get? b = some o → h'.get? b = some o) E) F.called_set.init.plain F.entry_set_init (check_set_init_1 hT ?_)) fun r2 s2 hr2 => ?_
      · obtain ⟨ol, hol, hcl, nl, hdl⟩ := hl
        have hlS := Heap.lt_size hol
        have hol' : (s.heap.push o0).get? l = some ol := Heap.get?_push_of_some _ hol
        have h3 : A.in1.in1.in1.handled = none := by simp [hh]
        have neI : l ≠ (s.heap.push o0).objs.size := by
          rw [Heap.size_push]
          exact Nat.ne_of_lt (Nat.lt_succ_of_lt hlS)
        obtain ⟨St, wk, st0⟩ := walk _ h3 neI
        obtain ⟨ocls, odict, odata, oslots⟩ := ol
        simp only at hcl hdl
        subst hcl
        subst hdl
        have hl1 : ∃ o, (s.heap.push o0).get? l = some o ∧ o.cls = .type T ∧ ∃ n, o.data = .seq items n := ⟨_, hol', rfl, nl, rfl⟩
        have gI : ((s.heap.push o0).push { cls := .type it, data := .fields #[.ref l, .int 0 0] }).get? (s.heap.push o0).objs.size = some { cls := .type it, data := .fields #[.ref l, .int 0 0] } := Heap.get?_push_size _ rfl
        subst eo
        unfold Builtin.«set.__init__» noKeywords Builtin.Frozenset.updateFrom
        generalize hPI : pyIter = PI
        wp_walk
        subst hPI
        refine iter hl1 ?_
        refine wpAny_bind (wpAny_runValue ?_)
        have hval : ∀ (i : Nat) (v : Value), items[i]? = some v → ∃ k t, ns[i]? = some k ∧ v = .int k t := fun i v hv => by
          have hi : i < ns.length := by rw [← hisz]; exact (Array.getElem?_eq_some_iff.mp hv).1
          obtain ⟨t, e⟩ := PyProof.Rows.IntsAre.int_at hit i v (by rw [Array.getElem?_toList]; exact hv)
          refine ⟨ns[i], t, List.getElem?_eq_getElem hi, ?_⟩
          rw [e, List.getD_eq_getElem?_getD, List.getElem?_eq_getElem hi] <;> rfl
        refine set_update_ints wk.toS s.heap.objs.size (fun z => ?_) ns hisz hbs hval items.size 0 _ rfl (Nat.zero_le _) (st0 _ ⟨_, Heap.get?_push_of_some _ hol', rfl, nl, rfl⟩ gI) ⟨0, Nat.le_refl 0, setR_new_at (Heap.get?_push_of_some _ hS)⟩ fun z c' mv hc' hS' => ?_
        · rw [Heap.size_push] at z
          rcases List.mem_cons.mp z with z | z
          · exact absurd z (Nat.ne_of_lt (Nat.lt_succ_self _))
          · exact absurd (List.mem_singleton.mp z) (Nat.ne_of_gt hlS)
        · obtain ⟨hz, gz, dz, tz, oz⟩ := z
          obtain rfl : gz = s.gens := mv.gens
          obtain rfl : dz = s.drawn := mv.drawn
          obtain rfl : oz = s.os := mv.os
          refine wpAny_pure (wpAny_pure ⟨rfl, hz, tz, c', rfl, hS', hisz ▸ hc', fun b o e => ?_⟩)
          have hb0 : b < s.heap.objs.size := Heap.lt_size e
          refine mv.heap b o (fun hm => ?_) (Heap.get?_push_of_some _ (Heap.get?_push_of_some _ e))
          rw [Heap.size_push] at hm
          rcases List.mem_cons.mp hm with z | z
          · exact absurd z (Nat.ne_of_lt hb0)
          · exact absurd (List.mem_singleton.mp z) (Nat.ne_of_lt (Nat.lt_succ_of_lt hb0))
      · cases r2 with
        | error e => exact hr2
        | ok fl2 =>
          cases fl2 with
          | ret r =>
            obtain ⟨rfl, h', tk, c', rfl, hS', hc', kp⟩ := hr2
            repeat (any_goals (first | assumption | wp_step))
            exact h _ _ _ hS' hc' kp
          | _ => exact hr2.elim
    | _ => exact hr.elim
end
section
variable {X : Cx}
/-- set(x) of ints, sorted -/
theorem setI_one {A : Around} {E : Value → Shared → Prop} {pins : List (Addr × Obj)} {σ : L2.St} {H : Hp} {s : Shared} {Q : Value → Shared → Prop} (I : Inv X pins σ H s) {l : Addr} {ns : List Int} (hl : SqL X.K H l (ns.map V.int) ∨ SqT X.K H l (ns.map V.int)) (few : ns.length < 64) (hh : A.handled = none)
    (h : ∀ (h' : Heap) (tk c : Nat), SetR X.w h' s.heap.objs.size (fun j => decide (j ∈ ns)) c → c ≤ ns.length → (∀ b o, s.heap.get? b = some o → h'.get? b = some o) → Q (.ref s.heap.objs.size) { s with heap := h', toks := tk }) :
    wpAny (model X.prog X.w) A (call (.type "set") [.ref l]) Q E s := by
  rcases hl with hl | hl
  · obtain ⟨its, rv, pl, hz⟩ := I.list hl
    exact setI_any (T := "list") (it := "list_iterator") (items := its.toArray) F.sub_list_set F.sub_list_frozenset (by decide) (fun hl hq => wpAny_pyIter_list hl hq) (fun I h ne => ⟨_, Walks.list h I l ne its.toArray, fun h0 a b => ⟨⟨_, b, rfl, rfl⟩, a⟩⟩) hh pl.isList (by simpa using Vals.ints rv) few h
  · obtain ⟨its, rv, pl, hz⟩ := I.tuple hl
    exact setI_any (T := "tuple") (it := "tuple_iterator") (items := its.toArray) F.sub_tuple_set F.sub_tuple_frozenset (by decide) (fun hl hq => wpAny_pyIter_tuple hl hq) (fun I h ne => ⟨_, Walks.tuple h I l ne its.toArray, fun h0 a b => ⟨⟨_, b, rfl, rfl⟩, a⟩⟩) hh pl (by simpa using Vals.ints rv) few h
end
end Sh
set_option maxHeartbeats  1000000
namespace Sh
open L2 PySem PySem.Spec PyProof.Rows
theorem ti_of {P : Program} {w : World} {h : Heap} {k : List Int} {b : Addr} (x : IsT P w h k b) : Ti h (.ref b) k := by
  obtain ⟨o, items, n, ho, hc, hd, hi⟩ := x
  exact ⟨b, o, items, n, rfl, ho, hc, hd, ints_of_items hi⟩
theorem refs_of_perm {L : Ks} : ∀ {vs : List Value}, (∀ v ∈ vs, ∃ q ∈ L, v = Value.ref q.1) → ∃ M : Ks, vs = M.map (fun q => Value.ref q.1) ∧ ∀ q ∈ M, q ∈ L
  | [], _ => ⟨[], rfl, fun q hq => by cases hq⟩
  | v :: vs, hv => by
    obtain ⟨q, hq, e⟩ := hv v List.mem_cons_self
    obtain ⟨M, e1, hs⟩ := refs_of_perm fun u hu => hv u (List.mem_cons_of_mem _ hu)
    refine ⟨q :: M, by rw [List.map_cons, e, e1], fun r hr => ?_⟩
    rcases List.mem_cons.mp hr with z | z
    · exact z ▸ hq
    · exact hs r z
section
variable {prog : Program} {w : World} {A : Around} {E : Value → Shared → Prop} {s : Shared}
theorem sorted_setL {a : Addr} {L : Ks} {es : Array (Int × Value)} {ep : Nat} {t : SetTable} {Q : Value → Shared → Prop} (R : SetTR prog w s.heap a L es ep t) (hh : A.handled = none) (hu : A.units + 2 < cLine)
    (hQ : ∀ s' p (out : Array Value) (c : Nat) (M : Ks), (∀ b o, s.heap.get? b = some o → s'.heap.get? b = some o) → s'.gens = s.gens → s'.os = s.os → s.heap.objs.size ≤ p → s'.heap.get? p = some (seqObj "list" out c) →
      out.toList = M.map (fun q => Value.ref q.1) → M.Perm L → M.Pairwise (fun q r => HT.lexLt r.2 q.2 = false) → Q (.ref p) s') : wpAny (model prog w) A (call (.builtin "sorted") [.ref a]) Q E s := by
  obtain ⟨o, ho, hex, hd⟩ := R.ob
  refine Calls.call_function_entry kind_sorted plain_sorted entry_sorted (args_sorted1 _) ?_
  unfold Builtin.«sorted»
  refine wpAny_bind (m := checkCount "sorted" 1 1 _) (wpAny_pure ?_)
  refine wpAny_bind (collect_set (A := A.in1) hh ⟨o, ho, hex.1, hd⟩ R.fits (by have := R.size; have := R.few; unfold scanBound; omega) R.tab.ris R.led fun s1 vs k1 hz g1 o1 pm => ?_)
  have pm : vs.Perm (L.map fun q => Value.ref q.1) := by
    have e : es.toList.map (·.2) = L.map fun q => Value.ref q.1 := by
      rw [R.rows, rowsOf, List.map_map]
      rfl
    rw [← e]
    exact pm
  have isL : ∀ v ∈ vs, ∃ q ∈ L, v = Value.ref q.1 := fun v hv => by
    obtain ⟨q, hq, e⟩ := List.mem_map.mp (pm.mem_iff.mp hv)
    exact ⟨q, hq, e.symm⟩
  have hvl : vs.length < 64 := by
    rw [pm.length_eq, List.length_map]
    exact R.few
  have key : ∀ q ∈ L, TS.intsOf s.heap (.ref q.1) = q.2 := fun q hq => (tupInts_of (R.tup q hq)).ints
  have one : ∀ q ∈ L, ∀ r ∈ L, q.1 = r.1 → q = r := fun q hq r hr e => by
    refine Prod.ext e ?_
    rw [← key q hq, ← key r hr, e]
  refine wpAny_bind (wpAny_newList ?_ (by rw [sizeLine_eq]; omega))
  have hoL : (s1.heap.push (seqObj "list" vs.toArray 0)).get? s1.heap.objs.size = some (seqObj "list" vs.toArray 0) := Heap.get?_push_size _ rfl
  have old : ∀ b u, s.heap.get? b = some u → (s1.heap.push (seqObj "list" vs.toArray 0)).get? b = some u := fun b u e => Heap.get?_push_of_some _ (k1 b u e)
  refine wpAny_bind (wpAny_holding (wpAny_call_entry slot_list_sort ⟨_, hoL, rfl⟩ entry_list_sort (SrtO.list_sort_ord (s := { s1 with heap := s1.heap.push (seqObj "list" vs.toArray 0) }) (NtL.swo_lexL fun u => TS.intsOf s.heap u) hoL (by rw [sizeLine_eq]; omega) (fun h2 => ?_) fun out a1 a2 => ⟨_, rfl, ?_⟩) (args_list_sort _)))
  · refine ti_sortable (s := { s1 with heap := s1.heap.push (seqObj "list" vs.toArray 0) }) h2 (by show A.units + 1 + 1 < cLine; omega) (fun v hv => ?_) fun v hv e => ?_
    · obtain ⟨q, hq, rfl⟩ := isL v hv
      rw [key q hq]
      exact (ti_of (R.tup q hq)).keeps fun b o _ g => old b o g
    · obtain ⟨q, hq, rfl⟩ := isL v hv
      obtain ⟨b, o2, _, _, e2, g2, _⟩ := ti_of (R.tup q hq)
      injection e with e
      injection e2 with e2
      have z := Heap.lt_size (k1 _ _ g2)
      rw [← e2, e] at z
      exact absurd z (Nat.lt_irrefl _)
  · obtain ⟨c, hc⟩ := sortedHeap_at (vs := vs) (out := out.toArray) hoL
    have po : out.Perm (L.map fun q => Value.ref q.1) := a2.perm.trans pm
    obtain ⟨M, eM, inM⟩ := refs_of_perm (L := L) (vs := out) fun v hv => isL v (a2.perm.mem_iff.mp hv)
    have nL : L.Nodup := nodup_of_map R.nd
    have pML : M.Perm L := by
      rw [eM] at po
      have nref : (L.map fun q => Value.ref q.1).Nodup := by
        refine List.pairwise_map.mpr (List.Pairwise.imp_of_mem (fun {q r} hq hr hne e => ?_) nL)
        injection e with e
        exact hne (one q hq r hr e)
      have n1 : M.Nodup := nodup_of_map (po.nodup_iff.mpr nref)
      refine (List.perm_ext_iff_of_nodup n1 nL).mpr fun q => ⟨inM q, fun hq => ?_⟩
      obtain ⟨r, hr, e⟩ := List.mem_map.mp (po.mem_iff.mpr (List.mem_map.mpr ⟨q, hq, rfl⟩))
      injection e with e
      rw [← one r (inM r hr) q hq e]
      exact hr
    have pw : M.Pairwise (fun q r => HT.lexLt r.2 q.2 = false) := by
      rw [eM] at a1
      refine List.Pairwise.imp_of_mem (fun {q r} hq hr z => ?_) (List.pairwise_map.mp a1)
      have z : HT.lexLt (TS.intsOf s.heap (.ref r.1)) (TS.intsOf s.heap (.ref q.1)) = false := z
      rw [key q (inM q hq), key r (inM r hr)] at z
      exact z
    refine wpAny_pure ⟨_, rfl, hQ _ s1.heap.objs.size out.toArray c M (fun b u e => ?_) g1 o1 hz hc (by simpa using eM) pML pw⟩
    have lt := Heap.lt_size (k1 b u e)
    show (sortedHeap (s1.heap.push (seqObj "list" vs.toArray 0)) s1.heap.objs.size vs out.toArray).get? b = some u
    rw [sortedHeap_old (Nat.ne_of_lt lt) (by rw [size_push']; exact Nat.lt_succ_of_lt lt)]
    exact old b u e
end
section
variable {X : Cx} {T : Tx} {P : Px} {B : Bs}
def tSset (K : PySem.W.Frag) (ta : TE) : TE := fun σ H Q => ta σ H fun x H1 => (∃ (l : Addr) (ks : Ks), x = V.ref l ∧ (SqL K H1 l (ks.map refK) ∨ SqT K H1 l (ks.map refK)) ∧ (∀ p ∈ ks, SqT K H1 p.1 (p.2.map V.int)) ∧ FewK ks ∧
  ∀ (L : Ks) (q : Addr), (∀ p ∈ L, p ∈ ks) → (∀ p ∈ ks, p.2 ∈ L.map (·.2)) → (L.map (·.2)).Nodup → L.Pairwise (fun p r => HT.lexLt r.2 p.2 = false) → H1 q = none → Q (.ref q) (upd H1 q (.lst (L.map refK)))) ∨
  ∃ (l : Addr) (ns : List Int), x = V.ref l ∧ (SqL K H1 l (ns.map V.int) ∨ SqT K H1 l (ns.map V.int)) ∧ ns.length < 64 ∧
  ∀ (out : List Int) (q : Addr), (∀ k, k ∈ out ↔ k ∈ ns) → out.Pairwise (· < ·) → H1 q = none → Q (.ref q) (upd H1 q (.lst (out.map V.int)))
theorem set_one {A : Around} {E : Value → Shared → Prop} {pins : List (Addr × Obj)} {σ : L2.St} {H : Hp} {s : Shared} {Q : Value → Shared → Prop} (I : Inv X pins σ H s) {l : Addr} {ks : Ks} (hl : SqL X.K H l (ks.map refK) ∨ SqT X.K H l (ks.map refK)) (hk : ∀ p ∈ ks, SqT X.K H p.1 (p.2.map V.int)) (few : FewK ks) (hh : A.handled = none) (hu : A.units + 3 < cLine)
    (h : ∀ (h' : Heap) (tk : Nat) L es ep t, SetTR X.prog X.w h' s.heap.objs.size L es ep t → Got ks ks.length L → (∀ b o, s.heap.get? b = some o → h'.get? b = some o) → Q (.ref s.heap.objs.size) { s with heap := h', toks := tk }) :
    wpAny (model X.prog X.w) A (call (.type "set") [.ref l]) Q E s := by
  rcases hl with hl | hl
  · obtain ⟨its, rv, pl, hz⟩ := I.list hl
    have e : its = ks.map fun p => Value.ref p.1 := refs_of_vals rv
    exact setOf_any (T := "list") (it := "list_iterator") (items := its.toArray) F.sub_list_set F.sub_list_frozenset (by decide) (fun hl hq => wpAny_pyIter_list hl hq) (fun I h ne => ⟨_, Walks.list h I l ne its.toArray, fun h0 a b => ⟨⟨_, b, rfl, rfl⟩, a⟩⟩) hh pl.isList (by simpa using e) (fun p hp => I.isT (hk p hp)) few hu h
  · obtain ⟨its, rv, pl, hz⟩ := I.tuple hl
    have e : its = ks.map fun p => Value.ref p.1 := refs_of_vals rv
    exact setOf_any (T := "tuple") (it := "tuple_iterator") (items := its.toArray) F.sub_tuple_set F.sub_tuple_frozenset (by decide) (fun hl hq => wpAny_pyIter_tuple hl hq) (fun I h ne => ⟨_, Walks.tuple h I l ne its.toArray, fun h0 a b => ⟨⟨_, b, rfl, rfl⟩, a⟩⟩) hh pl (by simpa using e) (fun p hp => I.isT (hk p hp)) few hu h
theorem pe_sset {a : Expr} {ta : TE} {p p2 q pos : Pos} (hc : X.calm = true) (hu : X.A.units + 64 < cLine) (hg : Gl X "sorted") (hm : X.mg "sorted" = none) (hg2 : Gl X "set") (hm2 : X.mg "set" = none) (ha : PE X a ta)
    (na : starEach [a] X.env = (false, eval a X.env) :: starEach [] X.env) : PE X (.Call (.Name "sorted" p) [.Call (.Name "set" p2) [a] [] q] [] pos) (tSset X.K ta) := by
  refine ⟨fun pins s σ H Q I h => ?_⟩
  refine Call_ (ld_blt I hg hm PyProof.Rows.boot_sorted ?_)
  refine PyProof.Rows.callWith_builtin1 (PyProof.Rows.args_cons ?_ rfl) rfl rfl
  refine Call_ (ld_blt I hg2 hm2 PyProof.Rows.boot_set ?_)
  refine PyProof.Rows.callWith_type1 (PyProof.Rows.args_cons (thn (ha.run pins s σ H _ I h) fun v s1 ⟨x, H1, I1, r1, q1⟩ => PyProof.Rows.args_nil ?_) na) na rfl
  rcases q1 with ⟨l, ks, rfl, hq, hk, few, q1⟩ | ⟨l, ns, rfl, hq, few, q1⟩
  · cases r1
    refine set_one I1 hq hk few (I1.ok.hd hc) (by omega) fun h' tk L es ep t R g kp => ?_
    refine PyProof.Rows.args_nil ?_
    have I2 : Inv X pins σ H1 { s1 with heap := h', toks := tk } := I1.kept fun b o e => kp b o e
    refine sorted_setL R (I1.ok.hd hc) (by omega) fun s' p out c M k2 g2 o2 hp hg3 hout pm pw => ?_
    have hlen : (M.map refK).length ≤ sizeLine := by
      have := R.few
      rw [List.length_map, pm.length_eq, sizeLine_eq]
      omega
    have hn : H1 p = none := I2.hok.fresh hp
    have hv : Vals (M.map refK) out.toList := by
      rw [hout]
      exact vals_of_refs M
    have J : Inv X pins σ (upd H1 p (.lst (M.map refK))) { ({ s1 with heap := h', toks := tk } : Shared) with heap := s'.heap, gens := s'.gens, drawn := s'.drawn, toks := s'.toks } :=
      I2.call (ch := []) (Un.laid k2 hp hn) (I2.hok.laid k2 hp ⟨hlen, out.toList, c, hv, hg3⟩) (by rw [g2]; exact I2.bare) fun _ z => nomatch z
    have e : s' = { ({ s1 with heap := h', toks := tk } : Shared) with heap := s'.heap, gens := s'.gens, drawn := s'.drawn, toks := s'.toks } := by
      cases s'
      cases s1
      cases o2
      rfl
    rw [e]
    refine ⟨.ref p, _, J, rfl, q1 M p (fun p hp => ?_) (fun p hp => ?_) ((pm.map (·.2)).nodup_iff.mpr R.nd) pw hn⟩
    · exact List.mem_of_mem_take (g.sub p (pm.mem_iff.mp hp))
    · exact ((pm.map (·.2)).mem_iff).mpr (g.all p (by rw [List.take_length]; exact hp))
  · cases r1
    refine setI_one I1 hq few (I1.ok.hd hc) fun h' tk c R hc' kp => ?_
    refine PyProof.Rows.args_nil ?_
    have I2 : Inv X pins σ H1 { s1 with heap := h', toks := tk } := I1.kept fun b o e => kp b o e
    refine sorted_set R (I1.ok.hd hc) (by omega) fun s' p out c2 ns2 k2 g2 o2 hp hg3 hi pw hm hl2 => ?_
    have hlen : (ns2.map V.int).length ≤ sizeLine := by
      rw [List.length_map, sizeLine_eq]
      omega
    have hn : H1 p = none := I2.hok.fresh hp
    have hv : Vals (ns2.map V.int) out.toList := vals_of_ints hi
    have J : Inv X pins σ (upd H1 p (.lst (ns2.map V.int))) { ({ s1 with heap := h', toks := tk } : Shared) with heap := s'.heap, gens := s'.gens, drawn := s'.drawn, toks := s'.toks } :=
      I2.call (ch := []) (Un.laid k2 hp hn) (I2.hok.laid k2 hp ⟨hlen, out.toList, c2, hv, hg3⟩) (by rw [g2]; exact I2.bare) fun _ z => nomatch z
    have e : s' = { ({ s1 with heap := h', toks := tk } : Shared) with heap := s'.heap, gens := s'.gens, drawn := s'.drawn, toks := s'.toks } := by
      cases s'
      cases s1
      cases o2
      rfl
    rw [e]
    exact ⟨.ref p, _, J, rfl, q1 ns2 p (fun k => (hm k).trans (by rw [decide_eq_true_eq])) pw hn⟩
end
end Sh
namespace Sh
open L2 PySem PySem.Spec PyProof.Rows
/-- few unlike rows -/
def FewI (ls : List (List Int)) : Prop := ∀ L : List (List Int), L.Nodup → (∀ a ∈ L, a ∈ ls) → L.length + 1 < 64
theorem FewI.short {ls : List (List Int)} (h : ls.length + 1 < 64) : FewI ls := fun L n s => by
  have : ∀ (L : List (List Int)) (D : List (List Int)), L.Nodup → (∀ a ∈ L, a ∈ D) → L.length ≤ D.length := by
    intro L
    induction L with
    | nil => exact fun _ _ _ => Nat.zero_le _
    | cons x l ih =>
      intro D hn hs
      obtain ⟨h1, h2⟩ := List.nodup_cons.mp hn
      have hx : x ∈ D := hs x List.mem_cons_self
      have q := ih (D.erase x) h2 fun y hy => (List.mem_erase_of_ne (fun (e : y = x) => h1 (by rw [← e]; exact hy))).2 (hs y (List.mem_cons_of_mem _ hy))
      have e := List.length_erase_of_mem hx
      have hp : 0 < D.length := List.length_pos_of_mem hx
      rw [List.length_cons]
      omega
  have := this L ls n s
  omega
def fSset : F1 := fun x e => (∃ ls out : List (List Int), (x = .lst (ls.map tupI) ∨ x = .tup (ls.map tupI)) ∧ FewI ls ∧ (∀ a, a ∈ out ↔ a ∈ ls) ∧ out.Pairwise (fun a b => HT.lexLt a b = true) ∧ e = .newL (out.map tupI)) ∨
  ∃ ns out : List Int, (x = .lst (ns.map .int) ∨ x = .tup (ns.map .int)) ∧ ns.length < 64 ∧ (∀ k, k ∈ out ↔ k ∈ ns) ∧ out.Pairwise (· < ·) ∧ e = .newL (out.map .int)
theorem lex_le {a b : List Int} (h : HT.lexLt a b = true) : HT.lexLt b a = false := by
  cases e : HT.lexLt b a with
  | false => rfl
  | true => exact absurd ((NtL.swo_lexL (fun x : List Int => x)).1 a b h) (by simp [e])
theorem lex_str {l : List (List Int)} (h1 : l.Pairwise fun a b => HT.lexLt b a = false) (h2 : l.Nodup) : l.Pairwise fun a b => HT.lexLt a b = true := by
  refine List.Pairwise.imp (fun {a b} h => ?_) (h1.and h2)
  cases e : HT.lexLt a b with
  | true => rfl
  | false => exact absurd (lex_anti a b h.1 e) h.2
theorem lex_set {l m : List (List Int)} (h : ∀ a, a ∈ l ↔ a ∈ m) (h1 : l.Pairwise fun a b => HT.lexLt a b = true) (h2 : m.Pairwise fun a b => HT.lexLt a b = true) : l = m := by
  have nd : ∀ {l : List (List Int)}, l.Pairwise (fun a b => HT.lexLt a b = true) → l.Nodup := fun h => List.Pairwise.imp (fun {a b} z e => by
    subst e
    have := lex_le z
    rw [z] at this
    cases this) h
  exact srt_uniq (r := fun a b => HT.lexLt b a = false) (fun a b h k => lex_anti a b h k) ((List.perm_ext_iff_of_nodup (nd h1) (nd h2)).mpr h) (h1.imp lex_le) (h2.imp lex_le)
section
variable {X : Cx} {T : Tx} {B : Bs} {t u : TD}
theorem pe_ssetD {a : Expr} {p p2 q pos : Pos} (hK : X.K = T.K) (hc : X.calm = true) (hu : X.A.units + 64 < cLine) (hg : Gl X "sorted") (hm : X.mg "sorted" = none) (hg2 : Gl X "set") (hm2 : X.mg "set" = none) (ha : PE X a (up T B t))
    (na : starEach [a] X.env = (false, eval a X.env) :: starEach [] X.env) : PE X (.Call (.Name "sorted" p) [.Call (.Name "set" p2) [a] [] q] [] pos) (up T B (dUn fSset t)) := by
  refine PE.imp (pe_sset hc hu hg hm hg2 hm2 ha na) fun σ H Q q => ?_
  obtain ⟨n, τ, G, K, R, t, q⟩ := up_un q
  refine ⟨n, τ, G, K, R, t, fun r n1 v H1 G1 a b c d => ?_⟩
  obtain ⟨G2, dx, e, ⟨sb, sm⟩, hx, hf, k⟩ := q r n1 v H1 G1 a b c d
  rcases hf with ⟨ls, out, ex, few, mem, srt, rfl⟩ | ⟨ns, out, ex, few, mem, srt, rfl⟩
  · have : ∃ l vs, v = .ref l ∧ (SqL T.K H1 l vs ∨ SqT T.K H1 l vs) ∧ Hl T B.P G2 (ls.map tupI) vs := by
      rcases ex with rfl | rfl
      · obtain ⟨a, vs, rfl, h1, h2⟩ := hx.lst sb
        exact ⟨a, vs, rfl, .inl (SqL.of h1), h2⟩
      · obtain ⟨a, vs, rfl, h1, h2⟩ := hx.tup sb
        exact ⟨a, vs, rfl, .inr h1, h2⟩
    obtain ⟨l, vs, rfl, hq, hl⟩ := this
    obtain ⟨ks, rfl, rfl, h3⟩ := Hl.tups sb hl
    refine .inl ⟨l, ks, rfl, hK ▸ hq, fun p hp => hK ▸ (h3 p hp).1, fun L hL hn => ?_, fun L p s1 s2 s3 s4 hn => ?_⟩
    · have := few (L.map (·.2)) hn fun a ha => by
        obtain ⟨p, hp, rfl⟩ := List.mem_map.mp ha
        exact List.mem_map.mpr ⟨p, hL p hp, rfl⟩
      rwa [List.length_map] at this
    · have e : L.map (·.2) = out := lex_set (fun a => ?_) (lex_str (List.pairwise_map.mpr s4) s3) srt
      · subst e
        exact k p _ hn (Hl.ofK fun p hp => (h3 p (s1 p hp)).2)
      · rw [mem]
        constructor
        · intro ha
          obtain ⟨p, hp, rfl⟩ := List.mem_map.mp ha
          exact List.mem_map.mpr ⟨p, s1 p hp, rfl⟩
        · intro ha
          obtain ⟨p, hp, rfl⟩ := List.mem_map.mp ha
          exact s2 p hp
  · have : ∃ l, v = .ref l ∧ (SqL T.K H1 l (ns.map V.int) ∨ SqT T.K H1 l (ns.map V.int)) := by
      rcases ex with rfl | rfl
      · obtain ⟨a, vs, rfl, h1, h2⟩ := hx.lst sb
        obtain rfl := h2.ints
        exact ⟨a, rfl, .inl (SqL.of h1)⟩
      · obtain ⟨a, vs, rfl, h1, h2⟩ := hx.tup sb
        obtain rfl := h2.ints
        exact ⟨a, rfl, .inr h1⟩
    obtain ⟨l, rfl, hq⟩ := this
    refine .inr ⟨l, ns, rfl, hK ▸ hq, few, fun L p h1 h2 hn => ?_⟩
    have e : L = out := srt_uniq (r := (· ≤ ·)) (fun a b h1 h2 => Int.le_antisymm h1 h2) ((List.perm_ext_iff_of_nodup (h2.imp fun h => Int.ne_of_lt h) (srt.imp fun h => Int.ne_of_lt h)).mpr fun k => (h1 k).trans (mem k).symm) (h2.imp Int.le_of_lt) (srt.imp Int.le_of_lt)
    subst e
    have hI : ∀ l : List Int, Hl T B.P G2 (l.map .int) (l.map V.int) := fun l => by
      induction l with
      | nil => exact .nil
      | cons x l ih => exact .cons (.int x) ih
    exact k p _ hn (hI L)
end
end Sh
namespace Sh
open L2 PySem PySem.Spec PyProof.Rows

structure Ev where
  Φ : Fns
  cs : List Str
  rz : Nat → Option (Str × Nat × List (Str × Nat))
  cl : Nat → List D → DSp := fun _ _ _ _ _ _ => False
  lf : Nat → List Nat := fun _ => []

def fB1 (v : Ev) : B1 → F1
  | .len => fLen
  | .tuple => fTuple
  | .list => fList
  | .all => fAll
  | .any => fAny
  | .sum => fSum
  | .abs => fAbs
  | .int => fInt
  | .maxL => fMaxL
  | .minL => fMinL
  | .repr => fRepr
  | .neg => fNeg
  | .att f => fAtt f
  | .rev => fRevL
  | .rgT => fRgT1
  | .rgL => fRgL1
  | .isi ts => fIsi v.cs ts
  | .isiT ts => fIsi v.cs ts
  | .str => fStr
  | .bitl => fBitl
  | .sorted => fSorted
  | .sset => fSset
def fB2 : B2 → F2
  | .op o => fOp o
  | .cmp o => fCmp o
  | .ix => fIx
  | .max => fMax2
  | .min => fMin2
  | .gcd => fGcd
  | .rgT => fRgT2
  | .rgL => fRgL2
def dDct (t : Bool) : TD := fun n K => K (.tmp (.dct t [])) n
def dYes : TDt := fun n K => K true n
def enumD (l : List D) : List D := l.zipIdx.map fun p => .tup [.int (p.2 : Nat), p.1]
def zipD (l m : List D) : List D := (l.zip m).map fun p => .tup [p.1, p.2]
def diEnumA (t : TDa) : TDi := fun n K => t n fun ds n1 => ∃ l, ds = [.lst l] ∧ K (enumD l) n1
def diZipA (t : TDa) : TDi := fun n K => t n fun ds n1 => ∃ l m, (ds = [.lst l, .lst m] ∨ ds = [.tup l, .tup m]) ∧ K (zipD l m) n1
mutual
def ev (v : Ev) : (Xc → Nat → Prop) → RX → TD
  | _, .var i => dVar i
  | _, .c d => dC d
  | Ex, .b1 f a => dUn (fB1 v f) (ev v Ex a)
  | Ex, .b2 f a b => dBin (fB2 f) (ev v Ex a) (ev v Ex b)
  | Ex, .chain o p a b c => dChain (fCmp o) (fCmp p) (ev v Ex a) (ev v Ex b) (ev v Ex c)
  | Ex, .and a b => dAnd (ev v Ex a) (ev v Ex b)
  | Ex, .or a b => dOr (ev v Ex a) (ev v Ex b)
  | Ex, .not a => dNot (ev v Ex a)
  | Ex, .ite c a b => dIte (ec v Ex c) (ev v Ex a) (ev v Ex b)
  | Ex, .tup l => dTup (evs v Ex l)
  | Ex, .lst l => dLst (evs v Ex l)
  | _, .dctN t => dDct t
  | Ex, .cut a lo hi => dCut (ev v Ex a) (eo v Ex lo) (eo v Ex hi)
  | Ex, .call k l => dCall Ex (v.Φ k) (evs v Ex l)
  | Ex, .callV i l => dCallV Ex v.cl i (evs v Ex l)
  | Ex, .callS k l => dCallS (v.Φ k) v.lf (evs v Ex l)
  | Ex, .app i e => dApp i (ev v Ex e)
  | _, .pop i => dPop i
  | _, .pop0 i => dPop0 i
  | Ex, .popI i e => dPopI i (ev v Ex e)
  | Ex, .lc it g own c e => dLc (ei v Ex it) g (ec v noX c) (ev v noX e) own
def evs (v : Ev) : (Xc → Nat → Prop) → RXs → TDa
  | _, .nil => dNil
  | Ex, .cons a l => dCons (ev v Ex a) (evs v Ex l)
def ec (v : Ev) : (Xc → Nat → Prop) → RC → TDt
  | _, .yes => dYes
  | Ex, .v a => dtOf (ev v Ex a)
  | Ex, .cmp o a b => dtOf (dBin (fCmp o) (ev v Ex a) (ev v Ex b))
  | Ex, .chain o p a b c => dtOf (dChain (fCmp o) (fCmp p) (ev v Ex a) (ev v Ex b) (ev v Ex c))
  | Ex, .not a => dtNot (ec v Ex a)
  | Ex, .and a b => dtAnd (ec v Ex a) (ec v Ex b)
  | Ex, .or a b => dtOr (ec v Ex a) (ec v Ex b)
def eo (v : Ev) : (Xc → Nat → Prop) → RO → En → (Option Int → En → Prop) → Prop
  | _, .no => dNo
  | Ex, .so a => dSo (ev v Ex a)
def ei (v : Ev) : (Xc → Nat → Prop) → RI → TDi
  | Ex, .seq a => diSeq (ev v Ex a)
  | Ex, .rg1 l => diRg1 (evs v Ex l)
  | Ex, .rg2 l => diRg2 (evs v Ex l)
  | Ex, .enum a => diEnumA (dCons (ev v Ex a) dNil)
  | Ex, .zip a b => diZipA (dCons (ev v Ex a) (dCons (ev v Ex b) dNil))
end
def evr (v : Ev) (Ex : Xc → Nat → Prop) : RXs → TDr
  | .nil => rNil
  | .cons a l => rCons (ev v Ex a) (evr v Ex l)
def sAug (i : Nat) (t : TD) : TDs := fun K n => (∃ a, n.ρ[i]? = some (.sh (.int a))) ∧ t n fun r n1 => ∃ a b, n.ρ[i]? = some (.sh (.int a)) ∧ fet n1 r = some (.int b) ∧ K.nx { n1 with ρ := n1.ρ.set i (.sh (.int (a + b))) }
def sFgt (l : List Nat) : TDs := fun K n => K.nx { n with ρ := wip l n.ρ }
def sShr (i : Nat) : TDs := fun K n => frz n (.slt i) fun _ n1 => K.nx n1
mutual
def ex (v : Ev) (Ex : Xc → Nat → Prop) : RS → TDs
  | .asg i e => sAsg i (ev v Ex e)
  | .asgT t e => sAsgT t (ev v Ex e)
  | .par l e => sPar l (evr v Ex e)
  | .aug i e => sAug i (ev v Ex e)
  | .put i k e => sPutL i (ev v Ex e) (ev v Ex k)
  | .fld i f e => sFldD v.cs i f (ev v Ex e)
  | .ex e => sEx (ev v Ex e)
  | .ret e => sRet (ev v Ex e)
  | .retN => sRetN
  | .raise k l => match v.rz k with
    | some (c, n, fs) => sRaise Ex c n fs (evs v Ex l)
    | none => fun _ _ => False
  | .pass => sNx
  | .brk => sBk
  | .cnt => sCt
  | .ite c a b => sIf (ec v Ex c) (exs v Ex a) (exs v Ex b)
  | .for it g b => sFor (ei v Ex it) g (exs v Ex b)
  | .whl c b => sWhl (ec v Ex c) (exs v Ex b)
  | .fgt l => sFgt l
  | .shr i => sShr i
def exs (v : Ev) (Ex : Xc → Nat → Prop) : RSs → TDs
  | .nil => sNx
  | .cons a l => sSeq (ex v Ex a) (exs v Ex l)
end

structure Ck where
  N : List Str
  sc : Scope
  fb : Option Scope
  nm : List (Nat × Str)
  bt : List Str
  gl : List Str
  cs : List Str
  rn : List (Nat × Str)
  lo : Nat → Arguments → Expr → Scope → Bool := fun _ _ _ _ => false
  ns : List (Nat × Str) := []
def Ck.fn (k : Ck) (x : Str) : Bool := match k.fb with
  | none => true
  | some s => s.names.lookup x == some .cell
def isNm (l : List (Nat × Str)) (j : Nat) (x : Str) : Bool := match l.lookup j with
  | some y => x == y
  | none => false
def notStar : Expr → Bool
  | .Starred _ _ => false
  | _ => true
def Ck.vis (k : Ck) (x : Str) : Bool := match k.sc.names.lookup x with
  | some .local => true
  | some .cell => true
  | some .free => true
  | _ => false
def dbg (x : Str) : Bool := x == ("__debug__" : Str)
def cdc (x : Str) : Bool := x == ("__classdict__" : Str)
def Ck.var (k : Ck) (i : Nat) (x : Str) : Bool := decide (k.N[i]? = some x) && k.vis x && !dbg x && !cdc x
def Ck.loc (k : Ck) (x : Str) : Bool := match k.sc.names.lookup x with
  | some .local => true
  | some .cell => true
  | _ => false
/-- a name that may be stored -/
def Ck.sto (k : Ck) (i : Nat) (x : Str) : Bool := decide (k.N[i]? = some x) && k.loc x && (k.fn x || k.sc.names.lookup x == some .local)
def Ck.glb (k : Ck) (x : Str) : Bool := (k.sc.names.lookup x == some .globalImplicit) && !dbg x
def Ck.blt (k : Ck) (x y : Str) : Bool := x == y && k.glb x && k.bt.contains x
def call1 (k : Ck) (y : Str) : Expr → Option Expr
  | .Call (.Name x _) [a] [] _ => if k.blt x y && notStar a then some a else none
  | _ => none
def call2 (k : Ck) (y : Str) : Expr → Option (Expr × Expr)
  | .Call (.Name x _) [a, b] [] _ => if k.blt x y && notStar a && notStar b then some (a, b) else none
  | _ => none
def isTy (k : Ck) : TyS → Expr → Bool
  | .ty n, .Name x _ => k.blt x (Str.ofString n) && tyNs.contains n && (["int", "bool", "str", "tuple", "list", "dict"].contains n)
  | .own c, .Name x _ => x == c && k.glb x && k.gl.contains x && k.cs.contains x
  | _, _ => false
def isTys (k : Ck) : List TyS → List Expr → Bool
  | [], [] => true
  | t :: ts, e :: es => isTy k t e && notStar e && isTys k ts es
  | _, _ => false
def argB1 (k : Ck) : B1 → Expr → Option Expr
  | .len, e => call1 k "len" e
  | .tuple, e => call1 k "tuple" e
  | .list, e => call1 k "list" e
  | .all, e => call1 k "all" e
  | .any, e => call1 k "any" e
  | .sum, e => call1 k "sum" e
  | .abs, e => call1 k "abs" e
  | .int, e => call1 k "int" e
  | .maxL, e => call1 k "max" e
  | .minL, e => call1 k "min" e
  | .repr, e => call1 k "repr" e
  | .str, e => call1 k "str" e
  | .sorted, e => call1 k "sorted" e
  | .neg, .UnaryOp .USub a _ => some a
  | .att f, .Attribute a g _ => if f == g && noSuper a then some a else none
  | .rev, .Subscript a (.Slice none none (some (.UnaryOp .USub (.Constant (.int 1) _ _) _)) _) _ => some a
  | .rgT, .Call (.Name x _) [.Call (.Name y _) [a] [] _] [] _ => if k.blt x "tuple" && k.blt y "range" && notStar a then some a else none
  | .rgL, .Call (.Name x _) [.Call (.Name y _) [a] [] _] [] _ => if k.blt x "list" && k.blt y "range" && notStar a then some a else none
  | .sset, .Call (.Name x _) [.Call (.Name y _) [a] [] _] [] _ => if k.blt x "sorted" && k.blt y "set" && notStar a then some a else none
  | .isi [t], .Call (.Name x _) [a, c] [] _ => if k.blt x "isinstance" && notStar a && notStar c && isTy k t c then some a else none
  | .isiT ts, .Call (.Name x _) [a, .Tuple es _ _] [] _ => if k.blt x "isinstance" && notStar a && isTys k ts es && decide (ts.length ≤ 1000) then some a else none
  | .bitl, .Call (.Attribute a m ap) [] [] p => if m == ("bit_length" : Str) && noSuper a && ap.endLine == p.line then some a else none
  | _, _ => none
def notSlice : Expr → Bool
  | .Slice _ _ _ _ => false
  | _ => true
def argB2 (k : Ck) : B2 → Expr → Option (Expr × Expr)
  | .op o, .BinOp a q b _ => if o == q then some (a, b) else none
  | .cmp o, .Compare a [q] [b] _ => if o == q && !behindInMarks o b then some (a, b) else none
  | .ix, .Subscript a b _ => if notSlice b then some (a, b) else none
  | .max, e => call2 k "max" e
  | .min, e => call2 k "min" e
  | .rgT, .Call (.Name x _) [.Call (.Name y _) [a, b] [] _] [] _ => if k.blt x "tuple" && k.blt y "range" && notStar a && notStar b then some (a, b) else none
  | .rgL, .Call (.Name x _) [.Call (.Name y _) [a, b] [] _] [] _ => if k.blt x "list" && k.blt y "range" && notStar a && notStar b then some (a, b) else none
  | _, _ => none
def argC (k : Ck) : D → Expr → Bool
  | .int i, .Constant (.int j) _ _ => i == j
  | .str x, .Constant (.str y) _ _ => x == y
  | .int i, .Name y _ => decide (0 ≤ i) && isNm k.rn (1000000 + i.toNat) y && k.glb y
  | .bl b, .Constant (.bool c) _ _ => b == c
  | .non, .Constant .none _ _ => true
  | .glo x, .Name y _ => x == y && k.glb x && k.gl.contains x
  | .lam n, .Lambda ps body sc _ => k.lo n ps body sc
  | _, _ => false
def notSet : Expr → Bool
  | .Set _ _ _ => false
  | _ => true
/-- a test that is read as a value -/
def plainT : Expr → Bool
  | .UnaryOp .Not _ _ => false
  | .BoolOp _ _ _ => false
  | .IfExp _ _ _ _ => false
  | .Compare _ _ _ _ => false
  | _ => true
def Ck.blk (k : Ck) (s : Scope) : Ck := { k with sc := relS s k.sc, fb := some s, lo := fun _ _ _ _ => false, ns := [] }
def Ck.own (k : Ck) (l : List Nat) : List (Str × Nat) := l.map fun i => (k.N.getD i default, i)
mutual
def okG (k : Ck) : RT → Expr → Bool
  | .nm i, .Name x _ => k.sto i x
  | .tp l, .Tuple es _ _ => okGs k l es
  | _, _ => false
def okGs (k : Ck) : RTs → List Expr → Bool
  | .nil, [] => true
  | .cons a l, e :: es => okG k a e && notStar e && okGs k l es
  | _, _ => false
end
def RC.isYes : RC → Bool
  | .yes => true
  | _ => false
def okIf (b : Bool) (ifs : List Expr) (f : Expr → Bool) : Bool := match ifs with
  | [] => b
  | [y] => f y
  | _ => false
mutual
def okX (k : Ck) : RX → Expr → Bool
  | .var i, .Name x _ => k.var i x
  | .c d, e => argC k d e
  | .b1 f a, e => match argB1 k f e with
    | some x => okX k a x
    | none => false
  | .b2 f a b, e => match argB2 k f e with
    | some (x, y) => okX k a x && okX k b y
    | none => false
  | .chain o p a b c, .Compare x [q, r] [y, z] _ => o == q && p == r && okX k a x && okX k b y && okX k c z && !behindInMarks r z
  | .and a b, .BoolOp .And (x :: y :: rest) p => okX k a x && (match rest with | [] => okX k b y | _ => okX k b (.BoolOp .And (y :: rest) p))
  | .or a b, .BoolOp .Or (x :: y :: rest) p => okX k a x && (match rest with | [] => okX k b y | _ => okX k b (.BoolOp .Or (y :: rest) p))
  | .not a, .UnaryOp .Not x _ => okX k a x
  | .ite c a b, .IfExp t x y _ => okC k c t && okX k a x && okX k b y
  | .tup l, .Tuple es _ _ => okXs k l es
  | .lst l, .List es _ => okXs k l es
  | .dctN _, .Dict [] [] _ => true
  | .cut a lo hi, .Subscript x (.Slice l h none _) _ => okX k a x && okO k lo l && okO k hi h
  | .call j l, .Call (.Name x _) es [] _ => isNm k.nm j x && k.glb x && okXs k l es
  | .callV i l, .Call (.Name x _) es [] _ => k.var i x && okXs k l es
  | .callS j l, .Call (.Name x _) (e :: es) [] _ => isNm k.ns j x && k.glb x && okXs k l (e :: es)
  | .app i e, .Call (.Attribute (.Name x _) m ap) [y] [] p => k.var i x && m == ("append" : Str) && ap.endLine == p.line && notStar y && okX k e y
  | .pop i, .Call (.Attribute (.Name x _) m ap) [] [] p => k.var i x && m == ("pop" : Str) && ap.endLine == p.line
  | .pop0 i, .Call (.Attribute (.Name x _) m ap) [.Constant (.int j) _ _] [] p => k.var i x && m == ("pop" : Str) && ap.endLine == p.line && j == 0
  | .popI i e, .Call (.Attribute (.Name x _) m ap) [y] [] p => k.var i x && m == ("pop" : Str) && ap.endLine == p.line && notStar y && okX k e y
  | .lc it g own c e, .ListComp x [⟨tg, iter, ifs, as⟩] s _ => as == 0 && notSet iter && okI k it tg iter && blkC k.N k.sc s (k.own own) && okG (k.blk s) g tg && (g.slots.all fun i => own.contains i) &&
    okIf c.isYes ifs (fun y => okC (k.blk s) c y) && okX (k.blk s) e x
  | _, _ => false
def okXs (k : Ck) : RXs → List Expr → Bool
  | .nil, [] => true
  | .cons a l, e :: es => okX k a e && notStar e && okXs k l es
  | _, _ => false
def okC (k : Ck) : RC → Expr → Bool
  | .cmp o a b, .Compare x [q] [y] p => o == q && !behindInMarks o y && okX k a x && okX k b y
  | .chain o r a b c, .Compare x [q, q2] [y, z] _ => o == q && r == q2 && okX k a x && okX k b y && okX k c z && !behindInMarks q2 z
  | .v a, e => plainT e && okX k a e
  | .not a, .UnaryOp .Not x _ => okC k a x
  | .and a b, .BoolOp .And (x :: y :: rest) p => okC k a x && (match rest with | [] => okC k b y | _ => okC k b (.BoolOp .And (y :: rest) p))
  | .or a b, .BoolOp .Or (x :: y :: rest) p => okC k a x && (match rest with | [] => okC k b y | _ => okC k b (.BoolOp .Or (y :: rest) p))
  | _, _ => false
def okO (k : Ck) : RO → Option Expr → Bool
  | .no, none => true
  | .so a, some e => okX k a e
  | _, _ => false
def okI (k : Ck) : RI → Expr → Expr → Bool
  | .seq a, _, e => notSet e && okX k a e
  | .rg1 l, _, .Call (.Name x _) [a] [] _ => k.blt x "range" && notStar a && okXs k l [a]
  | .rg2 l, _, .Call (.Name x _) [a, b] [] _ => k.blt x "range" && notStar a && notStar b && okXs k l [a, b]
  | .enum a, .Tuple _ _ _, .Call (.Name x _) [e] [] _ => k.blt x "enumerate" && notStar e && okX k a e
  | .zip a b, .Tuple _ _ _, .Call (.Name x _) [d, e] [] _ => k.blt x "zip" && notStar d && notStar e && okX k a d && okX k b e
  | _, _, _ => false
end
def notComp : Expr → Bool
  | .ListComp _ _ _ _ => false
  | .SetComp _ _ _ _ => false
  | .DictComp _ _ _ _ _ => false
  | _ => true
def isTup : Expr → Bool
  | .Tuple _ _ _ => true
  | _ => false
/-- the names of a row of targets -/
def tgNs : List Expr → List (Str × Nat)
  | .Name x p :: r => (x, p.line) :: tgNs r
  | _ :: r => tgNs r
  | [] => []
/-- the stores are swapped -/
def swYes (k : Ck) (ts vs : List Expr) : Bool := (ts.length == 2 || ts.length == 3) && ts.length == vs.length && (tgNs ts).length == ts.length && vs.all notStar && ((tgNs ts).all fun p => (k.sc.names.lookup p.1 == some .local) && p.2 == ((tgNs ts).head?.map (·.2)).getD 0) &&
  ((tgNs ts).map (·.1)).eraseDups.length == ts.length && !vs.all (foldedForSure 8) && !vs.all (constantsAlone 8)
/-- they are not -/
def swNo (k : Ck) (ts vs : List Expr) : Bool := vs.all (foldedForSure 8) || !(ts.length == 2 || ts.length == 3) || (ts.any fun t => match t with | .Name x _ => !(k.sc.names.lookup x == some .local) | _ => true)
def okNs (k : Ck) : List Nat → List Expr → Bool
  | [], [] => true
  | i :: l, .Name x _ :: es => k.sto i x && okNs k l es
  | _, _ => false
def okLcA (k : Ck) (x : Str) (p : Pos) (y : Expr) : Bool := match y with
  | .ListComp _ _ s p2 => (k.sc.names.lookup x == some .cell) || ((k.sc.names.lookup x == some .local) && p.line == p2.line && !(s.names.any fun (n, kd) => n == x && (kd == .local || kd == .cell)))
  | y => notComp y
mutual
def okS (k : Ck) : RS → Stmt → Bool
  | .asg i e, .Assign [.Name x p] y q => k.sto i x && okX k e y && okLcA k x p y
  | .asgT g e, .Assign [t] y q => isTup t && !isTup y && okG k g t && okX k e y
  | .par l es, .Assign [.Tuple ts _ _] (.Tuple vs _ _) _ => okNs k l ts && okXs k es vs && ((swYes k ts vs && decide l.Nodup) || swNo k ts vs) && decide (l.length ≤ 1000)
  | .aug i e, .AugAssign (.Name x _) .Add y _ => k.sto i x && k.var i x && okX k e y
  | .put i j e, .Assign [.Subscript (.Name x _) s _] y _ => k.var i x && notSlice s && notComp y && okX k e y && okX k j s
  | .fld i f e, .Assign [.Attribute (.Name x _) g _] y _ => f == g && k.var i x && notComp y && okX k e y
  | .ex e, .Expr y _ => notComp y && okX k e y
  | .ret e, .Return (some y) _ => okX k e y
  | .retN, .Return none _ => true
  | .raise j l, .Raise (some (.Call (.Name x _) (e :: es) [] _)) none _ => isNm k.rn j x && k.glb x && okXs k l (e :: es)
  | .pass, .Pass _ => true
  | .brk, .Break _ => true
  | .cnt, .Continue _ => true
  | .ite c a b, .If t x y _ => okC k c t && okSs k a x && okSs k b y
  | .for it g b, .For tg iter body [] _ => okI k it tg iter && notSet iter && okG k g tg && okSs k b body
  | .whl c b, .While t body [] _ => okC k c t && okSs k b body
  | _, _ => false
def okSs (k : Ck) : RSs → List Stmt → Bool
  | .nil, st => st.isEmpty
  | .cons a l, st => if a.mute = true then okSs k l st else match st with
    | s :: r => okS k a s && okSs k l r
    | [] => false
end
end Sh
namespace Sh
open L2 PySem PySem.Spec PyProof.Rows

structure XO (T : Tx) (v : Ev) (k : Ck) (lv : Nat) (B : Bs) (Ex : Xc → Nat → Prop) (X : Cx) : Prop where
  K : X.K = T.K
  mg : X.mg = T.mg
  N : X.N = k.N
  nd : k.N.Nodup
  sc : X.env.scope = k.sc
  fk : k.sc.kind = .function
  fn : ∀ x, k.fn x = true → X.fn x = true
  room : Room lv X.A
  gd : X.A.guards = some []
  calm : X.calm = true
  tk : Takes X (wD T B Ex)
  calls : ∀ j x, k.nm.lookup j = some x → ∃ u, X.mg x = some u ∧ (PySem.W.keepIn X.K u = true ∨ ∃ id, u = .builtin id) ∧ FnV X.prog X.w X.K X.mg X.base lv u (spD T (v.Φ j))
  bt : ∀ x, k.bt.contains x = true → X.mg x = none
  gl : ∀ x, k.gl.contains x = true → ∃ a, X.mg x = some (.ref a)
  kit : KitOk T v.cs
  cs : k.cs = v.cs
  clo : ∀ n caps a, FnV X.prog X.w X.K X.mg X.base lv (.ref a) (spClo T (v.cl n caps) n caps a)
  callS : ∀ j x, k.ns.lookup j = some x → ∀ (p pos : Pos) (e : Expr) (es : List Expr) (t : TDa), Gl X x → (x == ("__debug__" : Str)) = false → PA X (e :: es) (upA T B t) → starEach (e :: es) X.env = (false, eval e X.env) :: starEach es X.env → (backTo pos (starEach es X.env)).any (·.1) = false →
    PE X (.Call (.Name x p) (e :: es) [] pos) (up T B (dCallS (v.Φ j) v.lf t))
  lo : ∀ n ps body sc pos, k.lo n ps body sc = true → PE X (.Lambda ps body sc pos) (up T B (dC (.lam n)))
  rz : ∀ j x c n fs, k.rn.lookup j = some x → v.rz j = some (c, n, fs) → x = c ∧ ∃ C, T.mg c = some (.ref C) ∧ RzV X.prog X.w X.K X.mg X.base lv x C n fs ∧ ∀ p ∈ fs, 0 < p.2 ∧ p.2 < n + 1
  ci : ∀ (i : Nat) x, k.rn.lookup (1000000 + i) = some x → ∃ t, T.mg x = some (.int i t)

section
variable {T : Tx} {v : Ev} {k : Ck} {lv : Nat} {B : Bs} {Ex : Xc → Nat → Prop} {X : Cx}
theorem star_of {e : Expr} (h : notStar e = true) (es : List Expr) (env : Env) : starEach (e :: es) env = (false, eval e env) :: starEach es env := by
  cases e <;> first | rfl | cases h
theorem XO.units (o : XO T v k lv B Ex X) : X.A.units + 66 < cLine := by have := o.room.un; omega
theorem XO.gl_ (o : XO T v k lv B Ex X) {x : Str} (h : k.glb x = true) : Gl X x ∧ (x == ("__debug__" : Str)) = false := by
  simp only [Ck.glb, dbg, Bool.and_eq_true, beq_iff_eq, Bool.not_eq_true'] at h
  refine ⟨?_, h.2⟩
  unfold Gl Env.kindOf
  rw [o.sc]; exact h.1
theorem XO.blt_ (o : XO T v k lv B Ex X) {x y : Str} (h : k.blt x y = true) : x = y ∧ Gl X x ∧ X.mg x = none ∧ (x == ("__debug__" : Str)) = false := by
  simp only [Ck.blt, Bool.and_eq_true, beq_iff_eq] at h
  obtain ⟨⟨h1, h2⟩, h3⟩ := h
  obtain ⟨g, d⟩ := o.gl_ h2
  exact ⟨h1, g, o.bt x h3, d⟩
theorem XO.var_ (o : XO T v k lv B Ex X) {i : Nat} {x : Str} {pos : Pos} (h : k.var i x = true) : PE X (.Name x pos) (tVar i) := by
  simp only [Ck.var, dbg, cdc, Bool.and_eq_true, decide_eq_true_eq, Bool.not_eq_true'] at h
  obtain ⟨⟨⟨h1, h2⟩, h3⟩, h4⟩ := h
  refine pe_var (o.N ▸ h1) ?_ h3 h4
  unfold Vis
  rw [o.sc]
  unfold Ck.vis at h2
  split at h2
  · exact .inl (by assumption)
  · exact .inr (.inl (by assumption))
  · exact .inr (.inr (by assumption))
  · cases h2
theorem call1_is {y : Str} {e x : Expr} (h : call1 k y e = some x) : ∃ n p pos, e = .Call (.Name n p) [x] [] pos ∧ k.blt n y = true ∧ notStar x = true := by
  unfold call1 at h
  split at h
  · split at h
    · rename_i h2
      cases h
      rw [Bool.and_eq_true] at h2
      exact ⟨_, _, _, rfl, h2.1, h2.2⟩
    · cases h
  · cases h
theorem call2_is {y : Str} {e a b : Expr} (h : call2 k y e = some (a, b)) : ∃ n p pos, e = .Call (.Name n p) [a, b] [] pos ∧ k.blt n y = true ∧ notStar a = true ∧ notStar b = true := by
  unfold call2 at h
  split at h
  · split at h
    · rename_i h2
      cases h
      rw [Bool.and_eq_true, Bool.and_eq_true] at h2
      exact ⟨_, _, _, rfl, h2.1.1, h2.1.2, h2.2⟩
    · cases h
  · cases h
theorem b1_fn (o : XO T v k lv B Ex X) {y id : String} {e x : Expr} {F : F1} {t : TD} (h : call1 k y e = some x) (hc : CallR X (.builtin id) (rC1 T B.P F)) (hv : bootBuiltins y = some (.builtin id)) (hn : Str.ofString y ≠ "__name__") (hx : PE X x (up T B t)) : PE X e (up T B (dUn F t)) := by
  obtain ⟨n, p, pos, rfl, h1, h2⟩ := call1_is h
  obtain ⟨rfl, g, m, d⟩ := o.blt_ h1
  exact PE.imp (pe_callB hc g m hv (pa_cons hx pa_nil (star_of h2 _ _)) hn d (star_of h2 _ _) rfl) fun σ H Q q => up_b1 q
theorem b1_ty (o : XO T v k lv B Ex X) {y id : String} {e x : Expr} {F : F1} {t : TD} (h : call1 k y e = some x) (hc : CallR X (.type id) (rC1 T B.P F)) (hv : bootBuiltins y = some (.type id)) (hn : Str.ofString y ≠ "__name__") (hx : PE X x (up T B t)) : PE X e (up T B (dUn F t)) := by
  obtain ⟨n, p, pos, rfl, h1, h2⟩ := call1_is h
  obtain ⟨rfl, g, m, d⟩ := o.blt_ h1
  exact PE.imp (pe_callTy hc g m hv (pa_cons hx pa_nil (star_of h2 _ _)) hn d (star_of h2 _ _) rfl) fun σ H Q q => up_b1 q
theorem b2_fn (o : XO T v k lv B Ex X) {y id : String} {e a b : Expr} {F : F2} {t u : TD} (h : call2 k y e = some (a, b)) (hc : CallR X (.builtin id) (rC2 T B.P F)) (hv : bootBuiltins y = some (.builtin id)) (hn : Str.ofString y ≠ "__name__") (ha : PE X a (up T B t)) (hb : PE X b (up T B u)) : PE X e (up T B (dBin F t u)) := by
  obtain ⟨n, p, pos, rfl, h1, h2, h3⟩ := call2_is h
  obtain ⟨rfl, g, m, d⟩ := o.blt_ h1
  exact PE.imp (pe_callB hc g m hv (pa_cons ha (pa_cons hb pa_nil (star_of h3 _ _)) (star_of h2 _ _)) hn d (star_of h2 _ _) (by rw [star_of h3]; rfl)) fun σ H Q q => up_b2 q
/-- a class that isinstance names -/
theorem isTy_is (o : XO T v k lv B Ex X) {t : TyS} {e : Expr} (h : isTy k t e = true) : ∃ c u, PE X e (tC c) ∧ TyVs T v.cs [t] [c] [u] := by
  unfold isTy at h
  split at h
  · rename_i n x p
    simp only [Bool.and_eq_true, List.contains_iff_mem] at h
    obtain ⟨⟨h1, h2⟩, h3⟩ := h
    obtain ⟨rfl, g, m, d⟩ := o.blt_ h1
    have hb : bootBuiltins (Str.ofString n) = some (.type n) ∧ Str.ofString n ≠ "__name__" := by
      simp only [List.mem_cons, List.not_mem_nil, or_false] at h3
      rcases h3 with rfl | rfl | rfl | rfl | rfl | rfl
      · exact ⟨PyProof.Rows.boot_int, by decide⟩
      · exact ⟨PyProof.Rows.boot_bool, by decide⟩
      · exact ⟨PyProof.Rows.boot_str, by decide⟩
      · exact ⟨PyProof.Rows.boot_tuple, by decide⟩
      · exact ⟨PyProof.Rows.boot_list, by decide⟩
      · exact ⟨PyProof.Rows.boot_dict, by decide⟩
    exact ⟨.ty n, .type n, pe_bltn g m hb.1 rfl hb.2 d, .ty h2 .nil⟩
  · rename_i c x p
    simp only [Bool.and_eq_true, beq_iff_eq, List.contains_iff_mem] at h
    obtain ⟨⟨⟨rfl, h1⟩, h2⟩, h3⟩ := h
    obtain ⟨g, d⟩ := o.gl_ h1
    obtain ⟨a, ea⟩ := o.gl x (by simpa using h2)
    exact ⟨.ref a, .ref a, pe_glob g ea rfl d, .own (o.cs ▸ h3) (o.mg ▸ ea) .nil⟩
  · cases h
theorem TyVs.cons {cs : List Str} {t : TyS} {c : V} {u : Value} {ts : List TyS} {vs : List V} {us : List Value} (h : TyVs T cs [t] [c] [u]) (k : TyVs T cs ts vs us) : TyVs T cs (t :: ts) (c :: vs) (u :: us) := by
  cases h with
  | ty a _ => exact .ty a k
  | own a b _ => exact .own a b k
theorem isTys_is (o : XO T v k lv B Ex X) : ∀ {ts : List TyS} {es : List Expr}, isTys k ts es = true → ∃ vs us, PA X es (tCs vs) ∧ TyVs T v.cs ts vs us
  | [], [], _ => ⟨[], [], pa_nil, .nil⟩
  | t :: ts, e :: es, h => by
    simp only [isTys, Bool.and_eq_true] at h
    obtain ⟨⟨h1, h2⟩, h3⟩ := h
    obtain ⟨c, u, hc, hv⟩ := isTy_is o h1
    obtain ⟨vs, us, hvs, hus⟩ := isTys_is o h3
    exact ⟨c :: vs, u :: us, pa_tcons hc hvs (star_of h2 _ _), hv.cons hus⟩
  | [], _ :: _, h => by simp [isTys] at h
  | _ :: _, [], h => by simp [isTys] at h
theorem sB1 (o : XO T v k lv B Ex X) {f : B1} {e x : Expr} {t : TD} (h : argB1 k f e = some x) (hx : PE X x (up T B t)) : PE X e (up T B (dUn (fB1 v f) t)) := by
  have hu := o.units
  unfold argB1 at h
  split at h
  · exact b1_fn o h (cd_len o.K) boot_len (by decide) hx
  · exact b1_ty o h (cd_tuple o.K) PyProof.Rows.boot_tuple (by decide) hx
  · exact b1_ty o h (cd_list o.K) PyProof.Rows.boot_list (by decide) hx
  · exact b1_fn o h (cd_all o.calm) (by decide +kernel) (by decide) hx
  · exact b1_fn o h (cd_any o.calm) (by decide +kernel) (by decide) hx
  · exact b1_fn o h (cd_sum o.calm) PyProof.Rows.boot_sum (by decide) hx
  · exact b1_fn o h cd_abs (by decide +kernel) (by decide) hx
  · exact b1_ty o h cd_int PyProof.Rows.boot_int (by decide) hx
  · exact b1_fn o h (cd_maxL o.calm) PyProof.Rows.boot_max (by decide) hx
  · exact b1_fn o h (cd_minL o.calm) PyProof.Rows.boot_min (by decide) hx
  · exact b1_fn o h (cd_repr o.K o.gd hu) PyProof.Rows.boot_repr (by decide) hx
  · exact b1_ty o h cd_str PyProof.Rows.boot_str (by decide) hx
  · exact b1_fn o h (cd_sorted o.K (by omega)) PyProof.Rows.boot_sorted (by decide) hx
  · cases h
    exact PE.imp (pe_un (opd_neg (T := T) (P := B.P)) hx) fun σ H Q q => up_un q
  · split at h
    · rename_i h2
      cases h
      rw [Bool.and_eq_true, beq_iff_eq] at h2
      obtain ⟨rfl, h2⟩ := h2
      exact pe_att o.K h2 hx
    · cases h
  · cases h
    exact pe_revD o.K hx
  · split at h
    · rename_i h2
      cases h
      simp only [Bool.and_eq_true] at h2
      obtain ⟨⟨h1, h2⟩, h3⟩ := h2
      obtain ⟨rfl, g, m, d⟩ := o.blt_ h1
      obtain ⟨rfl, g2, m2, d2⟩ := o.blt_ h2
      exact pe_rgT1 o.calm g m g2 m2 hx (star_of h3 _ _)
    · cases h
  · split at h
    · rename_i h2
      cases h
      simp only [Bool.and_eq_true] at h2
      obtain ⟨⟨h1, h2⟩, h3⟩ := h2
      obtain ⟨rfl, g, m, d⟩ := o.blt_ h1
      obtain ⟨rfl, g2, m2, d2⟩ := o.blt_ h2
      exact pe_rgL1 o.calm g m g2 m2 hx (star_of h3 _ _)
    · cases h
  · split at h
    · rename_i h2
      cases h
      simp only [Bool.and_eq_true] at h2
      obtain ⟨⟨h1, h2⟩, h3⟩ := h2
      obtain ⟨rfl, g, m, d⟩ := o.blt_ h1
      obtain ⟨rfl, g2, m2, d2⟩ := o.blt_ h2
      exact pe_ssetD o.K o.calm (by omega) g m g2 m2 hx (star_of h3 _ _)
    · cases h
  · split at h
    · rename_i h2
      cases h
      simp only [Bool.and_eq_true] at h2
      obtain ⟨⟨⟨h1, h2⟩, h3⟩, h4⟩ := h2
      obtain ⟨rfl, g, m, d⟩ := o.blt_ h1
      obtain ⟨c, u, hc, hv⟩ := isTy_is o h4
      exact pe_isi1 o.K o.kit g m hx hc hv (star_of h2 _ _) (star_of h3 _ _)
    · cases h
  · split at h
    · rename_i h2
      cases h
      simp only [Bool.and_eq_true, decide_eq_true_eq] at h2
      obtain ⟨⟨⟨h1, h2⟩, h3⟩, h4⟩ := h2
      obtain ⟨rfl, g, m, d⟩ := o.blt_ h1
      obtain ⟨vs, us, hc, hv⟩ := isTys_is o h3
      exact pe_isiT o.K o.kit g m hx hc hv h4 (star_of h2 _ _)
    · cases h
  · split at h
    · rename_i h2
      cases h
      simp only [Bool.and_eq_true, beq_iff_eq] at h2
      obtain ⟨⟨rfl, h2⟩, h3⟩ := h2
      exact pe_bitD hx (base_of h2) (beq_iff_eq.mpr h3)
    · cases h
  · cases h
theorem plainIx_of {e : Expr} (h : notSlice e = true) : PlainIx e := fun a b => by cases e <;> first | rfl | cases h
theorem sB2 (o : XO T v k lv B Ex X) {f : B2} {e x y : Expr} {t u : TD} (h : argB2 k f e = some (x, y)) (hx : PE X x (up T B t)) (hy : PE X y (up T B u)) : PE X e (up T B (dBin (fB2 f) t u)) := by
  have hu := o.units
  unfold argB2 at h
  split at h
  · split at h
    · rename_i h2
      cases h
      rw [beq_iff_eq] at h2
      subst h2
      exact PE.imp (pe_op (opd_fOp (P := B.P) o.K _) hx hy) fun σ H Q q => up_bin q
    · cases h
  · split at h
    · rename_i h2
      cases h
      rw [Bool.and_eq_true, beq_iff_eq, Bool.not_eq_true'] at h2
      obtain ⟨rfl, h2⟩ := h2
      exact PE.imp (pe_cmpR (opd_fCmp (P := B.P) o.K (by omega) _) hx hy h2) fun σ H Q q => up_bin q
    · cases h
  · split at h
    · rename_i h2
      cases h
      exact PE.imp (pe_ix (ixd (P := B.P) o.K) hx hy (plainIx_of h2)) fun σ H Q q => up_bin q
    · cases h
  · exact b2_fn o h (cd_max2 o.calm) PyProof.Rows.boot_max (by decide) hx hy
  · exact b2_fn o h (cd_min2 o.calm) PyProof.Rows.boot_min (by decide) hx hy
  · split at h
    · rename_i h2
      cases h
      simp only [Bool.and_eq_true] at h2
      obtain ⟨⟨⟨h1, h2⟩, h3⟩, h4⟩ := h2
      obtain ⟨rfl, g, m, d⟩ := o.blt_ h1
      obtain ⟨rfl, g2, m2, d2⟩ := o.blt_ h2
      exact pe_rgT2 o.calm g m g2 m2 hx hy (star_of h3 _ _) (star_of h4 _ _)
    · cases h
  · split at h
    · rename_i h2
      cases h
      simp only [Bool.and_eq_true] at h2
      obtain ⟨⟨⟨h1, h2⟩, h3⟩, h4⟩ := h2
      obtain ⟨rfl, g, m, d⟩ := o.blt_ h1
      obtain ⟨rfl, g2, m2, d2⟩ := o.blt_ h2
      exact pe_rgL2 o.calm g m g2 m2 hx hy (star_of h3 _ _) (star_of h4 _ _)
    · cases h
  · cases h
theorem sC (o : XO T v k lv B Ex X) {d : D} {e : Expr} (h : argC k d e = true) : PE X e (up T B (dC d)) := by
  unfold argC at h
  split at h
  · rw [beq_iff_eq] at h; subst h
    exact PE.imp pe_int fun σ H Q q => up_c (fun G => .int _) q
  · rw [beq_iff_eq] at h; subst h
    exact PE.imp pe_str fun σ H Q q => up_c (fun G => .str _) q
  · rename_i i x p
    simp only [Bool.and_eq_true, decide_eq_true_eq] at h
    obtain ⟨⟨h0, h1⟩, h2⟩ := h
    obtain ⟨g, d⟩ := o.gl_ h2
    unfold isNm at h1
    split at h1
    · rename_i y hy
      rw [beq_iff_eq] at h1
      subst h1
      obtain ⟨t, et⟩ := o.ci _ _ hy
      have e0 : ((i.toNat : Nat) : Int) = i := Int.toNat_of_nonneg h0
      rw [e0] at et
      exact PE.imp (pe_glob (v := .int i) g (o.mg ▸ et) ⟨t, rfl⟩ d) fun σ H Q q => up_c (fun G => .int _) q
    · cases h1
  · rw [beq_iff_eq] at h; subst h
    exact PE.imp pe_bl fun σ H Q q => up_c (fun G => .bl _) q
  · exact PE.imp pe_non fun σ H Q q => up_c (fun G => .non) q
  · simp only [Bool.and_eq_true, beq_iff_eq] at h
    obtain ⟨⟨rfl, h1⟩, h2⟩ := h
    obtain ⟨g, d⟩ := o.gl_ h1
    obtain ⟨a, ea⟩ := o.gl _ h2
    exact PE.imp (pe_glob (v := .ref a) g ea rfl d) fun σ H Q q => up_c (fun G => .glo (o.mg ▸ ea)) q
  · exact o.lo _ _ _ _ _ h
  · cases h
end
end Sh
namespace Sh
open L2 PySem PySem.Spec PyProof.Rows

section
variable {T : Tx} {v : Ev} {k : Ck} {lv : Nat} {B : Bs} {Ex : Xc → Nat → Prop} {X : Cx}
theorem XO.loc_ (o : XO T v k lv B Ex X) {x : Str} (h : k.loc x = true) : L2.Loc X.env.scope x := by
  unfold L2.Loc
  rw [o.sc]
  unfold Ck.loc at h
  split at h
  · exact .inl (by assumption)
  · exact .inr (by assumption)
  · cases h
theorem XO.sto_ (o : XO T v k lv B Ex X) {i : Nat} {x : Str} (h : k.sto i x = true) : X.N[i]? = some x ∧ L2.Loc X.env.scope x ∧ (X.fn x = true ∨ X.env.scope.names.lookup x = some .local) := by
  simp only [Ck.sto, Bool.and_eq_true, decide_eq_true_eq, Bool.or_eq_true, beq_iff_eq] at h
  obtain ⟨⟨h1, h2⟩, h3⟩ := h
  refine ⟨o.N ▸ h1, o.loc_ h2, h3.elim (fun h => .inl (o.fn x h)) fun h => .inr (by rw [o.sc]; exact h)⟩
theorem bdTs_len : ∀ {l : RTs} {ds : List D} {ρ ρ' : List Sv} {es : List Expr}, okGs k l es = true → bdTs l ds ρ = some ρ' → ds.length = es.length
  | .nil, [], _, _, [], _, _ => rfl
  | .nil, [], _, _, _ :: _, h, _ => by simp [okGs] at h
  | .nil, _ :: _, _, _, _, _, e => by simp [bdTs] at e
  | .cons a l, [], _, _, _, _, e => by simp [bdTs] at e
  | .cons a l, d :: ds, _, _, [], h, _ => by simp [okGs] at h
  | .cons a l, d :: ds, ρ, ρ', e :: es, h, q => by
    simp only [okGs, Bool.and_eq_true] at h
    have q : (bdT a d ρ).bind (fun ρ' => bdTs l ds ρ') = some ρ' := q
    obtain ⟨ρ1, _, e2⟩ := Option.bind_eq_some_iff.mp q
    exact congrArg (· + 1) (bdTs_len h.2 e2)
theorem okGs_star : ∀ {l : RTs} {es : List Expr} {env : Env}, okGs k l es = true → (assignEach es env).length = es.length ∧ (assignEach es env).findIdx? (·.1) = none
  | .nil, [], _, _ => ⟨rfl, rfl⟩
  | .nil, _ :: _, _, h => by simp [okGs] at h
  | .cons _ _, [], _, h => by simp [okGs] at h
  | .cons a l, e :: es, env, h => by
    simp only [okGs, Bool.and_eq_true] at h
    obtain ⟨h1, h2⟩ := okGs_star (env := env) h.2
    have e1 : assignEach (e :: es) env = (false, assign e env) :: assignEach es env := by
      have := h.1.2
      cases e <;> first | rfl | cases this
    rw [e1]
    refine ⟨by simp [h1], ?_⟩
    rw [List.findIdx?_cons]
    simp [h2]
theorem assignEach_cons {e : Expr} (h : notStar e = true) (es : List Expr) (env : Env) : (assignEach (e :: es) env).map (·.2) = assign e env :: (assignEach es env).map (·.2) := by
  cases e <;> first | rfl | cases h
mutual
theorem sG (o : XO T v k lv B Ex X) : ∀ (g : RT) (e : Expr), okG k g e = true → PG X e (upG T B g)
  | .nm i, e, h => by
    cases e with
    | Name x p =>
      obtain ⟨h1, h2, h3⟩ := o.sto_ (show k.sto i x = true from h)
      exact PG.imp (pg_name (o.N ▸ o.nd) h1 h2 h3) fun v σ H Q q => upG_nm q
    | _ => simp [okG] at h
  | .tp l, e, h => by
    cases e with
    | Tuple es kk p =>
      have h : okGs k l es = true := h
      obtain ⟨h1, h2⟩ := okGs_star (env := X.env) h
      exact PG.imp (pg_tup o.calm (sGs o l es h) h1 h2) fun v σ H Q q => upG_tp o.K (fun ds ρ ρ' e => bdTs_len h e) q
    | _ => simp [okG] at h
theorem sGs (o : XO T v k lv B Ex X) : ∀ (g : RTs) (es : List Expr), okGs k g es = true → PGs X es (upGs T B g)
  | .nil, [], _ => PGs.imp pgs_nil fun v σ H Q q => upGs_nil q
  | .nil, _ :: _, h => by simp [okGs] at h
  | .cons _ _, [], h => by simp [okGs] at h
  | .cons a l, e :: es, h => by
    simp only [okGs, Bool.and_eq_true] at h
    exact PGs.imp (pgs_cons (sG o a e h.1.1) (sGs o l es h.2) (assignEach_cons h.1.2 _ _)) fun v σ H Q q => upGs_cons q
end
/-- a block of a comprehension -/
theorem XO.blk (o : XO T v k lv B Ex X) {s : Scope} (hs : s.kind = .function) (sh : Shared) (H : Hp) (C : Addr) (cl : List (Str × Addr)) (fp : List Addr) : XO T v (k.blk s) lv B noX (X.blk sh H s (compEnvC s cl C X.env) fp) where
  K := o.K
  mg := o.mg
  N := o.N
  nd := o.nd
  sc := by
    show relS s X.env.scope = relS s k.sc
    rw [o.sc]
  fk := hs
  fn := fun x h => h
  room := o.room
  gd := o.gd
  calm := o.calm
  tk := fun u s' x => by
    obtain ⟨_, _, _, _, _, _, _, _, _, _, _, _, _, _, _, _, _, _, _, z⟩ := x
    exact z.2.2
  calls := o.calls
  bt := o.bt
  gl := o.gl
  kit := o.kit
  ci := o.ci
  cs := o.cs
  clo := o.clo
  callS := fun _ _ h => by cases h
  lo := fun _ _ _ _ _ h => by cases h
  rz := o.rz
end

section
variable {T : Tx} {P : Px} {G : Hp}
theorem ite_ok {K : PySem.W.Frag} (hK : K = T.K) {a : Addr} {vs : List V} {l : List D} (hg : ∀ H, Sub G H → SqL K H a vs) (h : Hl T P G l vs) : ItOk T P G (Ite K a) (enumD l) := fun i H s => by
  have en : (enumD l)[i]? = l[i]?.map fun d => .tup [.int (i : Nat), d] := by
    unfold enumD
    rw [List.getElem?_map, List.getElem?_zipIdx, Option.map_map]
    cases l[i]? <;> simp
  refine ⟨fun d e => ?_, fun e => ?_⟩
  · rw [en, Option.map_eq_some_iff] at e
    obtain ⟨d', e, rfl⟩ := e
    obtain ⟨v, h1, h2⟩ := h.get e
    refine ⟨⟨vs, v, hg H s, h1⟩, fun x H' y => .inr ?_⟩
    obtain ⟨p, w, rfl, hp, rfl, hw⟩ := y
    have := hw vs (hg H s)
    rw [h1] at this; cases this
    exact ⟨p, _, _, rfl, hp, rfl, rfl, .cons (.int _) (.cons h2 .nil)⟩
  · rw [en, Option.map_eq_none_iff] at e
    exact ⟨vs, hg H s, by rw [← h.length]; exact List.getElem?_eq_none_iff.mp e⟩
theorem zip_some {l m : List D} {i : Nat} {d : D} : (zipD l m)[i]? = some d ↔ ∃ a b, l[i]? = some a ∧ m[i]? = some b ∧ d = .tup [a, b] := by
  unfold zipD
  rw [List.getElem?_map, Option.map_eq_some_iff]
  refine ⟨fun ⟨p, e, q⟩ => ?_, fun ⟨a, b, h1, h2, e⟩ => ⟨(a, b), List.getElem?_zip_eq_some.mpr ⟨h1, h2⟩, e.symm⟩⟩
  obtain ⟨h1, h2⟩ := List.getElem?_zip_eq_some.mp e
  exact ⟨p.1, p.2, h1, h2, q.symm⟩
theorem zip_none {l m : List D} {i : Nat} (h : (zipD l m)[i]? = none) : l.length ≤ i ∨ m.length ≤ i := by
  by_cases h1 : i < l.length
  · by_cases h2 : i < m.length
    · have := zip_some.mpr ⟨_, _, List.getElem?_eq_getElem h1, List.getElem?_eq_getElem h2, rfl⟩
      rw [h] at this; cases this
    · exact .inr (by omega)
  · exact .inl (by omega)
theorem itz_ok {K : PySem.W.Frag} {a b : Addr} {vs us : List V} {l m : List D} (hg : ∀ H, Sub G H → SqL K H a vs) (hg' : ∀ H, Sub G H → SqL K H b us) (h : Hl T P G l vs) (h' : Hl T P G m us) : ItOk T P G (Itz K a b) (zipD l m) := fun i H s => by
  refine ⟨fun d e => ?_, fun e => ?_⟩
  · obtain ⟨x, y, e1, e2, rfl⟩ := zip_some.mp e
    obtain ⟨v, h1, h2⟩ := h.get e1
    obtain ⟨u, k1, k2⟩ := h'.get e2
    refine ⟨⟨vs, us, v, u, hg H s, hg' H s, h1, k1⟩, fun z H' y' => .inr ?_⟩
    obtain ⟨p, w, w', rfl, hp, rfl, hw, hw'⟩ := y'
    have q1 := hw vs (hg H s)
    have q2 := hw' us (hg' H s)
    rw [h1] at q1; cases q1
    rw [k1] at q2; cases q2
    exact ⟨p, _, _, rfl, hp, rfl, rfl, .cons h2 (.cons k2 .nil)⟩
  · refine ⟨vs, us, hg H s, hg' H s, ?_⟩
    rw [← h.length, ← h'.length]
    exact zip_none e
theorem itzT_ok {K : PySem.W.Frag} {a b : Addr} {vs us : List V} {l m : List D} (hg : ∀ H, Sub G H → SqT K H a vs) (hg' : ∀ H, Sub G H → SqT K H b us) (h : Hl T P G l vs) (h' : Hl T P G m us) : ItOk T P G (RZ.ItzT K a b) (zipD l m) := fun i H s => by
  refine ⟨fun d e => ?_, fun e => ?_⟩
  · obtain ⟨x, y, e1, e2, rfl⟩ := zip_some.mp e
    obtain ⟨v, h1, h2⟩ := h.get e1
    obtain ⟨u, k1, k2⟩ := h'.get e2
    refine ⟨⟨vs, us, v, u, hg H s, hg' H s, h1, k1⟩, fun z H' y' => .inr ?_⟩
    obtain ⟨p, w, w', rfl, hp, rfl, hw, hw'⟩ := y'
    have q1 := hw vs (hg H s)
    have q2 := hw' us (hg' H s)
    rw [h1] at q1; cases q1
    rw [k1] at q2; cases q2
    exact ⟨p, _, _, rfl, hp, rfl, rfl, .cons h2 (.cons k2 .nil)⟩
  · refine ⟨vs, us, hg H s, hg' H s, ?_⟩
    rw [← h.length, ← h'.length]
    exact zip_none e
variable {B : Bs} {σ : L2.St} {H : Hp} {R : It → Hp → Prop}
theorem up_iEnum {K : PySem.W.Frag} (hK : K = T.K) {t : TDa} (q : upI T B (diEnumA t) σ H R) : iEnum K (upA T B t) σ H R := by
  obtain ⟨n, τ, G, Kd, R0, t, q⟩ := q
  refine ⟨n, τ, G, _, R0, t, fun ds n1 vs H1 G1 R1 s1 k1 t1 => ?_⟩
  obtain ⟨l, rfl, t1⟩ := t1
  cases k1 with
  | cons h t =>
    cases t
    obtain ⟨a, vs, rfl, hg, hv⟩ := hd_lst h
    have at_ : ∀ H, Sub G1 H → SqL K H a vs := fun H s => SqL.of (s _ _ hg)
    exact ⟨a, vs, rfl, at_ _ R1.sub, q _ n1 _ H1 G1 R1 s1 (ite_ok hK at_ hv) t1⟩
theorem up_iZip {K : PySem.W.Frag} (hK : K = T.K) {t : TDa} (q : upI T B (diZipA t) σ H R) : RZ.iZipA K (upA T B t) σ H R := by
  obtain ⟨n, τ, G, Kd, R0, t, q⟩ := q
  refine ⟨n, τ, G, _, R0, t, fun ds n1 vs H1 G1 R1 s1 k1 t1 => ?_⟩
  obtain ⟨l, m, e, t1⟩ := t1
  rcases e with rfl | rfl
  · cases k1 with
    | cons h t =>
      cases t with
      | cons h' t =>
        cases t
        obtain ⟨a, vs, rfl, hg, hv⟩ := hd_lst h
        obtain ⟨b, us, rfl, hg', hu⟩ := hd_lst h'
        have at_ : ∀ H, Sub G1 H → SqL K H a vs := fun H s => SqL.of (s _ _ hg)
        have bt_ : ∀ H, Sub G1 H → SqL K H b us := fun H s => SqL.of (s _ _ hg')
        exact ⟨a, b, vs, us, rfl, .inl ⟨at_ _ R1.sub, bt_ _ R1.sub, q _ n1 _ H1 G1 R1 s1 (itz_ok at_ bt_ hv hu) t1⟩⟩
  · cases k1 with
    | cons h t =>
      cases t with
      | cons h' t =>
        cases t
        obtain ⟨a, vs, rfl, hg, hv⟩ := hd_tup h
        obtain ⟨b, us, rfl, hg', hu⟩ := hd_tup h'
        subst hK
        exact ⟨a, b, vs, us, rfl, .inr ⟨hg _ R1.sub, hg' _ R1.sub, q _ n1 _ H1 G1 R1 s1 (itzT_ok hg hg' hv hu) t1⟩⟩
end
end Sh
set_option maxHeartbeats  4000000
namespace Sh
open L2 PySem PySem.Spec PyProof.Rows

def isBo : Expr → Bool
  | .BoolOp _ _ _ => true
  | _ => false
theorem base_name {x m : Str} {p : Pos} {env : Env} {w : Sem Value} : attributeBase (.Name x p) m env w = w := rfl
section
variable {T : Tx} {v : Ev} {B : Bs} {lv : Nat}
theorem isT_plain {e : Expr} (h : plainT e = true) (env : Env) (whole : Sem Value) : isTrue e env whole = (do let v ← whole; standAt e.pos; holding [v] (truthy v)) := by
  cases e <;> try rfl
  · cases h
  · rename_i op _ _
    cases op <;> first | rfl | cases h
  · cases h
  · cases h
theorem up_tB {t : TD} {X : Cx} {e : Expr} (h : PT X e (tB (up T B t))) : PT X e (upT T B (dtOf t)) := PT.imp h fun σ H Q q => up_tOf q
theorem up_tT {t : TD} {σ : L2.St} {H : Hp} {Q : Bool → Hp → Prop} (q : upT T B (dtOf t) σ H Q) : tTest (up T B t) σ H Q := up_tOf q
theorem PW.imp {X : Cx} {e : Expr} {t t' : TT} (h : PW X e t) (i : ∀ σ H Q, t' σ H Q → t σ H Q) : PW X e t' := ⟨fun w pins s σ H Q I q => h.run w pins s σ H Q I (i σ H Q q)⟩
theorem XO.pass {k : Ck} {Ex : Xc → Nat → Prop} {X : Cx} (o : XO T v k lv B Ex X) : ∀ pins σ H s e s', Inv X pins σ H s → L2.CX X.prog X.w X.stack H s (exD T B Ex) e s' → X.xe e s' :=
  fun pins σ H s e s' I c => L2.passes_call (W := wD T B Ex) o.tk (fun cls d σ H h => h) pins σ H s e s' I c
theorem tYes_of {σ : L2.St} {H : Hp} {Q : Bool → Hp → Prop} (q : upT T B dYes σ H Q) : tYes σ H Q := by
  obtain ⟨n, τ, G, K, R, t, q⟩ := q
  exact q true n H G R (.refl G) t
theorem own_map (k : Ck) : ∀ l : List Nat, (k.own l).map (·.2) = l
  | [] => rfl
  | i :: l => congrArg (i :: ·) (own_map k l)
theorem okXs_star {k : Ck} {env : Env} {pos : Pos} : ∀ {l : RXs} {es : List Expr}, okXs k l es = true → (backTo pos (starEach es env)).any (·.1) = false
  | .nil, [], _ => rfl
  | .nil, _ :: _, h => by simp [okXs] at h
  | .cons _ _, [], h => by simp [okXs] at h
  | .cons a l, e :: es, h => by
    simp only [okXs, Bool.and_eq_true] at h
    rw [star_of h.1.2]
    show (false || (backTo pos (starEach es env)).any (·.1)) = false
    rw [okXs_star h.2]
    rfl
theorem okXs_few {k : Ck} {env : Env} {pos : Pos} {l : RXs} {es : List Expr} (h : okXs k l es = true) (hl : es.length < 30) : ((backTo pos (starEach es env)).all (fun x => !x.1) && (backToKw pos (keywordEach [] env)).all (fun x => x.1.isSome)
      && decide (es.length + ([] : List Keyword).length + (if ([] : List Keyword).isEmpty then 0 else 1) < 30)) = true := by
  have e : (backTo pos (starEach es env)).all (fun x => !x.1) = true := by
    have q := okXs_star (env := env) (pos := pos) h
    rw [List.any_eq_false] at q
    rw [List.all_eq_true]
    intro x hx
    simpa using q x hx
  rw [e]
  simp [backToKw, keywordEach, hl]
theorem set_of {e : Expr} (h : notSet e = true) (env : Env) (y : Value) : foldedSetIterable e env y = pure y := by
  cases e <;> first | rfl | cases h
theorem up_bin_t {F : F2} {t u : TD} {σ : L2.St} {H : Hp} {Q : Bool → Hp → Prop} (q : upT T B (dtOf (dBin F t u)) σ H Q) : tTest (tOp (rF2 T B.P F) (up T B t) (up T B u)) σ H Q :=
  up_bin (Q := fun x H' => ∃ k, x = .bl k ∧ Q k H') (up_tOf q)
theorem up_chain_t {F F' : F2} {t u w : TD} {σ : L2.St} {H : Hp} {Q : Bool → Hp → Prop} (q : upT T B (dtOf (dChain F F' t u w)) σ H Q) : tTest (tChain (rF2 T B.P F) (rF2 T B.P F') (up T B t) (up T B u) (up T B w)) σ H Q :=
  up_chain (Q := fun x H' => ∃ k, x = .bl k ∧ Q k H') (up_tOf q)
theorem PTs.imp {X : Cx} {e : List Expr} {t t' : TT} (h : PTs X e t) (i : ∀ σ H Q, t' σ H Q → t σ H Q) : PTs X e t' := ⟨fun pins s σ H Q I q => h.run pins s σ H Q I (i σ H Q q)⟩
theorem upA_mono1 {t : TD} {σ : L2.St} {H : Hp} {Q : List V → Hp → Prop} (q : tCons (up T B t) (upA T B dNil) σ H Q) : tCons (up T B t) tNil σ H Q := by
  obtain ⟨n, τ, G, K, R, t, q⟩ := q
  exact ⟨n, τ, G, K, R, t, fun r n' v H' G' a b c d => up_nil (q r n' v H' G' a b c d)⟩
theorem upA_mono2 {t u : TD} {σ : L2.St} {H : Hp} {Q : List V → Hp → Prop} (q : tCons (up T B t) (upA T B (dCons u dNil)) σ H Q) : tCons (up T B t) (tCons (up T B u) tNil) σ H Q := by
  obtain ⟨n, τ, G, K, R, t, q⟩ := q
  exact ⟨n, τ, G, K, R, t, fun r n' v H' G' a b c d => upA_mono1 (up_cons (q r n' v H' G' a b c d))⟩
theorem isNm_is {l : List (Nat × Str)} {j : Nat} {x : Str} (h : isNm l j x = true) : l.lookup j = some x := by
  unfold isNm at h
  split at h
  · rename_i e; rw [e, beq_iff_eq.mp h]
  · cases h
theorem up_dnewK {T : Tx} {B : Bs} {σ : L2.St} {H : Hp} {Q : VK} (q : up T B (dDct false) σ H Q) : tDNewK σ H Q := by
  obtain ⟨n, τ, G, K, R, k, q⟩ := q
  intro p hp
  exact q (.tmp (.dct false [])) n (.ref p) _ G (R.laid _ hp) (.refl _) ⟨p, _, rfl, ⟨R.fresh hp, upd_same, trivial, .dK .nil⟩, R.tmp_ne hp, R.slot_ne hp⟩ k
theorem up_dnewT {T : Tx} {B : Bs} {σ : L2.St} {H : Hp} {Q : VK} (q : up T B (dDct true) σ H Q) : tDNewT σ H Q := by
  obtain ⟨n, τ, G, K, R, k, q⟩ := q
  intro p hp
  exact q (.tmp (.dct true [])) n (.ref p) _ G (R.laid _ hp) (.refl _) ⟨p, _, rfl, ⟨R.fresh hp, upd_same, trivial, .dT .nil⟩, R.tmp_ne hp, R.slot_ne hp⟩ k
mutual
theorem sX : ∀ (r : RX) {k : Ck} {Ex : Xc → Nat → Prop} {X : Cx} (o : XO T v k lv B Ex X) (e : Expr), okX k r e = true → PE X e (up T B (ev v Ex r))
  | .var i, k, Ex, X, o, e, h => by
    cases e with
    | Name x p => exact PE.imp (o.var_ (show k.var i x = true from h)) fun σ H Q q => up_var q
    | _ => simp [okX] at h
  | .c d, k, Ex, X, o, e, h => sC o (by simpa [okX] using h)
  | .b1 f a, k, Ex, X, o, e, h => by
    simp only [okX] at h
    cases hx : argB1 k f e with
    | none => rw [hx] at h; cases h
    | some x =>
      rw [hx] at h
      exact sB1 o hx (sX a o x h)
  | .b2 f a b, k, Ex, X, o, e, h => by
    simp only [okX] at h
    cases hx : argB2 k f e with
    | none => rw [hx] at h; cases h
    | some p =>
      obtain ⟨x, y⟩ := p
      rw [hx] at h
      simp only [Bool.and_eq_true] at h
      exact sB2 o hx (sX a o x h.1) (sX b o y h.2)
  | .chain q p a b c, k, Ex, X, o, e, h => by
    have hu := o.units
    cases e with
    | Compare x ops es pos =>
      match ops, es, h with
      | [q', r], [y, z], h =>
        simp only [okX, Bool.and_eq_true, beq_iff_eq, Bool.not_eq_true'] at h
        obtain ⟨⟨⟨⟨⟨rfl, rfl⟩, h1⟩, h2⟩, h3⟩, h4⟩ := h
        exact PE.imp (pe_chain (opd_fCmp (P := B.P) o.K (by omega) _) (opd_fCmp (P := B.P) o.K (by omega) _) (sX a o x h1) (sX b o y h2) (sX c o z h3) h4) fun σ H Q q => up_chain q
      | [], _, h => simp [okX] at h
      | [_], _, h => simp [okX] at h
      | _ :: _ :: _ :: _, _, h => simp [okX] at h
      | [_, _], [], h => simp [okX] at h
      | [_, _], [_], h => simp [okX] at h
      | [_, _], _ :: _ :: _ :: _, h => simp [okX] at h
    | _ => simp [okX] at h
  | .and a b, k, Ex, X, o, e, h => by
    cases e with
    | BoolOp op es p =>
      match op, es, h with
      | .And, [x, y], h =>
        simp only [okX, Bool.and_eq_true] at h
        exact PE.imp (L2.pe_and (sX a o x h.1) (pe_one (sX b o y h.2))) fun σ H Q q => up_and q
      | .And, x :: y :: z :: rest, h =>
        simp only [okX, Bool.and_eq_true] at h
        exact PE.imp (L2.pe_and (sX a o x h.1) (sX b o _ h.2)) fun σ H Q q => up_and q
      | .And, [], h => simp [okX] at h
      | .And, [_], h => simp [okX] at h
      | .Or, _, h => simp [okX] at h
    | _ => simp [okX] at h
  | .or a b, k, Ex, X, o, e, h => by
    cases e with
    | BoolOp op es p =>
      match op, es, h with
      | .Or, [x, y], h =>
        simp only [okX, Bool.and_eq_true] at h
        exact PE.imp (L2.pe_or (sX a o x h.1) (pe_one (sX b o y h.2))) fun σ H Q q => up_or q
      | .Or, x :: y :: z :: rest, h =>
        simp only [okX, Bool.and_eq_true] at h
        exact PE.imp (L2.pe_or (sX a o x h.1) (sX b o _ h.2)) fun σ H Q q => up_or q
      | .Or, [], h => simp [okX] at h
      | .Or, [_], h => simp [okX] at h
      | .And, _, h => simp [okX] at h
    | _ => simp [okX] at h
  | .not a, k, Ex, X, o, e, h => by
    cases e with
    | UnaryOp op x p =>
      cases op with
      | Not => exact PE.imp (L2.pe_not (sX a o x (by simpa [okX] using h))) fun σ H Q q => up_not q
      | _ => simp [okX] at h
    | _ => simp [okX] at h
  | .ite c a b, k, Ex, X, o, e, h => by
    cases e with
    | IfExp t x y p =>
      simp only [okX, Bool.and_eq_true] at h
      exact PE.imp (pe_ifExp (sCc c o t h.1.1).1 (sX a o x h.1.2) (sX b o y h.2)) fun σ H Q q => up_ite q
    | _ => simp [okX] at h
  | .tup l, k, Ex, X, o, e, h => by
    cases e with
    | Tuple es kk p => exact PE.imp (pe_tup (sXs l o es (by simpa [okX] using h))) fun σ H Q q => up_tup q
    | _ => simp [okX] at h
  | .lst l, k, Ex, X, o, e, h => by
    cases e with
    | List es p => exact PE.imp (pe_lst (sXs l o es (by simpa [okX] using h))) fun σ H Q q => up_lst q
    | _ => simp [okX] at h
  | .dctN t, k, Ex, X, o, e, h => by
    cases e with
    | Dict ks vs p =>
      cases ks with
      | nil =>
        cases vs with
        | nil =>
          cases t with
          | false => exact PE.imp pe_dnewK fun σ H Q q => up_dnewK q
          | true => exact PE.imp pe_dnewT fun σ H Q q => up_dnewT q
        | cons _ _ => simp [okX] at h
      | cons _ _ => simp [okX] at h
    | _ => simp [okX] at h
  | .cut a lo hi, k, Ex, X, o, e, h => by
    cases e with
    | Subscript x s p =>
      cases s with
      | Slice l u st p2 =>
        cases st with
        | none =>
          simp only [okX, Bool.and_eq_true] at h
          exact pe_cut o.K (sX a o x h.1.1) (sO lo o l h.1.2) (sO hi o u h.2)
        | some _ => simp [okX] at h
      | _ => simp [okX] at h
    | _ => simp [okX] at h
  | .call j l, k, Ex, X, o, e, h => by
    cases e with
    | Call f es kw pos =>
      cases f with
      | Name x p =>
        cases kw with
        | nil =>
          simp only [okX, Bool.and_eq_true] at h
          obtain ⟨⟨h1, h2⟩, h3⟩ := h
          have hj := isNm_is h1
          skip
          next =>
            obtain ⟨u, hm, hk, F⟩ := o.calls j x hj
            obtain ⟨g, d⟩ := o.gl_ h2
            have hA := sXs l o es h3
            cases l with
            | nil =>
              cases es with
              | nil => exact PE.imp (pe_callV0 F o.room o.gd g hm hk o.pass d) fun σ H Q q => up_nil (up_call q)
              | cons => simp [okXs] at h3
            | cons a l' =>
              cases es with
              | nil => simp [okXs] at h3
              | cons e es =>
                have h4 := h3
                simp only [okXs, Bool.and_eq_true] at h4
                exact PE.imp (pe_callV F o.room o.gd g hm hk o.pass hA d (star_of h4.1.2 _ _) (okXs_star h4.2)) fun σ H Q q => up_call q
        | cons => simp [okX] at h
      | _ => simp [okX] at h
    | _ => simp [okX] at h
  | .callV i l, k, Ex, X, o, e, h => by
    cases e with
    | Call f es kw pos =>
      cases f with
      | Name x p =>
        cases kw with
        | nil =>
          simp only [okX, Bool.and_eq_true] at h
          obtain ⟨h1, h3⟩ := h
          have hA := sXs l o es h3
          cases l with
          | nil =>
            cases es with
            | nil => exact pe_callC0 o.clo o.room o.gd o.pass (o.var_ h1)
            | cons => simp [okXs] at h3
          | cons a l' =>
            cases es with
            | nil => simp [okXs] at h3
            | cons e es =>
              have h4 := h3
              simp only [okXs, Bool.and_eq_true] at h4
              exact pe_callC o.clo o.room o.gd o.pass (o.var_ h1) hA (star_of h4.1.2 _ _) (okXs_star h4.2)
        | cons => simp [okX] at h
      | _ => simp [okX] at h
    | _ => simp [okX] at h
  | .callS j l, k, Ex, X, o, e, h => by
    cases e with
    | Call f es kw pos =>
      cases f with
      | Name x p =>
        cases es with
        | nil => simp [okX] at h
        | cons e es =>
          cases kw with
          | nil =>
            simp only [okX, Bool.and_eq_true] at h
            obtain ⟨⟨h1, h2⟩, h3⟩ := h
            obtain ⟨g, d⟩ := o.gl_ h2
            have hA := sXs l o (e :: es) h3
            cases l with
            | nil => simp [okXs] at h3
            | cons a l' =>
              have h4 := h3
              simp only [okXs, Bool.and_eq_true] at h4
              exact o.callS j x (isNm_is h1) p pos e es _ g d hA (star_of h4.1.2 _ _) (okXs_star h4.2)
          | cons => simp [okX] at h
      | _ => simp [okX] at h
    | _ => simp [okX] at h
  | .app i a, k, Ex, X, o, e, h => by
    cases e with
    | Call f es kw pos =>
      cases f with
      | Attribute y m ap =>
        cases y with
        | Name x p =>
          match es, kw, h with
          | [z], [], h =>
            simp only [okX, Bool.and_eq_true, beq_iff_eq] at h
            obtain ⟨⟨⟨⟨h1, rfl⟩, h3⟩, h4⟩, h5⟩ := h
            refine PE.imp (pe_bm PySem.F.plainAttrs_list PySem.F.slot_list_append PySem.F.type_list_append mt_append (o.var_ h1) (pa_cons (sX a o z h5) pa_nil (star_of h4 _ _)) base_name ?_ (beq_iff_eq.mpr h3) (star_of h4 _ _) rfl) fun σ H Q q => up_app q
            rw [star_of h4]
            rfl
          | [], _, h => simp [okX] at h
          | _ :: _ :: _, _, h => simp [okX] at h
          | [_], _ :: _, h => simp [okX] at h
        | _ => simp [okX] at h
      | _ => simp [okX] at h
    | _ => simp [okX] at h
  | .pop i, k, Ex, X, o, e, h => by
    cases e with
    | Call f es kw pos =>
      cases f with
      | Attribute y m ap =>
        cases y with
        | Name x p =>
          match es, kw, h with
          | [], [], h =>
            simp only [okX, Bool.and_eq_true, beq_iff_eq] at h
            obtain ⟨⟨h1, rfl⟩, h3⟩ := h
            exact PE.imp (pe_bm0 PySem.F.plainAttrs_list PySem.F.slot_list_pop PySem.F.type_list_pop mt_pop (o.var_ h1) base_name (beq_iff_eq.mpr h3)) fun σ H Q q => up_pop q
          | [], _ :: _, h => simp [okX] at h
          | _ :: _, _, h => simp [okX] at h
        | _ => simp [okX] at h
      | _ => simp [okX] at h
    | _ => simp [okX] at h
  | .pop0 i, k, Ex, X, o, e, h => by
    cases e with
    | Call f es kw pos =>
      cases f with
      | Attribute y m ap =>
        cases y with
        | Name x p =>
          match es, kw, h with
          | [z], [], h =>
            cases z with
            | Constant w kk p2 =>
              cases w with
              | int j =>
                simp only [okX, Bool.and_eq_true, beq_iff_eq] at h
                obtain ⟨⟨⟨h1, rfl⟩, h3⟩, rfl⟩ := h
                exact PE.imp (pe_bm PySem.F.plainAttrs_list PySem.F.slot_list_pop PySem.F.type_list_pop mt_popAt (o.var_ h1) (pa_cons pe_int pa_nil rfl) base_name rfl (beq_iff_eq.mpr h3) rfl rfl) fun σ H Q q => up_pop0 q
              | _ => simp [okX] at h
            | _ => simp [okX] at h
          | [], _, h => simp [okX] at h
          | _ :: _ :: _, _, h => simp [okX] at h
          | [z], _ :: _, h => simp [okX] at h
        | _ => simp [okX] at h
      | _ => simp [okX] at h
    | _ => simp [okX] at h
  | .popI i a, k, Ex, X, o, e, h => by
    cases e with
    | Call f es kw pos =>
      cases f with
      | Attribute y m ap =>
        cases y with
        | Name x p =>
          match es, kw, h with
          | [z], [], h =>
            simp only [okX, Bool.and_eq_true, beq_iff_eq] at h
            obtain ⟨⟨⟨⟨h1, rfl⟩, h3⟩, h4⟩, h5⟩ := h
            refine PE.imp (pe_bm PySem.F.plainAttrs_list PySem.F.slot_list_pop PySem.F.type_list_pop mt_popAt (o.var_ h1) (pa_cons (sX a o z h5) pa_nil (star_of h4 _ _)) base_name ?_ (beq_iff_eq.mpr h3) (star_of h4 _ _) rfl) fun σ H Q q => up_popI q
            rw [star_of h4]
            rfl
          | [], _, h => simp [okX] at h
          | _ :: _ :: _, _, h => simp [okX] at h
          | [_], _ :: _, h => simp [okX] at h
        | _ => simp [okX] at h
      | _ => simp [okX] at h
    | _ => simp [okX] at h
  | .lc it g own c a, k, Ex, X, o, e, h => by
    cases e with
    | ListComp x gens s pos =>
      match gens, h with
      | [], h => simp [okX] at h
      | _ :: _ :: _, h => simp [okX] at h
      | [⟨tg, iter, ifs, as⟩], h =>
        simp only [okX, Bool.and_eq_true, beq_iff_eq] at h
        obtain ⟨⟨⟨⟨⟨⟨⟨rfl, h0⟩, h1⟩, h2⟩, h3⟩, h4⟩, h5⟩, h6⟩ := h
        have bo : BlkOk X.N X.env.scope s (k.own own) := by rw [o.N, o.sc]; exact blkOk_by h2
        have hi := sI it o tg iter h1
        have hs : s.kind = .function := bo.kind
        have hsl : ∀ i ∈ g.slots, i ∈ own := fun i hm => by
          rw [List.all_eq_true] at h4
          simpa using h4 i hm
        have hset : ∀ y, foldedSetIterable iter X.env y = pure y := fun y => set_of h0 _ _
        have go : ∀ (tt : TT) , (∀ (sh : Shared) (H : Hp) (C : Addr) (cl : List (Str × Addr)) (fp : List Addr), PTs (X.blk sh H s (compEnvC s cl C X.env) fp) ifs tt) → (∀ σ H Q, upT T B (ec v noX c) σ H Q → tt σ H Q) →
            PE X (.ListComp x [⟨tg, iter, ifs, 0⟩] s pos) (up T B (ev v Ex (.lc it g own c a))) := fun tt ht hi' => by
          refine PE.imp (pe_lc o.calm (o.N ▸ o.nd) hi bo (fun sh H C cl fp => sG (o.blk hs sh H C cl fp) g tg h3) (fun sh H C cl fp => PTs.imp (ht sh H C cl fp) hi') (fun sh H C cl fp => sX a (o.blk hs sh H C cl fp) x h6) hset) fun σ H Q q => ?_
          rw [own_map]
          exact up_lc hsl q
        have hC : ∀ y, okC (k.blk s) c y = true → ∀ (sh : Shared) (H : Hp) (C : Addr) (cl : List (Str × Addr)) (fp : List Addr), PT (X.blk sh H s (compEnvC s cl C X.env) fp) y (upT T B (ec v noX c)) := fun y hy sh H C cl fp => (sCc c (o.blk hs sh H C cl fp) y hy).1
        match ifs, h5, go with
        | [], h5, go =>
          refine go tYes (fun _ _ _ _ _ => pts_nil) ?_
          have h5 : c.isYes = true := h5
          cases c <;> first | exact fun σ H Q q => tYes_of q | (cases h5; done)
        | [y], h5, go => exact go _ (fun sh H C cl fp => pts_one (hC y h5 sh H C cl fp)) fun σ H Q q => q
        | _ :: _ :: _, h5, go => exact absurd h5 Bool.false_ne_true
    | _ => simp [okX] at h
theorem sXs : ∀ (l : RXs) {k : Ck} {Ex : Xc → Nat → Prop} {X : Cx} (o : XO T v k lv B Ex X) (es : List Expr), okXs k l es = true → PA X es (upA T B (evs v Ex l))
  | .nil, k, Ex, X, o, [], h => PA.imp pa_nil fun σ H Q q => up_nil q
  | .nil, k, Ex, X, o, _ :: _, h => by simp [okXs] at h
  | .cons _ _, k, Ex, X, o, [], h => by simp [okXs] at h
  | .cons a l, k, Ex, X, o, e :: es, h => by
    simp only [okXs, Bool.and_eq_true] at h
    exact PA.imp (pa_cons (sX a o e h.1.1) (sXs l o es h.2) (star_of h.1.2 _ _)) fun σ H Q q => up_cons q
theorem sCc : ∀ (r : RC) {k : Ck} {Ex : Xc → Nat → Prop} {X : Cx} (o : XO T v k lv B Ex X) (e : Expr), okC k r e = true → PT X e (upT T B (ec v Ex r)) ∧ (isBo e = true → PW X e (upT T B (ec v Ex r)))
  | .yes, k, Ex, X, o, e, h => by simp [okC] at h
  | .v r, k, Ex, X, o, e, h => by
    simp only [okC, Bool.and_eq_true] at h
    refine ⟨up_tB (pt_val (sX r o e h.2) (isT_plain h.1 _)), fun z => ?_⟩
    have := h.1
    cases e <;> first | (cases z; done) | (cases this; done)
  | .cmp q a b, k, Ex, X, o, e, h => by
    have hu := o.units
    cases e with
    | Compare x ops es pos =>
      match ops, es, h with
      | [q'], [y], h =>
        simp only [okC, Bool.and_eq_true, beq_iff_eq, Bool.not_eq_true'] at h
        obtain ⟨⟨⟨rfl, h1⟩, h2⟩, h3⟩ := h
        refine ⟨PT.imp (pt_cmpR (opd_fCmp (P := B.P) o.K (by omega) _) (sX a o x h2) (sX b o y h3) h1) fun σ H Q q => ?_, fun z => by cases z⟩
        exact up_bin_t q
      | [], _, h => simp [okC] at h
      | _ :: _ :: _, _, h => simp [okC] at h
      | [_], [], h => simp [okC] at h
      | [_], _ :: _ :: _, h => simp [okC] at h
    | _ => simp [okC] at h
  | .chain q p a b c, k, Ex, X, o, e, h => by
    have hu := o.units
    cases e with
    | Compare x ops es pos =>
      match ops, es, h with
      | [q', r], [y, z], h =>
        simp only [okC, Bool.and_eq_true, beq_iff_eq, Bool.not_eq_true'] at h
        obtain ⟨⟨⟨⟨⟨e1, e2⟩, h1⟩, h2⟩, h3⟩, h4⟩ := h
        rw [← e1, ← e2]
        rw [← e2] at h4
        have t1 := opd_fCmp (T := T) (P := B.P) o.K (by omega) q
        have t2 := opd_fCmp (T := T) (P := B.P) o.K (by omega) p
        have hm : lastMarks [q, p] [y, z] = false := h4
        have hp := pt_chain (pos := pos) t1 t2 (sX a o x h1) (sX b o y h2) (sX c o z h3) hm
        exact ⟨PT.imp hp fun σ H Q q => up_chain_t q, fun z => by cases z⟩
      | [], _, h => simp [okC] at h
      | [_], _, h => simp [okC] at h
      | _ :: _ :: _ :: _, _, h => simp [okC] at h
      | [_, _], [], h => simp [okC] at h
      | [_, _], [_], h => simp [okC] at h
      | [_, _], _ :: _ :: _ :: _, h => simp [okC] at h
    | _ => simp [okC] at h
  | .not a, k, Ex, X, o, e, h => by
    cases e with
    | UnaryOp op x p =>
      cases op with
      | Not => exact ⟨PT.imp (L2.pt_not (sCc a o x (by simpa [okC] using h)).1) fun σ H Q q => up_tNot q, fun z => by cases z⟩
      | _ => simp [okC] at h
    | _ => simp [okC] at h
  | .and a b, k, Ex, X, o, e, h => by
    have key : PW X e (upT T B (ec v Ex (.and a b))) := by
      cases e with
      | BoolOp op es p =>
        match op, es, h with
        | .And, [x, y], h =>
          simp only [okC, Bool.and_eq_true] at h
          exact PW.imp (pw_and (sCc a o x h.1).1 (pw_and1 (sCc b o y h.2).1)) fun σ H Q q => up_tAnd q
        | .And, x :: y :: z :: rest, h =>
          simp only [okC, Bool.and_eq_true] at h
          exact PW.imp (pw_and (sCc a o x h.1).1 ((sCc b o _ h.2).2 rfl)) fun σ H Q q => up_tAnd q
        | .And, [], h => simp [okC] at h
        | .And, [_], h => simp [okC] at h
        | .Or, _, h => simp [okC] at h
      | _ => simp [okC] at h
    exact ⟨key.pt, fun _ => key⟩
  | .or a b, k, Ex, X, o, e, h => by
    have key : PW X e (upT T B (ec v Ex (.or a b))) := by
      cases e with
      | BoolOp op es p =>
        match op, es, h with
        | .Or, [x, y], h =>
          simp only [okC, Bool.and_eq_true] at h
          exact PW.imp (pw_or (sCc a o x h.1).1 (pw_or1 (sCc b o y h.2).1)) fun σ H Q q => up_tOr q
        | .Or, x :: y :: z :: rest, h =>
          simp only [okC, Bool.and_eq_true] at h
          exact PW.imp (pw_or (sCc a o x h.1).1 ((sCc b o _ h.2).2 rfl)) fun σ H Q q => up_tOr q
        | .Or, [], h => simp [okC] at h
        | .Or, [_], h => simp [okC] at h
        | .And, _, h => simp [okC] at h
      | _ => simp [okC] at h
    exact ⟨key.pt, fun _ => key⟩
theorem sO : ∀ (r : RO) {k : Ck} {Ex : Xc → Nat → Prop} {X : Cx} (o : XO T v k lv B Ex X) (e : Option Expr), okO k r e = true → PO X e (upO T B (eo v Ex r))
  | .no, k, Ex, X, o, none, h => po_no
  | .no, k, Ex, X, o, some _, h => by simp [okO] at h
  | .so a, k, Ex, X, o, none, h => by simp [okO] at h
  | .so a, k, Ex, X, o, some e, h => po_so (sX a o e (by simpa [okO] using h))
theorem sI : ∀ (r : RI) {k : Ck} {Ex : Xc → Nat → Prop} {X : Cx} (o : XO T v k lv B Ex X) (tg e : Expr), okI k r tg e = true → PI X tg e (upI T B (ei v Ex r))
  | .seq a, k, Ex, X, o, tg, e, h => by
    simp only [okI, Bool.and_eq_true] at h
    exact PI.imp (pi_sq (sX a o e h.2)) fun σ H R q => up_iSeq o.K q
  | .rg1 l, k, Ex, X, o, tg, e, h => by
    cases e with
    | Call f es kw pos =>
      cases f with
      | Name x p =>
        match es, kw, h with
        | [z], [], h =>
          simp only [okI, Bool.and_eq_true] at h
          obtain ⟨rfl, g, m, d⟩ := o.blt_ h.1.1
          exact PI.imp (pi_range1 g m (sXs l o [z] h.2) (star_of h.1.2 _ _)) fun σ H R q => up_iRg1 q
        | [], _, h => simp [okI] at h
        | _ :: _ :: _, _, h => simp [okI] at h
        | [_], _ :: _, h => simp [okI] at h
      | _ => simp [okI] at h
    | _ => simp [okI] at h
  | .rg2 l, k, Ex, X, o, tg, e, h => by
    cases e with
    | Call f es kw pos =>
      cases f with
      | Name x p =>
        match es, kw, h with
        | [z, w], [], h =>
          simp only [okI, Bool.and_eq_true] at h
          obtain ⟨rfl, g, m, d⟩ := o.blt_ h.1.1.1
          exact PI.imp (pi_range2 g m (sXs l o [z, w] h.2) (by rw [star_of h.1.1.2, star_of h.1.2]; rfl) (star_of h.1.2 _ _)) fun σ H R q => up_iRg2 q
        | [], _, h => simp [okI] at h
        | [_], _, h => simp [okI] at h
        | _ :: _ :: _ :: _, _, h => simp [okI] at h
        | [_, _], _ :: _, h => simp [okI] at h
      | _ => simp [okI] at h
    | _ => simp [okI] at h
  | .enum a, k, Ex, X, o, tg, e, h => by
    cases tg with
    | Tuple elts kk tp =>
      cases e with
      | Call f es kw pos =>
        cases f with
        | Name x p =>
          match es, kw, h with
          | [z], [], h =>
            simp only [okI, Bool.and_eq_true] at h
            obtain ⟨rfl, g, m, d⟩ := o.blt_ h.1.1
            exact PI.imp (pi_enum g m (PA.imp (pa_cons (sX a o z h.2) pa_nil (star_of h.1.2 _ _)) fun σ H Q q => upA_mono1 (up_cons q)) (star_of h.1.2 _ _)) fun σ H R q => up_iEnum o.K q
          | [], _, h => simp [okI] at h
          | _ :: _ :: _, _, h => simp [okI] at h
          | [_], _ :: _, h => simp [okI] at h
        | _ => simp [okI] at h
      | _ => simp [okI] at h
    | _ => simp [okI] at h
  | .zip a b, k, Ex, X, o, tg, e, h => by
    cases tg with
    | Tuple elts kk tp =>
      cases e with
      | Call f es kw pos =>
        cases f with
        | Name x p =>
          match es, kw, h with
          | [z, w], [], h =>
            simp only [okI, Bool.and_eq_true] at h
            obtain ⟨⟨⟨⟨h1, h2⟩, h3⟩, h4⟩, h5⟩ := h
            obtain ⟨rfl, g, m, d⟩ := o.blt_ h1
            have s2 : starEach [w] X.env = (false, eval w X.env) :: starEach [] X.env := star_of h3 _ _
            exact PI.imp (RZ.pi_zipA g m (PA.imp (pa_cons (sX a o z h4) (pa_cons (sX b o w h5) pa_nil s2) (star_of h2 _ _)) fun σ H Q q => upA_mono2 (up_cons q)) (star_of h2 _ _) (by rw [s2]; rfl)) fun σ H R q => up_iZip o.K q
          | [], _, h => simp [okI] at h
          | [_], _, h => simp [okI] at h
          | _ :: _ :: _ :: _, _, h => simp [okI] at h
          | [_, _], _ :: _, h => simp [okI] at h
        | _ => simp [okI] at h
      | _ => simp [okI] at h
    | _ => simp [okI] at h
end
end
end Sh
namespace Sh
open L2 PySem PySem.Spec PyProof.Rows

section
variable {T : Tx} {v : Ev} {B : Bs} {lv : Nat} {k : Ck} {Ex : Xc → Nat → Prop} {X : Cx}
theorem sw_no {y : Expr} (h : notComp y = true) (tg : Option Expr) (l : Nat) (env : Env) : swapsWith y tg l env = pure false := by
  cases y <;> first | rfl | cases h
theorem sw_tup {y t : Expr} (h : isTup t = true) (l : Nat) (env : Env) : swapsWith y (some t) l env = pure false := by
  cases t <;> first | (cases y <;> rfl) | cases h
theorem sw_cell {y : Expr} {x : Str} {p : Pos} {l : Nat} {env : Env} (h : env.kindOf x = some .cell) : swapsWith y (some (.Name x p)) l env = pure false := by
  have e : (NameKind.cell == NameKind.local) = false := rfl
  cases y <;> first | rfl | simp [swapsWith, h, e]
theorem swp_tup {y t : Expr} (h : isTup t = true) (h2 : isTup y = false) (env : Env) : swappedStores [t] y env = pure none := by
  cases t <;> first | (cases y <;> first | rfl | cases h2) | cases h
/-- the parts of a list comprehension -/
theorem lc_is {it : RI} {g : RT} {own : List Nat} {c : RC} {a : RX} {x : Expr} {gens : List Comprehension} {s : Scope} {pos : Pos} (h : okX k (.lc it g own c a) (.ListComp x gens s pos) = true) :
    ∃ tg iter ifs, gens = [⟨tg, iter, ifs, 0⟩] ∧ notSet iter = true ∧ okI k it tg iter = true ∧ blkC k.N k.sc s (k.own own) = true ∧ okG (k.blk s) g tg = true ∧ (∀ i ∈ g.slots, i ∈ own) ∧ okIf c.isYes ifs (fun y => okC (k.blk s) c y) = true ∧ okX (k.blk s) a x = true := by
  match gens, h with
  | [], h => simp [okX] at h
  | _ :: _ :: _, h => simp [okX] at h
  | [⟨tg, iter, ifs, as⟩], h =>
    simp only [okX, Bool.and_eq_true, beq_iff_eq] at h
    obtain ⟨⟨⟨⟨⟨⟨⟨rfl, h0⟩, h1⟩, h2⟩, h3⟩, h4⟩, h5⟩, h6⟩ := h
    refine ⟨tg, iter, ifs, rfl, h0, h1, h2, h3, fun i hm => ?_, h5, h6⟩
    rw [List.all_eq_true] at h4
    simpa using h4 i hm
theorem ifs_is (o : XO T v k lv B Ex X) {c : RC} {ifs : List Expr} {s : Scope} (hs : s.kind = .function) (h : okIf c.isYes ifs (fun y => okC (k.blk s) c y) = true) :
    ∃ tt : TT, (∀ (sh : Shared) (H : Hp) (C : Addr) (cl : List (Str × Addr)) (fp : List Addr), PTs (X.blk sh H s (compEnvC s cl C X.env) fp) ifs tt) ∧ ∀ σ H Q, upT T B (ec v noX c) σ H Q → tt σ H Q := by
  match ifs, h with
  | [], h =>
    refine ⟨tYes, fun _ _ _ _ _ => pts_nil, ?_⟩
    have h : c.isYes = true := h
    cases c <;> first | exact fun σ H Q q => tYes_of q | (cases h; done)
  | [y], h => exact ⟨_, fun sh H C cl fp => pts_one (sCc c (o.blk hs sh H C cl fp) y h).1, fun σ H Q q => q⟩
  | _ :: _ :: _, h => exact absurd h Bool.false_ne_true
/-- name = [..], the name a local -/
theorem sLcAsg (o : XO T v k lv B Ex X) {i : Nat} {it : RI} {g : RT} {own : List Nat} {c : RC} {a : RX} {x : Expr} {gens : List Comprehension} {s : Scope} {y : Str} {py pos spos : Pos} (h : okX k (.lc it g own c a) (.ListComp x gens s pos) = true) (hy : k.sto i y = true)
    (hl : k.sc.names.lookup y = some .local) (hp : (py.line == pos.line) = true) (ha : (s.names.any fun (n, kd) => n == y && (kd == .local || kd == .cell)) = false) : PS X (.Assign [.Name y py] (.ListComp x gens s pos) spos) (upS T B (ex v Ex (.asg i (.lc it g own c a)))) := by
  obtain ⟨tg, iter, ifs, rfl, h0, h1, h2, h3, h4, h5, h6⟩ := lc_is h
  have bo : BlkOk X.N X.env.scope s (k.own own) := by rw [o.N, o.sc]; exact blkOk_by h2
  obtain ⟨tt, ht, hi'⟩ := ifs_is o bo.kind h5
  have hl' : X.env.scope.names.lookup y = some .local := by rw [o.sc]; exact hl
  have hk : X.env.scope.kind = .function := by rw [o.sc]; exact o.fk
  refine PS.imp (ps_setLc o.calm (o.N ▸ o.nd) (o.sto_ hy).1 hl' (sw_true hk hl' hp ha) (sI it o tg iter h1) bo (fun sh H C cl fp => sG (o.blk bo.kind sh H C cl fp) g tg h3) (fun sh H C cl fp => PTs.imp (ht sh H C cl fp) hi')
    (fun sh H C cl fp => sX a (o.blk bo.kind sh H C cl fp) x h6) (fun y => set_of h0 _ _)) fun D σ H q => ?_
  have q := upS_asg q
  show tLc _ _ _ _ ((k.own own).map (·.2)) σ H _
  rw [own_map]
  exact up_lc h4 q

theorem tgNs_names : ∀ {l : List Nat} {ts : List Expr}, okNs k l ts = true → (tgNs ts).length = ts.length
  | [], [], _ => rfl
  | [], _ :: _, h => by simp [okNs] at h
  | _ :: _, [], h => by simp [okNs] at h
  | i :: l, t :: ts, h => by
    cases t <;> simp [okNs] at h
    simp [tgNs, tgNs_names h.2]
def swF (env : Env) (L : Nat) (e : Expr) : Option Str := match e with
  | .Name id pos => if (env.kindOf id == some NameKind.local && pos.line == L) = true then some id else none
  | _ => none
theorem tgNs_le : ∀ ts : List Expr, (tgNs ts).length ≤ ts.length
  | [] => Nat.le_refl _
  | t :: ts => by
    have := tgNs_le ts
    cases t <;> simp [tgNs] <;> omega
theorem swF_all {env : Env} {L : Nat} : ∀ ts : List Expr, (tgNs ts).length = ts.length → (∀ p ∈ tgNs ts, env.kindOf p.1 = some .local ∧ p.2 = L) → ts.filterMap (swF env L) = (tgNs ts).map (·.1)
  | [], _, _ => rfl
  | t :: ts, h, q => by
    have hle := tgNs_le ts
    cases t <;> (try (simp [tgNs] at h; omega))
    rename_i x p
    have h' : (tgNs ts).length = ts.length := by simpa [tgNs] using h
    obtain ⟨q1, q2⟩ := q (x, p.line) (by simp [tgNs])
    have e : swF env L (.Name x p) = some x := by
      have q2 : p.line = L := q2
      simp [swF, q1, q2]
    rw [List.filterMap_cons, e]
    simp only [tgNs, List.map_cons]
    rw [swF_all ts h' fun p hp => q p (by simp [tgNs, hp])]
theorem swF_some {env : Env} {L : Nat} : ∀ ts : List Expr, (∃ t ∈ ts, swF env L t = none) → (ts.filterMap (swF env L)).length ≠ ts.length
  | [], ⟨_, h, _⟩ => by simp at h
  | t :: ts, ⟨u, hu, e⟩ => by
    rw [List.filterMap_cons]
    cases ht : swF env L t with
    | none =>
      have := List.length_filterMap_le (swF env L) ts
      simp only [List.length_cons]
      omega
    | some x =>
      have hu' : u ∈ ts := by
        rcases List.mem_cons.mp hu with rfl | h
        · rw [ht] at e; cases e
        · exact h
      have := swF_some ts ⟨u, hu', e⟩
      simp only [List.length_cons]
      omega
theorem swp_eq {ts vs : List Expr} {k1 k2 : Nat} {p1 p2 : Pos} {env : Env} : swappedStores [.Tuple ts k1 p1] (.Tuple vs k2 p2) env =
    (if (!(ts.length == 2 || ts.length == 3) || vs.length != ts.length || env.blockKind != .function) = true then pure none else
      if (vs.any fun | .Starred .. => true | _ => false) = true then pure none else
      if ((ts.filterMap (swF env ((ts.head?.map (·.pos.line)).getD 0))).length != ts.length || (ts.filterMap (swF env ((ts.head?.map (·.pos.line)).getD 0))).eraseDups.length != (ts.filterMap (swF env ((ts.head?.map (·.pos.line)).getD 0))).length) = true then pure none else
      if vs.all (foldedForSure 8) = true then pure none else if vs.all (constantsAlone 8) = true then (do unsupported "assign.tuple-of-constant-expressions:order-of-the-stores"; return some (ts.filterMap (swF env ((ts.head?.map (·.pos.line)).getD 0)))) else pure (some (ts.filterMap (swF env ((ts.head?.map (·.pos.line)).getD 0))))) := rfl
theorem swp_yes (o : XO T v k lv B Ex X) {ts vs : List Expr} {k1 k2 : Nat} {p1 p2 : Pos} (h : swYes k ts vs = true) : swappedStores [.Tuple ts k1 p1] (.Tuple vs k2 p2) X.env = pure (some ((tgNs ts).map (·.1))) := by
  simp only [swYes, Bool.and_eq_true, Bool.not_eq_true', beq_iff_eq, List.all_eq_true] at h
  obtain ⟨⟨⟨⟨⟨⟨⟨h1, h2⟩, h3⟩, h4⟩, h5⟩, h6⟩, h7⟩, h8⟩ := h
  have hb : X.env.blockKind = .function := by
    unfold Env.blockKind
    rw [o.sc, o.fk]; rfl
  have hL : ((tgNs ts).head?.map (·.2)).getD 0 = (ts.head?.map (·.pos.line)).getD 0 := by
    cases ts with
    | nil => rfl
    | cons t ts =>
      have hle := tgNs_le ts
      cases t <;> first | rfl | (simp [tgNs] at h3; omega)
  have hf : ts.filterMap (swF X.env ((ts.head?.map (·.pos.line)).getD 0)) = (tgNs ts).map (·.1) := by
    refine swF_all ts h3 fun p hp => ?_
    obtain ⟨q1, q2⟩ := h5 p hp
    refine ⟨?_, by rw [← hL]; exact q2⟩
    unfold Env.kindOf
    rw [o.sc]; exact q1
  rw [swp_eq, hf]
  rw [if_neg, if_neg, if_neg, if_neg, if_neg]
  · rw [h8]; exact Bool.false_ne_true
  · rw [h7]; exact Bool.false_ne_true
  · simp [h3, h6]
  · simp only [List.any_eq_true, not_exists, not_and]
    intro x hx hs
    have := h4 x hx
    cases x <;> first | (cases hs; done) | (cases this; done)
  · rw [h1, hb, h2]
    simp
theorem swp_no (o : XO T v k lv B Ex X) {ts vs : List Expr} {k1 k2 : Nat} {p1 p2 : Pos} (h : swNo k ts vs = true) : swappedStores [.Tuple ts k1 p1] (.Tuple vs k2 p2) X.env = pure none := by
  rw [swp_eq]
  split
  · rfl
  split
  · rfl
  split
  · rfl
  split
  · rfl
  exfalso
  rename_i g1 g2 g3 g4
  simp only [swNo, Bool.or_eq_true] at h
  rcases h with (h | h) | h
  · exact g4 h
  · apply g1
    rw [h]; rfl
  · rw [List.any_eq_true] at h
    obtain ⟨t, ht, hn⟩ := h
    have e : swF X.env ((ts.head?.map (·.pos.line)).getD 0) t = none := by
      cases t <;> first | rfl | skip
      rename_i x p
      have hn : (!(k.sc.names.lookup x == some .local)) = true := hn
      rw [Bool.not_eq_true'] at hn
      have : (X.env.kindOf x == some .local) = false := by
        unfold Env.kindOf
        rw [o.sc]; exact hn
      simp [swF, this]
    have := swF_some ts ⟨t, ht, e⟩
    apply g3
    simp [this]
theorem pgs_names (o : XO T v k lv B Ex X) : ∀ {l : List Nat} {ts : List Expr}, okNs k l ts = true → PGs X ts (gNms l) ∧ (assignEach ts X.env).length = ts.length ∧ (assignEach ts X.env).findIdx? (·.1) = none ∧ l.length = ts.length
  | [], [], _ => ⟨pgs_nil, rfl, rfl, rfl⟩
  | [], _ :: _, h => by simp [okNs] at h
  | _ :: _, [], h => by simp [okNs] at h
  | i :: l, t :: ts, h => by
    cases t <;> simp [okNs] at h
    rename_i x p
    obtain ⟨h1, h2, h3⟩ := o.sto_ h.1
    obtain ⟨a1, a2, a3, a4⟩ := pgs_names o h.2
    refine ⟨pgs_cons (pg_name (o.N ▸ o.nd) h1 h2 h3) a1 rfl, ?_, ?_, ?_⟩
    · simp [assignEach, a2]
    · simp [assignEach, List.findIdx?_cons, a3]
    · simp [a4]
theorem sRs (o : XO T v k lv B Ex X) : ∀ (l : RXs) (es : List Expr), okXs k l es = true → PA X es (upR T B (evr v Ex l))
  | .nil, [], h => PA.imp pa_nil fun σ H Q q => upR_nil q
  | .nil, _ :: _, h => by simp [okXs] at h
  | .cons _ _, [], h => by simp [okXs] at h
  | .cons a l, e :: es, h => by
    simp only [okXs, Bool.and_eq_true] at h
    exact PA.imp (pa_cons (sX a o e h.1.1) (sRs o l es h.2) (star_of h.1.2 _ _)) fun σ H Q q => upR_cons q
theorem okXs_len {l : RXs} {es : List Expr} : okXs k l es = true → True := fun _ => trivial
theorem okNs_cons {l : List Nat} {t : Expr} {ts : List Expr} (h : okNs k l (t :: ts) = true) : ∃ i l' x p, l = i :: l' ∧ t = .Name x p ∧ k.sto i x = true ∧ okNs k l' ts = true := by
  cases l with
  | nil => simp [okNs] at h
  | cons i l =>
    cases t <;> simp [okNs] at h
    exact ⟨i, l, _, _, rfl, rfl, h.1, h.2⟩
theorem okNs_nil {l : List Nat} (h : okNs k l [] = true) : l = [] := by
  cases l with
  | nil => rfl
  | cons => simp [okNs] at h
theorem len2 {α : Type} {l : List α} (h : l.length = 2) : ∃ a b, l = [a, b] := by
  match l, h with
  | [a, b], _ => exact ⟨a, b, rfl⟩
theorem len3 {α : Type} {l : List α} (h : l.length = 3) : ∃ a b c, l = [a, b, c] := by
  match l, h with
  | [a, b, c], _ => exact ⟨a, b, c, rfl⟩
theorem sPar_ (o : XO T v k lv B Ex X) {l : List Nat} {es : RXs} {ts vs : List Expr} {k1 k2 : Nat} {p1 p2 pos : Pos} (h1 : okNs k l ts = true) (h2 : okXs k es vs = true) (h3 : (swYes k ts vs && decide l.Nodup || swNo k ts vs) = true) (h4 : l.length ≤ 1000) :
    PS X (.Assign [.Tuple ts k1 p1] (.Tuple vs k2 p2) pos) (upS T B (sPar l (evr v Ex es))) := by
  have hA := sRs o es vs h2
  rw [Bool.or_eq_true, Bool.and_eq_true, decide_eq_true_eq] at h3
  rcases h3 with ⟨h3, nd⟩ | h3
  · have hw := swp_yes o (k1 := k1) (k2 := k2) (p1 := p1) (p2 := p2) h3
    simp only [swYes, Bool.and_eq_true, Bool.or_eq_true, beq_iff_eq, List.all_eq_true] at h3
    obtain ⟨⟨⟨⟨⟨⟨⟨hl, hl2⟩, hl3⟩, _⟩, h5⟩, _⟩, _⟩, _⟩ := h3
    have loc : ∀ x n, (x, n) ∈ tgNs ts → X.env.scope.names.lookup x = some .local := fun x n hm => by
      rw [o.sc]; exact (h5 (x, n) hm).1
    rcases hl with hl | hl
    · obtain ⟨t1, t2, rfl⟩ := len2 hl
      obtain ⟨a, b, rfl⟩ := len2 (hl2 ▸ hl)
      obtain ⟨i, l1, x, px, rfl, rfl, w1, h1⟩ := okNs_cons h1
      obtain ⟨j, l2, y, py, rfl, rfl, w2, h1⟩ := okNs_cons h1
      obtain rfl := okNs_nil h1
      have hij : i ≠ j := by
        intro e; subst e; simp at nd
      exact PS.imp (ps_par o.calm (o.N ▸ o.nd) (o.sto_ w1).1 (o.sto_ w2).1 hij (loc x px.line (by simp [tgNs])) (loc y py.line (by simp [tgNs])) hA hw) fun D σ H q => upS_par2 q
    · obtain ⟨t1, t2, t3, rfl⟩ := len3 hl
      obtain ⟨a, b, c, rfl⟩ := len3 (hl2 ▸ hl)
      obtain ⟨i, l1, x, px, rfl, rfl, w1, h1⟩ := okNs_cons h1
      obtain ⟨j, l2, y, py, rfl, rfl, w2, h1⟩ := okNs_cons h1
      obtain ⟨m, l3, z, pz, rfl, rfl, w3, h1⟩ := okNs_cons h1
      obtain rfl := okNs_nil h1
      have hn : i ≠ j ∧ i ≠ m ∧ j ≠ m := by
        refine ⟨?_, ?_, ?_⟩ <;> (intro e; subst e; simp at nd)
      exact PS.imp (ps_par3 o.calm (o.N ▸ o.nd) (o.sto_ w1).1 (o.sto_ w2).1 (o.sto_ w3).1 hn.1 hn.2.1 hn.2.2 (loc x px.line (by simp [tgNs])) (loc y py.line (by simp [tgNs])) (loc z pz.line (by simp [tgNs])) hA hw) fun D σ H q => upS_par3 q
  · obtain ⟨a1, a2, a3, a4⟩ := pgs_names o h1
    refine PS.imp (ps_asg (pe_tup hA) (pg_tup o.calm a1 (n := ts.length) a2 a3) rfl (swp_no o h3) rfl) fun D σ H q => ?_
    rw [← a4]
    exact upS_parT h4 q
end
end Sh
namespace Sh
open L2 PySem PySem.Spec PyProof.Rows

section
variable {T : Tx} {v : Ev} {B : Bs} {lv : Nat} {k : Ck} {Ex : Xc → Nat → Prop} {X : Cx}
theorem upS_aug {i : Nat} {t : TD} {E : Ends} {σ : L2.St} {H : Hp} (q : upS T B (sAug i t) E σ H) : tAug i (up T B t) (ipI fun i j => i + j) E σ H := by
  obtain ⟨n, G, K, R, ⟨⟨a0, e0⟩, t⟩, kk⟩ := q
  obtain ⟨w, e1, h1⟩ := R.slot i _ e0
  obtain rfl := Av.int_ (H := H) (.inl h1)
  refine ⟨_, e1, n, [], G, _, R, t, fun r n1 v1 H1 G1 R1 s1 k1 h => ?_⟩
  obtain ⟨a, b, ea, eb, h⟩ := h
  rw [e0] at ea; cases ea
  obtain rfl := (R1.fet_av k1 eb).int_
  exact ⟨_, _, rfl, rfl, kk.nx _ _ _ _ (R1.put_sh (Hd.int _)) s1 h⟩
theorem upS_false {E : Ends} {σ : L2.St} {H : Hp} (q : upS T B (fun _ _ => False) E σ H) : False := by
  obtain ⟨n, G, K, R, t, kk⟩ := q
  exact t
theorem asgSub_eq {o i : Expr} {p : Pos} {env : Env} (h : notSlice i = true) (v : Value) : assign (.Subscript o i p) env v = (do
      let ov ← holding [v] (eval o env)
      let iv ← holding [v, ov] (eval i env)
      standAt p
      holding [v, ov, iv] (setItem ov iv v)
      release [v, ov, iv] []) := by
  cases i <;> first | rfl | cases h
theorem okLcA_is {x : Str} {p : Pos} {y : Expr} (h : okLcA k x p y = true) : notComp y = true ∨ ∃ elt gens s p2, y = .ListComp elt gens s p2 ∧ (k.sc.names.lookup x = some .cell ∨ k.sc.names.lookup x = some .local ∧ p.line = p2.line ∧ (s.names.any fun (n, kd) => n == x && (kd == .local || kd == .cell)) = false) := by
  unfold okLcA at h
  split at h
  · rename_i elt gens s p2
    simp only [Bool.or_eq_true, Bool.and_eq_true, beq_iff_eq, Bool.not_eq_true'] at h
    exact .inr ⟨_, _, _, _, rfl, h.elim .inl fun h => .inr ⟨h.1.1, h.1.2, h.2⟩⟩
  · exact .inl h
theorem okX_b1 (f : B1) {a : RX} {elt : Expr} {gens : List Comprehension} {s : Scope} {p : Pos} : ¬ okX k (.b1 f a) (.ListComp elt gens s p) = true := fun h => by
  have e : argB1 k f (.ListComp elt gens s p) = none := by
    unfold argB1
    split <;> first | rfl | contradiction
  simp only [okX, e] at h
  cases h
theorem okX_b2 (f : B2) {a b : RX} {elt : Expr} {gens : List Comprehension} {s : Scope} {p : Pos} : ¬ okX k (.b2 f a b) (.ListComp elt gens s p) = true := fun h => by
  have e : argB2 k f (.ListComp elt gens s p) = none := by
    unfold argB2
    split <;> first | rfl | contradiction
  simp only [okX, e] at h
  cases h
theorem okX_c (d : D) {elt : Expr} {gens : List Comprehension} {s : Scope} {p : Pos} : ¬ okX k (.c d) (.ListComp elt gens s p) = true := fun h => by
  have e : argC k d (.ListComp elt gens s p) = false := by
    unfold argC
    split <;> first | rfl | contradiction
  simp only [okX, e] at h
  cases h
theorem sole_no {y t : Expr} (h : notComp y = true) {l : Nat} {env : Env} : swapsWithSole [t] y l env = pure false := sw_no h (some t) l env
theorem Rep.lose {n : En} {τ : List (Addr × HO)} {G : Hp} {σ : L2.St} {H : Hp} (R : Rep T B n τ G σ H) (i : Nat) : Rep T B { n with ρ := n.ρ.set i .no } τ G σ H := by
  have := R.drop i ((σ[i]?).getD none)
  have e : σ.set i ((σ[i]?).getD none) = σ := by
    apply List.ext_getElem?
    intro j
    by_cases h : i = j
    · subst h
      by_cases hl : i < σ.length
      · rw [List.getElem?_set_self hl, List.getElem?_eq_getElem hl]; rfl
      · rw [List.getElem?_eq_none (by rw [List.length_set]; omega), List.getElem?_eq_none (by omega)]
    · rw [List.getElem?_set_ne h]
  rwa [e] at this
theorem Rep.loseAll {n : En} {τ : List (Addr × HO)} {G : Hp} {σ : L2.St} {H : Hp} (R : Rep T B n τ G σ H) : ∀ l : List Nat, Rep T B { n with ρ := Sh.wip l n.ρ } τ G σ H
  | [] => R
  | i :: l => (R.loseAll l).lose i
theorem upS_mute {a : RS} (hm : a.mute = true) {t : TDs} {E : Ends} {σ : L2.St} {H : Hp} (q : upS T B (sSeq (ex v Ex a) t) E σ H) : upS T B t E σ H := by
  obtain ⟨n, G, K, R, t0, kk⟩ := q
  cases a <;> first | (cases hm; done) | skip
  · rename_i l
    exact ⟨_, G, K, R.loseAll l, t0, kk⟩
  · rename_i i
    have t0 : frz n (.slt i) fun _ n1 => t K n1 := t0
    unfold frz at t0
    cases h2 : n.ρ[i]? with
    | none => simp only [h2] at t0
    | some s =>
      simp only [h2] at t0
      cases s with
      | no => exact t0.elim
      | me => exact t0.elim
      | sh d => exact ⟨n, G, K, R, t0, kk⟩
      | ow d =>
        obtain ⟨a, o, G', e1, _, _, sb, R', hd⟩ := R.yield h2
        exact ⟨_, G', K, R', t0, kk.mono sb⟩
mutual
theorem sS (o : XO T v k lv B Ex X) (hp : PassesOwn (model X.prog X.w) X.A X.env X.xe) : ∀ (r : RS) (st : Stmt), okS k r st = true → PS X st (upS T B (ex v Ex r))
  | .asg i e, st, h => by
    cases st with
    | Assign ts y q =>
      match ts, h with
      | [], h => simp [okS] at h
      | a :: _ :: _, h => cases a <;> simp [okS] at h
      | [t], h =>
        cases t with
        | Name x p =>
          simp only [okS, Bool.and_eq_true] at h
          obtain ⟨⟨h1, h2⟩, h3⟩ := h
          obtain ⟨s1, s2, s3⟩ := o.sto_ h1
          have plain : swapsWith y (some (.Name x p)) q.line X.env = pure false → PS X (.Assign [.Name x p] y q) (upS T B (ex v Ex (.asg i e))) := fun sw =>
            PS.imp (ps_set (o.N ▸ o.nd) s1 s2 (sX e o y h2) sw s3) fun D σ H q => upS_asg q
          rcases okLcA_is h3 with w | ⟨elt, gens, s, p2, rfl, w⟩
          · exact plain (sw_no w _ _ _)
          · rcases w with w | ⟨w, h4, h5⟩
            · exact plain (sw_cell (by unfold Env.kindOf; rw [o.sc]; exact w))
            · cases e with
              | lc it g own c a => exact sLcAsg o h2 h1 w (beq_iff_eq.mpr h4) h5
              | b1 f a => exact absurd h2 (okX_b1 f)
              | b2 f a b => exact absurd h2 (okX_b2 f)
              | c d => exact absurd h2 (okX_c d)
              | _ => simp [okX] at h2
        | _ => simp [okS] at h
    | _ => simp [okS] at h
  | .asgT g e, st, h => by
    cases st with
    | Assign ts y q =>
      match ts, h with
      | [], h => simp [okS] at h
      | a :: _ :: _, h => cases a <;> simp [okS] at h
      | [t], h =>
        simp only [okS, Bool.and_eq_true, Bool.not_eq_true'] at h
        obtain ⟨⟨⟨h1, h2⟩, h3⟩, h4⟩ := h
        refine PS.imp (ps_asg (sX e o y h4) (sG o g t h3) (sw_tup h1 _ _) (swp_tup h1 h2 _) ?_) fun D σ H q => upS_asgT q
        cases t <;> first | rfl | cases h1
    | _ => simp [okS] at h
  | .par l es, st, h => by
    cases st with
    | Assign ts y q =>
      match ts, h with
      | [], h => simp [okS] at h
      | a :: _ :: _, h => cases a <;> simp [okS] at h
      | [t], h =>
        cases t with
        | Tuple ts k1 p1 =>
          cases y with
          | Tuple vs k2 p2 =>
            simp only [okS, Bool.and_eq_true] at h
            obtain ⟨⟨⟨h1, h2⟩, h3⟩, h4⟩ := h
            exact sPar_ o h1 h2 h3 (of_decide_eq_true h4)
          | _ => simp [okS] at h
        | _ => simp [okS] at h
    | _ => simp [okS] at h
  | .aug i e, st, h => by
    cases st with
    | AugAssign t op y q =>
      cases t with
      | Name x p =>
        cases op with
        | Add =>
          simp only [okS, Bool.and_eq_true] at h
          obtain ⟨⟨h1, h2⟩, h3⟩ := h
          obtain ⟨s1, s2, s3⟩ := o.sto_ h1
          exact PS.imp (ps_aug (o.N ▸ o.nd) s1 s2 (sX e o y h3) ip_add s3) fun D σ H q => upS_aug q
        | _ => simp [okS] at h
      | _ => simp [okS] at h
    | _ => simp [okS] at h
  | .put i j e, st, h => by
    cases st with
    | Assign ts y q =>
      match ts, h with
      | [], h => simp [okS] at h
      | a :: _ :: _, h =>
        cases a with
        | Subscript b s p => cases b <;> simp [okS] at h
        | _ => simp [okS] at h
      | [t], h =>
        cases t with
        | Subscript b s p =>
          cases b with
          | Name x p2 =>
            simp only [okS, Bool.and_eq_true] at h
            obtain ⟨⟨⟨⟨h1, h2⟩, h3⟩, h4⟩, h5⟩ := h
            exact PS.imp (ps_asg (sX e o y h4) (pg_sub (o.var_ h1) (sX j o s h5) set_list (asgSub_eq h2)) (sole_no h3) rfl rfl) fun D σ H q => upS_putL q
          | _ => simp [okS] at h
        | _ => simp [okS] at h
    | _ => simp [okS] at h
  | .fld i f e, st, h => by
    cases st with
    | Assign ts y q =>
      match ts, h with
      | [], h => simp [okS] at h
      | a :: _ :: _, h =>
        cases a with
        | Attribute b s p => cases b <;> simp [okS] at h
        | _ => simp [okS] at h
      | [t], h =>
        cases t with
        | Attribute b s p =>
          cases b with
          | Name x p2 =>
            simp only [okS, Bool.and_eq_true, beq_iff_eq] at h
            obtain ⟨⟨⟨rfl, h2⟩, h3⟩, h4⟩ := h
            exact PS.imp (ps_fld (o.var_ h2) (sX e o y h4) (sw_no h3 _ _ _)) fun D σ H q => o.K ▸ upS_fld o.kit q
          | _ => simp [okS] at h
        | _ => simp [okS] at h
    | _ => simp [okS] at h
  | .ex e, st, h => by
    cases st with
    | Expr y q =>
      simp only [okS, Bool.and_eq_true] at h
      exact PS.imp (ps_expr (sX e o y h.2) (sw_no h.1 _ _ _)) fun D σ H q => upS_ex q
    | _ => simp [okS] at h
  | .ret e, st, h => by
    cases st with
    | Return y q =>
      cases y with
      | some y => exact PS.imp (ps_ret (sX e o y (by simpa [okS] using h))) fun D σ H q => upS_ret q
      | none => simp [okS] at h
    | _ => simp [okS] at h
  | .retN, st, h => by
    cases st with
    | Return y q =>
      cases y with
      | some y => simp [okS] at h
      | none => exact PS.imp ps_retN fun D σ H q => upS_retN q
    | _ => simp [okS] at h
  | .raise j l, st, h => by
    cases st with
    | Raise y c q =>
      cases y with
      | none => simp [okS] at h
      | some y =>
        cases y with
        | Call f es kw p =>
          cases f with
          | Name x p2 =>
            cases es with
            | nil => simp [okS] at h
            | cons e es =>
              cases kw with
              | cons => simp [okS] at h
              | nil =>
                cases c with
                | some _ => simp [okS] at h
                | none =>
                  simp only [okS, Bool.and_eq_true] at h
                  obtain ⟨⟨h1, h2⟩, h3⟩ := h
                  cases hr : v.rz j with
                  | none =>
                    simp only [ex, hr]
                    exact ⟨fun _ _ _ _ _ _ h => (upS_false h).elim⟩
                  | some z =>
                    obtain ⟨c, n, fs⟩ := z
                    have hj := isNm_is h1
                    obtain ⟨rfl, C, hm, F, hi⟩ := o.rz j x c n fs hj hr
                    obtain ⟨g, d⟩ := o.gl_ h2
                    have hA := sXs l o (e :: es) h3
                    have h4 := h3
                    cases l with
                    | nil => simp [okXs] at h4
                    | cons a l' =>
                      simp only [okXs, Bool.and_eq_true] at h4
                      simp only [ex, hr]
                      exact PS.imp (ps_raise o.calm o.tk (F X rfl rfl rfl rfl rfl o.room g p2 p e es T B _ hA (star_of h4.1.2 _ _) (okXs_star h4.2))) fun D σ H q => upS_raise hm hi q
          | _ => simp [okS] at h
        | _ => simp [okS] at h
    | _ => simp [okS] at h
  | .pass, st, h => by
    cases st with
    | Pass q => exact PS.imp ps_pass fun D σ H q => upS_nx q
    | _ => simp [okS] at h
  | .brk, st, h => by
    cases st with
    | Break q => exact PS.imp ps_break fun D σ H q => upS_bk q
    | _ => simp [okS] at h
  | .cnt, st, h => by
    cases st with
    | Continue q => exact PS.imp ps_continue fun D σ H q => upS_ct q
    | _ => simp [okS] at h
  | .ite c a b, st, h => by
    cases st with
    | If t x y q =>
      simp only [okS, Bool.and_eq_true] at h
      exact PS.imp (ps_if (sCc c o t h.1.1).1 (sSs o hp a x h.1.2) (sSs o hp b y h.2)) fun D σ H q => upS_if q
    | _ => simp [okS] at h
  | .for it g b, st, h => by
    cases st with
    | For tg iter body el q =>
      cases el with
      | nil =>
        simp only [okS, Bool.and_eq_true] at h
        obtain ⟨⟨⟨h1, h2⟩, h3⟩, h4⟩ := h
        exact PS.imp (ps_for hp o.calm (sI it o tg iter h1) (sG o g tg h3) (sSs o hp b body h4) (fun y => set_of h2 _ _)) fun D σ H q => upS_for q
      | cons => simp [okS] at h
    | _ => simp [okS] at h
  | .whl c b, st, h => by
    cases st with
    | While t body el q =>
      cases el with
      | nil =>
        simp only [okS, Bool.and_eq_true] at h
        exact PS.imp (ps_whileE hp (sCc c o t h.1).1 (sSs o hp b body h.2) pss_nil) fun D σ H q => upS_whl q
      | cons => simp [okS] at h
    | _ => simp [okS] at h
theorem sSs (o : XO T v k lv B Ex X) (hp : PassesOwn (model X.prog X.w) X.A X.env X.xe) : ∀ (r : RSs) (st : List Stmt), okSs k r st = true → PSs X st (upS T B (exs v Ex r))
  | .nil, [], h => PSs.imp pss_nil fun D σ H q => upS_nx q
  | .nil, _ :: _, h => by simp [okSs] at h
  | .cons a l, st, h => by
    simp only [okSs] at h
    by_cases hm : a.mute = true
    · rw [if_pos hm] at h
      exact PSs.imp (sSs o hp l st h) fun D σ H q => upS_mute hm q
    · rw [if_neg hm] at h
      match st, h with
      | s :: st, h =>
        rw [Bool.and_eq_true] at h
        exact PSs.imp (pss_cons (sS o hp a s h.1) (sSs o hp l st h.2)) fun D σ H q => upS_seq q
end
end
end Sh
namespace Sh
open L2 PySem PySem.Spec PyProof.Rows

/-- what a law's text gives to all of its defs -/
structure Gf (T : Tx) (v : Ev) (P : Program) (w : World) (base : Heap) (lv : Nat) (nm rn : List (Nat × Str)) (bt gl : List Str) : Prop where
  calls : ∀ j x, nm.lookup j = some x → ∃ u, T.mg x = some u ∧ (PySem.W.keepIn T.K u = true ∨ ∃ id, u = .builtin id) ∧ FnV P w T.K T.mg base lv u (spD T (v.Φ j))
  bt : ∀ x, bt.contains x = true → T.mg x = none
  gl : ∀ x, gl.contains x = true → ∃ a, T.mg x = some (.ref a)
  kit : KitOk T v.cs
  clo : ∀ n caps a, FnV P w T.K T.mg base lv (.ref a) (spClo T (v.cl n caps) n caps a)
  rz : ∀ j x c n fs, rn.lookup j = some x → v.rz j = some (c, n, fs) → x = c ∧ ∃ C, T.mg c = some (.ref C) ∧ RzV P w T.K T.mg base lv x C n fs ∧ ∀ p ∈ fs, 0 < p.2 ∧ p.2 < n + 1
  ci : ∀ (i : Nat) x, rn.lookup (1000000 + i) = some x → ∃ t, T.mg x = some (.int i t)

/-- a def does with its data what its body is reckoned to do -/
def Does (v : Ev) (N : List Str) (m : Nat) (rs : RSs) (S : DSp) : Prop := ∀ ds b KQ KE, S ds b KQ KE → ds.length = m ∧
  exs v KE rs { nx := fun n => KQ .non false n.b, rt := KQ } ⟨ds.map .sh ++ List.replicate (N.length - ds.length) .no, b⟩

section
variable {T : Tx} {v : Ev} {P : Program} {w : World} {base : Heap} {lv : Nat} {nm rn : List (Nat × Str)} {bt gl : List Str}
theorem Gf.xo (g : Gf T v P w base lv nm rn bt gl) {N : List Str} {qual : Str} {sc : Scope} {f : Addr} {cd : Value} {A : Around} {outer : List Env} {s : Shared} {H : Hp} {E : XK} {B : Bs} {Ex : Xc → Nat → Prop} (nd : N.Nodup) (fk : sc.kind = .function)
    (room : Room lv (A.deeper (envOfC qual sc s.heap.objs.size f cd))) (gd : A.guards = some []) (hd : A.handled = none) (hE : ∀ cls d H', exD T B Ex cls d H' → E cls d H') :
    XO T v ⟨N, sc, none, nm, bt, gl, v.cs, rn, fun _ _ _ _ => false, []⟩ lv B Ex (cxOf (L2.CX P w) P w T.K T.mg base N qual sc f cd A outer s H E) where
  K := rfl
  mg := rfl
  N := rfl
  nd := nd
  sc := rfl
  fk := fk
  fn := fun _ _ => rfl
  room := room
  gd := gd
  calm := rfl
  tk := Takes.imp (takes_of (E := E) rfl rfl rfl rfl) fun cls d σ H' h => hE cls d H' h
  calls := g.calls
  bt := g.bt
  gl := g.gl
  kit := g.kit
  cs := rfl
  clo := g.clo
  callS := fun _ _ h => by cases h
  lo := fun _ _ _ _ _ h => by cases h
  rz := g.rz
  ci := g.ci
theorem fnD_of {x qual : Str} {params : Arguments} {body : List Stmt} {sc : Scope} {f : Addr} {fd : FuncData} {N ps : List Str} {rs : RSs} {S : DSp} (F : FunD T.K x qual params body sc [] [] f fd) (sco : FnScope N ps sc) (g : Gf T v P w base lv nm rn bt gl)
    (ok : okSs ⟨N, sc, none, nm, bt, gl, v.cs, rn, fun _ _ _ _ => false, []⟩ rs body = true) (does : Does v N ps.length rs S) : FnG P w T.K T.mg base (lv + 1) f fd ps (spD T S) := by
  obtain ⟨oc, od, dV, kV, doc, pm, an, cdv, ct, osl, rfl, lk, hcd, _, _⟩ := F.ex
  refine fnG_of lk hcd sco (fun vs H Q E hs => ?_) fun A outer s H vs Q E room gd hs => ?_
  · obtain ⟨P', b, G, ds, KQ, KE, pre, hl, hS, _⟩ := hs
    rw [← hl.length]
    exact (does ds b KQ KE hS).1
  · obtain ⟨P', b, G, ds, KQ, KE, pre, hl, hS, hQ, hE⟩ := hs
    obtain ⟨hlen, hx⟩ := does ds b KQ KE hS
    have o : XO T v ⟨N, sc, none, nm, bt, gl, v.cs, rn, fun _ _ _ _ => false, []⟩ lv ⟨G, H, P'⟩ KE (cxOf (L2.CX P w) P w T.K T.mg base N qual sc f cdv A outer s H E) :=
      g.xo sco.nd sco.kind room gd room.hd fun cls d H' h => by
        obtain ⟨b', G', xc, hp, hxc, he⟩ := h
        exact hE xc b' cls d H' G' hp hxc he
    have hp : PassesOwn (model P w) (A.deeper (envOfC qual sc s.heap.objs.size f cdv)) (envOfC qual sc s.heap.objs.size f cdv) (cxOf (L2.CX P w) P w T.K T.mg base N qual sc f cdv A outer s H E).xe :=
      passes_of (X := cxOf (L2.CX P w) P w T.K T.mg base N qual sc f cdv A outer s H E) rfl
    refine ⟨_, sSs o hp rs body ok, ?_⟩
    have hN : ds.length ≤ N.length := by
      have := congrArg List.length sco.pre
      rw [List.length_take] at this
      omega
    refine ⟨_, G, _, pre.start hl N hN, hx, ⟨fun n' σ' H' G' R' s' h => hQ .non false n'.b .non H' G' R'.post ?_ h, fun _ _ _ _ _ _ h => h.elim, fun _ _ _ _ _ _ h => h.elim, fun d fr b' v' H' G' p' s' r h => hQ d fr b' v' H' G' p' r h⟩⟩
    show Hd _ _ _ _ _
    exact .non
end
end Sh
set_option maxHeartbeats  1000000
namespace Sh
open L2 PySem PySem.Spec PyProof.Rows

section
variable {T : Tx} {P P' : Px} {G : Hp}
mutual
theorem Hd.alt (e : P.pen = P'.pen) (e2 : P.cl = P'.cl) : ∀ {d : D} {v : V}, Hd T P G d v → Hd T P' G d v
  | _, _, .non => .non
  | _, _, .bl b => .bl b
  | _, _, .int i => .int i
  | _, _, .str x => .str x
  | _, _, .ty n => .ty n
  | _, _, .glo h => .glo h
  | _, _, .pen => by rw [e]; exact .pen
  | _, _, .obj h k => .obj h (Ho.alt e e2 k)
  | _, _, .kt m h k => .kt m h (Hl.alt e e2 k)
  | _, _, .clo h l k nd t => .clo h l k nd (Hc.alt e e2 t)
  | _, _, .lam h l k t => .lam h l k (by rw [← e2]; exact t)
theorem Hc.alt (e : P.pen = P'.pen) (e2 : P.cl = P'.cl) : ∀ {d : List D} {v : List (Str × Addr)}, Hc T P G d v → Hc T P' G d v
  | _, _, .nil => .nil
  | _, _, .cons h e' r k t => .cons h e' r (Hd.alt e e2 k) (Hc.alt e e2 t)
theorem Ho.alt (e : P.pen = P'.pen) (e2 : P.cl = P'.cl) : ∀ {d : D} {o : HO}, Ho T P G d o → Ho T P' G d o
  | _, _, .tup h => .tup (Hl.alt e e2 h)
  | _, _, .lst h => .lst (Hl.alt e e2 h)
  | _, _, .dK h => .dK (Hk.alt e e2 h)
  | _, _, .dT h => .dT (Ht.alt e e2 h)
  | _, _, .ins a c n h => .ins a c n (Hf.alt e e2 h)
theorem Hl.alt (e : P.pen = P'.pen) (e2 : P.cl = P'.cl) : ∀ {ds : List D} {vs : List V}, Hl T P G ds vs → Hl T P' G ds vs
  | _, _, .nil => .nil
  | _, _, .cons h t => .cons (Hd.alt e e2 h) (Hl.alt e e2 t)
theorem Hf.alt (e : P.pen = P'.pen) (e2 : P.cl = P'.cl) : ∀ {ds : List (Str × D)} {vs : List (Str × V)}, Hf T P G ds vs → Hf T P' G ds vs
  | _, _, .nil => .nil
  | _, _, .cons h t => .cons (Hd.alt e e2 h) (Hf.alt e e2 t)
theorem Hk.alt (e : P.pen = P'.pen) (e2 : P.cl = P'.cl) : ∀ {ds : List (D × D)} {vs : List (Key × V)}, Hk T P G ds vs → Hk T P' G ds vs
  | _, _, .nil => .nil
  | _, _, .cons h t => .cons (Hd.alt e e2 h) (Hk.alt e e2 t)
theorem Ht.alt (e : P.pen = P'.pen) (e2 : P.cl = P'.cl) : ∀ {ds : List (D × D)} {vs : List (List Key × V)}, Ht T P G ds vs → Ht T P' G ds vs
  | _, _, .nil => .nil
  | _, _, .cons h t => .cons (Hd.alt e e2 h) (Ht.alt e e2 t)
end
end
def wm (P : Px) (a : Addr) : Px := { P with me := a }
section
variable {T : Tx} {P : Px} {G G' H0 H H' : Hp} {b : Nat} {x : Addr}
theorem Pre.wm (p : Pre T P b G H) : Pre T (wm P x) b G H := ⟨⟨p.ok.g0, p.ok.pen, p.ok.gpen, p.ok.pc, p.ok.pne, p.ok.tab, p.ok.sm, p.ok.smp⟩, p.sub, p.nt, p.pen, p.tabs⟩
/-- more stood there as it began than the caller knows of -/
theorem Post.small (ok : BOk T ⟨G, H0, P⟩) (s : Sub H0 H) (p : Post T ⟨G, H, Sh.wm P x⟩ b G' H') : Post T ⟨G, H0, P⟩ b G' H' :=
  ⟨ok, p.sub, fun a o h1 h2 h3 => p.ext a o (s a o h1) h2 h3, fun a h => p.dom a (by
    cases e : H0 a with
    | none => exact absurd e h
    | some o => show H a ≠ none; rw [s a o e]; simp), p.g0, (fun a h => (p.new a h).imp id fun z => (by
    show H0 a = none
    cases e : H0 a with
    | none => rfl
    | some o =>
      have z : H a = none := z
      rw [s a o e] at z
      cases z)), p.nt, p.pen, p.tabs, p.len, (fun i s e => by simp at e), (fun i j d e a h => by simp at h), (fun q hq => by simp at hq)⟩
theorem XcOk.unme {xc : Xc} {cls : Value} {d : Option Addr} (h : XcOk T (Sh.wm P x) G' H' xc cls d) : XcOk T P G' H' xc cls d := by
  obtain ⟨h1, C, a, gs, h2, h3, h4, h5⟩ := h
  exact ⟨h1, C, a, gs, h2, h3, h4, fun f e q => by
    obtain ⟨v, k1, k2⟩ := h5 f e q
    exact ⟨v, k1, Hd.alt (P := Sh.wm P x) (P' := P) rfl rfl k2⟩⟩
/-- the object that is made comes to stand in its slot -/
theorem Rep.mine {n : En} {σ : L2.St} {c : Str} {C dx : Addr} (ok : BOk T ⟨G, H0, P⟩) (s : Sub H0 H) (h0 : H0 x = none) (hx : H x = some (.ins C dx [])) (R : Rep T ⟨G, H, Sh.wm P x⟩ n [] G' σ H') (e : n.ρ[0]? = some .me) (hm : T.mg c = some (.ref C)) (hc : ClsF T.K C) (npen : x ≠ P.pen) (one : ∀ i, n.ρ[i]? = some .me → i = 0) :
    Rep T ⟨G, H0, P⟩ { n with ρ := n.ρ.set 0 (.ow (.ins c [])) } [] G' σ H' ∧ σ[0]? = some (some (.ref x)) := by
  have hσ : σ[0]? = some (some (.ref x)) := R.slot 0 _ e
  have hH' : H' x = some (.ins C dx []) := R.ext x _ hx npen fun ps z => by cases z
  have gx : G' x = none := by
    cases q : G' x with
    | none => rfl
    | some o =>
      rcases R.new x (by rw [q]; simp) with z | z
      · have z : G x ≠ none := z
        cases q2 : G x with
        | none => exact absurd q2 z
        | some o2 =>
          have := ok.g0 x o2 q2
          have this : H0 x = some o2 := this
          rw [h0] at this; cases this
      · have z : H x = none := z
        rw [hx] at z; cases z
  have hi : 0 < n.ρ.length := (List.getElem?_eq_some_iff.mp e).1
  have oth : ∀ (j : Nat) (d : D), n.ρ[j]? = some (.ow d) → σ[j]? ≠ some (some (.ref x)) := fun j d h z => by
    obtain ⟨a, o, e1, k⟩ := R.slot j _ h
    rw [e1] at z
    cases z
    have : H x = none := k.own.h
    rw [hx] at this; cases this
  have small : ∀ a, H a = none → H0 a = none := fun a h => by
    cases q : H0 a with
    | none => rfl
    | some o => rw [s a o q] at h; cases h
  have slot : ∀ (i : Nat) (sv : Sv), n.ρ[i]? = some sv → i ≠ 0 → SlotOk T ⟨G, H0, P⟩ G' σ H' i sv := fun i sv h i0 => by
    have k := R.slot i sv h
    cases sv with
    | no => trivial
    | me => exact absurd (one i h) i0
    | sh d =>
      obtain ⟨v, e1, k⟩ := k
      exact ⟨v, e1, Hd.alt (P := Sh.wm P x) (P' := P) rfl rfl k⟩
    | ow d =>
      obtain ⟨a, o, e1, k⟩ := k
      exact ⟨a, o, e1, ⟨k.own.g, small a k.own.h⟩, k.at_, k.mo, Ho.alt (P := Sh.wm P x) (P' := P) rfl rfl k.ho⟩
  have at_ : ∀ (i : Nat) (sv : Sv), (n.ρ.set 0 (.ow (.ins c [])))[i]? = some sv → (i = 0 ∧ sv = .ow (.ins c [])) ∨ (i ≠ 0 ∧ n.ρ[i]? = some sv) := fun i sv h => by
    by_cases hz : i = 0
    · subst hz
      rw [List.getElem?_set_self hi] at h
      cases h
      exact .inl ⟨rfl, rfl⟩
    · rw [List.getElem?_set_ne (Ne.symm hz)] at h
      exact .inr ⟨hz, h⟩
  have own : OwnO T ⟨G, H0, P⟩ G' H' (.ins c []) x (.ins C dx []) := ⟨⟨gx, h0⟩, hH', trivial, .ins hm hc (fun f h => absurd rfl h) .nil⟩
  refine ⟨⟨ok, R.sub, fun a o h1 h2 h3 => R.ext a o (s a o h1) h2 h3, fun a h => R.dom a ?_, R.g0, fun a h => (R.new a h).imp id (small a), R.nt, R.pen, R.tabs, by rw [List.length_set]; exact R.len, fun i sv h => ?_, fun i j d e a h1 h2 h3 h4 => ?_, fun q hq => by simp at hq⟩, hσ⟩
  · have h : H0 a ≠ none := h
    cases q : H0 a with
    | none => exact absurd q h
    | some o => show H a ≠ none; rw [s a o q]; simp
  · rcases at_ i sv h with ⟨rfl, rfl⟩ | ⟨hz, h⟩
    · exact ⟨x, _, hσ, own⟩
    · exact slot i sv h hz
  · rcases at_ i _ h1 with ⟨rfl, _⟩ | ⟨hz1, k1⟩
    · rcases at_ j _ h2 with ⟨rfl, _⟩ | ⟨hz2, k2⟩
      · rfl
      · rw [hσ] at h3
        cases h3
        exact absurd h4 (oth j _ k2)
    · rcases at_ j _ h2 with ⟨rfl, _⟩ | ⟨hz2, k2⟩
      · rw [hσ] at h4
        cases h4
        exact absurd h3 (oth i _ k1)
      · exact R.apart i j d e a k1 k2 h3 h4
end
end Sh
namespace Sh
open L2 PySem PySem.Spec PyProof.Rows

/-- self.f = e, .. -/
def fldR : List (Str × RX) → RSs
  | [] => .nil
  | (f, e) :: r => .cons (.fld 0 f e) (fldR r)
/-- what an __init__ is reckoned to do: first without itself, then its fields -/
def DoesI (v : Ev) (c : Str) (N : List Str) (m : Nat) (pre : RSs) (l : List (Str × RX)) (S : DSp) : Prop := ∀ ds b KQ KE, S ds b KQ KE → ds.length + 1 = m ∧
  exs v KE pre { nx := fun n => n.ρ[0]? = some .me ∧ (∀ i, n.ρ[i]? = some .me → i = 0) ∧ exs v KE (fldR l) { nx := fun n2 => ∃ fs, n2.ρ[0]? = some (.ow (.ins c fs)) ∧ KQ (.ins c fs) true n2.b, rt := fun _ _ _ => False } { n with ρ := n.ρ.set 0 (.ow (.ins c [])) }, rt := fun _ _ _ => False }
    ⟨.me :: ds.map .sh ++ List.replicate (N.length - (ds.length + 1)) .no, b⟩
/-- its promise -/
def spI (T : Tx) (C : Addr) (S : DSp) : Sp := fun vs H Q E => ∃ P b G ds KQ KE x ws H0 dx, vs = .ref x :: ws ∧ H = upd (upd H0 dx (.own x)) x (.ins C dx []) ∧ H0 x = none ∧ H0 dx = none ∧ dx ≠ x ∧ Pre T P b G H0 ∧ Hl T P G ds ws ∧ S ds b KQ KE ∧
  (∀ d b' H' G' o, Post T ⟨G, H0, P⟩ b' G' H' → OwnO T ⟨G, H0, P⟩ G' H' d x o → KQ d true b' → Q .non H') ∧
  ∀ xc b' cls d H' G', Post T ⟨G, H0, P⟩ b' G' H' → XcOk T P G' H' xc cls d → KE xc b' → E cls d H'
section
variable {T : Tx} {v : Ev} {k : Ck} {lv : Nat} {B : Bs} {Ex : Xc → Nat → Prop} {X : Cx}
/-- the frame's slot 0 is the object; its fields are stored -/
def tFldR (T : Tx) (v : Ev) (B : Bs) (Ex : Xc → Nat → Prop) (l : List (Str × RX)) : TS := fun E σ H => ∃ n G K a, Rep T B n [] G σ H ∧ σ[0]? = some (some (.ref a)) ∧ exs v Ex (fldR l) K n ∧ ∀ n2 G2 H2, Rep T B n2 [] G2 σ H2 → Sub G G2 → K.nx n2 → E.nx σ H2
theorem flds_ok (o : XO T v k lv B Ex X) : ∀ (l : List (Str × RX)) (st : List Stmt), okSs k (fldR l) st = true → PSs X st (tFldR T v B Ex l)
  | [], [], _ => PSs.imp pss_nil fun E σ H ⟨n, G, K, a, R, _, t, q⟩ => q n G H R (.refl G) t
  | [], _ :: _, h => by simp [fldR, okSs] at h
  | (f, e) :: l, [], h => by simp [fldR, okSs, RS.mute] at h
  | (f, e) :: l, s :: st, h => by
    simp only [fldR, okSs, RS.mute, Bool.false_eq_true, if_false, Bool.and_eq_true] at h
    obtain ⟨h1, h2⟩ := h
    cases s with
    | Assign ts y p =>
      match ts, h1 with
      | [], h1 => simp [okS] at h1
      | a :: _ :: _, h1 =>
        cases a with
        | Attribute b s p => cases b <;> simp [okS] at h1
        | _ => simp [okS] at h1
      | [t], h1 =>
        cases t with
        | Attribute b s p1 =>
          cases b with
          | Name x p2 =>
            simp only [okS, Bool.and_eq_true, beq_iff_eq] at h1
            obtain ⟨⟨⟨rfl, h3⟩, h4⟩, h5⟩ := h1
            refine PSs.imp (pss_cons (ps_fld (o.var_ h3) (sX e o y h5) (sw_no h4 _ _ _)) (flds_ok o l st h2)) fun E σ H q => ?_
            obtain ⟨n, G, K, a, R, hσ, t, q⟩ := q
            refine ⟨n, [], G, _, R, t, fun r n1 u H1 G1 R1 s1 k1 t1 => ?_⟩
            obtain ⟨d, n2, G2, s2, R2, h6, c, fs, hc, hf, e0, hz, t2⟩ := frz_ok R1 k1 t1
            obtain ⟨a', oo, ea, ko⟩ := R2.slot 0 _ e0
            rw [hσ] at ea
            cases ea
            have ho := ko.ho
            cases ho with
            | @ins _ C dx _ gs em ec en ef =>
              refine ⟨.ref a, hσ, a, C, dx, gs, rfl, ko.at_, o.K ▸ (o.kit.cls c hc C em).cl, o.K ▸ o.kit.nof c hc C em f hf, by rw [← ef.length]; omega, ?_⟩
              refine ⟨_, G2, K, a, R2.mut e0 hσ trivial (.ins em ec (fun g hg => (look_put hg).elim (fun e => e ▸ o.kit.nof c hc C em f hf) (en g)) (ef.put h6)), hσ, t2, fun n3 G3 H3 R3 s3 h => q n3 G3 H3 R3 (s1.trans (s2.trans s3)) h⟩
          | _ => simp [okS] at h1
        | _ => simp [okS] at h1
    | _ => simp [okS] at h1
/-- statements, then others -/
theorem sSs_then (o : XO T v k lv B Ex X) (hp : PassesOwn (model X.prog X.w) X.A X.env X.xe) {b2 : List Stmt} {t2 : TS} (h2 : PSs X b2 t2) : ∀ (r : RSs) (st : List Stmt), okSs k r st = true → PSs X (st ++ b2) fun E σ H => upS T B (exs v Ex r) { E with nx := t2 E } σ H
  | .nil, [], h => PSs.imp h2 fun E σ H q => upS_nx q
  | .nil, _ :: _, h => by simp [okSs] at h
  | .cons a l, st, h => by
    simp only [okSs] at h
    by_cases hm : a.mute = true
    · rw [if_pos hm] at h
      exact PSs.imp (sSs_then o hp h2 l st h) fun E σ H q => upS_mute hm q
    · rw [if_neg hm] at h
      match st, h with
      | s :: st, h =>
        rw [Bool.and_eq_true] at h
        exact PSs.imp (pss_cons (sS o hp a s h.1) (sSs_then o hp h2 l st h.2)) fun E σ H q => upS_seq q
end
section
variable {T : Tx} {B : Bs} {n : En} {G : Hp} {σ σ' : L2.St} {H : Hp} {d0 : D} {v0 : V} {r : List Sv} {b : Nat}
/-- the frame's first slot is the object that is made -/
theorem Rep.tome (R : Rep T B ⟨.sh d0 :: r, b⟩ [] G σ H) (e : σ' = σ.set 0 (some (.ref B.P.me))) : Rep T B ⟨.me :: r, b⟩ [] G σ' H := by
  subst e
  have hl := R.len
  have h0 : (σ.set 0 (some (V.ref B.P.me)))[0]? = some (some (.ref B.P.me)) := List.getElem?_set_self (by rw [hl]; simp)
  have oth : ∀ i, (σ.set 0 (some (V.ref B.P.me)))[i + 1]? = σ[i + 1]? := fun i => List.getElem?_set_ne (by omega)
  refine ⟨R.bok, R.sub, R.ext, R.dom, R.g0, R.new, R.nt, R.pen, R.tabs, by rw [List.length_set]; exact hl, fun i s h => ?_, fun i j d e a h1 h2 h3 h4 => ?_, fun p hp => by simp at hp⟩
  · cases i with
    | zero => cases h; exact h0
    | succ i =>
      have k := R.slot (i + 1) s h
      cases s with
      | no => trivial
      | me => exact (oth i).trans k
      | sh d =>
        obtain ⟨v, e1, k⟩ := k
        exact ⟨v, (oth i).trans e1, k⟩
      | ow d =>
        obtain ⟨a, o, e1, k⟩ := k
        exact ⟨a, o, (oth i).trans e1, k⟩
  · cases i with
    | zero => cases h1
    | succ i =>
      cases j with
      | zero => cases h2
      | succ j => exact R.apart (i + 1) (j + 1) d e a h1 h2 ((oth i).symm.trans h3) ((oth j).symm.trans h4)
end
section
variable {T : Tx} {v : Ev} {P : Program} {w : World} {base : Heap} {lv : Nat} {nm rn : List (Nat × Str)} {bt gl : List Str}
theorem fnI_of {x qual c : Str} {C : Addr} {params : Arguments} {body : List Stmt} {sc : Scope} {f : Addr} {fd : FuncData} {N ps : List Str} {pre : RSs} {l : List (Str × RX)} {j : Nat} {S : DSp} (F : FunD T.K x qual params body sc [] [] f fd) (sco : FnScope N ps sc) (g : Gf T v P w base lv nm rn bt gl)
    (hc : c ∈ v.cs) (hm : T.mg c = some (.ref C)) (ok1 : okSs ⟨N, sc, none, nm, bt, gl, v.cs, rn, fun _ _ _ _ => false, []⟩ pre (body.take j) = true) (ok2 : okSs ⟨N, sc, none, nm, bt, gl, v.cs, rn, fun _ _ _ _ => false, []⟩ (fldR l) (body.drop j) = true) (does : DoesI v c N ps.length pre l S) :
    FnG P w T.K T.mg base (lv + 1) f fd ps (spI T C S) := by
  obtain ⟨oc, od, dV, kV, doc, pm, an, cdv, ct, osl, rfl, lk, hcd, _, _⟩ := F.ex
  refine fnG_of lk hcd sco (fun vs H Q E hs => ?_) fun A outer s H vs Q E room gd hs => ?_
  · obtain ⟨P', b, G, ds, KQ, KE, y, ws, H0, dx, rfl, rfl, _, _, _, pre', hl, hS, _⟩ := hs
    rw [List.length_cons, ← hl.length]
    exact (does ds b KQ KE hS).1
  · obtain ⟨P', b, G, ds, KQ, KE, y, ws, H0, dx, rfl, rfl, hy, hdx, hne, pre', hl, hS, hQ, hE⟩ := hs
    obtain ⟨hlen, hx⟩ := does ds b KQ KE hS
    have hyd : (upd H0 dx (.own y)) y = none := by rw [upd_ne (Ne.symm hne)]; exact hy
    have sub : Sub H0 (upd (upd H0 dx (.own y)) y (.ins C dx [])) := (sub_upd hdx).trans (sub_upd hyd)
    have npen : y ≠ P'.pen := fun z => pre'.ok.pen (by show H0 P'.pen = none; rw [← z]; exact hy)
    generalize hB1 : (⟨G, upd (upd H0 dx (.own y)) y (.ins C dx []), Sh.wm P' y⟩ : Bs) = B1
    generalize hB2 : (⟨G, H0, P'⟩ : Bs) = B2
    have o1 : XO T v ⟨N, sc, none, nm, bt, gl, v.cs, rn, fun _ _ _ _ => false, []⟩ lv B1 KE (cxOf (L2.CX P w) P w T.K T.mg base N qual sc f cdv A outer s (upd (upd H0 dx (.own y)) y (.ins C dx [])) E) := g.xo sco.nd sco.kind room gd room.hd fun cls d H' h => by
      subst hB1
      obtain ⟨b', G', xc, hp, hxc, he⟩ := h
      exact hE xc b' cls d H' G' (Post.small pre'.ok sub hp) hxc.unme he
    have o2 : XO T v ⟨N, sc, none, nm, bt, gl, v.cs, rn, fun _ _ _ _ => false, []⟩ lv B2 KE (cxOf (L2.CX P w) P w T.K T.mg base N qual sc f cdv A outer s (upd (upd H0 dx (.own y)) y (.ins C dx [])) E) := g.xo sco.nd sco.kind room gd room.hd fun cls d H' h => by
      subst hB2
      obtain ⟨b', G', xc, hp, hxc, he⟩ := h
      exact hE xc b' cls d H' G' hp hxc he
    have hp : PassesOwn (model P w) (A.deeper (envOfC qual sc s.heap.objs.size f cdv)) (envOfC qual sc s.heap.objs.size f cdv) (cxOf (L2.CX P w) P w T.K T.mg base N qual sc f cdv A outer s (upd (upd H0 dx (.own y)) y (.ins C dx [])) E).xe :=
      passes_of (X := cxOf (L2.CX P w) P w T.K T.mg base N qual sc f cdv A outer s (upd (upd H0 dx (.own y)) y (.ins C dx [])) E) rfl
    have run := sSs_then o1 hp (flds_ok o2 l (body.drop j) ok2) pre (body.take j) ok1
    rw [List.take_append_drop] at run
    refine ⟨_, run, ?_⟩
    have hN : ds.length + 1 ≤ N.length := by
      have := congrArg List.length sco.pre
      rw [List.length_take] at this
      omega
    have R0 := pre'.start (ds := ds) (vs := ws) hl N (by omega)
    have p1 : Pre T (Sh.wm P' y) b G (upd (upd H0 dx (.own y)) y (.ins C dx [])) := (((R0.laid (.own y) hdx).laid (.ins C dx []) hyd).pre).wm
    have hl1 : Hl T (Sh.wm P' y) G (.non :: ds) (.non :: ws) := .cons .non (Hl.alt (P := P') (P' := Sh.wm P' y) rfl rfl hl)
    have R1 := (p1.start hl1 N (by simpa using hN)).tome (σ' := L2.start N (.ref y :: ws)) rfl
    subst hB1 hB2
    refine ⟨_, G, _, R1, hx, ⟨fun n' σ' H' G' R' s' h => ?_, fun _ _ _ _ _ _ h => h.elim, fun _ _ _ _ _ _ h => h.elim, fun d fr b' v' H' G' p' s' r h => h.elim⟩⟩
    obtain ⟨h1, h2, h3⟩ := h
    obtain ⟨R2, hσ⟩ := R'.mine pre'.ok sub hy upd_same h1 hm (g.kit.cls c hc C hm) npen h2
    refine ⟨_, G', _, y, R2, hσ, h3, fun n2 G2 H2 R3 s3 ⟨fs, e, kq⟩ => ?_⟩
    obtain ⟨a, oo, ea, ko⟩ := R3.slot 0 _ e
    rw [hσ] at ea
    cases ea
    exact hQ _ _ _ _ oo R3.post ko kq
theorem cls_fnV {C f : Addr} {fd : FuncData} {ps : List Str} {S : DSp} (M : Mk T.K C f) (F : FnG P w T.K T.mg base lv f fd ps (spI T C S)) (hb : Binds T.K fd ps []) : FnV P w T.K T.mg base (lv + 1) (.ref C) (spD T S) := by
  intro X e1 e2 e3 e4 e5 room gd pins s σ H us vs Q E hx I rel h
  obtain ⟨P', b, G, ds, KQ, KE, pre, hl, hS, hQ, hE⟩ := h
  have I2 := Inv.made (C := C) I
  have r2 : Vals (V.ref (s.heap.objs.size + 1) :: vs) (Value.ref (s.heap.objs.size + 1) :: us) := .cons rfl rel
  have hy : H (s.heap.objs.size + 1) = none := I.hok.fresh (Nat.le_succ _)
  have hdx : H s.heap.objs.size = none := I.hok.fresh (Nat.le_refl _)
  have hne : s.heap.objs.size ≠ s.heap.objs.size + 1 := Nat.ne_of_lt (Nat.lt_succ_self _)
  have hsp : spI T C S (V.ref (s.heap.objs.size + 1) :: vs) (upd (upd H s.heap.objs.size (.own (s.heap.objs.size + 1))) (s.heap.objs.size + 1) (.ins C s.heap.objs.size [])) (fun v H2 => v = .non ∧ Q (.ref (s.heap.objs.size + 1)) H2) E :=
    ⟨P', b, G, ds, KQ, KE, _, vs, H, _, rfl, rfl, hy, hdx, hne, pre, hl, hS, fun d b' H' G' o hp ko kq => ⟨rfl, hQ d true b' _ H' G' hp ⟨_, o, rfl, ko⟩ kq⟩, hE⟩
  have hlen : (Value.ref (s.heap.objs.size + 1) :: us ++ []).length = ps.length := by
    rw [List.append_nil, ← r2.length]
    exact F.ar _ _ _ _ hsp
  subst e1 e2 e5
  have e0 := I2.env0.make C us []
  rw [e3, e4] at e0
  have hbind := hb _ (Value.ref (s.heap.objs.size + 1) :: us) (e3 ▸ I2.kIn) hlen
  rw [List.append_nil] at hbind
  refine wpAny_call (make_map (f := f) (K := X.K) I.kIn (by rw [e3]; exact M.makes) (by rw [e3]; exact M.init) (by rw [e3]; exact beq_iff_eq.mp M.fn) (codeAny_mono (F.go _ X.stack _ _ ⟨Value.ref (s.heap.objs.size + 1) :: us, []⟩ (Value.ref (s.heap.objs.size + 1) :: us) _ _ E (room.make C us []) (by first | exact gd | (rw [← gd]; rfl)) e0 hbind r2 hsp) fun r s' hq' => ?_))
  cases r with
  | error e => exact hx pins σ _ _ e s' I2 hq'
  | ok fl =>
    cases fl with
    | ret u =>
      obtain ⟨v', H', I3, rv, ev, q3⟩ := I2.after hq'
      subst ev
      exact ⟨rv, ⟨V.ref (s.heap.objs.size + 1), H', I3, rfl, q3⟩⟩
    | next => exact False.elim hq'
    | brk => exact False.elim hq'
    | cont => exact False.elim hq'
end
end Sh
namespace Sh
open L2 PySem PySem.Spec PyProof.Rows

theorem exO_ok {P : Program} {w : World} {H : Hp} {h : Heap} {a : Addr} {o : Obj} (e : h.get? a = some o) : ObjOk P w H h a (ExO a o) := ⟨e, ⟨o, e⟩, fun h1 h2 z k => k _ z⟩
theorem exO_nt {a : Addr} {o : Obj} : NT (ExO a o) := fun ps z => by
  unfold ExO at z
  cases z
theorem exO_at {P : Program} {w : World} {H : Hp} {h : Heap} {a : Addr} {o : Obj} (ok : HOk P w H h) (e : H a = some (ExO a o)) : h.get? a = some o := by
  have x : ObjOk P w H h a (.ext fun h => h.get? a = some o) := ok a _ e
  exact x.1
theorem codeO_nt {c : Addr} {q : Str} : NT (LamX.CodeO c q) := fun ps z => by
  unfold LamX.CodeO at z
  cases z
section
variable {T : Tx} {B : Bs} {n : En} {τ : List (Addr × HO)} {G : Hp} {σ : L2.St} {H : Hp}
/-- a table gets a new code object -/
theorem Rep.code (R : Rep T B n τ G σ H) {p c : Addr} {q : Str} {ps more : Array Value} (hp : H p = some (.tbl ps)) (hm : (p, q) ∈ T.tb) (hu : ∀ z ∈ T.tb, z.1 = p → z.2 = q) (hc : H c = none) (ht : TriplesOk (ps ++ more).toList)
    (hn : ∀ pos cv, codeAmong pos (ps ++ more).toList = some cv → codeAmong pos ps.toList = some cv ∨ cv = .ref c) :
    Rep T B n τ (upd G c (LamX.CodeO c q)) σ (upd (upd H p (.tbl (ps ++ more))) c (LamX.CodeO c q)) := by
  have own := R.fresh hc
  have sb : Sub G (upd G c (LamX.CodeO c q)) := sub_upd own.g
  have npc : p ≠ c := ne_of_none hp hc
  have keep : ∀ {a o}, H a = some o → NT o → upd (upd H p (.tbl (ps ++ more))) c (LamX.CodeO c q) a = some o := fun {a o} e nt => by
    rw [upd_ne (ne_of_none e hc), upd_ne (fun z => by rw [z, hp] at e; cases e; exact nt ps rfl)]
    exact e
  refine ⟨R.bok, fun a o e => ?_, fun a o h1 h2 h3 => keep (R.ext a o h1 h2 h3) h3, fun a h => ?_, R.g0.trans sb, fun a h => ?_, fun a o e => ?_, ?_, fun z hz => ?_, R.len, fun i s e => ?_, R.apart, fun z hz => ?_⟩
  · by_cases h : a = c
    · subst h; rw [upd_same] at e ⊢; exact e
    · rw [upd_ne h] at e; exact keep (R.sub _ _ e) (R.nt _ _ e)
  · have := R.dom a h
    unfold upd
    split
    · simp
    · split
      · simp
      · exact this
  · by_cases e : a = c
    · subst e; exact .inr own.h
    · rw [upd_ne e] at h; exact R.new a h
  · by_cases h : a = c
    · subst h; rw [upd_same] at e; cases e; exact codeO_nt
    · rw [upd_ne h] at e; exact R.nt _ _ e
  · obtain ⟨a1, a2, a3, a4, h1, h2⟩ := R.pen
    exact ⟨a1, a2, a3, a4, keep h1 fun ps => nofun, h2⟩
  · by_cases hz1 : z.1 = p
    · refine ⟨ps ++ more, by rw [hz1, upd_ne npc, upd_same], ht, fun pos cv h => ?_⟩
      rcases hn pos cv h with h | h
      · obtain ⟨ps', e1, _, e3⟩ := R.tabs z hz
        rw [hz1, hp] at e1; cases e1
        obtain ⟨c', e, g⟩ := e3 pos cv h
        exact ⟨c', e, sb _ _ g⟩
      · exact ⟨c, h, by rw [hu z hz hz1]; exact upd_same⟩
    · obtain ⟨ps', e1, e2, e3⟩ := R.tabs z hz
      refine ⟨ps', by rw [upd_ne (ne_of_none e1 hc), upd_ne hz1]; exact e1, e2, fun pos cv h => ?_⟩
      obtain ⟨c', e, g⟩ := e3 pos cv h
      exact ⟨c', e, sb _ _ g⟩
  · have k := R.slot i s e
    cases s with
    | no => trivial
    | me => exact k
    | sh d =>
      obtain ⟨v, e1, e2⟩ := k
      exact ⟨v, e1, e2.mono sb⟩
    | ow d =>
      obtain ⟨a, o, e1, k⟩ := k
      have ne : a ≠ c := ne_of_none k.at_ hc
      exact ⟨a, o, e1, ⟨by rw [upd_ne ne]; exact k.own.g, k.own.h⟩, keep k.at_ k.mo.nt, k.mo, k.ho.mono sb⟩
  · obtain ⟨h1, h2, h3, h4⟩ := R.tmp z hz
    exact ⟨keep h1 h2.nt, h2, ⟨by rw [upd_ne (ne_of_none h1 hc)]; exact h3.g, h3.h⟩, h4⟩
end
section
variable {X : Cx} {T : Tx} {B : Bs}
/-- lambda ..: body, in a def whose cells the pen's record names -/
theorem pe_lam {n : Nat} {c p : Addr} {params : Arguments} {body : Expr} {sc : Scope} {pos : Pos} (TB : LamX.TabB X.base X.mg c p) (hcode : X.env.code = .ref c) (hm : (p, X.env.qual ++ "<lambda>") ∈ T.tb) (hu : ∀ z ∈ T.tb, z.1 = p → z.2 = X.env.qual ++ "<lambda>")
    (hdef : defaultsOf params X.env = ([], [])) (hfree : ∀ y ∈ sc.names, y.2 = .free → ∃ c, X.env.cells.lookup y.1 = some c) (hlo : T.lo n (X.env.qual ++ "<lambda>") params body sc) (hcl : B.P.cl = X.env.cells) :
    PE X (.Lambda params body sc pos) (up T B (dC (.lam n))) := by
  constructor
  intro pins s σ H Q I q
  obtain ⟨m, τ, G, K, R, t, q⟩ := q
  obtain ⟨ps, hP, ht, ha⟩ := R.tabs _ hm
  have hbm : s.heap.BuiltinsAt X.mg p := TB.bm.keeps I.bk
  have hget : s.heap.get? p = some { cls := .none, data := .fields ps } := I.hok p _ hP
  refine PySem.W.kla_eval hdef ?_
  cases hc : codeAmong pos ps.toList with
  | none =>
    refine PySem.W.kla_makeFunction (mg := X.mg) (c := c) (P := p) (ps := ps) (L2.closure_ok hfree) I.ok.glob (I.mod.glob.keeps I.bk) hcode (TB.code.keeps I.bk) hget ht hc TB.gP hbm ?_
    intro c' ctv h' tk hx hge hlt hrec htb
    obtain ⟨c2, oc, vs, t', e2, hoc, hd, hv⟩ := hrec
    cases e2
    have hsz : s.heap.objs.size ≤ h'.objs.size := Nat.le_trans hge (Nat.le_of_lt hlt)
    have nC : H c' = none := I.hok.fresh hge
    have I1 : Inv X pins σ (upd (upd H p (.tbl (ps ++ #[rawInt pos.line, rawInt pos.col, .ref c']))) c' (LamX.CodeO c' (X.env.qual ++ "<lambda>"))) { s with heap := h', toks := tk } :=
      LamX.inv_table (more := #[rawInt pos.line, rawInt pos.col, .ref c']) I hP (fun b o hb e => hx b o hb e) htb hge ⟨oc, vs, t', hoc, hd, hv⟩
    have eL : (ps ++ #[rawInt pos.line, rawInt pos.col, .ref c']).toList = ps.toList ++ [rawInt pos.line, rawInt pos.col, .ref c'] := by simp
    have R1 := R.code hP hm hu nC (by rw [eL]; exact PySem.TriplesOk_snoc _ _ _ _ ht) fun pos' cv hcv => by
      rw [eL] at hcv
      exact LamX.among_app _ ht hcv
    have nf : (upd (upd H p (.tbl (ps ++ #[rawInt pos.line, rawInt pos.col, .ref c']))) c' (LamX.CodeO c' (X.env.qual ++ "<lambda>"))) h'.objs.size = none := I1.hok.fresh (Nat.le_refl _)
    have I2 := I1.laid (a := h'.objs.size) (t' := tk) (o := ExO h'.objs.size (PySem.W.kla_obj "<lambda>" (X.env.qual ++ "<lambda>") params body sc (cloFrom X.env.cells sc.names []) ((X.mg "__name__").getD .none) c' ctv))
      (h' := h'.push (PySem.W.kla_obj "<lambda>" (X.env.qual ++ "<lambda>") params body sc (cloFrom X.env.cells sc.names []) ((X.mg "__name__").getD .none) c' ctv)) (fun b o e => Heap.get?_push_of_some _ e) (Nat.le_refl _) (exO_ok (Heap.get?_push_size _ rfl))
    have R2 := R1.laidF nf (exO_nt (a := h'.objs.size) (o := PySem.W.kla_obj "<lambda>" (X.env.qual ++ "<lambda>") params body sc (cloFrom X.env.cells sc.names []) ((X.mg "__name__").getD .none) c' ctv))
    have nc' : c' ≠ h'.objs.size := Nat.ne_of_lt hlt
    refine ⟨.ref h'.objs.size, _, I2, rfl, q (.val (.lam n)) m _ _ _ R2 ((sub_upd (R.fresh nC).g).trans (sub_upd (R1.fresh nf).g)) ?_ t⟩
    show Hd _ _ _ _ _
    exact .lam upd_same ⟨_, _, _, _, hlo, rfl⟩ (by rw [upd_ne nc', upd_same]) (by rw [hcl])
  | some cv =>
    obtain ⟨c', rfl, hco⟩ := ha pos cv hc
    refine PySem.W.kla_makeFunctionHit (mg := X.mg) (c := c) (P := p) (ps := ps) (L2.closure_ok hfree) I.ok.glob (I.mod.glob.keeps I.bk) hcode (TB.code.keeps I.bk) hget ht hc hbm ?_
    intro ctv h' tk hx hsz
    have I1 : Inv X pins σ H { s with heap := h', toks := tk } := I.kept hx
    have nf : H h'.objs.size = none := I1.hok.fresh (Nat.le_refl _)
    have I2 := I1.laid (a := h'.objs.size) (t' := tk) (o := ExO h'.objs.size (PySem.W.kla_obj "<lambda>" (X.env.qual ++ "<lambda>") params body sc (cloFrom X.env.cells sc.names []) ((X.mg "__name__").getD .none) c' ctv))
      (h' := h'.push (PySem.W.kla_obj "<lambda>" (X.env.qual ++ "<lambda>") params body sc (cloFrom X.env.cells sc.names []) ((X.mg "__name__").getD .none) c' ctv)) (fun b o e => Heap.get?_push_of_some _ e) (Nat.le_refl _) (exO_ok (Heap.get?_push_size _ rfl))
    have R2 := R.laidF nf (exO_nt (a := h'.objs.size) (o := PySem.W.kla_obj "<lambda>" (X.env.qual ++ "<lambda>") params body sc (cloFrom X.env.cells sc.names []) ((X.mg "__name__").getD .none) c' ctv))
    refine ⟨.ref h'.objs.size, _, I2, rfl, q (.val (.lam n)) m _ _ _ R2 (sub_upd (R.fresh nf).g) ?_ t⟩
    show Hd _ _ _ _ _
    exact .lam upd_same ⟨_, _, _, _, hlo, rfl⟩ (sub_upd (R.fresh nf).g _ _ hco) (by rw [hcl])
end
end Sh
namespace Sh
open L2 PySem PySem.Spec PyProof.Rows

abbrev Xl := List (Addr × Obj)
def addX (L : Xl) (H : Hp) : Hp := fun b => match L.lookup b with
  | some o => some (ExO b o)
  | none => H b
def subX (L : Xl) (H : Hp) : Hp := fun b => match L.lookup b with
  | some _ => none
  | none => H b
section
variable {L : Xl} {H H' G G' : Hp} {b : Addr} {o : Obj}
theorem addX_in (h : L.lookup b = some o) : addX L H b = some (ExO b o) := by unfold addX; rw [h]
theorem addX_out (h : L.lookup b = none) : addX L H b = H b := by unfold addX; rw [h]
theorem subX_in (h : L.lookup b = some o) : subX L H b = none := by unfold subX; rw [h]
theorem subX_out (h : L.lookup b = none) : subX L H b = H b := by unfold subX; rw [h]
theorem subX_some {u : HO} (h : subX L H b = some u) : L.lookup b = none ∧ H b = some u := by
  cases e : L.lookup b with
  | none => rw [subX_out e] at h; exact ⟨rfl, h⟩
  | some o => rw [subX_in e] at h; cases h
theorem add_sub (h : ∀ b o, L.lookup b = some o → H b = some (ExO b o)) : addX L (subX L H) = H := by
  funext b
  cases e : L.lookup b with
  | none => rw [addX_out e, subX_out e]
  | some o => rw [addX_in e, h b o e]
theorem exO_ne {a : Addr} {o : Obj} {u : HO} (h : ∀ p, u ≠ .ext p) : ExO a o ≠ u := fun z => h _ z.symm
/-- objects of which nothing is known in H -/
structure Xs (L : Xl) (H : Hp) (h : Heap) : Prop where
  at_ : ∀ b o, L.lookup b = some o → h.get? b = some o
  no : ∀ b o, L.lookup b = some o → H b = none
theorem addX_some {u : HO} (n : ∀ b o, L.lookup b = some o → H b = none) (h : H b = some u) : addX L H b = some u := by
  cases e : L.lookup b with
  | none => rw [addX_out e]; exact h
  | some o => rw [n b o e] at h; cases h
theorem hok_add {P : Program} {w : World} {h : Heap} (ok : HOk P w H h) (x : Xs L H h) : HOk P w (addX L H) h := fun b u e => by
  cases q : L.lookup b with
  | some o => rw [addX_in q] at e; cases e; exact exO_ok (x.at_ b o q)
  | none =>
    rw [addX_out q] at e
    exact (ok b u e).stay (fun _ _ _ h => h) (fun c h => addX_some x.no h) fun c xs h => addX_some x.no h
theorem hok_sub {P : Program} {w : World} {h : Heap} (ok : HOk P w H h) (x : ∀ b o, L.lookup b = some o → H b = some (ExO b o)) : HOk P w (subX L H) h := fun b u e => by
  obtain ⟨e1, e2⟩ := subX_some e
  have out : ∀ c u, H c = some u → (∀ p, u ≠ .ext p) → L.lookup c = none := fun c u h n => by
    cases q : L.lookup c with
    | none => rfl
    | some o => rw [x c o q] at h; cases h; exact absurd rfl (n _)
  exact (ok b u e2).stay (fun _ _ _ h => h) (fun c h => by rw [subX_out (out c _ h nofun)]; exact h) fun c xs h => by rw [subX_out (out c _ h nofun)]; exact h
theorem un_add {fs : List Addr} {h h' : Heap} (un : Un fs [] H H' h h') (x : Xs L H h) : Un fs [] (addX L H) (addX L H') h h' where
  keep b o e n hf hx := by
    cases q : L.lookup b with
    | some u => rw [addX_in q] at n; cases n
    | none => rw [addX_out q] at n; exact un.keep b o e n hf hx
  slot b o e n hf hx := by
    cases q : L.lookup b with
    | some u => rw [addX_in q] at n; cases n
    | none => rw [addX_out q] at n; exact un.slot b o e n hf hx
  free b o e n hx := by
    cases q : L.lookup b with
    | some u => rw [addX_in q] at n; cases n
    | none => rw [addX_out q] at n ⊢; exact un.free b o e n hx
  there := un.there
  tups b xs e := by
    cases q : L.lookup b with
    | some u => rw [addX_in q] at e; cases e
    | none => rw [addX_out q] at e ⊢; exact un.tups b xs e
  frzs b o u e := by
    cases q : L.lookup b with
    | some u => rw [addX_in q] at e; cases e
    | none => rw [addX_out q] at e ⊢; exact un.frzs b o u e
  tbls b ps e := by
    cases q : L.lookup b with
    | some u => rw [addX_in q] at e; cases e
    | none => rw [addX_out q] at e ⊢; exact un.tbls b ps e
theorem un_sub {fs : List Addr} {P : Program} {w : World} {h h' : Heap} (un : Un fs [] (addX L H) H' h h') (x : Xs L H h) (ok : HOk P w H' h') (k : ∀ b o, L.lookup b = some o → H' b = some (ExO b o)) (nf : ∀ b o, L.lookup b = some o → b ∉ fs) : Un fs [] H (subX L H') h h' where
  keep b o e n hf hx := by
    cases q : L.lookup b with
    | some u =>
      have := x.at_ b u q
      rw [e] at this; cases this
      exact exO_at ok (k b o q)
    | none => exact un.keep b o e (by rw [addX_out q]; exact n) hf hx
  slot b o e n hf hx := by
    cases q : L.lookup b with
    | some u => exact absurd hf (nf b u q)
    | none => exact un.slot b o e (by rw [addX_out q]; exact n) hf hx
  free b o e n hx := by
    cases q : L.lookup b with
    | some u => exact subX_in q
    | none => rw [subX_out q]; exact un.free b o e (by rw [addX_out q]; exact n) hx
  there := un.there
  tups b xs e := by
    have q : L.lookup b = none := by
      cases q : L.lookup b with
      | none => rfl
      | some u => rw [x.no b u q] at e; cases e
    rw [subX_out q]; exact un.tups b xs (by rw [addX_out q]; exact e)
  frzs b o u e := by
    have q : L.lookup b = none := by
      cases q : L.lookup b with
      | none => rfl
      | some u => rw [x.no b u q] at e; cases e
    rw [subX_out q]; exact un.frzs b o u (by rw [addX_out q]; exact e)
  tbls b ps e := by
    have q : L.lookup b = none := by
      cases q : L.lookup b with
      | none => rfl
      | some u => rw [x.no b u q] at e; cases e
    rw [subX_out q]; exact un.tbls b ps (by rw [addX_out q]; exact e)
end

section
variable {T : Tx} {P P' : Px} {G G' : Hp}
/-- what plain data lean on -/
def SubN (G G' : Hp) : Prop := ∀ a o, G a = some o → (∀ p, o ≠ .ext p) → G' a = some o
mutual
theorem Hd.go (s : SubN G G') (e : P'.pen = P.pen) : ∀ {d : D} {v : V}, Hd T P G d v → d.plain = true → Hd T P' G' d v
  | _, _, .non, _ => .non
  | _, _, .bl b, _ => .bl b
  | _, _, .int i, _ => .int i
  | _, _, .str x, _ => .str x
  | _, _, .ty n, _ => .ty n
  | _, _, .glo h, _ => .glo h
  | _, _, .pen, _ => e ▸ .pen
  | _, _, .obj h k, q => .obj (s _ _ h (by cases k <;> exact nofun)) (Ho.go s e k q)
  | _, _, .kt m h k, q => .kt m h (Hl.go s e k (by simpa [D.plain] using q))
  | _, _, .clo _ _ _ _ _, q => by simp [D.plain] at q
  | _, _, .lam _ _ _ _, q => by simp [D.plain] at q
theorem Ho.go (s : SubN G G') (e : P'.pen = P.pen) : ∀ {d : D} {o : HO}, Ho T P G d o → d.plain = true → Ho T P' G' d o
  | _, _, .tup h, q => .tup (Hl.go s e h (by simpa [D.plain] using q))
  | _, _, .lst h, q => .lst (Hl.go s e h (by simpa [D.plain] using q))
  | _, _, .dK h, q => .dK (Hk.go s e h (by simpa [D.plain] using q))
  | _, _, .dT h, q => .dT (Ht.go s e h (by simpa [D.plain] using q))
  | _, _, .ins m c n h, q => .ins m c n (Hf.go s e h (by simpa [D.plain] using q))
theorem Hl.go (s : SubN G G') (e : P'.pen = P.pen) : ∀ {d : List D} {v : List V}, Hl T P G d v → plainL d = true → Hl T P' G' d v
  | _, _, .nil, _ => .nil
  | _, _, .cons h t, q => by
    simp only [plainL, Bool.and_eq_true] at q
    exact .cons (Hd.go s e h q.1) (Hl.go s e t q.2)
theorem Hf.go (s : SubN G G') (e : P'.pen = P.pen) : ∀ {d : List (Str × D)} {v : List (Str × V)}, Hf T P G d v → plainF d = true → Hf T P' G' d v
  | _, _, .nil, _ => .nil
  | _, _, .cons h t, q => by
    simp only [plainF, Bool.and_eq_true] at q
    exact .cons (Hd.go s e h q.1) (Hf.go s e t q.2)
theorem Hk.go (s : SubN G G') (e : P'.pen = P.pen) : ∀ {d : List (D × D)} {v : List (Key × V)}, Hk T P G d v → plainP d = true → Hk T P' G' d v
  | _, _, .nil, _ => .nil
  | _, _, .cons h t, q => by
    simp only [plainP, Bool.and_eq_true] at q
    exact .cons (Hd.go s e h q.1) (Hk.go s e t q.2)
theorem Ht.go (s : SubN G G') (e : P'.pen = P.pen) : ∀ {d : List (D × D)} {v : List (List Key × V)}, Ht T P G d v → plainP d = true → Ht T P' G' d v
  | _, _, .nil, _ => .nil
  | _, _, .cons h t, q => by
    simp only [plainP, Bool.and_eq_true] at q
    exact .cons (Hd.go s e h q.1) (Ht.go s e t q.2)
end
end
end Sh
namespace Sh
open L2 PySem PySem.Spec PyProof.Rows

theorem exO_code {c : Addr} {o : Obj} {q : Str} (hh : ∃ h : Heap, h.get? c = some o) (hc : ∃ v, o.data = .cell v) : ExO c o ≠ LamX.CodeO c q := fun z => by
  have e : (fun h : Heap => h.get? c = some o) = fun h => ∃ (oc : Obj) (vs : Array Value) (t : Tok), h.get? c = some oc ∧ oc.data = .fields vs ∧ vs[1]? = some (.str q t) := by
    unfold ExO LamX.CodeO at z
    injection z
  obtain ⟨h, hg⟩ := hh
  obtain ⟨v, hv⟩ := hc
  have := congrFun e h
  obtain ⟨oc, vs, t, h1, h2, _⟩ := this.mp hg
  rw [hg] at h1; cases h1
  rw [hv] at h2; cases h2
/-- a list of cells -/
def CellX (L : Xl) : Prop := ∀ b o, L.lookup b = some o → (∃ h : Heap, h.get? b = some o) ∧ ∃ v, o.data = .cell v
section
variable {T : Tx} {P : Px} {L : Xl} {b b0 : Nat} {G H G' H' : Hp}
theorem out_of (n : ∀ b o, L.lookup b = some o → H b = none) {a : Addr} (h : H a ≠ none) : L.lookup a = none := by
  cases q : L.lookup a with
  | none => rfl
  | some o => exact absurd (n a o q) h
theorem sub_addX (n : ∀ b o, L.lookup b = some o → G b = none) : Sub G (addX L G) := fun a o e => addX_some n e
theorem sub_add2 (s : Sub G H) : Sub (addX L G) (addX L H) := fun a o e => by
  cases q : L.lookup a with
  | some u => rw [addX_in q] at e ⊢; exact e
  | none => rw [addX_out q] at e ⊢; exact s _ _ e
theorem no_G (s : Sub G H) (n : ∀ b o, L.lookup b = some o → H b = none) : ∀ b o, L.lookup b = some o → G b = none := fun b o e => by
  cases q : G b with
  | none => rfl
  | some u => have := s _ _ q; rw [n b o e] at this; cases this
theorem Pre.add (p : Pre T P b G H) (n : ∀ b o, L.lookup b = some o → H b = none) : Pre T P b (addX L G) (addX L H) := by
  have nG := no_G p.sub n
  have hs := sub_addX n
  have out : ∀ {a : Addr}, H a ≠ none → addX L G a = G a ∧ addX L H a = H a := fun h => ⟨addX_out (out_of n h), addX_out (out_of n h)⟩
  have ok := p.ok
  refine ⟨⟨sub_add2 p.sub, ?_, ?_, hs _ _ ok.pc, ok.pne, fun z hz => ?_, let ⟨o, u, h⟩ := ok.sm; ⟨o, u, hs _ _ h⟩, ok.smp⟩, sub_add2 p.sub, fun a o e => ?_, ?_, p.tabs.grow (sub_addX nG) hs⟩
  · show addX L H P.pen ≠ none
    rw [(out ok.pen).2]; exact ok.pen
  · show addX L G P.pen = none
    rw [(out ok.pen).1]; exact ok.gpen
  · obtain ⟨h1, h2, h3, h4⟩ := ok.tab z hz
    refine ⟨?_, h2, h3, ?_⟩
    · show addX L H z.1 ≠ none
      rw [(out h1).2]; exact h1
    · show addX L G z.1 = none
      rw [(out h1).1]; exact h4
  · cases q : L.lookup a with
    | some u => rw [addX_in q] at e; cases e; exact exO_nt
    | none => rw [addX_out q] at e; exact p.nt a o e
  · obtain ⟨a1, a2, a3, a4, h1, h2⟩ := p.pen
    exact ⟨a1, a2, a3, a4, hs _ _ h1, h2⟩
/-- the cells are hidden again -/
theorem Post.hide (p : Pre T P b0 G H) (n : ∀ b o, L.lookup b = some o → H b = none) (cx : CellX L) (q : Post T ⟨addX L G, addX L H, P⟩ b G' H') : Post T ⟨G, H, P⟩ b (subX L G') (subX L H') := by
  have nG := no_G p.sub n
  have ok := p.ok
  have inG' : ∀ b o, L.lookup b = some o → G' b = some (ExO b o) := fun b o e => q.g0 _ _ (addX_in e)
  have hidden : ∀ {a : Addr} {o : HO}, H a = some o → L.lookup a = none := fun h => out_of n (by rw [h]; simp)
  refine ⟨ok, fun a o e => ?_, fun a o h1 h2 h3 => ?_, fun a h => ?_, fun a o e => ?_, fun a h => ?_, fun a o e => q.nt a o (subX_some e).2, ?_, ?_, rfl, fun i s h => by simp at h, fun i j d e a h => by simp at h, fun p h => by simp at h⟩
  · obtain ⟨e1, e2⟩ := subX_some e
    rw [subX_out e1]; exact q.sub _ _ e2
  · have h1 : H a = some o := h1
    rw [subX_out (hidden h1)]
    exact q.ext a o (addX_some n h1) h2 h3
  · have h : H a ≠ none := h
    rw [subX_out (out_of n h)]
    exact q.dom a (by show addX L H a ≠ none; rw [addX_out (out_of n h)]; exact h)
  · have e : G a = some o := e
    rw [subX_out (out_of nG (by rw [e]; simp))]
    exact q.g0 _ _ (addX_some nG e)
  · cases e : L.lookup a with
    | some u => rw [subX_in e] at h; exact absurd rfl h
    | none =>
      rw [subX_out e] at h
      rcases q.new a h with z | z
      · exact .inl (by have z : addX L G a ≠ none := z; rw [addX_out e] at z; exact z)
      · exact .inr (by have z : addX L H a = none := z; rw [addX_out e] at z; exact z)
  · obtain ⟨a1, a2, a3, a4, h1, h2⟩ := q.pen
    exact ⟨a1, a2, a3, a4, by rw [subX_out (out_of n ok.pen)]; exact h1, h2⟩
  · intro z hz
    obtain ⟨ps, h1, h2, h3⟩ := q.tabs z hz
    refine ⟨ps, by rw [subX_out (out_of n (ok.tab z hz).1)]; exact h1, h2, fun pos cv h => ?_⟩
    obtain ⟨c, e, g⟩ := h3 pos cv h
    refine ⟨c, e, ?_⟩
    cases l : L.lookup c with
    | none => rw [subX_out l]; exact g
    | some u =>
      have := inG' c u l
      rw [g] at this
      obtain ⟨w1, w2⟩ := cx c u l
      exact absurd (Option.some.inj this).symm (exO_code w1 w2)
/-- the cells stand there again -/
theorem Post.show_ (p : Pre T P b0 G H) (n : ∀ b o, L.lookup b = some o → H b = none) (q : Post T ⟨G, H, P⟩ b G' H') (n' : ∀ b o, L.lookup b = some o → H' b = none) : Post T ⟨addX L G, addX L H, P⟩ b (addX L G') (addX L H') := by
  have p' := p.add n
  have hs := sub_addX n'
  have nG' := no_G q.sub n'
  refine ⟨p'.ok, sub_add2 q.sub, fun a o h1 h2 h3 => ?_, fun a h => ?_, sub_add2 q.g0, fun a h => ?_, fun a o e => ?_, ?_, q.tabs.grow (sub_addX nG') hs, rfl, fun i s h => by simp at h, fun i j d e a h => by simp at h, fun p h => by simp at h⟩
  · have h1 : addX L H a = some o := h1
    cases e : L.lookup a with
    | some u => rw [addX_in e] at h1 ⊢; exact h1
    | none => rw [addX_out e] at h1 ⊢; exact q.ext a o h1 h2 h3
  · have h : addX L H a ≠ none := h
    cases e : L.lookup a with
    | some u => rw [addX_in e]; simp
    | none => rw [addX_out e] at h ⊢; exact q.dom a h
  · show addX L G a ≠ none ∨ addX L H a = none
    cases e : L.lookup a with
    | some u => exact .inl (by rw [addX_in e]; simp)
    | none => rw [addX_out e] at h ⊢; rw [addX_out e]; exact q.new a h
  · cases e2 : L.lookup a with
    | some u => rw [addX_in e2] at e; cases e; exact exO_nt
    | none => rw [addX_out e2] at e; exact q.nt a o e
  · obtain ⟨a1, a2, a3, a4, h1, h2⟩ := q.pen
    exact ⟨a1, a2, a3, a4, hs _ _ h1, h2⟩
/-- the ground without its cells -/
theorem Pre.sub_ (p : Pre T P b G H) (x : ∀ b o, L.lookup b = some o → G b = some (ExO b o)) (cx : CellX L) : Pre T P b (subX L G) (subX L H) := by
  have xH : ∀ b o, L.lookup b = some o → H b = some (ExO b o) := fun b o e => p.sub _ _ (x b o e)
  have ok := p.ok
  have out : ∀ {a : Addr} {u : HO}, H a = some u → (∀ q, u ≠ .ext q) → L.lookup a = none := fun {a u} h k => by
    cases q : L.lookup a with
    | none => rfl
    | some o => rw [xH a o q] at h; cases h; exact absurd rfl (k _)
  have hpen : L.lookup P.pen = none := by
    obtain ⟨a1, a2, a3, a4, h1, _⟩ := p.pen
    exact out h1 nofun
  have htab : ∀ z ∈ T.tb, L.lookup z.1 = none := fun z hz => by
    obtain ⟨ps, h1, _⟩ := p.tabs z hz
    exact out h1 nofun
  have hsm : SysM (subX L H) := by
    obtain ⟨o, u, h⟩ := ok.sm
    have h : H sysModules = some (.frz o u) := h
    refine ⟨o, u, ?_⟩
    cases q : L.lookup sysModules with
    | none => rw [subX_out q]; exact h
    | some o' => rw [xH _ _ q] at h; cases h
  refine ⟨⟨fun a o e => ?_, ?_, ?_, ?_, ok.pne, fun z hz => ?_, hsm, ok.smp⟩, fun a o e => ?_, fun a o e => p.nt a o (subX_some e).2, ?_, fun z hz => ?_⟩
  · obtain ⟨e1, e2⟩ := subX_some (show subX L G a = some o from e)
    show subX L H a = some o
    rw [subX_out e1]; exact p.sub _ _ e2
  · show subX L H P.pen ≠ none
    rw [subX_out hpen]; exact ok.pen
  · show subX L G P.pen = none
    rw [subX_out hpen]; exact ok.gpen
  · show subX L H P.pc = _
    rw [subX_out (out ok.pc nofun)]; exact ok.pc
  · obtain ⟨h1, h2, h3, h4⟩ := ok.tab z hz
    refine ⟨?_, h2, h3, ?_⟩
    · show subX L H z.1 ≠ none
      rw [subX_out (htab z hz)]; exact h1
    · show subX L G z.1 = none
      rw [subX_out (htab z hz)]; exact h4
  · obtain ⟨e1, e2⟩ := subX_some e
    rw [subX_out e1]; exact p.sub _ _ e2
  · obtain ⟨a1, a2, a3, a4, h1, h2⟩ := p.pen
    exact ⟨a1, a2, a3, a4, by rw [subX_out hpen]; exact h1, h2⟩
  · obtain ⟨ps, h1, h2, h3⟩ := p.tabs z hz
    refine ⟨ps, by rw [subX_out (htab z hz)]; exact h1, h2, fun pos cv h => ?_⟩
    obtain ⟨c, e, g⟩ := h3 pos cv h
    refine ⟨c, e, ?_⟩
    cases l : L.lookup c with
    | none => rw [subX_out l]; exact g
    | some u =>
      have := x c u l
      rw [g] at this
      obtain ⟨w1, w2⟩ := cx c u l
      exact absurd (Option.some.inj this).symm (exO_code w1 w2)
end
end Sh
namespace Sh
open L2 PySem PySem.Spec PyProof.Rows

/-- the n-th lambda: its names (parameters, then captured ones in the cells' order), how many parameters, its body -/
structure LamD where
  N : List Str
  m : Nat
  rx : RX
/-- what is asked of a lambda's text -/
structure LamOk (v : Ev) (d : LamD) (nm rn : List (Nat × Str)) (bt gl : List Str) (ps : Arguments) (body : Expr) (sc : Scope) : Prop where
  kind : sc.kind = .function
  co : sc.isCoroutine = false
  gen : sc.isGenerator = false
  nd : d.N.Nodup
  le : d.m ≤ d.N.length
  noc : ∀ y ∈ sc.names, y.2 ≠ .cell
  par : ∀ x ∈ d.N.take d.m, sc.names.lookup x = some .local
  fre : ∀ x ∈ d.N.drop d.m, sc.names.lookup x = some .free
  all : ∀ x, sc.names.lookup x = some .free → x ∈ d.N.drop d.m
  ord : ∀ cells : List (Str × Addr), (cloFrom cells sc.names []).map (·.1) = d.N.drop d.m
  bind : ∀ (q : Str) (cl : List (Str × Addr)) (pm cv ctv : Value) (us : List Value), us.length = d.m → bindArgs (PySem.W.kla_fn "<lambda>" q ps body sc cl pm cv ctv) ⟨us, []⟩ = pure ((d.N.take d.m).zip us)
  ok : okX ⟨d.N, sc, some ⟨.function, [], false, false, []⟩, nm, bt, gl, v.cs, rn, fun _ _ _ _ => false, []⟩ d.rx body = true

section
variable {T : Tx} {Pp : Px} {G H : Hp}
/-- the cells of a closure as objects -/
theorem Hc.objs : ∀ {ds : List D} {cl : List (Str × Addr)}, Hc T Pp G ds cl → (cl.map (·.2)).Nodup → ∃ (L : Xl) (ws : List V), (∀ b o, L.lookup b = some o → G b = some (ExO b o) ∧ (∃ v, o.data = .cell v) ∧ b ∈ cl.map (·.2)) ∧ Hl T Pp G ds ws ∧ ds.length = cl.length ∧
    ∀ (i : Nat) (x : Str) (c : Addr), cl[i]? = some (x, c) → ∃ o u w, L.lookup c = some o ∧ o.data = .cell (some u) ∧ ws[i]? = some w ∧ RelV w u
  | _, _, .nil, _ => ⟨[], [], fun b o h => by simp at h, .nil, rfl, fun i x c h => by simp at h⟩
  | _, _, .cons (x := x0) (c := c0) (o := o0) (u := u0) (v := v0) (d := d0) (ds := ds) (cl := cl) hg hd hr hv t, nd => by
    rw [List.map_cons, List.nodup_cons] at nd
    obtain ⟨L, ws, e2, e5, e3, e4⟩ := Hc.objs t nd.2
    refine ⟨(c0, o0) :: L, v0 :: ws, fun b o h => ?_, .cons hv e5, by simp [e3], fun i x c h1 => ?_⟩
    · rw [List.lookup_cons] at h
      cases q : b == c0 with
      | true =>
        rw [q] at h; cases h
        obtain rfl := beq_iff_eq.mp q
        exact ⟨hg, ⟨_, hd⟩, by simp⟩
      | false =>
        rw [q] at h
        obtain ⟨k1, k2, k3⟩ := e2 b o h
        exact ⟨k1, k2, by simp only [List.map_cons, List.mem_cons]; exact .inr k3⟩
    · cases i with
      | zero =>
        simp only [List.getElem?_cons_zero, Option.some.injEq, Prod.mk.injEq] at h1
        obtain ⟨rfl, rfl⟩ := h1
        exact ⟨o0, u0, v0, by simp [List.lookup_cons], hd, rfl, hr⟩
      | succ i =>
        rw [List.getElem?_cons_succ] at h1
        obtain ⟨o, u, w, k1, k2⟩ := e4 i x c h1
        have ne : (c == c0) = false := by
          rw [beq_eq_false_iff_ne]
          rintro rfl
          exact nd.1 (List.mem_map.mpr ⟨(x, c), List.mem_of_getElem? h1, rfl⟩)
        exact ⟨o, u, w, by rw [List.lookup_cons, ne]; exact k1, k2⟩
end

/-- the context of a closure's body -/
def cloCx (P : Program) (w : World) (K : PySem.W.Frag) (mg : Str → Option Value) (base : Heap) (N : List Str) (q : Str) (sc : Scope) (A : Around) (outer : List Env) (s : Shared) (H : Hp) (E : XK) (a c : Addr) (cl : List (Str × Addr)) : Cx where
  prog := P
  w := w
  K := K
  mg := mg
  base := base
  A := A.deeper (PySem.W.envX q sc s.heap.objs.size a (.ref c) cl)
  N := N
  s_0 := s
  H_0 := H
  env := PySem.W.envX q sc s.heap.objs.size a (.ref c) cl
  outer := outer
  stack := PySem.W.envX q sc s.heap.objs.size a (.ref c) cl :: outer
  ex := []
  fn := fun _ => false
  calm := true
  pn := []
  xe := fun e s' => wpAny (model P w) (A.deeper (PySem.W.envX q sc s.heap.objs.size a (.ref c) cl)) (leaving (PySem.W.envX q sc s.heap.objs.size a (.ref c) cl) e) (fun _ s'' => L2.CX P w outer H s E e s'') (fun e' s'' => L2.CX P w outer H s E e' s'') s'
section
variable {P : Program} {w : World} {K : PySem.W.Frag} {mg : Str → Option Value} {base : Heap} {A : Around} {outer : List Env} {s : Shared} {H : Hp} {E : XK} {N : List Str} {q : Str} {sc : Scope} {a c : Addr} {cl : List (Str × Addr)}
theorem lookup_nodup {α β : Type} [BEq α] [LawfulBEq α] : ∀ {l : List (α × β)} {i : Nat} {x : α} {y : β}, (l.map (·.1)).Nodup → l[i]? = some (x, y) → l.lookup x = some y
  | [], _, _, _, _, h => by simp at h
  | (x0, y0) :: l, 0, x, y, _, h => by
    simp only [List.getElem?_cons_zero, Option.some.injEq, Prod.mk.injEq] at h
    obtain ⟨rfl, rfl⟩ := h
    simp [List.lookup_cons]
  | (x0, y0) :: l, i + 1, x, y, nd, h => by
    rw [List.map_cons, List.nodup_cons] at nd
    rw [List.getElem?_cons_succ] at h
    have ne : (x == x0) = false := by
      rw [beq_eq_false_iff_ne]
      rintro rfl
      exact nd.1 (List.mem_map.mpr ⟨(x, y), List.mem_of_getElem? h, rfl⟩)
    rw [List.lookup_cons, ne]
    exact lookup_nodup nd.2 h
theorem clo_inv {m : Nat} {us : List Value} {vs ws : List V} {h₁ : Heap} {tk : Nat} (e0 : Env0 P w K mg base A outer s H) (hd : A.handled = none) (hk : sc.kind = .function) (nd : N.Nodup) (hN : N.length = m + ws.length) (hm : vs.length = m) (rel : Vals vs us)
    (noc : ∀ y ∈ sc.names, y.2 ≠ .cell) (par : ∀ x ∈ N.take m, sc.names.lookup x = some .local) (fre : ∀ x ∈ N.drop m, sc.names.lookup x = some .free) (all : ∀ x, sc.names.lookup x = some .free → x ∈ N.drop m) (hcl : cl.map (·.1) = N.drop m) (nda : (cl.map (·.2)).Nodup)
    (cells : ∀ (i : Nat) (x : Str) (c : Addr), cl[i]? = some (x, c) → H c = none ∧ ∃ u v, ws[i]? = some v ∧ s.heap.IsCell c (some u) ∧ RelV v u)
    (hns : h₁.Ns s.heap.objs.size fun y => ((N.take m).zip us).reverse.lookup y) (kp : ∀ b o, s.heap.get? b = some o → h₁.get? b = some o) :
    Inv (cloCx P w K mg base N q sc A outer s H E a c cl) [] (vs.map some ++ ws.map some) H { s with heap := h₁, toks := tk } := by
  have hul : us.length = m := by rw [← rel.length]; exact hm
  have ndc : (cl.map (·.1)).Nodup := hcl ▸ nd.sublist (List.drop_sublist _ _)
  have noA : ∀ b : Addr, b ∉ (cloCx P w K mg base N q sc A outer s H E a c cl).ex := fun b z => absurd (show b ∈ ([] : List Addr) from z) (by simp)
  have at_ : ∀ x c, cl.lookup x = some c → ∃ i, cl[i]? = some (x, c) := fun x c h => List.mem_iff_getElem?.mp (PySem.mem_of_lookup h)
  refine ⟨⟨e0.mod, hk, rfl, rfl, Nat.le_refl _, fun x y b h1 h2 => ?_, fun y hy => ?_, fun y b z _ => ?_, fun _ => hd, Around.frames_deeper e0.frames, .inr ⟨rfl, rfl⟩, fun b z => absurd z (noA b), e0.bs, e0.bsz, fun b _ _ => noA b, fun b z => absurd z (noA b), e0.funs, e0.frf⟩,
    rfl, e0.bare, Un.kept kp, ⟨_, hns, fun i y v e1 e2 e3 => ?_⟩, fun y b h => ?_, e0.hok.fresh (Nat.le_refl _), fun y b h => ?_, fun p hp => absurd (show p ∈ ([] : List (Addr × Obj)) ++ [] from hp) (by simp), e0.hok.kept kp, ?_⟩
  · have h1 : cl.lookup x = some b := h1
    have h2 : cl.lookup y = some b := h2
    obtain ⟨i, e1⟩ := at_ x b h1
    obtain ⟨j, e2⟩ := at_ y b h2
    have f1 : (cl.map (·.2))[i]? = some b := by rw [List.getElem?_map, e1]; rfl
    have f2 : (cl.map (·.2))[j]? = some b := by rw [List.getElem?_map, e2]; rfl
    obtain ⟨g1, k1⟩ := List.getElem?_eq_some_iff.mp f1
    obtain ⟨g2, k2⟩ := List.getElem?_eq_some_iff.mp f2
    have : i = j := (List.getElem_inj nda).mp (k1.trans k2.symm)
    subst this
    rw [e1] at e2; cases e2; rfl
  · have hy : sc.names.lookup y = some .cell ∨ sc.names.lookup y = some .free := hy
    rcases hy with hy | hy
    · exact absurd rfl (noc _ (PySem.mem_of_lookup hy))
    · have hm := all y hy
      rw [← hcl, List.mem_map] at hm
      obtain ⟨p, hp, rfl⟩ := hm
      obtain ⟨i, hi⟩ := List.mem_iff_getElem?.mp hp
      exact ⟨p.2, lookup_nodup ndc hi⟩
  · exact absurd (show false = true from z) Bool.false_ne_true
  · have e1 : N[i]? = some y := e1
    by_cases hi : i < m
    · rw [List.getElem?_append_left (by simpa [hm] using hi), List.getElem?_map] at e2
      have hv : vs[i]? = some v := by
        cases k : vs[i]? with
        | none => rw [k] at e2; cases e2
        | some z => rw [k] at e2; cases e2; rfl
      obtain ⟨u, hu, ru⟩ := rel.get hv
      have hx : (N.take m)[i]? = some y := by rw [List.getElem?_take_of_lt hi]; exact e1
      have hz : ((N.take m).zip us)[i]? = some (y, u) := List.getElem?_zip_eq_some.mpr ⟨hx, hu⟩
      have ndz : (((N.take m).zip us).map (·.1)).Nodup := by
        rw [List.map_fst_zip (by rw [List.length_take, hul]; omega)]
        exact nd.sublist (List.take_sublist _ _)
      refine ⟨u, ru, .inl ⟨par y (List.mem_of_getElem? hx), ?_⟩⟩
      have ndr : ((((N.take m).zip us).reverse).map (·.1)).Nodup := by rw [List.map_reverse]; exact List.pairwise_reverse.mpr (ndz.imp fun h => h.symm)
      obtain ⟨j, hj⟩ := List.mem_iff_getElem?.mp (List.mem_reverse.mpr (List.mem_of_getElem? hz))
      exact lookup_nodup ndr hj
    · rw [List.getElem?_append_right (by simp [hm]; omega), List.getElem?_map] at e2
      simp only [List.length_map, hm] at e2
      have hw : ws[i - m]? = some v := by
        cases k : ws[i - m]? with
        | none => rw [k] at e2; cases e2
        | some z => rw [k] at e2; cases e2; rfl
      have hx : (N.drop m)[i - m]? = some y := by rw [List.getElem?_drop, Nat.add_sub_cancel' (by omega)]; exact e1
      have hc : (cl.map (·.1))[i - m]? = some y := by rw [hcl]; exact hx
      rw [List.getElem?_map, Option.map_eq_some_iff] at hc
      obtain ⟨p, hp, rfl⟩ := hc
      obtain ⟨_, u, v', h1, h2, h3⟩ := cells (i - m) p.1 p.2 hp
      rw [hw] at h1; cases h1
      exact ⟨u, h3, .inr ⟨.inr (fre _ (List.mem_of_getElem? hx)), p.2, lookup_nodup ndc hp, h2.keeps kp⟩⟩
  · obtain ⟨i, e⟩ := at_ y b h
    obtain ⟨_, u, v', h1, h2, h3⟩ := cells i y b e
    exact ⟨_, h2.keeps kp⟩
  · obtain ⟨i, e⟩ := at_ y b h
    exact (cells i y b e).1
  · show (vs.map some ++ ws.map some).length = N.length
    simp [hm, hN]
end

theorem plainL_get : ∀ {l : List D} {i : Nat} {d : D}, plainL l = true → l[i]? = some d → d.plain = true
  | [], _, _, _, h => by simp at h
  | x :: l, 0, d, h, e => by
    simp only [plainL, Bool.and_eq_true] at h
    simp at e; subst e; exact h.1
  | x :: l, i + 1, d, h, e => by
    simp only [plainL, Bool.and_eq_true] at h
    exact plainL_get h.2 (by simpa using e)
/-- what a closure does with its arguments and what it captured -/
def cloS (v : Ev) (d : LamD) (caps : List D) : DSp := fun ds b KQ KE => ds.length = d.m ∧ caps.length = d.N.length - d.m ∧ plainL ds = true ∧ plainL caps = true ∧
  ev v KE d.rx ⟨ds.map .sh ++ caps.map .sh, b⟩ (retK { nx := fun _ => False, rt := KQ })
theorem envX_takes {P : Program} {w : World} {K : PySem.W.Frag} {mg : Str → Option Value} {base : Heap} {N : List Str} {q : Str} {sc : Scope} {A : Around} {outer : List Env} {s : Shared} {H : Hp} {E : XK} {a c : Addr} {cl : List (Str × Addr)} :
    Takes (cloCx P w K mg base N q sc A outer s H E a c cl) (fun cls d _ H => E cls d H) := takes_of (X := cloCx P w K mg base N q sc A outer s H E a c cl) (E := E) rfl rfl rfl rfl
section
variable {T : Tx} {v : Ev} {P : Program} {w : World} {base : Heap} {lv : Nat} {nm rn : List (Nat × Str)} {bt gl : List Str}
theorem Hl.caps {P : Px} {G : Hp} : ∀ {ds : List D} {vs : List V}, Hl T P G ds vs → ds.length = vs.length := Hl.length
theorem Gf.xoL (g : Gf T v P w base lv nm rn bt gl) {N : List Str} {q : Str} {sc : Scope} {A : Around} {outer : List Env} {s : Shared} {H : Hp} {E : XK} {a c : Addr} {cl : List (Str × Addr)} {B : Bs} {Ex : Xc → Nat → Prop} (nd : N.Nodup) (fk : sc.kind = .function)
    (room : Room lv (A.deeper (PySem.W.envX q sc s.heap.objs.size a (.ref c) cl))) (gd : A.guards = some []) (hE : ∀ cls d H', exD T B Ex cls d H' → E cls d H') :
    XO T v ⟨N, sc, some ⟨.function, [], false, false, []⟩, nm, bt, gl, v.cs, rn, fun _ _ _ _ => false, []⟩ lv B Ex (cloCx P w T.K T.mg base N q sc A outer s H E a c cl) where
  K := rfl
  mg := rfl
  N := rfl
  nd := nd
  sc := rfl
  fk := fk
  fn := fun _ h => by simp [Ck.fn] at h
  room := room
  gd := gd
  calm := rfl
  tk := Takes.imp envX_takes fun cls d σ H' h => hE cls d H' h
  calls := g.calls
  bt := g.bt
  gl := g.gl
  kit := g.kit
  cs := rfl
  clo := g.clo
  callS := fun _ _ h => by cases h
  lo := fun _ _ _ _ _ h => by cases h
  rz := g.rz
  ci := g.ci
/-- the state of a closure's body -/
theorem Pre.clo {Pp : Px} {b : Nat} {G H : Hp} (p : Pre T Pp b G H) {ds : List D} {vs : List V} (h : Hl T Pp G ds vs) : Rep T ⟨G, H, Pp⟩ ⟨ds.map .sh, b⟩ [] G (vs.map some) H := by
  have := p.start h (List.replicate ds.length default) (by simp)
  simp only [List.length_replicate, Nat.sub_self, List.replicate_zero, List.append_nil] at this
  have e : L2.start (List.replicate ds.length default) vs = vs.map some := by
    unfold L2.start
    simp [h.length]
  rw [e] at this
  exact this
/-- the exception of a closure's body, the cells there again -/
theorem clo_exc {Pp : Px} {b : Nat} {G H : Hp} {L : Xl} {outer : List Env} {s s' : Shared} {e : Value} {KE : Xc → Nat → Prop} {E : XK} (xs : Xs L (subX L H) s.heap) (eH : addX L (subX L H) = H) (eG : addX L (subX L G) = G) (p0 : Pre T Pp b (subX L G) (subX L H))
    (n0 : ∀ b o, L.lookup b = some o → subX L H b = none) (nfr : ∀ b o, L.lookup b = some o → b ∉ frs outer) (hE : ∀ xc b' cls d H' G', Post T ⟨G, H, Pp⟩ b' G' H' → XcOk T Pp G' H' xc cls d → KE xc b' → E cls d H')
    (h : L2.CX P w outer (subX L H) s (exD T ⟨subX L G, subX L H, Pp⟩ KE) e s') : L2.CX P w outer H s E e s' := by
  obtain ⟨a, B, H', cls, d, rfl, fl, hok, ub, na, os, ag, b', G', xc, hp, hx, hk⟩ := h
  have n' : ∀ b o, L.lookup b = some o → H' b = none := fun b o e => ub.free b o (xs.at_ b o e) (n0 b o e)
  have atB : ∀ b o, L.lookup b = some o → B.get? b = some o := fun b o e => ub.keep b o (xs.at_ b o e) (n0 b o e) (nfr b o e)
  have outL : L.lookup a = none := by
    cases q : L.lookup a with
    | none => rfl
    | some o => have := atB a o q; rw [fl.2.1] at this; cases this
  have keepH : ∀ {b : Addr} {u : HO}, H b = some u → (∀ p, u ≠ .ext p) → L.lookup b = none := fun {b u} h k => by
    cases q : L.lookup b with
    | none => rfl
    | some o => rw [← eH, addX_in q] at h; cases h; exact absurd rfl (k _)
  refine ⟨a, B, addX L H', cls, d, rfl, fl, hok_add hok ⟨atB, n'⟩, ⟨fun b o e n hf => ?_, ub.slot, fun b o e n => ?_, ub.there, fun b ys e => ?_, fun b o ys e => ?_, fun b ps e => ?_⟩, by rw [addX_out outL]; exact na, os, ag, ?_⟩
  · refine ub.keep b o e ?_ hf
    cases q : L.lookup b with
    | some u => exact subX_in q
    | none => rw [subX_out q]; exact n
  · cases q : L.lookup b with
    | some u => rw [← eH, addX_in q] at n; cases n
    | none =>
      rw [addX_out q]
      exact ub.free b o e (by rw [subX_out q]; exact n)
  · have q := keepH e nofun
    rw [addX_out q]; exact ub.tups b ys (by rw [subX_out q]; exact e)
  · have q := keepH e nofun
    rw [addX_out q]; exact ub.frzs b o ys (by rw [subX_out q]; exact e)
  · have q := keepH e nofun
    rw [addX_out q]; exact ub.tbls b ps (by rw [subX_out q]; exact e)
  · have hp2 := hp.show_ p0 n0 n'
    rw [eG, eH] at hp2
    obtain ⟨hm, C, a', gs, e1, e2, e3, e4⟩ := hx
    refine hE xc b' cls d _ _ hp2 ⟨hm, C, a', gs, e1, e2, addX_some n' e3, fun f z hz => ?_⟩ hk
    obtain ⟨v', k1, k2⟩ := e4 f z hz
    exact ⟨v', k1, k2.mono (sub_addX (no_G hp.sub n'))⟩
theorem clo_code {Pp : Px} {A : Around} {outer : List Env} {s : Shared} {H G : Hp} {n : Nat} {caps ds : List D} {a : Addr} {us : List Value} {vs : List V} {b : Nat} {d : LamD} {Q : VK} {E : XK} {KQ : D → Bool → Nat → Prop} {KE : Xc → Nat → Prop} (g : Gf T v P w base lv nm rn bt gl)
    (hlo : ∀ q ps body sc, T.lo n q ps body sc → LamOk v d nm rn bt gl ps body sc) (room : Room (lv + 1) A) (gd : A.guards = some []) (e0 : Env0 P w T.K T.mg base A outer s H) (pre : Pre T Pp b G H) (hd : Hd T Pp G (.clo n caps) (.ref a)) (hl : Hl T Pp G ds vs) (rel : Vals vs us)
    (hS : cloS v d caps ds b KQ KE) (hQ : ∀ d b' v H' G', Post T ⟨G, H, Pp⟩ b' G' H' → Hd T Pp G' d v → ∀ fr, KQ d fr b' → Q v H') (hE : ∀ xc b' cls d H' G', Post T ⟨G, H, Pp⟩ b' G' H' → XcOk T Pp G' H' xc cls d → KE xc b' → E cls d H') :
    codeAny (model P w) A (.call (.ref a) ⟨us, []⟩) (CR (L2.CX P w) outer P w H s Q E) s := by
  obtain ⟨hm, hcl, pl1, pl2, hev⟩ := hS
  cases hd with
  | obj h k => cases k
  | @clo _ _ _ c q sc cl o hg hlam hcode hnd hcs =>
    obtain ⟨nda, hcf⟩ := hnd
    obtain ⟨ps, body, pm, ct, lo, rfl⟩ := hlam
    have ok := hlo _ _ _ _ lo
    obtain ⟨L, ws, hL, hws, hlen, hcells⟩ := hcs.objs nda
    have hok := e0.hok
    have inH : ∀ b o, L.lookup b = some o → H b = some (ExO b o) := fun b o e => pre.sub _ _ (hL b o e).1
    have heapL : ∀ b o, L.lookup b = some o → s.heap.get? b = some o := fun b o e => exO_at hok (inH b o e)
    have cx : CellX L := fun b o e => ⟨⟨_, heapL b o e⟩, (hL b o e).2.1⟩
    have p0 := pre.sub_ (fun b o e => (hL b o e).1) cx
    have n0 : ∀ b o, L.lookup b = some o → subX L H b = none := fun b o e => subX_in e
    have xs : Xs L (subX L H) s.heap := ⟨heapL, n0⟩
    have eH : addX L (subX L H) = H := add_sub inH
    have eG : addX L (subX L G) = G := add_sub fun b o e => (hL b o e).1
    have sN : SubN G (subX L G) := fun b u e nx => by
      cases k : L.lookup b with
      | none => rw [subX_out k]; exact e
      | some o => rw [(hL b o k).1] at e; cases e; exact absurd rfl (nx _)
    have hl0 : Hl T Pp (subX L G) ds vs := hl.go sN rfl pl1
    have e0' : Env0 P w T.K T.mg base A outer s (subX L H) := ⟨e0.frames, e0.mod, fun b o e => ⟨(e0.bs b o e).1, by
      have z := (e0.bs b o e).2
      cases k : L.lookup b with
      | none => rw [subX_out k]; exact z
      | some u => exact subX_in k⟩, e0.bsz, e0.funs, fun b hb => by
      have z := e0.frf b hb
      cases k : L.lookup b with
      | none => rw [subX_out k]; exact z
      | some u => exact subX_in k, hok_sub hok inH, e0.bare⟩
    have kIn : T.K.In s.heap := e0.mod.kin.keeps fun b o z => (e0.bs b o z).1
    have nolim : s.heap.NoLimit := e0.mod.nolimit.keeps fun b o z => (e0.bs b o z).1
    have ha := exO_at hok (pre.sub _ _ hg)
    have hcx : ObjOk P w H s.heap c (.ext fun h => ∃ (oc : Obj) (vs : Array Value) (t : Tok), h.get? c = some oc ∧ oc.data = .fields vs ∧ vs[1]? = some (.str q t)) := hok c _ (pre.sub _ _ hcode)
    obtain ⟨oc, fvs, tq, hoc, hdc, hvc⟩ := hcx.1
    have hul : us.length = d.m := by rw [← rel.length, ← hl.length, hm]
    have hN : d.N.length = d.m + caps.length := by have := ok.le; omega
    -- the captured values
    have hws0 : Hl T Pp (subX L G) caps ws := hws.go sN rfl pl2
    have ncl : cl.map (·.1) = d.N.drop d.m := by
      obtain ⟨cells, e⟩ := hcf
      rw [e]; exact ok.ord cells
    refine PySem.W.kla_callFunE room.depth ha rfl ok.co ok.gen rfl ⟨c, oc, fvs, tq, rfl, hoc, hdc, hvc⟩ ?_
    rw [ok.bind _ _ _ _ _ _ hul]
    refine wpAny_pure (wpAny_newFunctionEnv ok.noc (fun y hy => ok.par _ (List.of_mem_zip hy).1) (fun h₁ hns hsb => ⟨nolim.fresh _ hsb, ?_⟩) ok.kind)
    show codeAny _ _ (.expr body (PySem.W.envX q sc s.heap.objs.size a (.ref c) cl)) _ _
    have kp : ∀ b o, s.heap.get? b = some o → h₁.get? b = some o := fun b o e => hsb.extBut b o (Nat.ne_of_lt (Heap.lt_size e)) (Heap.get?_push_of_some _ e)
    have J := clo_inv (cl := cl) (a := a) (c := c) (q := q) (E := exD T ⟨subX L G, subX L H, Pp⟩ KE) (tk := s.toks + ((d.N.take d.m).zip us).length) e0' room.hd ok.kind ok.nd (m := d.m) (ws := ws) (by rw [hN, hws.length]) (by rw [← hl.length]; exact hm) rel ok.noc ok.par ok.fre ok.all ncl nda (fun i x c h => by
      obtain ⟨o, u, w, k1, k2, k3, k4⟩ := hcells i x c h
      exact ⟨n0 c o k1, u, w, k3, ⟨o, heapL c o k1, k2⟩, k4⟩) hns kp
    have xo := g.xoL (N := d.N) (q := q) (sc := sc) (A := A) (outer := outer) (s := s) (H := subX L H) (E := exD T ⟨subX L G, subX L H, Pp⟩ KE) (a := a) (c := c) (cl := cl) (B := ⟨subX L G, subX L H, Pp⟩) (Ex := KE) ok.nd ok.kind (room.deeper _) gd fun _ _ _ h => h
    have nfr : ∀ b o, L.lookup b = some o → b ∉ frs outer := fun b o e hb => by
      have := e0.frf b hb
      rw [inH b o e] at this; cases this
    have pe := sX d.rx xo body ok.ok
    have R0 : Rep T ⟨subX L G, subX L H, Pp⟩ ⟨ds.map .sh ++ caps.map .sh, b⟩ [] (subX L G) (vs.map some ++ ws.map some) (subX L H) := by
      have := p0.clo (hl0.append hws0)
      rw [List.map_append, List.map_append] at this
      exact this
    refine PySem.W.kla_codeExpr (wpAny_mono (pe.run [] _ _ (subX L H) (fun v H' => ∃ d fr b' G', Post T ⟨subX L G, subX L H, Pp⟩ b' G' H' ∧ ResF T ⟨subX L G, subX L H, Pp⟩ G' H' d fr v ∧ KQ d fr b') J ⟨_, [], _, _, R0, hev, fun r n' v H' G' R' s' k' h => ?_⟩) (fun u s' hq => ?_) fun e s' he => ?_)
    · obtain ⟨d', fr, h1, h2⟩ := resF_of R' k' h
      exact ⟨d', fr, n'.b, G', R'.post, h1, h2⟩
    · obtain ⟨v', H', J', rv, d', fr, b', G', hp, hr, hk⟩ := hq
      have un : Un (frs outer) [] (subX L H) H' s.heap s'.heap := J'.base
      have n' : ∀ b o, L.lookup b = some o → H' b = none := fun b o e => un.free b o (heapL b o e) (n0 b o e) (by simp)
      have xs' : Xs L H' s'.heap := ⟨fun b o e => un.keep b o (heapL b o e) (n0 b o e) (nfr b o e) (by simp), n'⟩
      have un' := un_add un xs
      rw [eH] at un'
      refine ⟨v', addX L H', J'.os, J'.bare, un', hok_add J'.hok xs', rv, ?_⟩
      have fin : ∀ G'', Post T ⟨subX L G, subX L H, Pp⟩ b' G'' H' → Hd T Pp G'' d' v' → Q v' (addX L H') := fun G'' hp hd => by
        have := hp.show_ p0 n0 n'
        rw [eG, eH] at this
        exact hQ d' b' v' _ _ this (hd.mono (sub_addX (no_G hp.sub n'))) fr hk
      cases fr with
      | false => exact fin G' hp hr
      | true =>
        obtain ⟨a', o', rfl, ko⟩ := hr
        have hp' := hp.frozen ko.at_ ko.mo.nt ko.own (fun i d h => by simp at h) (fun q hq => by simp at hq)
        exact fin _ hp' (.obj upd_same (ko.ho.mono (sub_upd ko.own.g)))
    · refine wpAny_mono he (fun _ s2 h => ?_) fun e2 s2 h => ?_
      · exact clo_exc xs eH eG p0 n0 nfr hE h
      · exact clo_exc xs eH eG p0 n0 nfr hE h
end
end Sh
namespace Sh
open L2 PySem PySem.Spec PyProof.Rows

section
variable {T : Tx} {v : Ev} {P : Program} {w : World} {base : Heap} {lv : Nat} {nm rn : List (Nat × Str)} {bt gl : List Str}
theorem clo_fnV {S : DSp} {n : Nat} {caps : List D} {a : Addr} {d : LamD} (g : Gf T v P w base lv nm rn bt gl) (hlo : ∀ q ps body sc, T.lo n q ps body sc → LamOk v d nm rn bt gl ps body sc) (hS : ∀ ds b KQ KE, S ds b KQ KE → cloS v d caps ds b KQ KE) :
    FnV P w T.K T.mg base (lv + 1) (.ref a) (spClo T S n caps a) := by
  intro X e1 e2 e3 e4 e5 room gd pins s σ H us vs Q E hx I rel h
  subst e1 e2 e5
  obtain ⟨Pp, b, G, ds, KQ, KE, pre, hd, hl, hs, hQ, hE⟩ := h
  have e0 := I.env0
  rw [e3, e4] at e0
  refine wpAny_call (codeAny_mono (clo_code (Q := Q) (E := E) g hlo room gd e0 pre hd hl rel (hS _ _ _ _ hs) (fun d b' v H' G' p h fr k => hQ d fr b' v H' G' p h k) hE) fun r s' hr => ?_)
  cases r with
  | error e => exact hx _ _ _ _ e s' I hr
  | ok fl =>
    cases fl with
    | ret u => exact I.after hr
    | next => cases hr
    | brk => cases hr
    | cont => cases hr
end

mutual
theorem snap_plain {cv : Nat → Option (List D)} : ∀ {d : D}, d.plain = true → d.snap cv = some d
  | .tup l, h => by rw [D.snap, snapL_plain (by simpa [D.plain] using h)]; rfl
  | .lst l, h => by rw [D.snap, snapL_plain (by simpa [D.plain] using h)]; rfl
  | .lam n, h => by simp [D.plain] at h
  | .clo n l, h => by simp [D.plain] at h
  | .non, h => by simp [D.snap, D.plain]
  | .bl _, h => by simp [D.snap, D.plain]
  | .int _, h => by simp [D.snap, D.plain]
  | .str _, h => by simp [D.snap, D.plain]
  | .ty _, h => by simp [D.snap, D.plain]
  | .glo _, h => by simp [D.snap, D.plain]
  | .pen, h => by simp [D.snap, D.plain]
  | .dct t l, h => by simp [D.snap, h]
  | .ins c l, h => by simp [D.snap, h]
theorem snapL_plain {cv : Nat → Option (List D)} : ∀ {l : List D}, plainL l = true → snapL cv l = some l
  | [], _ => rfl
  | d :: r, h => by
    simp only [plainL, Bool.and_eq_true] at h
    simp [snapL, snap_plain h.1, snapL_plain h.2]
end
section
variable {T : Tx} {P : Px} {G G' : Hp}
mutual
theorem Hd.snap {cv : Nat → Option (List D)} (hkt : ∀ ds ∈ T.kts, plainL ds = true) (sb : Sub G G') (hc : ∀ n c q sc o caps, LamAt T n (cloFrom P.cl sc.names []) c q sc o → cv n = some caps → ((cloFrom P.cl sc.names []).map (·.2)).Nodup ∧ Hc T P G' caps (cloFrom P.cl sc.names [])) :
    ∀ {d d' : D} {v : V}, Hd T P G d v → d.snap cv = some d' → Hd T P G' d' v
  | .tup l, d', v, h, e => by
    simp only [D.snap, Option.map_eq_some_iff] at e
    obtain ⟨l', e, rfl⟩ := e
    cases h with
    | obj g k => cases k with | tup k => exact .obj (sb _ _ g) (.tup (Hl.snap hkt sb hc k e))
    | kt m h k =>
      rw [snapL_plain (hkt _ m)] at e
      cases e
      exact .kt m h (k.mono sb)
  | .lst l, d', v, h, e => by
    simp only [D.snap, Option.map_eq_some_iff] at e
    obtain ⟨l', e, rfl⟩ := e
    cases h with
    | obj g k => cases k with | lst k => exact .obj (sb _ _ g) (.lst (Hl.snap hkt sb hc k e))
  | .lam n, d', v, h, e => by
    simp only [D.snap, Option.map_eq_some_iff] at e
    obtain ⟨caps, e, rfl⟩ := e
    cases h with
    | obj g k => cases k
    | lam g l c k =>
      subst k
      obtain ⟨h1, h2⟩ := hc _ _ _ _ _ _ l e
      exact .clo (sb _ _ g) l (sb _ _ c) ⟨h1, _, rfl⟩ h2
  | .non, d', v, h, e => by simp only [D.snap, D.plain, if_true, Option.some.injEq] at e; subst e; exact h.mono sb
  | .bl _, d', v, h, e => by simp only [D.snap, D.plain, if_true, Option.some.injEq] at e; subst e; exact h.mono sb
  | .int _, d', v, h, e => by simp only [D.snap, D.plain, if_true, Option.some.injEq] at e; subst e; exact h.mono sb
  | .str _, d', v, h, e => by simp only [D.snap, D.plain, if_true, Option.some.injEq] at e; subst e; exact h.mono sb
  | .ty _, d', v, h, e => by simp only [D.snap, D.plain, if_true, Option.some.injEq] at e; subst e; exact h.mono sb
  | .glo _, d', v, h, e => by simp only [D.snap, D.plain, if_true, Option.some.injEq] at e; subst e; exact h.mono sb
  | .pen, d', v, h, e => by simp only [D.snap, D.plain, if_true, Option.some.injEq] at e; subst e; exact h.mono sb
  | .dct t l, d', v, h, e => by
    simp only [D.snap] at e
    split at e
    · cases e; exact h.mono sb
    · cases e
  | .ins c l, d', v, h, e => by
    simp only [D.snap] at e
    split at e
    · cases e; exact h.mono sb
    · cases e
  | .clo n l, d', v, h, e => by simp [D.snap, D.plain] at e
theorem Hl.snap {cv : Nat → Option (List D)} (hkt : ∀ ds ∈ T.kts, plainL ds = true) (sb : Sub G G') (hc : ∀ n c q sc o caps, LamAt T n (cloFrom P.cl sc.names []) c q sc o → cv n = some caps → ((cloFrom P.cl sc.names []).map (·.2)).Nodup ∧ Hc T P G' caps (cloFrom P.cl sc.names [])) :
    ∀ {ds ds' : List D} {vs : List V}, Hl T P G ds vs → snapL cv ds = some ds' → Hl T P G' ds' vs
  | [], ds', vs, h, e => by
    simp only [snapL, Option.some.injEq] at e
    subst e
    cases h; exact .nil
  | d :: ds, ds', vs, h, e => by
    simp only [snapL, Option.bind_eq_some_iff, Option.map_eq_some_iff] at e
    obtain ⟨x, e1, y, e2, rfl⟩ := e
    cases h with
    | cons h t => exact .cons (Hd.snap hkt sb hc h e1) (Hl.snap hkt sb hc t e2)
end
end

/-- a def of the text as such a call takes it -/
structure SFn (T : Tx) (P : Program) (w : World) (base : Heap) (lv : Nat) (x : Str) (S : DSp) : Prop where
  ex : ∃ f fd ps, T.mg x = some (.ref f) ∧ PySem.W.keepIn T.K (.ref f) = true ∧ Binds T.K fd ps [] ∧ FnG P w T.K T.mg base lv f fd ps (spD T S)
theorem slD_is {ρ : List Sv} {i : Nat} {d : D} (h : slD ρ i = some d) : ρ[i]? = some (.sh d) ∧ d.plain = true := by
  unfold slD at h
  split at h
  · rename_i e
    split at h
    · rename_i p; cases h; exact ⟨e, p⟩
    · cases h
  · cases h
theorem mem_lk {β : Type} {b : Nat} {o : β} : ∀ {l : List (Nat × β)}, l.lookup b = some o → (b, o) ∈ l
  | [], h => by simp at h
  | (c, u) :: l, h => by
    rw [List.lookup_cons] at h
    cases q : b == c with
    | true =>
      rw [q] at h; cases h
      rw [beq_iff_eq.mp q]; exact List.mem_cons_self
    | false => rw [q] at h; exact List.mem_cons_of_mem _ (mem_lk h)
/-- the cells of a frame as they stand -/
def cellsX (cells : List (Str × Addr)) (h : Heap) : Xl := (cells.map (·.1)).filterMap fun x => (cells.lookup x).bind fun c => (h.get? c).map fun o => (c, o)
theorem cellsX_is {cells : List (Str × Addr)} {h : Heap} {b : Addr} {o : Obj} (e : (cellsX cells h).lookup b = some o) : h.get? b = some o ∧ ∃ x, cells.lookup x = some b := by
  have hm : (b, o) ∈ cellsX cells h := mem_lk e
  unfold cellsX at hm
  rw [List.mem_filterMap] at hm
  obtain ⟨x, _, hx⟩ := hm
  cases q : cells.lookup x with
  | none => rw [q] at hx; cases hx
  | some c =>
    rw [q] at hx
    have hx : (h.get? c).map (fun o => (c, o)) = some (b, o) := hx
    rw [Option.map_eq_some_iff] at hx
    obtain ⟨o', h1, h2⟩ := hx
    cases h2
    exact ⟨h1, x, q⟩
theorem cellsX_has {cells : List (Str × Addr)} {h : Heap} {x : Str} {c : Addr} {o : Obj} (e : cells.lookup x = some c) (ho : h.get? c = some o) : (cellsX cells h).lookup c = some o := by
  have hm : (c, o) ∈ cellsX cells h := by
    unfold cellsX
    rw [List.mem_filterMap]
    refine ⟨x, List.mem_map.mpr ⟨(x, c), PySem.mem_of_lookup e, rfl⟩, ?_⟩
    rw [e]
    show (h.get? c).map (fun o => (c, o)) = _
    rw [ho]; rfl
  have hs : ((cellsX cells h).lookup c).isSome = true := by
    have : ∀ l : Xl, (c, o) ∈ l → (l.lookup c).isSome = true := by
      intro l
      induction l with
      | nil => intro h; simp at h
      | cons p l ih =>
        intro h
        rw [List.lookup_cons]
        cases q : c == p.1 with
        | true => rfl
        | false =>
          rcases List.mem_cons.mp h with e | h
          · subst e; simp at q
          · exact ih h
    exact this _ hm
  obtain ⟨o', e'⟩ := Option.isSome_iff_exists.mp hs
  have := (cellsX_is e').1
  rw [ho] at this; cases this
  exact e'
section
variable {T : Tx} {v : Ev} {B : Bs} {lv : Nat} {X : Cx}
/-- what a frame's lambdas see: names by slots -/
structure LamF (T : Tx) (X : Cx) (lf : Nat → List Nat) : Prop where
  fr : ∀ n q ps body sc, T.lo n q ps body sc → ∀ cells, (cloFrom cells sc.names []).map (fun p => some p.1) = (lf n).map fun i => X.N[i]?
  cel : ∀ n q ps body sc, T.lo n q ps body sc → ∀ y ∈ sc.names, y.2 = .free → X.env.scope.names.lookup y.1 = some .cell
  nd : ∀ n q ps body sc, T.lo n q ps body sc → ∀ cells, ((cloFrom cells sc.names []).map (·.1)).Nodup
theorem cloFrom_is {cells : List (Str × Addr)} {names : List (Str × NameKind)} {p : Str × Addr} (h : p ∈ cloFrom cells names []) : (p.1, NameKind.free) ∈ names ∧ p.2 = (cells.lookup p.1).getD 0 := by
  rcases cloFrom_mem (n := p.1) (c := p.2) h with h | h
  · cases h
  · exact h
theorem nd_map {cl : List (Str × Addr)} {f : Str → Addr} (nd : (cl.map (·.1)).Nodup) (h : ∀ p ∈ cl, p.2 = f p.1) (inj : ∀ a b, a ∈ cl.map (·.1) → b ∈ cl.map (·.1) → f a = f b → a = b) : (cl.map (·.2)).Nodup := by
  induction cl with
  | nil => simp
  | cons p cl ih =>
    rw [List.map_cons, List.nodup_cons] at nd ⊢
    refine ⟨fun hm => ?_, ih nd.2 (fun q hq => h q (List.mem_cons_of_mem _ hq)) fun a b ha hb => inj a b (by simp only [List.map_cons, List.mem_cons]; exact .inr ha) (by simp only [List.map_cons, List.mem_cons]; exact .inr hb)⟩
    obtain ⟨q, hq, e⟩ := List.mem_map.mp hm
    rw [h q (List.mem_cons_of_mem _ hq), h p List.mem_cons_self] at e
    have := inj q.1 p.1 (by simp only [List.map_cons, List.mem_cons]; exact .inr (List.mem_map.mpr ⟨q, hq, rfl⟩)) (by simp) e
    exact nd.1 (this ▸ List.mem_map.mpr ⟨q, hq, rfl⟩)
/-- the captured values, cell by cell -/
theorem caps_ok {n : En} {τ : List (Addr × HO)} {G H : Hp} {σ : L2.St} {pins : List (Addr × Obj)} {s : Shared} (I : Inv X pins σ H s) (R : Rep T B n τ G σ H) (L : Xl) (hL : ∀ x c o, X.env.cells.lookup x = some c → s.heap.get? c = some o → L.lookup c = some o)
    (sc : Scope) (hcel : ∀ y ∈ sc.names, y.2 = .free → X.env.scope.names.lookup y.1 = some .cell) : ∀ (cl : List (Str × Addr)) (l : List Nat) (caps : List D), (∀ p ∈ cl, p ∈ cloFrom X.env.cells sc.names []) → cl.map (fun p => some p.1) = l.map (fun i => X.N[i]?) → cvOf n.ρ l = some caps →
    (∀ b o, L.lookup b = some o → H b = none) → Hc T B.P (addX L G) caps cl
  | [], [], caps, _, _, e, _ => by simp [cvOf] at e; subst e; exact .nil
  | [], _ :: _, _, _, e, _, _ => by simp at e
  | _ :: _, [], _, _, e, _, _ => by simp at e
  | (x, c) :: cl, i :: l, caps, hm, e, ec, no => by
    simp only [List.map_cons, List.cons.injEq] at e
    simp only [cvOf, Option.bind_eq_some_iff, Option.map_eq_some_iff] at ec
    obtain ⟨d, e1, r, e2, rfl⟩ := ec
    obtain ⟨ei, pd⟩ := slD_is e1
    obtain ⟨w, ew, hw⟩ := R.slot i _ ei
    obtain ⟨hf, hc⟩ := cloFrom_is (hm (x, c) List.mem_cons_self)
    have hx := hcel _ hf rfl
    obtain ⟨c', ec'⟩ := I.ok.has x (.inl hx)
    have hc2 : c = (X.env.cells.lookup x).getD 0 := hc
    rw [ec'] at hc2
    have hc : c = c' := hc2
    subst hc
    obtain ⟨m, hn, hl⟩ := I.loc
    obtain ⟨u, ru, lk⟩ := hl i x w e.1.symm ew (.inr (.inl hx))
    rcases lk with ⟨k, _⟩ | ⟨_, c2, e3, hcell⟩
    · have k : X.env.scope.names.lookup x = some .local := k
      rw [hx] at k; cases k
    · rw [ec'] at e3; cases e3
      obtain ⟨o, ho, hd⟩ := hcell
      have nG := no_G R.sub no
      exact .cons (addX_in (hL x c o ec' ho)) hd ru (hw.mono (sub_addX nG)) (caps_ok I R L hL sc hcel cl l r (fun p hp => hm p (List.mem_cons_of_mem _ hp)) e.2 e2 no)
/-- f(e, ..), some of its arguments made of lambdas of this frame -/
theorem pe_callS {S : DSp} {lf : Nat → List Nat} {x : Str} {p pos : Pos} {e : Expr} {es : List Expr} {t : TDa} (hK : X.K = T.K) (hmg : X.mg = T.mg) (hkt : ∀ ds ∈ T.kts, plainL ds = true) (F : SFn T X.prog X.w X.base lv x S) (hfn : ∀ x, X.fn x = true) (LF : LamF T X lf) (hcl : B.P.cl = X.env.cells)
    (room : Room lv X.A) (gd : X.A.guards = some []) (hg : Gl X x) (ha : PA X (e :: es) (upA T B t)) (hdb : (x == ("__debug__" : Str)) = false) (he : starEach (e :: es) X.env = (false, eval e X.env) :: starEach es X.env) (hpl : (backTo pos (starEach es X.env)).any (·.1) = false) :
    PE X (.Call (.Name x p) (e :: es) [] pos) (up T B (dCallS S lf t)) := by
  constructor
  intro pins s σ H Q I q
  obtain ⟨f, fd, ps, hm, hk, hb, F⟩ := F.ex
  rw [← hmg] at hm
  rw [← hK] at hk hb F
  rw [← hmg] at F
  obtain ⟨n, τ, G, K, R, t, q⟩ := q
  refine wpAny_Call_Name_kw (ld_glob I hg hm (PySem.W.callWith_K (h₀ := X.base) I.ok.mod.kin hk ?_ he hpl) hdb)
  refine thn (ha.run pos pins s σ H (fun vs H1 => ∃ n1 G1 ds ds', Rep T B n1 τ G1 σ H1 ∧ Sub G G1 ∧ Hl T B.P G1 ds vs ∧ snapL (fun j => cvOf n1.ρ (lf j)) ds = some ds' ∧ S ds' n1.b (fun d _ b' => d.plain = true ∧ K (.val d) { n1 with b := b' }) noX) I
    ⟨n, τ, G, _, R, t, fun ds n1 vs H1 G1 R1 s1 k1 ⟨ds', h1, h2⟩ => ⟨n1, G1, ds, ds', R1, s1, k1, h1, h2⟩⟩) fun us s1 hq => ?_
  obtain ⟨vs, H1, I1, rel, n1, G1, ds, ds', R1, sb, hl, hsn, hS⟩ := hq
  refine ⟨I1.kIn, ?_⟩
  -- the cells
  have no : ∀ b o, (cellsX X.env.cells s1.heap).lookup b = some o → H1 b = none := fun b o e => by
    obtain ⟨_, y, hy⟩ := cellsX_is e
    exact I1.freeC y b hy
  have cx : CellX (cellsX X.env.cells s1.heap) := fun b o e => by
    obtain ⟨h1, y, hy⟩ := cellsX_is e
    obtain ⟨w, o', ho, hd⟩ := I1.cell y b hy
    rw [h1] at ho; cases ho
    exact ⟨⟨_, h1⟩, _, hd⟩
  have big : ∀ b o, (cellsX X.env.cells s1.heap).lookup b = some o → X.s_0.heap.objs.size ≤ b := fun b o e => by
    obtain ⟨_, y, hy⟩ := cellsX_is e
    exact I1.ok.cab y b (hfn y) hy
  have xs : Xs (cellsX X.env.cells s1.heap) H1 s1.heap := ⟨fun b o e => (cellsX_is e).1, no⟩
  have nfr : ∀ b o, (cellsX X.env.cells s1.heap).lookup b = some o → b ∉ frs X.stack := fun b o e hb => by
    obtain ⟨_, y, hy⟩ := cellsX_is e
    rcases List.mem_cons.mp (I1.stkSub b hb) with z | z
    · exact I1.cne y b hy z
    · obtain ⟨_, o', ho, _⟩ := I1.ok.funs.mem z
      exact absurd (Nat.lt_of_lt_of_le (Heap.lt_size ho) (big b o e)) (Nat.lt_irrefl _)
  generalize hL : cellsX X.env.cells s1.heap = L at no cx big xs nfr
  have e0 := I1.env0
  have e1 : Env0 X.prog X.w X.K X.mg X.base X.A X.stack s1 (addX L H1) := ⟨e0.frames, e0.mod, fun b o e => ⟨(e0.bs b o e).1, by
    cases k : L.lookup b with
    | none => rw [addX_out k]; exact (e0.bs b o e).2
    | some u =>
      have h1 := big b u k
      have h2 := Heap.lt_size e
      have h3 := I1.ok.bsz
      exact absurd (Nat.lt_of_lt_of_le h2 (Nat.le_trans h3 h1)) (Nat.lt_irrefl _)⟩, e0.bsz, e0.funs, fun b hb => by
    cases k : L.lookup b with
    | none => rw [addX_out k]; exact e0.frf b hb
    | some u => exact absurd hb (nfr b u k), hok_add e0.hok xs, e0.bare⟩
  have pre := R1.pre
  have nG := no_G R1.sub no
  have hargs : Hl T B.P (addX L G1) ds' vs := by
    refine Hl.snap hkt (sub_addX nG) (fun j c q sc o caps hlam hc => ?_) hl hsn
    obtain ⟨ps, body, pm, ct, lo, rfl⟩ := hlam
    have nd := LF.nd _ _ _ _ _ lo X.env.cells
    rw [hcl]
    refine ⟨?_, caps_ok I1 R1 L (fun y c o h1 h2 => by rw [← hL]; exact cellsX_has h1 h2) sc (LF.cel _ _ _ _ _ lo) _ (lf j) caps (fun p hp => hp) (LF.fr _ _ _ _ _ lo _) hc no⟩
    refine nd_map (f := fun y => (X.env.cells.lookup y).getD 0) nd ?_ ?_
    · intro p hp
      exact (cloFrom_is hp).2
    · intro a b ha hb hab
      obtain ⟨pa, hpa, rfl⟩ := List.mem_map.mp ha
      obtain ⟨pb, hpb, rfl⟩ := List.mem_map.mp hb
      obtain ⟨ca, hca⟩ := I1.ok.has pa.1 (.inl (LF.cel _ _ _ _ _ lo _ (cloFrom_is hpa).1 rfl))
      obtain ⟨cb, hcb⟩ := I1.ok.has pb.1 (.inl (LF.cel _ _ _ _ _ lo _ (cloFrom_is hpb).1 rfl))
      rw [hca, hcb] at hab
      have hab : ca = cb := hab
      subst hab
      exact I1.ok.inj _ _ _ hca hcb
  have hlen : (us ++ []).length = ps.length := by
    rw [List.append_nil, ← rel.length, F.ar vs (addX L H1) (fun _ _ => True) (fun _ _ _ => True) ⟨B.P, n1.b, addX L G1, ds', _, _, pre.add no, hargs, hS, fun _ _ _ _ _ _ _ _ _ => trivial, fun _ _ _ _ _ _ _ _ z => z.elim⟩]
  have hbind := hb s1 us I1.kIn hlen
  rw [List.append_nil] at hbind
  refine wpAny_call (codeAny_mono (F.go X.A X.stack s1 (addX L H1) _ us vs (fun v H' => ∃ d fr b' G', Post T ⟨addX L G1, addX L H1, B.P⟩ b' G' H' ∧ ResF T ⟨addX L G1, addX L H1, B.P⟩ G' H' d fr v ∧ d.plain = true ∧ K (.val d) { n1 with b := b' }) (fun _ _ _ => False) room gd e1 hbind rel
    ⟨B.P, n1.b, addX L G1, ds', _, _, pre.add no, hargs, hS, fun d fr b' v H' G' p r h => ⟨d, fr, b', G', p, r, h⟩, fun _ _ _ _ _ _ _ _ z => z.elim⟩) fun r s' hr => ?_)
  cases r with
  | error e => obtain ⟨_, _, _, _, _, _, _, _, _, _, _, _, z⟩ := hr; exact z.elim
  | ok fl =>
    cases fl with
    | next => cases hr
    | brk => cases hr
    | cont => cases hr
    | ret u =>
      obtain ⟨v', H', os, bare, un, hok, rv, d, fr, b', G', hp, hres, hpl', hKv⟩ := hr
      have fin : ∀ G'', Post T ⟨addX L G1, addX L H1, B.P⟩ b' G'' H' → Hd T B.P G'' d v' → EP X pins σ Q u s' := fun G'' hp hd => by
        have kk : ∀ b o, L.lookup b = some o → H' b = some (ExO b o) := fun b o e => hp.sub _ _ (hp.g0 _ _ (addX_in e))
        have kG : ∀ b o, L.lookup b = some o → G'' b = some (ExO b o) := fun b o e => hp.g0 _ _ (addX_in e)
        have un' := un_sub un xs hok kk nfr
        have hp' := hp.hide pre no cx
        have sN : SubN G'' (subX L G'') := fun b u e nx => by
          cases k : L.lookup b with
          | none => rw [subX_out k]; exact e
          | some o => rw [kG b o k] at e; cases e; exact absurd rfl (nx _)
        exact I1.after ⟨v', subX L H', os, bare, un', hok_sub hok kk, rv, q (.val d) _ v' _ _ (R1.after hp') (sb.trans hp'.g0) (hd.go sN rfl hpl') hKv⟩
      cases fr with
      | false => exact fin G' hp hres
      | true =>
        obtain ⟨a', o', rfl, ko⟩ := hres
        exact fin _ (hp.frozen ko.at_ ko.mo.nt ko.own (fun i d h => by simp at h) (fun q hq => by simp at hq)) (.obj upd_same (ko.ho.mono (sub_upd ko.own.g)))
end
end Sh
set_option maxHeartbeats  4000000
namespace Sh
open L2 PySem PySem.Spec PyProof.Rows

def penK (pc : Addr) (a dg ct fo : Int) : List (Key × V) := [(.inr "cells", .ref pc), (.inr "at", .int a), (.inr "digits", .int dg), (.inr "count", .int ct), (.inr "fold", .int fo)]
section
variable {pc : Addr} {a dg ct fo x : Int}
theorem pk_cells : valV (penK pc a dg ct fo) (.inr "cells") = some (.ref pc) := by rfl
theorem pk_at : valV (penK pc a dg ct fo) (.inr "at") = some (.int a) := by rfl
theorem pk_dg : valV (penK pc a dg ct fo) (.inr "digits") = some (.int dg) := by rfl
theorem pk_ct : valV (penK pc a dg ct fo) (.inr "count") = some (.int ct) := by rfl
theorem pk_fo : valV (penK pc a dg ct fo) (.inr "fold") = some (.int fo) := by rfl
theorem pp_at : putK (penK pc a dg ct fo) (.inr "at") (.int x) = penK pc x dg ct fo := by rfl
theorem pp_dg : putK (penK pc a dg ct fo) (.inr "digits") (.int x) = penK pc a x ct fo := by rfl
theorem pp_ct : putK (penK pc a dg ct fo) (.inr "count") (.int x) = penK pc a dg x fo := by rfl
theorem pp_fo : putK (penK pc a dg ct fo) (.inr "fold") (.int x) = penK pc a dg ct x := by rfl
end
section
variable {X : Cx}
/-- the text of a draw -/
abbrev drawB (p1 p2 p3 p4 p5 p6 p7 p8 p9 p10 p11 p12 p13 p14 p15 p16 p17 p18 p19 p20 p21 p22 p23 p24 p25 p26 p27 p28 p29 p30 p31 p32 p33 p34 p35 p36 p37 p38 p39 p40 p41 p42 p43 p44 p45 p46 p47 p48 p49 p50 p51 p52 p53 p54 p55 p56 p57 p58 p59 p60 p61 p62 p63 p64 p65 p66 p67 p68 p69 p70 p71 p72 p73 p74 p75 p76 p77 p78 p79 p80 p81 p82 p83 p84 p85 p86 p87 p88 p89 p90 p91 p92 p93 p94 p95 p96 p97 p98 p99 p100 p101 p102 p103 p104 p105 p106 p107 p108 p109 p110 p111 p112 p113 p114 p115 p116 p117 p118 p119 p120 p121 p122 p123 p124 : Pos) (k1 k2 k3 k4 k5 k6 k7 k8 k9 k10 k11 k12 k13 k14 k15 k16 k17 k18 k19 k20 k21 k22 k23 k24 k25 k26 k27 k28 k29 k30 k31 k32 k33 : Nat) : List Stmt := [.Assign [(.Subscript (.Name "pen" p1) (.Constant (.str "count") k1 p2) p3)] (.BinOp (.Subscript (.Name "pen" p4) (.Constant (.str "count") k2 p5) p6) .Add (.Constant (.int 1) k3 p7) p8) p9, .If (.BoolOp .And [(.Compare (.Subscript (.Name "pen" p10) (.Constant (.str "digits") k4 p11) p12) [.Eq] [(.Constant (.int 0) k5 p13)] p14), (.Compare (.Subscript (.Name "pen" p15) (.Constant (.str "at") k6 p16) p17) [.Lt] [(.Call (.Name "len" p18) [(.Subscript (.Name "pen" p19) (.Constant (.str "cells") k7 p20) p21)] [] p22)] p23)] p24) [.Assign [(.Name "cell" p25)] (.Subscript (.Subscript (.Name "pen" p26) (.Constant (.str "cells") k8 p27) p28) (.Subscript (.Name "pen" p29) (.Constant (.str "at") k9 p30) p31) p32) p33, .Assign [(.Subscript (.Name "pen" p34) (.Constant (.str "at") k10 p35) p36)] (.BinOp (.Subscript (.Name "pen" p37) (.Constant (.str "at") k11 p38) p39) .Add (.Constant (.int 1) k12 p40) p41) p42, .If (.Compare (.Name "cell" p43) [.GtE] [(.BinOp (.Constant (.int 10) k13 p44) .Pow (.Constant (.int 18) k14 p45) p46)] p47) [.Assign [(.Subscript (.Name "pen" p48) (.Constant (.str "digits") k15 p49) p50)] (.BinOp (.Name "cell" p51) .Sub (.BinOp (.Constant (.int 10) k16 p52) .Pow (.Constant (.int 18) k17 p53) p54) p55) p56] [.Assign [(.Subscript (.Name "pen" p57) (.Constant (.str "fold") k18 p58) p59)] (.BinOp (.Call (.Name "int" p60) [(.BinOp (.BinOp (.Subscript (.Name "pen" p61) (.Constant (.str "fold") k19 p62) p63) .Mult (.Constant (.int 29717) k20 p64) p65) .Add (.Name "cell" p66) p67)] [] p68) .Mod (.Constant (.int 2147483171) k21 p69) p70) p71] p72] [] p73, .If (.Compare (.Subscript (.Name "pen" p74) (.Constant (.str "digits") k22 p75) p76) [.Gt] [(.Constant (.int 0) k23 p77)] p78) [.Assign [(.Name "digit" p79)] (.BinOp (.Call (.Name "int" p80) [(.Subscript (.Name "pen" p81) (.Constant (.str "digits") k24 p82) p83)] [] p84) .Mod (.Name "many" p85) p86) p87, .Assign [(.Subscript (.Name "pen" p88) (.Constant (.str "digits") k25 p89) p90)] (.BinOp (.Subscript (.Name "pen" p91) (.Constant (.str "digits") k26 p92) p93) .FloorDiv (.Name "many" p94) p95) p96, .Return (some (.Name "digit" p97)) p98] [] p99, .Assign [(.Name "blend" p100)] (.BinOp (.BinOp (.Subscript (.Name "pen" p101) (.Constant (.str "fold") k27 p102) p103) .Add (.BinOp (.Subscript (.Name "pen" p104) (.Constant (.str "count") k28 p105) p106) .Mult (.Constant (.int 6151) k29 p107) p108) p109) .Add (.Constant (.int 137) k30 p110) p111) p112, .Return (some (.BinOp (.BinOp (.Call (.Name "int" p113) [(.BinOp (.BinOp (.Name "blend" p114) .Pow (.Constant (.int 53) k31 p115) p116) .Mod (.Constant (.int 2305843009213693951) k32 p117) p118)] [] p119) .FloorDiv (.Constant (.int 4096) k33 p120) p121) .Mod (.Name "many" p122) p123)) p124]
abbrev penB (p1 p2 p3 p4 p5 p6 p7 p8 p9 p10 p11 p12 p13 p14 p15 p16 p17 p18 p19 p20 p21 p22 p23 p24 p25 p26 p27 p28 p29 p30 p31 : Pos) (k1 k2 k3 k4 k5 k6 k7 k8 k9 k10 k11 : Nat) : List Stmt := [.Assign [(.Name "fold" p1)] (.Constant (.int 0) k1 p2) p3, .For (.Name "cell" p4) (.Name "script" p5) [.Assign [(.Name "fold" p6)] (.BinOp (.Call (.Name "int" p7) [(.BinOp (.BinOp (.Name "fold" p8) .Mult (.Constant (.int 149) k2 p9) p10) .Add (.Name "cell" p11) p12)] [] p13) .Mod (.Constant (.int 999999487) k3 p14) p15) p16] [] p17, .Return (some (.Dict [some (.Constant (.str "cells") k4 p18), some (.Constant (.str "at") k5 p19), some (.Constant (.str "digits") k6 p20), some (.Constant (.str "count") k7 p21), some (.Constant (.str "fold") k8 p22)] [(.Call (.Name "list" p23) [(.Name "script" p24)] [] p25), (.Constant (.int 0) k9 p26), (.Constant (.int 0) k10 p27), (.Constant (.int 0) k11 p28), (.Name "fold" p29)] p30)) p31]

/-- what the text of a draw leans on -/
structure DrawX (X : Cx) : Prop where
  units : X.A.units + 66 < cLine
  N : X.N = (["pen", "many", "cell", "digit", "blend"] : List Str)
  loc : ∀ x ∈ (["pen", "many", "cell", "digit", "blend"] : List Str), X.env.scope.names.lookup x = some .local
  gl : ∀ x ∈ (["len", "int"] : List Str), Gl X x ∧ X.mg x = none
  fk : X.env.scope.kind = .function
def tGetP (k : Str) : TE := tDGet (tVar 0) (tC (.str k))
variable {k : Nat} {p q r : Pos}
theorem DrawX.v (o : DrawX X) {i : Nat} {x : Str} {p : Pos} (h : (["pen", "many", "cell", "digit", "blend"] : List Str)[i]? = some x) : PE X (.Name x p) (tVar i) := by
  have hm := List.mem_of_getElem? h
  refine pe_var (o.N ▸ h) (.inl (o.loc x hm)) ?_ ?_
  · simp only [List.mem_cons, List.not_mem_nil, or_false] at hm
    rcases hm with rfl | rfl | rfl | rfl | rfl <;> decide
  · simp only [List.mem_cons, List.not_mem_nil, or_false] at hm
    rcases hm with rfl | rfl | rfl | rfl | rfl <;> decide
theorem DrawX.get (o : DrawX X) {f : Str} : PE X (.Subscript (.Name "pen" p) (.Constant (.str f) k q) r) (tGetP f) :=
  pe_dget (by have := o.units; omega) (o.v (i := 0) rfl) pe_str fun _ _ => rfl
theorem getP {f : Str} {a pc : Addr} {at_ dg ct fo : Int} {v : V} {σ : L2.St} {H : Hp} {Q : VK} (h0 : σ[0]? = some (some (.ref a))) (h : H a = some (.dK (penK pc at_ dg ct fo))) (hv : valV (penK pc at_ dg ct fo) (.inr f) = some v) (hq : Q v H) : tGetP f σ H Q :=
  ⟨_, h0, a, v, rfl, by rw [← hv]; exact (DGet.k (k := .inr f) h), hq⟩
theorem putP {a pc : Addr} {at_ dg ct fo : Int} {f : Str} {x : V} {l : List (Key × V)} {H : Hp} (h : H a = some (.dK (penK pc at_ dg ct fo))) (e : putK (penK pc at_ dg ct fo) (.inr f) x = l) : DPut H a (.str f) x (upd H a (.dK l)) := by
  rw [← e]
  exact DPut.k (k := .inr f) h (by rw [sizeLine_eq]; simp [penK])
theorem DrawX.put (o : DrawX X) {f : Str} {e : Expr} {t : TE} {p1 p2 p3 p4 : Pos} (he : PE X e t) (hn : notComp e = true) : PS X (.Assign [.Subscript (.Name "pen" p1) (.Constant (.str f) k p2) p3] e p4) (sDPut (tVar 0) (tC (.str f)) t) :=
  ps_dput (by have := o.units; omega) (o.v (i := 0) rfl) pe_str he (sw_no hn _ _ _)
theorem DrawX.set (o : DrawX X) {i : Nat} {x : Str} {e : Expr} {t : TE} {p1 p2 : Pos} (h : (["pen", "many", "cell", "digit", "blend"] : List Str)[i]? = some x) (he : PE X e t) (hn : notComp e = true) : PS X (.Assign [.Name x p1] e p2) (tAsg t (gName i)) :=
  ps_set (by rw [o.N]; decide) (o.N ▸ h) (.inl (o.loc x (List.mem_of_getElem? h))) he (sw_no hn _ _ _) (.inr (o.loc x (List.mem_of_getElem? h)))
theorem DrawX.int (o : DrawX X) {e : Expr} {t : TE} {p1 p2 : Pos} (he : PE X e t) (hs : notStar e = true) : PE X (.Call (.Name "int" p1) [e] [] p2) (tCB (fun xs H Q => (∃ i, xs = [.int i] ∧ Q (.int i) H) ∨ ∃ k, xs = [.bl k] ∧ Q (.int (if k then 1 else 0)) H) (tCons t tNil)) :=
  pe_callTy call_int1 (o.gl "int" (by simp)).1 (o.gl "int" (by simp)).2 PyProof.Rows.boot_int (pa_cons he pa_nil (star_of hs _ _)) (by decide) (by decide) (star_of hs _ _) rfl
theorem DrawX.len (o : DrawX X) {e : Expr} {t : TE} {p1 p2 : Pos} (he : PE X e t) (hs : notStar e = true) : PE X (.Call (.Name "len" p1) [e] [] p2) (tCB (fun xs H Q => ∃ a zs, xs = [.ref a] ∧ (SqL X.K H a zs ∨ SqT X.K H a zs) ∧ Q (.int (zs.length : Nat)) H) (tCons t tNil)) :=
  pe_callB call_len_seq (o.gl "len" (by simp)).1 (o.gl "len" (by simp)).2 boot_len (pa_cons he pa_nil (star_of hs _ _)) (by decide) (by decide) (star_of hs _ _) rfl
/-- the number that both ends of a draw give -/
structure DrawS (σ : L2.St) (H : Hp) (a pc : Addr) (ns : List Int) (m at_ dg ct fo : Int) : Prop where
  s0 : σ[0]? = some (some (.ref a))
  s1 : σ[1]? = some (some (.int m))
  ln : σ.length = 5
  h : H a = some (.dK (penK pc at_ dg ct fo))
  hc : H pc = some (.lst (ns.map V.int))
  ne : pc ≠ a
  ba : 0 ≤ at_ ∧ at_ ≤ ns.length
  bd : 0 ≤ dg
  bc : 0 ≤ ct ∧ ct ≤ 2 ^ 40
  bf : 0 ≤ fo ∧ fo < 2147483171
  bm : 0 < m ∧ m < 1073741824
variable {σ : L2.St} {H : Hp} {a pc : Addr} {ns : List Int} {m at_ dg ct fo : Int}
/-- the tail: digits there -/
def DrawE (E : Ends) (H0 : Hp) (a pc : Addr) (ns : List Int) (m ct : Int) : Prop := ∀ (r : Int) (H' : Hp) (at_ dg fo : Int), 0 ≤ r → r < m → H' a = some (.dK (penK pc at_ dg ct fo)) → (∀ b, b ≠ a → H' b = H0 b) → (0 ≤ at_ ∧ at_ ≤ ns.length) → 0 ≤ dg → (0 ≤ fo ∧ fo < 2147483171) → E.rt (.int r) H'

def Is (t : TE) (σ : L2.St) (H : Hp) (v : V) : Prop := ∀ Q : VK, Q v H → t σ H Q
theorem is_var {i : Nat} {v : V} (h : σ[i]? = some (some v)) : Is (tVar i) σ H v := fun Q q => ⟨v, h, q⟩
theorem is_c {v : V} : Is (tC v) σ H v := fun Q q => q
theorem is_op {C : Int → Int → Prop} {g : Int → Int → V} {ta tb : TE} {i j : Int} (ha : Is ta σ H (.int i)) (hb : Is tb σ H (.int j)) (hc : C i j) : Is (tOp (rI C g) ta tb) σ H (g i j) := fun Q q => ha _ (hb _ ⟨i, j, rfl, rfl, hc, q⟩)
theorem is_op0 {g : Int → Int → V} {ta tb : TE} {i j : Int} (ha : Is ta σ H (.int i)) (hb : Is tb σ H (.int j)) : Is (tOp (rI0 g) ta tb) σ H (g i j) := fun Q q => ha _ (hb _ ⟨i, j, rfl, rfl, q⟩)
theorem is_add {ta tb : TE} {i j : Int} (ha : Is ta σ H (.int i)) (hb : Is tb σ H (.int j)) : Is (tOp (rI0 fun i j => .int (i + j)) ta tb) σ H (.int (i + j)) := is_op0 ha hb
theorem is_mul {ta tb : TE} {i j : Int} (ha : Is ta σ H (.int i)) (hb : Is tb σ H (.int j)) (h : CMul i j) : Is (tOp (rI CMul fun i j => .int (i * j)) ta tb) σ H (.int (i * j)) := is_op ha hb h
theorem is_mod {ta tb : TE} {i j : Int} (ha : Is ta σ H (.int i)) (hb : Is tb σ H (.int j)) (h : 0 < j) : Is (tOp (rI (fun _ j => 0 < j) fun i j => .int (i % j)) ta tb) σ H (.int (i % j)) := is_op (C := fun _ j => 0 < j) ha hb h
theorem is_div {ta tb : TE} {i j : Int} (ha : Is ta σ H (.int i)) (hb : Is tb σ H (.int j)) (h : CDiv i j) : Is (tOp (rI CDiv fun i j => .int (i / j)) ta tb) σ H (.int (i / j)) := is_op ha hb h
theorem is_pow {ta tb : TE} {i j : Int} (ha : Is ta σ H (.int i)) (hb : Is tb σ H (.int j)) (h : CPow i j) : Is (tOp (rI CPow fun i j => .int (i ^ j.toNat)) ta tb) σ H (.int (i ^ j.toNat)) := is_op ha hb h
theorem is_int {t : TE} {i : Int} (h : Is t σ H (.int i)) : Is (tCB (fun xs H Q => (∃ i, xs = [V.int i] ∧ Q (.int i) H) ∨ ∃ k, xs = [V.bl k] ∧ Q (.int (if k then 1 else 0)) H) (tCons t tNil)) σ H (.int i) := fun Q q => h _ (.inl ⟨i, rfl, q⟩)
theorem is_get {f : Str} {v : V} (h0 : σ[0]? = some (some (.ref a))) (h : H a = some (.dK (penK pc at_ dg ct fo))) (hv : valV (penK pc at_ dg ct fo) (.inr f) = some v) : Is (tGetP f) σ H v := fun Q q => getP h0 h hv q
theorem is_len {K : PySem.W.Frag} {t : TE} {b : Addr} {zs : List V} (h : Is t σ H (.ref b)) (hb : H b = some (.lst zs)) : Is (tCB (fun xs H Q => ∃ a zs, xs = [V.ref a] ∧ (SqL K H a zs ∨ SqT K H a zs) ∧ Q (.int (zs.length : Nat)) H) (tCons t tNil)) σ H (.int (zs.length : Nat)) := fun Q q => h _ ⟨b, zs, rfl, .inl (SqL.of hb), q⟩
theorem put_s {E : Ends} {f : Str} {x : V} {l : List (Key × V)} {t : TE} (h0 : σ[0]? = some (some (.ref a))) (h : H a = some (.dK (penK pc at_ dg ct fo))) (ht : Is t σ H x) (e : putK (penK pc at_ dg ct fo) (.inr f) x = l) (q : E.nx σ (upd H a (.dK l))) : sDPut (tVar 0) (tC (.str f)) t E σ H :=
  ht _ ⟨_, h0, a, _, rfl, putP h e, q⟩
theorem cmp_b {E : Bool → Hp → Prop} {p : Int → Int → Bool} {ta tb : TE} {i j : Int} (ha : Is ta σ H (.int i)) (hb : Is tb σ H (.int j)) (q : E (p i j) H) : L2.tB (tCmp p ta tb) σ H E := ha _ (hb _ ⟨i, j, rfl, rfl, p i j, rfl, q⟩)
theorem DrawS.put (d : DrawS σ H a pc ns m at_ dg ct fo) {at' dg' ct' fo' : Int} (ba : 0 ≤ at' ∧ at' ≤ ns.length) (bd : 0 ≤ dg') (bc : 0 ≤ ct' ∧ ct' ≤ 2 ^ 40) (bf : 0 ≤ fo' ∧ fo' < 2147483171) : DrawS σ (upd H a (.dK (penK pc at' dg' ct' fo'))) a pc ns m at' dg' ct' fo' :=
  ⟨d.s0, d.s1, d.ln, upd_same, by rw [upd_ne d.ne]; exact d.hc, d.ne, ba, bd, bc, bf, d.bm⟩
theorem DrawS.set (d : DrawS σ H a pc ns m at_ dg ct fo) {i : Nat} (v : V) (hi : 2 ≤ i) : DrawS (σ.set i (some v)) H a pc ns m at_ dg ct fo :=
  ⟨by rw [List.getElem?_set_ne (by omega)]; exact d.s0, by rw [List.getElem?_set_ne (by omega)]; exact d.s1, by rw [List.length_set]; exact d.ln, d.h, d.hc, d.ne, d.ba, d.bd, d.bc, d.bf, d.bm⟩
theorem DrawE.up {E : Ends} {H0 : Hp} (k : DrawE E H0 a pc ns m ct) {o : HO} : DrawE E (upd H0 a o) a pc ns m ct := fun r H' at_ dg fo h1 h2 h3 h4 => k r H' at_ dg fo h1 h2 h3 fun b hb => by rw [h4 b hb, upd_ne hb]
abbrev tINT (t : TE) : TE := tCB (fun xs H Q => (∃ i, xs = [V.int i] ∧ Q (.int i) H) ∨ ∃ k, xs = [V.bl k] ∧ Q (.int (if k then 1 else 0)) H) (tCons t tNil)
def drawTail : TS := tSeq (tIfS (L2.tB (tGt (tGetP "digits") (tC (.int 0)))) (tSeq (tAsg (tOp (rI (fun _ j => 0 < j) fun i j => .int (i % j)) (tINT (tGetP "digits")) (tVar 1)) (gName 3)) (tSeq (sDPut (tVar 0) (tC (.str "digits")) (tOp (rI CDiv fun i j => .int (i / j)) (tGetP "digits") (tVar 1))) (tRet (tVar 3)))) tNext)
  (tSeq (tAsg (tOp (rI0 fun i j => .int (i + j)) (tOp (rI0 fun i j => .int (i + j)) (tGetP "fold") (tOp (rI CMul fun i j => .int (i * j)) (tGetP "count") (tC (.int 6151)))) (tC (.int 137))) (gName 4))
    (tRet (tOp (rI (fun _ j => 0 < j) fun i j => .int (i % j)) (tOp (rI CDiv fun i j => .int (i / j)) (tINT (tOp (rI (fun _ j => 0 < j) fun i j => .int (i % j)) (tOp (rI CPow fun i j => .int (i ^ j.toNat)) (tVar 4) (tC (.int 53))) (tC (.int 2305843009213693951)))) (tC (.int 4096))) (tVar 1))))
theorem tail_ok {E : Ends} (d : DrawS σ H a pc ns m at_ dg ct fo) (k : DrawE E H a pc ns m ct) : drawTail E σ H := by
  refine cmp_b (is_get d.s0 d.h pk_dg) is_c ?_
  by_cases hz : 0 < dg
  · rw [decide_eq_true hz]
    refine (is_mod (is_int (is_get d.s0 d.h pk_dg)) (is_var d.s1) d.bm.1) _ ?_
    have d2 := d.set (i := 3) (.int (dg % m)) (by omega)
    have v3 : (σ.set 3 (some (V.int (dg % m))))[3]? = some (some (.int (dg % m))) := List.getElem?_set_self (by rw [d.ln]; omega)
    refine put_s d2.s0 d2.h (is_div (is_get d2.s0 d2.h pk_dg) (is_var d2.s1) d.bm) pp_dg ⟨_, v3, ?_⟩
    exact k (dg % m) _ at_ (dg / m) fo (Int.emod_nonneg _ (by have := d.bm; omega)) (Int.emod_lt_of_pos _ d.bm.1) upd_same (fun b hb => upd_ne hb) d.ba (Int.ediv_nonneg d.bd (by have := d.bm; omega)) d.bf
  · rw [decide_eq_false hz]
    have bf := d.bf
    have bc := d.bc
    refine (is_add (is_add (is_get d.s0 d.h pk_fo) (is_mul (is_get d.s0 d.h pk_ct) is_c (.inl ⟨by omega, by omega⟩))) is_c) _ ?_
    have d2 := d.set (i := 4) (.int (fo + ct * 6151 + 137)) (by omega)
    have v4 : (σ.set 4 (some (V.int (fo + ct * 6151 + 137))))[4]? = some (some (.int (fo + ct * 6151 + 137))) := List.getElem?_set_self (by rw [d.ln]; omega)
    refine (is_mod (is_div (is_int (is_mod (is_pow (is_var v4) is_c ⟨by omega, by omega, by omega⟩) is_c (by omega))) is_c ⟨by omega, by omega⟩) (is_var d2.s1) d.bm.1) _ ?_
    exact k _ H at_ dg fo (Int.emod_nonneg _ (by have := d.bm; omega)) (Int.emod_lt_of_pos _ d.bm.1) d.h (fun b hb => rfl) d.ba d.bd d.bf
theorem draw_ok (o : DrawX X) {p1 p2 p3 p4 p5 p6 p7 p8 p9 p10 p11 p12 p13 p14 p15 p16 p17 p18 p19 p20 p21 p22 p23 p24 p25 p26 p27 p28 p29 p30 p31 p32 p33 p34 p35 p36 p37 p38 p39 p40 p41 p42 p43 p44 p45 p46 p47 p48 p49 p50 p51 p52 p53 p54 p55 p56 p57 p58 p59 p60 p61 p62 p63 p64 p65 p66 p67 p68 p69 p70 p71 p72 p73 p74 p75 p76 p77 p78 p79 p80 p81 p82 p83 p84 p85 p86 p87 p88 p89 p90 p91 p92 p93 p94 p95 p96 p97 p98 p99 p100 p101 p102 p103 p104 p105 p106 p107 p108 p109 p110 p111 p112 p113 p114 p115 p116 p117 p118 p119 p120 p121 p122 p123 p124 : Pos} {k1 k2 k3 k4 k5 k6 k7 k8 k9 k10 k11 k12 k13 k14 k15 k16 k17 k18 k19 k20 k21 k22 k23 k24 k25 k26 k27 k28 k29 k30 k31 k32 k33 : Nat} : ∃ t, PSs X (drawB p1 p2 p3 p4 p5 p6 p7 p8 p9 p10 p11 p12 p13 p14 p15 p16 p17 p18 p19 p20 p21 p22 p23 p24 p25 p26 p27 p28 p29 p30 p31 p32 p33 p34 p35 p36 p37 p38 p39 p40 p41 p42 p43 p44 p45 p46 p47 p48 p49 p50 p51 p52 p53 p54 p55 p56 p57 p58 p59 p60 p61 p62 p63 p64 p65 p66 p67 p68 p69 p70 p71 p72 p73 p74 p75 p76 p77 p78 p79 p80 p81 p82 p83 p84 p85 p86 p87 p88 p89 p90 p91 p92 p93 p94 p95 p96 p97 p98 p99 p100 p101 p102 p103 p104 p105 p106 p107 p108 p109 p110 p111 p112 p113 p114 p115 p116 p117 p118 p119 p120 p121 p122 p123 p124 k1 k2 k3 k4 k5 k6 k7 k8 k9 k10 k11 k12 k13 k14 k15 k16 k17 k18 k19 k20 k21 k22 k23 k24 k25 k26 k27 k28 k29 k30 k31 k32 k33) t ∧
    ∀ (E : Ends) (σ : L2.St) (H : Hp) (a pc : Addr) (ns : List Int) (m at_ dg ct fo : Int), DrawS σ H a pc ns m at_ dg ct fo → ct + 1 ≤ 2 ^ 40 → DrawE E H a pc ns m (ct + 1) → t E σ H := by
  refine ⟨_, pss_cons (o.put (pe_op op_add o.get pe_int) rfl) (pss_cons (ps_if (pw_and (pt_cmp (pc_eqI o.get pe_int)) (pw_and1 (pt_cmp (pc_lt o.get (o.len o.get rfl))))).pt
    (pss_cons (o.set (i := 2) rfl (pe_ix ix_list o.get o.get (fun _ _ => rfl)) rfl) (pss_cons (o.put (pe_op op_add o.get pe_int) rfl) (pss_one (ps_if (pt_cmp (pc_ge (o.v (i := 2) rfl) (pe_op op_pow pe_int pe_int)))
      (pss_one (o.put (pe_op op_sub (o.v (i := 2) rfl) (pe_op op_pow pe_int pe_int)) rfl)) (pss_one (o.put (pe_op op_mod (o.int (pe_op op_add (pe_op op_mul o.get pe_int) (o.v (i := 2) rfl)) rfl) pe_int) rfl)))))) pss_nil)
    (pss_cons (ps_if (pt_cmp (pc_gt o.get pe_int)) (pss_cons (o.set (i := 3) rfl (pe_op op_mod (o.int o.get rfl) (o.v (i := 1) rfl)) rfl) (pss_cons (o.put (pe_op op_fdiv o.get (o.v (i := 1) rfl)) rfl) (pss_one (ps_ret (o.v (i := 3) rfl))))) pss_nil)
    (pss_cons (o.set (i := 4) rfl (pe_op op_add (pe_op op_add o.get (pe_op op_mul o.get pe_int)) pe_int) rfl)
    (pss_one (ps_ret (pe_op op_mod (pe_op op_fdiv (o.int (pe_op op_mod (pe_op op_pow (o.v (i := 4) rfl) pe_int) pe_int) rfl) pe_int) (o.v (i := 1) rfl))))))), ?_⟩
  intro E σ H a pc ns m at_ dg ct fo d hct k
  have e0 : Is (tOp (rI0 fun i j => .int (i + j)) (tGetP "count") (tC (.int 1))) σ H (.int (ct + 1)) := is_op0 (is_get d.s0 d.h pk_ct) is_c
  refine put_s d.s0 d.h e0 pp_ct ?_
  have d1 : DrawS σ (upd H a (.dK (penK pc at_ dg (ct + 1) fo))) a pc ns m at_ dg (ct + 1) fo := d.put d.ba d.bd ⟨by have := d.bc.1; omega, hct⟩ d.bf
  have k1 : DrawE E (upd H a (.dK (penK pc at_ dg (ct + 1) fo))) a pc ns m (ct + 1) := k.up
  revert d1 k1
  generalize upd H a (.dK (penK pc at_ dg (ct + 1) fo)) = H1
  generalize ct + 1 = c1
  intro d1 k1
  have pw18 : ((10 : Int) ^ (18 : Int).toNat) = 1000000000000000000 := by decide
  have p18 : ∀ {σ : L2.St} {H : Hp}, Is (tOp (rI CPow fun i j => .int (i ^ j.toNat)) (tC (.int 10)) (tC (.int 18))) σ H (.int (10 ^ (18 : Int).toNat)) := is_op is_c is_c ⟨by omega, by omega, by decide⟩
  refine cmp_b (is_get d1.s0 d1.h pk_dg) is_c ?_
  have rest : ∀ {σ : L2.St} {H : Hp} {at_ dg fo : Int}, DrawS σ H a pc ns m at_ dg c1 fo → DrawE E H a pc ns m c1 → drawTail E σ H := fun d k => tail_ok d k
  by_cases hz : dg = 0
  rotate_left
  · rw [decide_eq_false hz]
    exact rest d1 k1
  rw [decide_eq_true hz]
  refine cmp_b (is_get d1.s0 d1.h pk_at) (is_len (is_get d1.s0 d1.h pk_cells) d1.hc) ?_
  rw [List.length_map]
  by_cases hl : at_ < (ns.length : Nat)
  rotate_left
  · rw [decide_eq_false hl]
    exact rest d1 k1
  rw [decide_eq_true hl]
  have hi : at_.toNat < ns.length := by have := d1.ba; omega
  have hx : atI (ns.map V.int) at_ = some (.int ns[at_.toNat]) := by
    have e : at_ = ((at_.toNat : Nat) : Int) := by have := d1.ba; omega
    have hh : (ns.map V.int)[at_.toNat]? = some (.int ns[at_.toNat]) := by rw [List.getElem?_map, List.getElem?_eq_getElem hi]; rfl
    have := atI_nat hh
    rw [← e] at this
    exact this
  refine (is_get d1.s0 d1.h pk_cells) _ ((is_get d1.s0 d1.h pk_at) _ ⟨pc, _, at_, _, rfl, rfl, SqL.of d1.hc, hx, ?_⟩)
  generalize ns[at_.toNat] = cell
  have d2 := d1.set (i := 2) (.int cell) (by omega)
  have v2 : (σ.set 2 (some (V.int cell)))[2]? = some (some (.int cell)) := List.getElem?_set_self (by rw [d.ln]; omega)
  refine put_s d2.s0 d2.h (is_op0 (is_get d2.s0 d2.h pk_at) is_c) pp_at ?_
  have d3 := d2.put (at' := at_ + 1) (dg' := dg) (ct' := c1) (fo' := fo) ⟨by have := d1.ba; omega, by omega⟩ d1.bd d1.bc d1.bf
  have k3 : DrawE E (upd H1 a (.dK (penK pc (at_ + 1) dg c1 fo))) a pc ns m c1 := k1.up
  refine cmp_b (is_var v2) p18 ?_
  rw [pw18]
  by_cases hc : (1000000000000000000 : Int) ≤ cell
  · rw [decide_eq_true hc]
    have e : Is (tOp (rI0 fun i j => V.int (i - j)) (tVar 2) (tOp (rI CPow fun i j => .int (i ^ j.toNat)) (tC (.int 10)) (tC (.int 18)))) (σ.set 2 (some (V.int cell))) (upd H1 a (.dK (penK pc (at_ + 1) dg c1 fo))) (.int (cell - 10 ^ (18 : Int).toNat)) := is_op0 (is_var v2) p18
    rw [pw18] at e
    refine put_s d3.s0 d3.h e pp_dg (rest (d3.put d3.ba (by omega) d3.bc d3.bf) k3.up)
  · rw [decide_eq_false hc]
    have bf := d3.bf
    refine put_s d3.s0 d3.h (is_mod (is_int (is_add (is_mul (is_get d3.s0 d3.h pk_fo) is_c (.inl ⟨by omega, by omega⟩)) (is_var v2))) is_c (by omega)) pp_fo (rest (d3.put d3.ba d3.bd d3.bc ⟨Int.emod_nonneg _ (by omega), Int.emod_lt_of_pos _ (by omega)⟩) k3.up)

/-- what the text of the pen's making leans on -/
structure PenX (X : Cx) : Prop where
  N : X.N = (["script", "fold", "cell"] : List Str)
  loc : ∀ x ∈ (["script", "fold", "cell"] : List Str), X.env.scope.names.lookup x = some .local
  gl : ∀ x ∈ (["list", "int"] : List Str), Gl X x ∧ X.mg x = none
  calm : X.calm = true
  po : PassesOwn (model X.prog X.w) X.A X.env X.xe
theorem PenX.v (o : PenX X) {i : Nat} {x : Str} {p : Pos} (h : (["script", "fold", "cell"] : List Str)[i]? = some x) : PE X (.Name x p) (tVar i) := by
  have hm := List.mem_of_getElem? h
  refine pe_var (o.N ▸ h) (.inl (o.loc x hm)) ?_ ?_
  · simp only [List.mem_cons, List.not_mem_nil, or_false] at hm
    rcases hm with rfl | rfl | rfl <;> decide
  · simp only [List.mem_cons, List.not_mem_nil, or_false] at hm
    rcases hm with rfl | rfl | rfl <;> decide
theorem PenX.set (o : PenX X) {i : Nat} {x : Str} {e : Expr} {t : TE} {p1 p2 : Pos} (h : (["script", "fold", "cell"] : List Str)[i]? = some x) (he : PE X e t) (hn : notComp e = true) : PS X (.Assign [.Name x p1] e p2) (tAsg t (gName i)) :=
  ps_set (by rw [o.N]; decide) (o.N ▸ h) (.inl (o.loc x (List.mem_of_getElem? h))) he (sw_no hn _ _ _) (.inr (o.loc x (List.mem_of_getElem? h)))
theorem PenX.int (o : PenX X) {e : Expr} {t : TE} {p1 p2 : Pos} (he : PE X e t) (hs : notStar e = true) : PE X (.Call (.Name "int" p1) [e] [] p2) (tINT t) :=
  pe_callTy call_int1 (o.gl "int" (by simp)).1 (o.gl "int" (by simp)).2 PyProof.Rows.boot_int (pa_cons he pa_nil (star_of hs _ _)) (by decide) (by decide) (star_of hs _ _) rfl
theorem pen_ok (o : PenX X) {p1 p2 p3 p4 p5 p6 p7 p8 p9 p10 p11 p12 p13 p14 p15 p16 p17 p18 p19 p20 p21 p22 p23 p24 p25 p26 p27 p28 p29 p30 p31 : Pos} {k1 k2 k3 k4 k5 k6 k7 k8 k9 k10 k11 : Nat} : ∃ t, PSs X (penB p1 p2 p3 p4 p5 p6 p7 p8 p9 p10 p11 p12 p13 p14 p15 p16 p17 p18 p19 p20 p21 p22 p23 p24 p25 p26 p27 p28 p29 p30 p31 k1 k2 k3 k4 k5 k6 k7 k8 k9 k10 k11) t ∧
    ∀ (E : Ends) (σ : L2.St) (H : Hp) (sa : Addr) (ns : List Int), σ[0]? = some (some (.ref sa)) → σ.length = 3 → SqL X.K H sa (ns.map V.int) → (∀ (p pc : Addr) (fo : Int) (H' : Hp), H p = none → H pc = none → pc ≠ p → 0 ≤ fo → fo < 2147483171 → H' = upd (upd H pc (.lst (ns.map V.int))) p (.dK (penK pc 0 0 0 fo)) → E.rt (.ref p) H') → t E σ H := by
  refine ⟨_, pss_cons (o.set (i := 1) rfl pe_int rfl) (pss_cons (ps_for o.po o.calm (pi_list (o.v (i := 0) rfl)) (pg_name (i := 2) (x := "cell") (by rw [o.N]; decide) (by rw [o.N]; rfl) (.inl (o.loc "cell" (by simp))) (.inr (o.loc "cell" (by simp))))
    (pss_one (o.set (i := 1) rfl (pe_op op_mod (o.int (pe_op op_add (pe_op op_mul (o.v (i := 1) rfl) pe_int) (o.v (i := 2) rfl)) rfl) pe_int) rfl)))
    (pss_one (ps_ret (pe_disp (pps_cons pe_str (pe_callTy call_list_of (o.gl "list" (by simp)).1 (o.gl "list" (by simp)).2 PyProof.Rows.boot_list (pa_cons (o.v (i := 0) rfl) pa_nil) (by decide) (by decide) rfl rfl)
      (pps_cons pe_str pe_int (pps_cons pe_str pe_int (pps_cons pe_str pe_int (pps_cons pe_str (o.v (i := 1) rfl) pps_nil))))) rfl rfl (by simp) (by simp))))), ?_⟩
  intro E σ H sa ns h0 hl hS k
  -- the first store, then the loop
  have inv0 : ∀ v : V, (σ.set 1 (some v))[0]? = some (some (.ref sa)) ∧ (σ.set 1 (some v)).length = 3 ∧ (σ.set 1 (some v))[1]? = some (some v) := fun v => ⟨by rw [List.getElem?_set_ne (by omega)]; exact h0, by rw [List.length_set]; exact hl, List.getElem?_set_self (by omega)⟩
  show tSeq _ _ E (σ.set 1 (some (V.int 0))) H
  obtain ⟨i1, i2, i3⟩ := inv0 (.int 0)
  refine ⟨_, i1, sa, rfl, ⟨_, hS⟩, for_list (xs := ns.map V.int) (fun _ σ' H' => H' = H ∧ σ'[0]? = some (some (.ref sa)) ∧ σ'.length = 3 ∧ ∃ fo : Int, σ'[1]? = some (some (.int fo)) ∧ 0 ≤ fo ∧ fo < 2147483171) ⟨rfl, i1, i2, 0, i3, by omega, by omega⟩ (fun i σ' H' _ h => by rw [h.1]; exact hS) (fun i x σ' H' hx h => ?_) fun σ' H' h => ?_⟩
  · obtain ⟨rfl, j1, j2, fo, j3, j4, j5⟩ := h
    rw [List.getElem?_map, Option.map_eq_some_iff] at hx
    obtain ⟨cell, _, rfl⟩ := hx
    show tAsg _ _ _ (σ'.set 2 (some (.int cell))) H'
    have k1 : (σ'.set 2 (some (V.int cell)))[1]? = some (some (.int fo)) := by rw [List.getElem?_set_ne (by omega)]; exact j3
    have k2 : (σ'.set 2 (some (V.int cell)))[2]? = some (some (.int cell)) := List.getElem?_set_self (by omega)
    refine (is_mod (is_int (is_add (is_mul (is_var k1) is_c (.inl ⟨by omega, by omega⟩)) (is_var k2))) is_c (by omega)) _ ?_
    refine ⟨rfl, ?_, by rw [List.length_set, List.length_set]; exact j2, _, List.getElem?_set_self (by rw [List.length_set]; omega), Int.emod_nonneg _ (by omega), ?_⟩
    · rw [List.getElem?_set_ne (by omega), List.getElem?_set_ne (by omega)]; exact j1
    · have := Int.emod_lt_of_pos (fo * 149 + cell) (show (0 : Int) < 999999487 by omega)
      omega
  · obtain ⟨rfl, j1, j2, fo, j3, j4, j5⟩ := h
    intro p hp
    refine ⟨_, j1, sa, ns.map V.int, rfl, .inl ?_, fun pc hpc => ?_⟩
    · rcases hS with z | z
      · rcases z with z | ⟨o, z⟩
        · exact .inl (.inl (by rw [upd_ne (ne_of_none z hp)]; exact z))
        · exact .inl (.inr ⟨o, by rw [upd_ne (ne_of_none z hp)]; exact z⟩)
      · exact .inr z
    · have npc : pc ≠ p := fun e => by rw [e, upd_same] at hpc; cases hpc
      rw [upd_ne npc] at hpc
      refine ⟨.int fo, j3, ⟨by rw [upd_ne npc.symm, upd_same], penK pc 0 0 0 fo, rfl, by simp [penK], ?_⟩⟩
      refine k p pc fo _ hp hpc npc j4 j5 ?_
      have e : mergeK [] (penK pc 0 0 0 fo) = penK pc 0 0 0 fo := by rfl
      rw [e]
      funext b
      unfold upd
      by_cases h1 : b = p
      · rw [if_pos h1, if_pos h1]
      · rw [if_neg h1, if_neg h1, if_neg h1]
end
end Sh
namespace Sh
open L2 PySem PySem.Spec PyProof.Rows

/-- a draw by data: any number below the limit -/
def drawS : DSp := fun ds b KQ KE => ∃ (m : Int) (b' : Nat), ds = [.pen, .int m] ∧ 0 < m ∧ m < 1073741824 ∧ b = b' + 1 ∧ ∀ r : Int, 0 ≤ r → r < m → KQ (.int r) false b'
section
variable {T : Tx} {P : Px} {b : Nat} {G H H' : Hp}
/-- the pen's dict is another -/
theorem Pre.drawn (p : Pre T P (b + 1) G H) {at_ dg ct fo : Int} (h : H' P.pen = some (penH P at_ dg ct fo)) (k : ∀ a, a ≠ P.pen → H' a = H a) (b1 : 0 ≤ at_ ∧ at_ ≤ P.ns.length) (b2 : 0 ≤ dg) (b3 : 0 ≤ ct ∧ ct + b ≤ 2 ^ 40) (b4 : 0 ≤ fo ∧ fo < 2147483171) : Post T ⟨G, H, P⟩ b G H' := by
  have nG : ∀ a o, G a = some o → a ≠ P.pen := fun a o e z => by
    have := p.ok.gpen
    rw [z] at e
    have this : G P.pen = none := this
    rw [this] at e; cases e
  refine ⟨p.ok, fun a o e => ?_, fun a o h1 h2 h3 => ?_, fun a h1 => ?_, .refl _, fun a h1 => .inl h1, p.nt, ⟨at_, dg, ct, fo, h, b1, b2, b3, b4⟩, p.tabs.keep (.refl _) fun q hq => k _ (p.ok.tab q hq).2.1, rfl, fun i s h => by simp at h, fun i j d e a h => by simp at h, fun p h => by simp at h⟩
  · rw [k a (nG a o e)]; exact p.sub _ _ e
  · rw [k a h2]; exact h1
  · by_cases e : a = P.pen
    · rw [e, h]; simp
    · rw [k a e]; exact h1
end
/-- a text that draws -/
def DrawT (body : List Stmt) : Prop := ∀ X : Cx, DrawX X → ∃ t, PSs X body t ∧
    ∀ (E : Ends) (σ : L2.St) (H : Hp) (a pc : Addr) (ns : List Int) (m at_ dg ct fo : Int), DrawS σ H a pc ns m at_ dg ct fo → ct + 1 ≤ 2 ^ 40 → DrawE E H a pc ns m (ct + 1) → t E σ H
/-- the scope of _law_draw -/
structure DrawSc (T : Tx) (sc : Scope) : Prop where
  fs : FnScope (["pen", "many", "cell", "digit", "blend"] : List Str) (["pen", "many"] : List Str) sc
  loc : ∀ x ∈ (["pen", "many", "cell", "digit", "blend"] : List Str), sc.names.lookup x = some .local
  gl : ∀ x ∈ (["len", "int"] : List Str), sc.names.lookup x = some .globalImplicit ∧ T.mg x = none
section
variable {T : Tx} {P : Program} {w : World} {base : Heap} {lv : Nat}
theorem fn_draw {x qual : Str} {params : Arguments} {body : List Stmt} {sc : Scope} {f : Addr} {fd : FuncData} (F : FunD T.K x qual params body sc [] [] f fd) (D : DrawSc T sc)
    (hb : DrawT body) :
    FnG P w T.K T.mg base (lv + 1) f fd (["pen", "many"] : List Str) (spD T drawS) := by
  obtain ⟨oc, od, dV, kV, doc, pm, an, cdv, ct, osl, rfl, lk, hcd, _, _⟩ := F.ex
  refine fnG_of lk hcd D.fs (fun vs H Q E hs => ?_) fun A outer s H vs Q E room gd hs => ?_
  · obtain ⟨P', b, G, ds, KQ, KE, pre, hl, ⟨m, b', rfl, _⟩, _⟩ := hs
    rw [← hl.length]; rfl
  · obtain ⟨P', b, G, ds, KQ, KE, pre, hl, ⟨m, b', rfl, h1, h2, rfl, hK⟩, hQ, hE⟩ := hs
    have o : DrawX (cxOf (L2.CX P w) P w T.K T.mg base ["pen", "many", "cell", "digit", "blend"] qual sc f cdv A outer s H E) :=
      ⟨by have := room.un; show (A.deeper _).units + 66 < cLine; omega, rfl, D.loc, fun x hx => D.gl x hx, D.fs.kind⟩
    obtain ⟨t, ht, hq⟩ := hb _ o
    refine ⟨t, ht, ?_⟩
    obtain ⟨at_, dg, ct, fo, hp, q1, q2, q3, q4⟩ := pre.pen
    cases hl with
    | cons k1 kl =>
      cases kl with
      | cons k2 kl =>
        cases kl
        cases k2 with
        | obj _ k => cases k
        | int =>
        cases k1 with
        | obj _ k => cases k
        | pen =>
        refine hq _ _ _ P'.pen P'.pc P'.ns m at_ dg ct fo ⟨rfl, rfl, rfl, hp, pre.ok.pc, pre.ok.pne, q1, q2, ⟨q3.1, by have := q3.2; omega⟩, q4, ⟨h1, h2⟩⟩ (by have := q3.2; omega) fun r H' a' d' f' r1 r2 e1 e2 e3 e4 e5 => ?_
        refine hQ (.int r) false b' (.int r) H' G (pre.drawn e1 e2 e3 e4 ⟨by omega, by have := q3.2; omega⟩ e5) ?_ (hK r r1 r2)
        show Hd _ _ _ _ _
        exact .int r
end
end Sh
namespace Sh
open L2 PySem PySem.Spec PyProof.Rows

/-- what is tracked as a law begins -/
def law0 (K : PySem.W.Frag) (sy : Obj) (ts : List Addr) (a : Addr) (o : Obj) (l : List V) : Hp := fun b => if b = sysModules then some (.frz sy (ExO sysModules sy)) else if b ∈ ts then some (.tbl #[]) else if b = a ∧ K.lookup a = none then some (.frz o (.lst l)) else none
section
variable {K : PySem.W.Frag} {sy : Obj} {ts : List Addr} {a b : Addr} {o : Obj} {l : List V} {u : HO}
theorem law0_is (h : law0 K sy ts a o l b = some u) : (b = sysModules ∧ u = .frz sy (ExO sysModules sy)) ∨ (b ∈ ts ∧ u = .tbl #[]) ∨ (b = a ∧ K.lookup a = none ∧ u = .frz o (.lst l)) := by
  unfold law0 at h
  split at h
  · rename_i m; cases h; exact .inl ⟨m, rfl⟩
  · split at h
    · rename_i m; cases h; exact .inr (.inl ⟨m, rfl⟩)
    · split at h
      · rename_i m; cases h; exact .inr (.inr ⟨m.1, m.2, rfl⟩)
      · cases h
theorem law0_sys : law0 K sy ts a o l sysModules = some (.frz sy (ExO sysModules sy)) := by unfold law0; rw [if_pos rfl]
theorem law0_tab (n : b ≠ sysModules) (h : b ∈ ts) : law0 K sy ts a o l b = some (.tbl #[]) := by unfold law0; rw [if_neg n, if_pos h]
theorem law0_scr (n0 : a ≠ sysModules) (n : a ∉ ts) (h : K.lookup a = none) : law0 K sy ts a o l a = some (.frz o (.lst l)) := by unfold law0; rw [if_neg n0, if_neg n, if_pos ⟨rfl, h⟩]
end
/-- the ground that a law stands on -/
structure LawG (K : PySem.W.Frag) (mg : Str → Option Value) (cs : List (Addr × Addr)) (s : Shared) : Prop where
  kin : K.In s.heap
  ns : s.heap.Ns mainGlobals mg
  bs : ∃ mb, s.heap.Ns builtinsNs mb ∧ ∀ x : Str, x ≠ "__name__" → mb x = bootBuiltins x
  nl : s.heap.NoLimit
  gens : s.gens = #[]
  tab : ∀ p ∈ cs, s.heap.get? p.2 = some { cls := .none, data := .fields #[] }
  out : ∀ p ∈ cs, K.lookup p.2 = none
  code : ∀ p ∈ cs, PySem.W.CodeHd s.heap p.1 p.2
  sy : ∃ o es n, s.heap.get? sysModules = some o ∧ o.data = .dict es n
  syK : K.lookup sysModules = none
  bm : ∃ (b : Addr) (o : Obj), mg "__builtins__" = some (.ref b) ∧ b ≠ builtinsNs ∧ s.heap.get? b = some o ∧ o.cls = .type "module" ∧ o.dict = some builtinsNs ∧ o.data = .plain
/-- what the law's def must keep -/
def LawSp (K : PySem.W.Frag) (n : Nat) (ts : List Addr) (sp : Sp) : Prop := ∀ (H : Hp) (a : Addr) (ns : List Int), ns.length ≤ n → (∀ p ∈ ts, H p = some (.tbl #[])) → SysM H → SqL K H a (ns.map V.int) → sp [.ref a] H (fun v _ => v = .bl true) fun _ _ _ => False
section
variable {P : Program} {w : World} {K : PySem.W.Frag} {mg : Str → Option Value} {cs : List (Addr × Addr)} {s : Shared} {k n : Nat} {fa a : Addr} {fd : FuncData} {x : Str} {sp : Sp} {vs : List Value} {ns : List Int}
theorem LawG.go (g : LawG K mg cs s) (ha : s.heap.get? a = some { cls := .type "list", data := .seq vs.toArray }) (hi : IntsAre vs ns) (hl : ns.length ≤ n) (hz : ns.length ≤ sizeLine) (room : Room k callerA)
    (F : ∀ base : Heap, K.In base → base.Ns mainGlobals mg → (∀ p ∈ cs, LamX.TabB base mg p.1 p.2) → FnG P w K mg base k fa fd [x] sp) (hb : ∀ (s : Shared) (u : Value), BindsTo s fd ⟨[u], []⟩ [(x, u)]) (hsp : LawSp K n (cs.map (·.2)) sp) :
    codeAny (model P w) callerA (.call (.ref fa) ⟨[.ref a], []⟩) (fun r s' => r = .ok (.ret (.bool true)) ∧ OldK s.heap s'.heap ∧ s'.os = s.os ∧ AllBare s'.gens) s := by
  let scr : Obj := { cls := .type "list", data := .seq vs.toArray }
  have rv := vals_ints hi
  have tabOf : ∀ {b : Addr}, b ∈ cs.map (·.2) → ∃ p ∈ cs, p.2 = b := fun h => by
    obtain ⟨p, hp, e⟩ := List.mem_map.mp h
    exact ⟨p, hp, e⟩
  have tabIs : ∀ {b : Addr}, b ∈ cs.map (·.2) → s.heap.get? b = some { cls := .none, data := .fields #[] } := fun h => by
    obtain ⟨p, hp, rfl⟩ := tabOf h
    exact g.tab p hp
  have scrOut : a ∉ cs.map (·.2) := fun h => by
    have e := ha.symm.trans (tabIs h)
    simp at e
  have toTab : ∀ p ∈ cs, p.2 ∈ cs.map (·.2) := fun p hp => List.mem_map.mpr ⟨p, hp, rfl⟩
  obtain ⟨sy, syes, syn, sy1, sy2⟩ := g.sy
  have syT : sysModules ∉ cs.map (·.2) := fun h => by
    have e := sy1.symm.trans (tabIs h)
    cases e; cases sy2
  have syA : a ≠ sysModules := fun z => by
    rw [z, sy1] at ha
    cases ha; cases sy2
  have tabN : ∀ p ∈ cs.map (·.2), p ≠ sysModules := fun p hp z => syT (z ▸ hp)
  generalize hH : law0 K sy (cs.map (·.2)) a scr (ns.map V.int) = H
  have is : ∀ {b : Addr} {u : HO}, H b = some u → (b = sysModules ∧ u = .frz sy (ExO sysModules sy)) ∨ (b ∈ cs.map (·.2) ∧ u = .tbl #[]) ∨ (b = a ∧ K.lookup a = none ∧ u = .frz scr (.lst (ns.map V.int))) := fun h => law0_is (hH ▸ h)
  have tabH : ∀ p ∈ cs.map (·.2), H p = some (.tbl #[]) := fun p hp => by rw [← hH]; exact law0_tab (tabN p hp) hp
  have sysH : H sysModules = some (.frz sy (ExO sysModules sy)) := by rw [← hH]; exact law0_sys
  have sq : SqL K H a (ns.map V.int) := by
    cases hk : K.lookup a with
    | none =>
      refine .inl (.inr ⟨scr, ?_⟩)
      rw [← hH]; exact law0_scr syA scrOut hk
    | some o =>
      have e := g.kin a o hk
      rw [ha] at e
      cases e
      exact .inr ⟨_, vs.toArray, _, hk, rfl, rfl, rfl, by simpa [← hi.length] using hz, by simpa using rv⟩
  have ok : HOk P w H s.heap := fun b u e => by
    rcases is e with ⟨rfl, rfl⟩ | ⟨h1, rfl⟩ | ⟨rfl, _, rfl⟩
    · exact ⟨sy1, exO_ok sy1⟩
    · exact tabIs h1
    · exact ⟨ha, by rw [List.length_map]; exact hz, vs, _, rv, ha⟩
  -- what is not tracked stays where it was
  have under : ∀ {b : Addr} {o : Obj}, s.heap.get? b = some o → o ≠ scr → o ≠ { cls := .none, data := .fields #[] } → b ≠ sysModules → H b = none := fun {b o} e n1 n2 n3 => by
    cases q : H b with
    | none => rfl
    | some u =>
      rcases is q with ⟨h0, _⟩ | ⟨h1, _⟩ | ⟨rfl, _⟩
      · exact absurd h0 n3
      · rw [tabIs h1] at e; cases e; exact absurd rfl n2
      · rw [ha] at e; cases e; exact absurd rfl n1
  have lift : ∀ {b : Addr} {o : Obj}, s.heap.get? b = some o → o ≠ scr → o ≠ { cls := .none, data := .fields #[] } → b ≠ sysModules → (hidT s.heap H).get? b = some o := fun e n1 n2 n3 => hidT_get e (under e n1 n2 n3)
  have liftNs : ∀ {b : Addr} {m : Str → Option Value}, b ≠ sysModules → s.heap.Ns b m → (hidT s.heap H).Ns b m := fun {b m} n ⟨o, es, ep, e, d, r⟩ =>
    ⟨o, es, ep, lift e (fun z => by rw [z] at d; cases d) (fun z => by rw [z] at d; cases d) n, d, r⟩
  have kin : K.In (hidT s.heap H) := fun b o e => hidT_get (g.kin b o e) (by
    cases q : H b with
    | none => rfl
    | some u =>
      rcases is q with ⟨rfl, _⟩ | ⟨h1, _⟩ | ⟨rfl, h2, _⟩
      · rw [g.syK] at e; cases e
      · obtain ⟨p, hp, rfl⟩ := tabOf h1
        rw [g.out p hp] at e; cases e
      · rw [h2] at e; cases e)
  obtain ⟨mb, b1, b2⟩ := g.bs
  obtain ⟨mc, l1, l2⟩ := g.nl
  have mod : L2.Mod K mg (hidT s.heap H) := ⟨kin, liftNs (by decide) g.ns, ⟨mb, liftNs (by decide) b1, b2⟩, ⟨mc, liftNs (by decide) l1, l2⟩⟩
  have tb : ∀ p ∈ cs, LamX.TabB (hidT s.heap H) mg p.1 p.2 := fun p hp => by
    have hTp := g.tab p hp
    refine ⟨?_, ?_, fun z => ?_⟩
    · obtain ⟨o, us, file, tf, fl, tg, inF, text, tt, e, r1, r2, r3, rest⟩ := g.code p hp
      exact ⟨o, us, file, tf, fl, tg, inF, text, tt, lift e (fun z => by rw [z] at r2; cases r2) (fun z => by rw [z] at r2; cases r2; simp at r3) (fun z => by rw [z, sy1] at e; cases e; rw [sy2] at r2; cases r2), r1, r2, r3, rest⟩
    · obtain ⟨b, o, m1, m2, m3, m4, m5, m6⟩ := g.bm
      refine ⟨b, o, m1, m2, fun z => ?_, fun z => ?_, lift m3 (fun z => by rw [z] at m6; cases m6) (fun z => by rw [z] at m6; cases m6) (fun z => by rw [z, sy1] at m3; cases m3; rw [sy2] at m6; cases m6), m4, m5, m6⟩
      · obtain ⟨o', es, ep, e, d, _⟩ := g.ns
        rw [z, e] at m3; cases m3
        rw [d] at m6; cases m6
      · rw [z, hTp] at m3; cases m3; cases m6
    · obtain ⟨o', es, ep, e, d, _⟩ := g.ns
      rw [z, hTp] at e; cases e; cases d
  have e0 : Env0 P w K mg (hidT s.heap H) callerA [] s H := ⟨rfl, mod, fun b o e => of_hidT e, Nat.le_of_eq (hidT_size _ _), trivial, fun b hb => by simp [frs] at hb, ok, .of_eq g.gens⟩
  refine codeAny_mono ((F _ kin (liftNs (by decide) g.ns) tb).go callerA [] s H ⟨[.ref a], []⟩ [.ref a] [.ref a] _ _ room rfl e0 (hb s (.ref a)) (.cons rfl .nil) (hsp H a ns hl tabH ⟨sy, _, sysH⟩ sq)) fun r s' h => ?_
  cases r with
  | error e =>
    obtain ⟨_, _, _, _, _, _, _, _, _, _, _, _, z⟩ := h
    exact z.elim
  | ok fl =>
    cases fl with
    | next => exact h.elim
    | brk => exact h.elim
    | cont => exact h.elim
    | ret u =>
      obtain ⟨v, H', os, bare, un, ok', r', q⟩ := h
      have q : v = .bl true := q
      subst q
      obtain rfl : u = Value.bool true := r'
      have same : ∀ {b : Addr} {o : Obj}, b ∉ cs.map (·.2) → s.heap.get? b = some o → s'.heap.get? b = some o := fun {b o} nb e => by
        cases q : H b with
        | none => exact un.keep b o e q (fun z => by simp [frs] at z) (by simp)
        | some u =>
          rcases is q with ⟨rfl, rfl⟩ | ⟨h1, _⟩ | ⟨rfl, _, rfl⟩
          · rw [sy1] at e; cases e
            obtain ⟨e2, _⟩ := ok' sysModules _ (un.frzs _ _ _ q)
            exact e2
          · exact absurd h1 nb
          · rw [ha] at e; cases e
            obtain ⟨e2, _⟩ := ok' b _ (un.frzs b _ _ q)
            exact e2
      have more : ∀ {b : Addr}, b ∈ cs.map (·.2) → ∃ xs : Array Value, s'.heap.get? b = some { cls := .none, data := .fields xs } := fun {b} h => by
        obtain ⟨xs, z⟩ := un.tbls b #[] (tabH b h)
        exact ⟨_, ok' b _ z⟩
      refine ⟨rfl, ⟨fun b o e => ?_, fun b o e => ?_⟩, os, bare⟩
      · by_cases h : b ∈ cs.map (·.2)
        · obtain ⟨xs, hx⟩ := more h
          rw [tabIs h] at e
          cases e
          obtain ⟨p, hp, rfl⟩ := tabOf h
          exact .inr (.inl ⟨((g.code p hp).tab (g.tab p hp)).isCodeTable, rfl, #[], xs, rfl, by rw [Array.empty_append]; exact hx⟩)
        · exact .inl (same h e)
      · by_cases h : b ∈ cs.map (·.2)
        · obtain ⟨xs, hx⟩ := more h
          exact ⟨_, hx⟩
        · exact ⟨o, same h e⟩
end
/-- the row's walk by such a def -/
theorem walkG {l : PySem.W.OpenLaw} {n k : Nat} {q : Program} {loose : List Str} {XP : (Str → Option Value) → Heap → Prop} {YP : World → Heap → Prop} {d : DefRec} {x : Str} (hn : l.most = some n) (hz : n ≤ sizeLine) (hdf : d.params.defaults = []) (room : Room k callerA)
    (F : ∀ (w : World) (mg : Str → Option Value) (fa : Addr) (h : Heap), YP w h → h.Ns mainGlobals mg → mg d.name = some (.ref fa) → ∃ (K : PySem.W.Frag) (fd : FuncData) (cs : List (Addr × Addr)) (sp : Sp), K.In h ∧ (∀ p ∈ cs, h.get? p.2 = some { cls := .none, data := .fields #[] }) ∧ (∀ p ∈ cs, K.lookup p.2 = none) ∧
      (∀ p ∈ cs, PySem.W.CodeHd h p.1 p.2) ∧ (∃ o es n, h.get? sysModules = some o ∧ o.data = .dict es n) ∧ K.lookup sysModules = none ∧ (∀ (s : Shared) (u : Value), BindsTo s fd ⟨[u], []⟩ [(x, u)]) ∧ LawSp K n (cs.map (·.2)) sp ∧ ∀ base : Heap, K.In base → base.Ns mainGlobals mg → (∀ p ∈ cs, LamX.TabB base mg p.1 p.2) → FnG l.prog w K mg base k fa fd [x] sp) :
    PySem.W.WalkO q loose XP YP l.row.toRowW d [] (fun f vs => PySem.call f vs) := by
  refine Att.attach_callB hn hdf fun w s0 s mg mb fa o pm cd doc a vs ns G Y _ _ _ hmg hobj hi hlen _ hg => ?_
  obtain ⟨K, fd, cs, sp, kin, tab, out, code, sy, syK, hb, hsp, hF⟩ := F w mg fa _ Y G.T.g hmg
  exact LawG.go ⟨kin, G.T.g, ⟨mb, G.T.b, G.T.builtins⟩, G.T.nolimit, hg, tab, out, code, sy, syK, G.T.bmain⟩ hobj hi hlen (Nat.le_trans hlen hz) room hF hb hsp
end Sh
namespace Sh
open L2 PySem PySem.Spec PyProof.Rows

section
variable {nm q : Str} {body : Expr} {sc : Scope} {cl : List (Str × Addr)} {pm cv ctv : Value} {a b : Arg} {u v : Value}
theorem bind0 : bindArgs (PySem.W.kla_fn nm q ⟨[], [], none, [], [], none, []⟩ body sc cl pm cv ctv) ⟨[], []⟩ = pure [] := by rfl
theorem bind1 : bindArgs (PySem.W.kla_fn nm q ⟨[], [a], none, [], [], none, []⟩ body sc cl pm cv ctv) ⟨[u], []⟩ = pure [(a.arg, u)] := by
  unfold bindArgs
  simp [seqItems?, List.lookup, PySem.W.kla_fn]
  rfl
theorem bind2 (h : a.arg ≠ b.arg) : bindArgs (PySem.W.kla_fn nm q ⟨[], [a, b], none, [], [], none, []⟩ body sc cl pm cv ctv) ⟨[u, v], []⟩ = pure [(a.arg, u), (b.arg, v)] := by
  have h1 : (b.arg == a.arg) = false := beq_eq_false_iff_ne.mpr (Ne.symm h)
  unfold bindArgs
  simp [seqItems?, List.lookup, PySem.W.kla_fn, h1]
  rfl
end
/-- a lambda's parameters, few and plain -/
def parB (ps : Arguments) (xs : List Str) : Bool := match ps with
  | ⟨[], [], none, [], [], none, []⟩ => xs.isEmpty
  | ⟨[], [a], none, [], [], none, []⟩ => xs == [a.arg]
  | ⟨[], [a, b], none, [], [], none, []⟩ => xs == [a.arg, b.arg] && !(a.arg == b.arg)
  | _ => false
theorem parB_ok {ps : Arguments} {xs : List Str} (h : parB ps xs = true) (q : Str) (body : Expr) (sc : Scope) (cl : List (Str × Addr)) (pm cv ctv : Value) (us : List Value) (hl : us.length = xs.length) :
    bindArgs (PySem.W.kla_fn "<lambda>" q ps body sc cl pm cv ctv) ⟨us, []⟩ = pure (xs.zip us) := by
  unfold parB at h
  split at h
  · rw [List.isEmpty_iff.mp h] at hl ⊢
    cases us with
    | nil => exact bind0
    | cons _ _ => simp at hl
  · rw [beq_iff_eq.mp h] at hl ⊢
    match us, hl with
    | [u], _ => exact bind1
  · simp only [Bool.and_eq_true, beq_iff_eq, Bool.not_eq_true', beq_eq_false_iff_ne] at h
    rw [h.1] at hl ⊢
    match us, hl with
    | [u, v], _ => exact bind2 h.2
  · cases h
theorem parB_def {ps : Arguments} {xs : List Str} (h : parB ps xs = true) (env : Env) : defaultsOf ps env = ([], []) := by
  unfold parB at h
  split at h
  · rfl
  · rfl
  · rfl
  · cases h
/-- the names a law's text is read by -/
structure LawT where
  N : List Str
  sc : Scope
  nm : List (Nat × Str)
  rn : List (Nat × Str)
  bt : List Str
  gl : List Str
  cs : List Str
  ns : List (Nat × Str)
  ld : Nat → LamD
  lf : Nat → List Nat
/-- a lambda of the law's text -/
def lamB (L : LawT) (n : Nat) (ps : Arguments) (body : Expr) (s : Scope) : Bool :=
  let d := L.ld n
  (s.kind == .function) && !s.isCoroutine && !s.isGenerator && decide d.N.Nodup && decide (d.m ≤ d.N.length) && (s.names.all fun y => !(y.2 == .cell)) && ((d.N.take d.m).all fun x => s.names.lookup x == some .local) &&
  ((d.N.drop d.m).all fun x => s.names.lookup x == some .free) && (s.names.all fun y => !(y.2 == .free) || (d.N.drop d.m).contains y.1) && ((cloFrom [] s.names []).map (·.1) == d.N.drop d.m) && parB ps (d.N.take d.m) &&
  okX ⟨d.N, s, some ⟨.function, [], false, false, []⟩, L.nm, L.bt, L.gl, L.cs, L.rn, fun _ _ _ _ => false, []⟩ d.rx body && ((d.N.drop d.m).map some == (L.lf n).map fun i => L.N[i]?) && (s.names.all fun y => !(y.2 == .free) || (L.sc.names.lookup y.1 == some .cell))
theorem cloFrom_names (cells : List (Str × Addr)) : ∀ (l : List (Str × NameKind)) (a b : List (Str × Addr)), a.map (·.1) = b.map (·.1) → (cloFrom cells l a).map (·.1) = (cloFrom [] l b).map (·.1)
  | [], a, b, h => h
  | (n, k) :: r, a, b, h => by
    unfold cloFrom
    split
    · exact cloFrom_names cells r _ _ (by simp [h])
    · exact cloFrom_names cells r _ _ h
theorem all_lookup {β : Type} {x : Str} {o : β} {l : List (Str × β)} (h : l.lookup x = some o) : (x, o) ∈ l := PySem.mem_of_lookup h
section
variable {L : LawT} {n : Nat} {ps : Arguments} {body : Expr} {s : Scope} {v : Ev}
theorem lamB_ok (hcs : L.cs = v.cs) (h : lamB L n ps body s = true) : LamOk v (L.ld n) L.nm L.rn L.bt L.gl ps body s := by
  simp only [lamB, Bool.and_eq_true, Bool.or_eq_true, decide_eq_true_eq, beq_iff_eq, Bool.not_eq_true', List.all_eq_true, beq_eq_false_iff_ne, List.contains_iff_mem] at h
  obtain ⟨⟨⟨⟨⟨⟨⟨⟨⟨⟨⟨⟨⟨h1, h2⟩, h3⟩, h4⟩, h5⟩, h6⟩, h7⟩, h8⟩, h9⟩, h10⟩, h11⟩, h12⟩, h13⟩, h14⟩ := h
  have hm : ((L.ld n).N.take (L.ld n).m).length = (L.ld n).m := by rw [List.length_take]; omega
  refine ⟨h1, h2, h3, h4, h5, h6, h7, h8, fun x hx => ?_, fun cells => (cloFrom_names cells _ _ _ rfl).trans h10, fun q cl pm cv ctv us hl => parB_ok h11 q body s cl pm cv ctv us (by rw [hm]; exact hl), hcs ▸ h12⟩
  rcases h9 _ (all_lookup hx) with z | z
  · exact absurd rfl z
  · exact z
theorem lamB_fr (h : lamB L n ps body s = true) (cells : List (Str × Addr)) : (cloFrom cells s.names []).map (fun p => some p.1) = (L.lf n).map fun i => L.N[i]? := by
  simp only [lamB, Bool.and_eq_true, beq_iff_eq] at h
  have h10 := h.1.1.1.1.2
  have h13 := h.1.2
  rw [← h13, ← h10, ← cloFrom_names cells _ _ _ rfl, List.map_map]
  rfl
theorem lamB_cel (h : lamB L n ps body s = true) : ∀ y ∈ s.names, y.2 = .free → L.sc.names.lookup y.1 = some .cell := by
  simp only [lamB, Bool.and_eq_true, beq_iff_eq, List.all_eq_true, Bool.or_eq_true, Bool.not_eq_true', beq_eq_false_iff_ne] at h
  intro y hy e
  rcases h.2 y hy with z | z
  · exact absurd e z
  · exact z
theorem lamB_nd (h : lamB L n ps body s = true) (cells : List (Str × Addr)) : ((cloFrom cells s.names []).map (·.1)).Nodup := by
  simp only [lamB, Bool.and_eq_true, beq_iff_eq, decide_eq_true_eq] at h
  have h4 := h.1.1.1.1.1.1.1.1.1.1.2
  have h10 := h.1.1.1.1.2
  rw [cloFrom_names cells _ _ _ rfl, h10]
  exact h4.sublist (List.drop_sublist _ _)
theorem lamB_def (h : lamB L n ps body s = true) (env : Env) : defaultsOf ps env = ([], []) := by
  simp only [lamB, Bool.and_eq_true] at h
  exact parB_def h.1.1.1.2 env
end
def LawT.ck (L : LawT) : Ck := ⟨L.N, L.sc, none, L.nm, L.bt, L.gl, L.cs, L.rn, lamB L, L.ns⟩
def LawT.lo (L : LawT) : Nat → Str → Arguments → Expr → Scope → Prop := fun n _ ps body s => lamB L n ps body s = true
/-- what the pen's making promises -/
def penSp (K : PySem.W.Frag) : Sp := fun vs H Q _ => ∃ (sa : Addr) (ns : List Int), vs = [.ref sa] ∧ SqL K H sa (ns.map V.int) ∧ ∀ (p pc : Addr) (fo : Int) (H' : Hp), H p = none → H pc = none → pc ≠ p → 0 ≤ fo → fo < 2147483171 → H' = upd (upd H pc (.lst (ns.map V.int))) p (.dK (penK pc 0 0 0 fo)) → Q (.ref p) H'
/-- what the law promises -/
def lawSp (K : PySem.W.Frag) (ts : List Addr) : Sp := fun vs H Q _ => ∃ (a : Addr) (ns : List Int), vs = [.ref a] ∧ SqL K H a (ns.map V.int) ∧ (∀ p ∈ ts, H p = some (.tbl #[])) ∧ SysM H ∧ ∀ H', Q (.bl true) H'
theorem lawSp_ok {K : PySem.W.Frag} {n : Nat} {ts : List Addr} : LawSp K n ts (lawSp K ts) := fun H a ns _ h1 hs h2 => ⟨a, ns, rfl, h2, h1, hs, fun _ => rfl⟩
/-- the pen's text -/
def PenT (body : List Stmt) : Prop := ∀ X : Cx, PenX X → ∃ t, PSs X body t ∧
    ∀ (E : Ends) (σ : L2.St) (H : Hp) (sa : Addr) (ns : List Int), σ[0]? = some (some (.ref sa)) → σ.length = 3 → SqL X.K H sa (ns.map V.int) → (∀ (p pc : Addr) (fo : Int) (H' : Hp), H p = none → H pc = none → pc ≠ p → 0 ≤ fo → fo < 2147483171 → H' = upd (upd H pc (.lst (ns.map V.int))) p (.dK (penK pc 0 0 0 fo)) → E.rt (.ref p) H') → t E σ H
structure PenSc (T : Tx) (sc : Scope) : Prop where
  fs : FnScope (["script", "fold", "cell"] : List Str) (["script"] : List Str) sc
  loc : ∀ x ∈ (["script", "fold", "cell"] : List Str), sc.names.lookup x = some .local
  gl : ∀ x ∈ (["list", "int"] : List Str), sc.names.lookup x = some .globalImplicit ∧ T.mg x = none
section
variable {T : Tx} {P : Program} {w : World} {base : Heap} {lv : Nat}
theorem fn_pen {x qual : Str} {params : Arguments} {body : List Stmt} {sc : Scope} {f : Addr} {fd : FuncData} (F : FunD T.K x qual params body sc [] [] f fd) (D : PenSc T sc) (hb : PenT body) :
    FnG P w T.K T.mg base (lv + 1) f fd (["script"] : List Str) (penSp T.K) := by
  obtain ⟨oc, od, dV, kV, doc, pm, an, cdv, ct, osl, rfl, lk, hcd, _, _⟩ := F.ex
  refine fnG_of lk hcd D.fs (fun vs H Q E hs => ?_) fun A outer s H vs Q E room gd hs => ?_
  · obtain ⟨sa, ns, rfl, _⟩ := hs
    rfl
  · obtain ⟨sa, ns, rfl, hS, hK⟩ := hs
    have o : PenX (cxOf (L2.CX P w) P w T.K T.mg base ["script", "fold", "cell"] qual sc f cdv A outer s H E) :=
      ⟨rfl, D.loc, fun x hx => D.gl x hx, rfl, passes_of (X := cxOf (L2.CX P w) P w T.K T.mg base ["script", "fold", "cell"] qual sc f cdv A outer s H E) rfl⟩
    obtain ⟨t, ht, hq⟩ := hb _ o
    exact ⟨t, ht, hq _ _ _ sa ns rfl rfl hS fun p pc fo H' h1 h2 h3 h4 h5 h6 => hK p pc fo H' h1 h2 h3 h4 h5 h6⟩
end
end Sh
namespace Sh
open L2 PySem PySem.Spec PyProof.Rows

/-- a frame's start behind the pen -/
def lawRho (N : List Str) : List Sv := .no :: .sh .pen :: List.replicate (N.length - 2) .no
/-- what a law's body is reckoned to do -/
def LawDoes (v : Ev) (N : List Str) (rs : RSs) : Prop := exs v noX rs { nx := fun _ => False, rt := fun d fr _ => d = .bl true ∧ fr = false } ⟨lawRho N, 2 ^ 40⟩
section
variable {T : Tx} {v : Ev} {P : Program} {w : World} {base : Heap} {lv : Nat} {L : LawT} {nm rn : List (Nat × Str)} {bt gl : List Str}
theorem law_rep {H H' : Hp} {p pc : Addr} {fo : Int} {ns : List Int} {cl : List (Str × Addr)} {N : List Str} {v0 : V} (hN : 2 ≤ N.length) (h1 : H p = none) (h2 : H pc = none) (h3 : pc ≠ p) (h4 : 0 ≤ fo) (h5 : fo < 2147483171) (e : H' = upd (upd H pc (.lst (ns.map V.int))) p (.dK (penK pc 0 0 0 fo)))
    (ht : ∀ z ∈ T.tb, H z.1 = some (.tbl #[])) (sm : SysM H) : Rep T ⟨fun _ => none, H', ⟨p, pc, ns, cl, 0⟩⟩ ⟨lawRho N, 2 ^ 40⟩ [] (fun _ => none) ((L2.start N [v0]).set 1 (some (.ref p))) H' := by
  have hp : H' p = some (.dK (penK pc 0 0 0 fo)) := by rw [e]; exact upd_same
  have hpc : H' pc = some (.lst (ns.map V.int)) := by rw [e, upd_ne h3]; exact upd_same
  have htb : ∀ z ∈ T.tb, H' z.1 = some (.tbl #[]) ∧ z.1 ≠ p ∧ z.1 ≠ pc := fun z hz => by
    have t := ht z hz
    have n1 : z.1 ≠ p := fun q => by rw [q, h1] at t; cases t
    have n2 : z.1 ≠ pc := fun q => by rw [q, h2] at t; cases t
    exact ⟨by rw [e, upd_ne n1, upd_ne n2]; exact t, n1, n2⟩
  obtain ⟨so, su, sh⟩ := sm
  have n1 : sysModules ≠ p := fun q => by rw [q, h1] at sh; cases sh
  have n2 : sysModules ≠ pc := fun q => by rw [q, h2] at sh; cases sh
  have hso : H' sysModules = some (.frz so su) := by rw [e, upd_ne n1, upd_ne n2]; exact sh
  have hl : (L2.start N [v0]).length = N.length := by
    unfold L2.start
    simp; omega
  have own : ∀ (i : Nat) (d : D), (lawRho N)[i]? ≠ some (.ow d) := fun i d z => by
    have z := List.mem_of_getElem? z
    simp [lawRho] at z
  refine ⟨⟨fun a o z => (by cases z), by simp [hp], rfl, hpc, h3, fun z hz => ⟨by simp [(htb z hz).1], (htb z hz).2.1, (htb z hz).2.2, rfl⟩, ⟨so, su, hso⟩, n1⟩, fun a o z => (by cases z), fun a o z _ _ => z, fun a z => z, .refl _, fun a z => absurd rfl z, fun a o z => (by cases z),
    ⟨0, 0, 0, fo, hp, ⟨by omega, by simp⟩, by omega, ⟨by omega, by simp⟩, h4, h5⟩, fun z hz => ⟨#[], (htb z hz).1, trivial, fun pos cv k => by simp [codeAmong] at k⟩, ?_, fun i s z => ?_, fun i j d e a z => absurd z (own i d), fun q hq => by simp at hq⟩
  · rw [List.length_set, hl]
    simp [lawRho]; omega
  · match i with
    | 0 => cases z; trivial
    | 1 =>
      cases z
      refine ⟨.ref p, ?_, .pen⟩
      exact List.getElem?_set_self (by rw [hl]; omega)
    | i + 2 =>
      have z : (List.replicate (N.length - 2) Sv.no)[i]? = some s := z
      have := List.eq_of_mem_replicate (List.mem_of_getElem? z)
      subst this
      trivial
theorem fn_law {x qual : Str} {params : Arguments} {body st : List Stmt} {f pf c tbl : Addr} {fd pfd : FuncData} {rs : RSs} {p1 p2 p3 p4 p5 : Pos} (F : FunD T.K x qual params body L.sc [] [] f fd) (sco : FnScope L.N (["script"] : List Str) L.sc) (g : Gf T v P w base lv L.nm L.rn L.bt L.gl) (hcs : L.cs = v.cs)
    (pm : T.mg "_law_pen" = some (.ref pf)) (pk : PySem.W.keepIn T.K (.ref pf) = true) (pF : FnG P w T.K T.mg base lv pf pfd (["script"] : List Str) (penSp T.K)) (pb : Binds T.K pfd (["script"] : List Str) [])
    (hlo : T.lo = L.lo) (hlf : v.lf = L.lf) (hkt : ∀ ds ∈ T.kts, plainL ds = true) (htb : T.tb = [(tbl, (qual ++ ".<locals>.") ++ "<lambda>")]) (TB : LamX.TabB base T.mg c tbl) (hc : fd.code = .ref c)
    (hS : ∀ j y, L.ns.lookup j = some y → SFn T P w base lv y (v.Φ j))
    (hN : L.N[1]? = some ("pen" : Str) ∧ L.N[0]? = some ("script" : Str) ∧ L.sc.names.lookup ("pen" : Str) = some .local ∧ L.sc.names.lookup ("script" : Str) = some .local ∧ L.sc.names.lookup ("_law_pen" : Str) = some .globalImplicit)
    (hb : body = .Assign [.Name "pen" p1] (.Call (.Name "_law_pen" p2) [.Name "script" p3] [] p4) p5 :: st) (ok : okSs L.ck rs st = true) (does : LawDoes v L.N rs) : FnG P w T.K T.mg base (lv + 1) f fd (["script"] : List Str) (lawSp T.K [tbl]) := by
  obtain ⟨oc, od, dV, kV, doc, pm', an, cdv, ct, osl, rfl, lk, hcd, _, _⟩ := F.ex
  obtain rfl : cdv = .ref c := hc
  refine fnG_of lk hcd sco (fun vs H Q E hs => ?_) fun A outer s H vs Q E room gd hs => ?_
  · obtain ⟨a, ns, rfl, _⟩ := hs
    rfl
  · obtain ⟨a, ns, rfl, hSq, ht, hsm, hQ⟩ := hs
    generalize hX : cxOf (L2.CX P w) P w T.K T.mg base L.N qual L.sc f (.ref c) A outer s H E = X
    have xN : X.N = L.N := by rw [← hX]; rfl
    have xscope : X.env.scope = L.sc := by rw [← hX]; rfl
    have xqual : X.env.qual = qual ++ ".<locals>." := by rw [← hX]; rfl
    have xcode : X.env.code = .ref c := by rw [← hX]; rfl
    have xcells : X.env.cells = cellsFrom (s.heap.objs.size + 1) L.sc.names [] := by rw [← hX]; rfl
    have o : ∀ B : Bs, B.P.cl = X.env.cells → XO T v L.ck lv B noX X := fun B hB => by
      have lo : ∀ n ps body sc pos, L.ck.lo n ps body sc = true → PE X (.Lambda ps body sc pos) (up T B (dC (.lam n))) := fun n ps body sc pos h => by
        have h : lamB L n ps body sc = true := h
        refine pe_lam (c := c) (p := tbl) (by rw [← hX]; exact TB) xcode (by rw [htb, xqual]; exact List.mem_singleton.mpr rfl) (fun z hz _ => by rw [htb] at hz; rw [List.mem_singleton.mp hz, xqual]) (lamB_def h _) (fun y hy e => ?_) (by rw [hlo]; exact h) hB
        have hcel := lamB_cel h y hy e
        rw [xcells]
        exact Option.isSome_iff_exists.mp (PySem.W.cellsFrom_some _ _ _ (.inl hcel))
      have callS : ∀ j x, L.ck.ns.lookup j = some x → ∀ (p pos : Pos) (e : Expr) (es : List Expr) (t : TDa), Gl X x → (x == ("__debug__" : Str)) = false → PA X (e :: es) (upA T B t) → starEach (e :: es) X.env = (false, eval e X.env) :: starEach es X.env → (backTo pos (starEach es X.env)).any (·.1) = false →
          PE X (.Call (.Name x p) (e :: es) [] pos) (up T B (dCallS (v.Φ j) v.lf t)) := fun j y hj p pos e es t hg hd ha h1 h2 => by
        have hLF : LamF T X v.lf := ⟨fun n q ps body sc h cells => by rw [hlf, xN]; rw [hlo] at h; exact lamB_fr h cells, fun n q ps body sc h y hy e => by rw [xscope]; rw [hlo] at h; exact lamB_cel h y hy e, fun n q ps body sc h cells => by rw [hlo] at h; exact lamB_nd h cells⟩
        have hF := hS j y hj
        subst hX
        exact pe_callS rfl rfl hkt hF (fun _ => rfl) hLF hB room gd hg ha hd h1 h2
      subst hX
      exact ⟨rfl, rfl, rfl, sco.nd, rfl, sco.kind, fun _ _ => rfl, room, gd, rfl, Takes.imp (takes_of (E := E) rfl rfl rfl rfl) fun cls d σ H' ⟨_, _, _, _, _, z⟩ => z.elim, g.calls, g.bt, g.gl, g.kit, hcs, g.clo, callS, lo, g.rz, g.ci⟩
    have hp : PassesOwn (model X.prog X.w) X.A X.env X.xe := by
      rw [← hX]
      exact passes_of (X := cxOf (L2.CX P w) P w T.K T.mg base L.N qual L.sc f (.ref c) A outer s H E) rfl
    have pv : ∀ {i : Nat} {y : Str} {pos : Pos}, L.N[i]? = some y → L.sc.names.lookup y = some .local → (y == ("__debug__" : Str)) = false → (y == ("__classdict__" : Str)) = false → PE X (.Name y pos) (tVar i) := fun h1 h2 h3 h4 =>
      pe_var (by rw [xN]; exact h1) (.inl (by rw [xscope]; exact h2)) h3 h4
    have hcall : PE X (.Call (.Name "_law_pen" p2) [.Name "script" p3] [] p4) (tCall (penSp T.K) [] (fun _ _ _ => False) (tCons (tVar 0) tNil)) := by
      have hv := pv (pos := p3) hN.2.1 hN.2.2.2.1 (by decide) (by decide)
      have gl : Gl X "_law_pen" := by unfold Gl Env.kindOf; rw [xscope]; exact hN.2.2.2.2
      have hF : FnV P w T.K T.mg base lv (.ref pf) (penSp T.K) := pF.fnV pb
      subst hX
      exact pe_callV hF room gd gl pm (.inl pk) (fun pins s σ H s0 e s' h => by
        obtain ⟨_, _, _, _, _, _, _, _, _, _, _, _, z⟩ := h
        exact z.elim) (pa_cons hv pa_nil) (by decide) rfl rfl
    refine ⟨tSeq (tAsg (tCall (penSp T.K) [] (fun _ _ _ => False) (tCons (tVar 0) tNil)) (gName 1)) fun D σ H => ∃ B : Bs, B.P.cl = X.env.cells ∧ upS T B (exs v noX rs) D σ H, ?_, ?_⟩
    · rw [hb]
      refine pss_cons (ps_set (by rw [xN]; exact sco.nd) (by rw [xN]; exact hN.1) (.inl (by rw [xscope]; exact hN.2.2.1)) hcall rfl (.inr (by rw [xscope]; exact hN.2.2.1))) ⟨fun pins s σ H D I ⟨B, hB, h⟩ => (sSs (o B hB) hp rs st ok).run pins s σ H D I h⟩
    · refine ⟨.ref a, rfl, ?_⟩
      show penSp T.K ([V.ref a] ++ []) H (fun x H1 => gName 1 x (L2.start L.N [V.ref a]) H1 _) fun _ _ _ => False
      refine ⟨a, ns, rfl, hSq, fun p pc fo H' h1 h2 h3 h4 h5 h6 => ?_⟩
      refine ⟨⟨fun _ => none, H', ⟨p, pc, ns, X.env.cells, 0⟩⟩, rfl, ⟨lawRho L.N, 2 ^ 40⟩, fun _ => none, _, law_rep ?_ h1 h2 h3 h4 h5 h6 (fun z hz => ?_) ?_, does, ⟨fun _ _ _ _ _ _ z => z.elim, fun _ _ _ _ _ _ z => z.elim, fun _ _ _ _ _ _ z => z.elim, fun d fr b v' H2 G2 p' s' r h => ?_⟩⟩
      · have := (List.getElem?_eq_some_iff.mp hN.1).1
        omega
      · rw [htb] at hz
        rw [List.mem_singleton.mp hz]
        exact ht tbl (List.mem_singleton.mpr rfl)
      · exact hsm
      · obtain ⟨rfl, rfl⟩ := h
        have r : Hd T _ G2 (.bl true) v' := r
        cases r with
        | obj _ k => cases k
        | bl => exact hQ H2
end
end Sh
set_option maxHeartbeats  2000000
namespace Sh
open L2 PySem PySem.Spec PyProof.Rows

/-- a clause: its class, the slot of its name, its suite -/
abbrev ClA : Type := Value × Nat × (Addr → Value → Option Addr → TS)
/-- behind a suite its name is gone -/
def gone (i : Nat) (D : Ends) : Ends where
  nx σ H := D.nx (σ.set i none) H
  bk σ H := D.bk (σ.set i none) H
  ct σ H := D.ct (σ.set i none) H
  rt := D.rt
/-- what such clauses wish of what comes out of the body -/
def wCl (K : PySem.W.Frag) (Wo : WX) (D : Ends) : List ClA → WX
  | [] => Wo
  | e :: r => fun cls d σ H => ∃ b, PySem.W.exmOne K cls e.1 = some b ∧ if b = true then ∀ a, H a = none → e.2.2 a cls d (gone e.2.1 D) (σ.set e.2.1 (some (.ref a))) H else wCl K Wo D r cls d σ H
inductive ClOk (X : Cx) : List ExceptHandler → List ClA → Prop
  | nil : ClOk X [] []
  | cons {x n : Str} {c : Value} {i : Nat} {ts : Addr → Value → Option Addr → TS} {b0 : Stmt} {bs : List Stmt} {np p : Pos} {r : List ExceptHandler} {l : List ClA} : Names X x c → X.N[i]? = some n → X.env.kindOf n = some .local →
      (∀ a oe cls d pn, Zc cls d oe → (∃ vs, oe.data = .fields vs) → PSs (X.suite a ((a, oe) :: pn)) (b0 :: bs) (ts a cls d)) → ClOk X r l → ClOk X (.ExceptHandler (some (.Name x np)) (some n) (b0 :: bs) p :: r) ((c, i, ts) :: l)
/-- what came out has landed -/
structure Land (X : Cx) (pins : List (Addr × Obj)) (a : Addr) (cls : Value) (d : Option Addr) (σ : L2.St) (H : Hp) (sI s' : Shared) (B h : Heap) : Prop where
  I : Inv X pins σ H sI
  nb : ∀ b o, sI.heap.get? b = some o → b ∉ frs X.stack → B.get? b = some o
  up : sI.heap.UpToSlots h
  fl : HandSPX.FlyingZ B (X.env :: X.outer) a (Zc cls d) h
  na : H a = none
  os : s'.os = sI.os
  ag : AllBare s'.gens
section
variable {X : Cx} {pins : List (Addr × Obj)} {a : Addr} {cls : Value} {d : Option Addr} {σ : L2.St} {H : Hp} {sI s' : Shared} {B h : Heap}
theorem Land.inv (l : Land X pins a cls d σ H sI s' B h) : Inv X pins σ H { s' with heap := h } := l.I.landed l.nb l.fl.1 l.up l.os l.ag
theorem Land.far (l : Land X pins a cls d σ H sI s' B h) (hf : X.env.frame = some X.env.locals) : a ≠ X.env.locals ∧ a ∉ X.fs := by
  have key : a ∉ frs (X.env :: X.outer) := fun hm => by
    obtain ⟨oe, vs, he, _, hd⟩ := l.fl.there
    obtain ⟨_, o', e', hnf⟩ := l.fl.2.2.1.mem hm
    rw [he] at e'; cases e'
    exact hnf _ hd
  refine ⟨fun z => key ?_, fun z => key ?_⟩
  · exact List.mem_filterMap.mpr ⟨X.env, List.mem_cons_self, by rw [z]; exact hf⟩
  · obtain ⟨e, h1, h2⟩ := List.mem_filterMap.mp z
    exact List.mem_filterMap.mpr ⟨e, List.mem_cons_of_mem _ h1, h2⟩
theorem Land.in_ (l : Land X pins a cls d σ H sI s' B h) (hf : X.env.frame = some X.env.locals) : ∃ oe vs, h.get? a = some oe ∧ Zc cls d oe ∧ oe.data = .fields vs ∧ Inv (X.suite a ((a, oe) :: (X.pn ++ pins))) [] σ H { s' with heap := h } := by
  obtain ⟨oe, vs, he, hz, hd⟩ := l.fl.there
  obtain ⟨n1, n2⟩ := l.far hf
  exact ⟨oe, vs, he, hz, hd, l.inv.suite he hd l.na n1 n2⟩
theorem Land.on (l : Land X pins a cls d σ H sI s' B h) {h' : Heap} (fl : HandSPX.FlyingZ B (X.env :: X.outer) a (Zc cls d) h') (up : h.UpToSlots h') : Land X pins a cls d σ H sI s' B h' :=
  ⟨l.I, l.nb, l.up.trans up, fl, l.na, l.os, l.ag⟩
variable {D : Ends} {Wo : WX}
/-- no clause took it -/
theorem Land.out (l : Land X pins a cls d σ H sI s' B h) (hs : X.stack = X.env :: X.outer) (hf : X.env.frame = some X.env.locals) (tk : Takes X Wo) (w : Wo cls d σ H) :
    wpAny (model X.prog X.w) X.A (handleBy (.ref a) X.env []) (SP X pins D) X.xe { s' with heap := h } := by
  refine wpAny_handleBy_nil ?_
  obtain ⟨_, _, _, oe, vs, T, _, _, he, _, hd, h1, _⟩ := id l.fl
  unfold PySem.passOn
  refine wpAny_bind (wpAny_field he hd h1 ?_)
  have tr : ¬ ((Value.ref T == Value.none) = true) := by simp
  rw [if_neg tr]
  have go : wpAny (model X.prog X.w) X.A (setFlight (.ref a) X.env.frame) (fun _ s4 => wpAny (model X.prog X.w) X.A (throw (.ref a) : Sem Flow) (SP X pins D) X.xe s4) X.xe { s' with heap := h } := by
    rw [hf]
    refine HandSPX.setFlight_upZ l.fl fun h4 k4 up4 => wpAny_throw (tk _ _ ⟨a, B, sI, pins, σ, H, cls, d, rfl, l.I, l.nb, l.up.trans up4, ?_, l.na, l.os, l.ag, w⟩)
    exact .inr (.inr (by rw [hs]; exact k4))
  first
    | exact wpAny_bind (wpAny_pure (wpAny_bind go))
    | exact wpAny_bind go
/-- clause by clause -/
theorem Land.by_ (l : Land X pins a cls d σ H sI s' B h) (hs : X.stack = X.env :: X.outer) (hf : X.env.frame = some X.env.locals) (hN : X.N.Nodup) (tk : Takes X Wo) : ∀ {hds : List ExceptHandler} {cl : List ClA}, ClOk X hds cl → wCl X.K Wo D cl cls d σ H →
    wpAny (model X.prog X.w) X.A (handleBy (.ref a) X.env hds) (SP X pins D) X.xe { s' with heap := h } := by
  intro hds cl k
  induction k with
  | nil => exact fun w => l.out hs hf tk w
  | @cons x n c i ts b0 bs np p r cl hc hi hl hsu _ ih =>
    rintro ⟨b, hb, w⟩
    obtain ⟨oe, vs, he, hz, hd, S⟩ := l.in_ hf
    refine wpAny_handleBy_cons (codeAny_handlers_test ?_) (by intro q; cases q)
    have looks : PySem.W.Looks (model X.prog X.w) h (typeOf (.ref a)) cls := fun A Q E s k q => wpAny_typeOf_ref (k _ _ he) (by rw [hz.1]; exact q)
    have hit := PySem.W.exm_one (M := model X.prog X.w) l.inv.kIn looks hb
    have named : ∀ {Q : Value → Shared → Prop} {E : Value → Shared → Prop}, Q c { s' with heap := h } → wpAny (model X.prog X.w) (X.A.mark (some (.ref a))) (eval (.Name x np) X.env) Q E { s' with heap := h } := fun q => by
      obtain ⟨hg, hdb, hm | ⟨hm, hv, hnn⟩⟩ := hc
      · exact ld_glob (X := X.suite a ((a, oe) :: (X.pn ++ pins))) S hg hm q hdb
      · exact ld_blt (X := X.suite a ((a, oe) :: (X.pn ++ pins))) S hg hm hv q hnn hdb
    refine named (hit.here ?_)
    cases b with
    | false => exact ih w
    | true =>
      have w : ∀ a, H a = none → ts a cls d (gone i D) (σ.set i (some (.ref a))) H := w
      refine codeAny_handlers_suite_as (HandSPX.lands_againZ l.fl fun h4 fl4 up4 => ?_)
      obtain ⟨oe4, vs4, he4, hz4, hd4, S4⟩ := (l.on fl4 up4).in_ hf
      refine store_ok (X := X.suite a ((a, oe4) :: (X.pn ++ pins))) (v := .ref a) S4 hN hi (.inl hl) rfl (fun s5 S5 => ?_) (.inr hl)
      refine wpAny_mono ((hsu a oe4 cls d (X.pn ++ pins) hz4 ⟨_, hd4⟩).run [] s5 _ H (gone i D) S5 (w a l.na)) (fun f s6 q6 => ?_) (fun _ _ z => z.elim)
      have clear : ∀ {σ6 : L2.St} {H6 : Hp} {Q : Shared → Prop}, Inv (X.suite a ((a, oe4) :: (X.pn ++ pins))) [] σ6 H6 s6 → (∀ s7, Inv X pins (σ6.set i none) H6 s7 → Q s7) →
          wpAny (model X.prog X.w) X.A (do bindName X.env n .none; unbindBehindTheSuite X.env n p) (fun _ s7 => Q s7) X.xe s6 := fun S6 hq => gone_ok (S6.unsuite l.I.ok) hN hi hl hq
      cases f with
      | next => obtain ⟨_, _, S6, q⟩ := q6; exact clear S6 fun _ J => ⟨_, _, J, q⟩
      | brk => obtain ⟨_, _, S6, q⟩ := q6; exact clear S6 fun _ J => ⟨_, _, J, q⟩
      | cont => obtain ⟨_, _, S6, q⟩ := q6; exact clear S6 fun _ J => ⟨_, _, J, q⟩
      | ret u => obtain ⟨_, _, _, S6, r6, q⟩ := q6; exact clear S6 fun _ J => ⟨_, _, _, J, r6, q⟩
end
section
variable {X : Cx} {body : List Stmt} {h0 : ExceptHandler} {hds : List ExceptHandler} {l : List ClA} {pos : Pos} {tb : WX → TS} {Wo : WX}
theorem ps_tryA (hs : X.stack = X.env :: X.outer) (hf : X.env.frame = some X.env.locals) (hN : X.N.Nodup) (tk : Takes X Wo)
    (hb : ∀ (W : WX) (pn : List (Addr × Obj)) (xe : Value → Shared → Prop), Takes (X.tr pn xe) W → PSs (X.tr pn xe) body (tb W)) (hh : ClOk X (h0 :: hds) l) : PS X (.Try body (h0 :: hds) [] [] pos) fun D σ H => tb (wCl X.K Wo D l) D σ H := by
  constructor
  intro pins s σ H D I h
  have ok := I.ok
  have fr : X.A.frames = some (X.env :: X.outer) := ok.frames.trans (congrArg some hs)
  refine wpAny_Try_except ?_
  let land : Value → Shared → Prop := fun e s1 => wpAny (model X.prog X.w) X.A (noteFrame e X.env) (fun _ s2 => wpAny (model X.prog X.w) X.A (setFlight e none) (fun _ s3 => wpAny (model X.prog X.w) X.A (handleBy e X.env (h0 :: hds)) (SP X pins D) X.xe s3) X.xe s2) X.xe s1
  have takes : Takes (X.tr (X.pn ++ pins) land) (wCl X.K Wo D l) := by
    rintro u s' ⟨a, B, sI, pn', σ', H', cls, d, rfl, J, nb, up, sky, na, os, ag, w⟩
    have J : Inv X pins σ' H' sI := J.ofTry ok
    have sky : Sky B (X.env :: X.outer) a (Zc cls d) X.env.locals s'.heap := by rw [← hs]; exact sky
    show wpAny (model X.prog X.w) X.A (noteFrame (.ref a) X.env) _ _ _
    exact Sky.land Zc.steady fr hf sky fun h3 fl3 up3 => Land.by_ ⟨J, nb, up.trans up3, fl3, na, os, ag⟩ hs hf hN tk hh w
  refine wpAny_mono ((hb _ _ _ takes).run [] s σ H D (I.toTry _) h) (fun f s1 q => ?_) (fun e s1 he => he)
  cases f with
  | next => obtain ⟨σ', H', J, q⟩ := q; exact wpAny_execs_nil ⟨σ', H', J.ofTry ok, q⟩
  | brk => obtain ⟨σ', H', J, q⟩ := q; exact ⟨σ', H', J.ofTry ok, q⟩
  | cont => obtain ⟨σ', H', J, q⟩ := q; exact ⟨σ', H', J.ofTry ok, q⟩
  | ret u => obtain ⟨v, σ', H', J, r, q⟩ := q; exact ⟨v, σ', H', J.ofTry ok, r, q⟩
end
end Sh
namespace Sh
open L2 PySem PySem.Spec PyProof.Rows

/-- a clause: class, word, fields -/
abbrev Clw : Type := Str × Str × List Str
def getsD (fs : List (Str × D)) : List Str → Option (List D)
  | [] => some []
  | f :: r => (fs.lookup f).bind fun d => (getsD fs r).map fun l => d :: l
/-- the word of what is raised -/
def faultK (tab : List Clw) (KQ : D → Bool → Nat → Prop) : Xc → Nat → Prop := fun xc b => ∃ tag fs ds, tab.lookup xc.c = some (tag, fs) ∧ getsD xc.fs fs = some ds ∧ KQ (.tup (.str tag :: ds)) false b
def faultS (v : Ev) (tab : List Clw) : DSp := fun ds b KQ KE => ∃ n caps, ds = [.clo n caps] ∧ v.cl n caps [] b (fun _ _ b' => KQ .non false b') (faultK tab KQ)
/-- the classes of the clauses are apart; their fields may be read -/
structure TabOk (T : Tx) (tab : List Clw) : Prop where
  ap : ∀ c ∈ tab.map (·.1), ∀ c' ∈ tab.map (·.1), ∀ C C', T.mg c = some (.ref C) → T.mg c' = some (.ref C') → PySem.W.exmOne T.K (.ref C) (.ref C') = some (c == c')
  sz : ∀ e ∈ tab, e.2.2.length ≤ 100
  is : ∀ e ∈ tab, ∃ C, T.mg e.1 = some (.ref C) ∧ XfC T.K C ∧ ∀ f ∈ e.2.2, PySem.W.findIn T.K (.ref C) f = some none
/-- a suite: return ('word', n.f, ..) -/
def fldX (n : Str) : List Expr → List Str → Bool
  | [], [] => true
  | .Attribute (.Name x _) g _ :: r, f :: fs => x == n && g == f && fldX n r fs
  | _, _ => false
/-- the clauses' text -/
def clB (n : Str) : List ExceptHandler → List Clw → Bool
  | [], [] => true
  | .ExceptHandler (some (.Name x _)) (some m) [.Return (some (.Tuple (.Constant (.str y) _ _ :: es) _ _)) _] _ :: r, e :: l => x == e.1 && m == n && y == e.2.1 && fldX n es e.2.2 && clB n r l
  | _, _ => false
structure FaultSc (tab : List Clw) (sc : Scope) : Prop where
  fs : FnScope (["work", "fault"] : List Str) (["work"] : List Str) sc
  w : sc.names.lookup ("work" : Str) = some .local
  f : sc.names.lookup ("fault" : Str) = some .local
  g : ∀ c ∈ tab.map (·.1), sc.names.lookup c = some .globalImplicit ∧ (c == ("__debug__" : Str)) = false
section
variable {X : Cx} {a : Addr} {oe : Obj} {cls : Value} {d : Option Addr} {pn : List (Addr × Obj)}
/-- the readings of a suite -/
def tFlds (a : Addr) (cls : Value) (d : Option Addr) (C : Addr) : List Str → TA
  | [] => tNil
  | f :: r => tCons (tXf a cls d C f (tVar 1)) (tFlds a cls d C r)
theorem pa_flds {n : Str} {C : Addr} (hC : XfC X.K C) (hz : Zc cls d oe) (hf : ∃ vs, oe.data = .fields vs) (hv : ∀ p, PE (X.suite a ((a, oe) :: pn)) (.Name n p) (tVar 1)) : ∀ {es : List Expr} {fs : List Str}, fldX n es fs = true → (∀ f ∈ fs, PySem.W.findIn X.K (.ref C) f = some none) → PA (X.suite a ((a, oe) :: pn)) es (tFlds a cls d C fs)
  | [], [], _, _ => pa_nil
  | [], _ :: _, h, _ => by simp [fldX] at h
  | .Attribute (.Name x p) g q :: r, [], h, _ => by simp [fldX] at h
  | e :: r, fs, h, hno => by
    unfold fldX at h
    split at h
    · rename_i q; cases q
    · rename_i x p g q' r' f fs' heq
      cases heq
      simp only [Bool.and_eq_true, beq_iff_eq] at h
      obtain ⟨⟨rfl, rfl⟩, h⟩ := h
      exact pa_cons (pe_xf hC (hno _ List.mem_cons_self) hz hf (hv p)) (pa_flds hC hz hf hv h fun f hf => hno f (List.mem_cons_of_mem _ hf)) rfl
    · cases h
end
def mgA (T : Tx) (x : Str) : Addr := match T.mg x with
  | some (.ref a) => a
  | _ => 0
theorem mgA_eq {T : Tx} {x : Str} {a : Addr} (h : T.mg x = some (.ref a)) : mgA T x = a := by unfold mgA; rw [h]
def clL (T : Tx) (tab : List Clw) : List ClA := tab.map fun e => (.ref (mgA T e.1), 1, fun a cls d => tRet (tTup (tCons (tC (.str e.2.1)) (tFlds a cls d (mgA T e.1) e.2.2))))
section
variable {T : Tx} {X : Cx}
theorem clB_ok {sc : Scope} (hK : X.K = T.K) (hmg : X.mg = T.mg) (hN : X.N = (["work", "fault"] : List Str)) (hsc : X.env.scope = sc) (hl : sc.names.lookup ("fault" : Str) = some .local) :
    ∀ {hds : List ExceptHandler} {tab : List Clw}, (∀ c ∈ tab.map (·.1), sc.names.lookup c = some .globalImplicit ∧ (c == ("__debug__" : Str)) = false) → (∀ e ∈ tab, ∃ C, T.mg e.1 = some (.ref C) ∧ XfC T.K C ∧ ∀ f ∈ e.2.2, PySem.W.findIn T.K (.ref C) f = some none) → clB "fault" hds tab = true → ClOk X hds (clL T tab)
  | [], [], _, _, _ => .nil
  | [], _ :: _, _, _, h => by simp [clB] at h
  | h0 :: hds, tab, g, is, h => by
    unfold clB at h
    split at h
    · rename_i q; cases q
    · rename_i x np m y k1 p1 es k2 p2 p3 p4 r e l heq
      cases heq
      simp only [Bool.and_eq_true, beq_iff_eq] at h
      obtain ⟨⟨⟨⟨rfl, rfl⟩, rfl⟩, h4⟩, h5⟩ := h
      obtain ⟨C, h6, h7, h8⟩ := is e List.mem_cons_self
      obtain ⟨g1, g2⟩ := g e.1 (by simp)
      have hv : X.env.kindOf ("fault" : Str) = some .local := by unfold Env.kindOf; rw [hsc]; exact hl
      rw [← hK] at h7 h8
      refine .cons ⟨by unfold Gl Env.kindOf; rw [hsc]; exact g1, g2, .inl (by rw [hmg, h6, mgA_eq h6])⟩ (by rw [hN]; rfl) hv (fun a oe cls d pn hz hf => ?_) (clB_ok hK hmg hN hsc hl (fun c hc => g c (List.mem_cons_of_mem _ hc)) (fun e he => is e (List.mem_cons_of_mem _ he)) h5)
      show PSs _ _ (tRet (tTup (tCons (tC (.str e.2.1)) (tFlds a cls d (mgA T e.1) e.2.2))))
      rw [mgA_eq h6]
      refine pss_one (ps_ret (pe_tup (pa_cons pe_str (pa_flds (n := "fault") h7 hz hf (fun p => ?_) h4 h8))))
      exact pe_var (X := X.suite a ((a, oe) :: pn)) (by show X.N[1]? = _; rw [hN]; rfl) (.inl hv) (by decide) (by decide)
    · cases h
theorem flds_run {P : Px} {G H : Hp} {a C dd : Addr} {gs : List (Str × V)} {σ : L2.St} {fs0 : List (Str × D)} (hs : σ[1]? = some (some (.ref a))) (hd : H dd = some (.xd gs)) (hx : ∀ f e, fs0.lookup f = some e → ∃ v, gs.lookup f = some v ∧ Hd T P G e v) :
    ∀ {fs : List Str} {ds : List D} {Q : List V → Hp → Prop}, getsD fs0 fs = some ds → (∀ vs, Hl T P G ds vs → Q vs H) → tFlds a (.ref C) (some dd) C fs σ H Q
  | [], ds, Q, e, q => by
    simp only [getsD, Option.some.injEq] at e
    subst e
    exact q [] .nil
  | f :: fs, ds, Q, e, q => by
    simp only [getsD, Option.bind_eq_some_iff, Option.map_eq_some_iff] at e
    obtain ⟨x, e1, l, e2, rfl⟩ := e
    obtain ⟨v, h1, h2⟩ := hx f x e1
    exact ⟨.ref a, hs, rfl, rfl, dd, gs, v, rfl, hd, h1, flds_run hs hd hx e2 fun vs h => q _ (.cons h2 h)⟩
theorem cl_find {Wo : WX} {D : Ends} {C : Addr} {d : Option Addr} {σ : L2.St} {H : Hp} {c tag : Str} {fs : List Str} : ∀ {tab : List Clw}, (∀ e ∈ tab, PySem.W.exmOne T.K (.ref C) (.ref (mgA T e.1)) = some (c == e.1)) → (c ∈ tab.map (·.1) → mgA T c = C) → tab.lookup c = some (tag, fs) →
    (∀ a, H a = none → tRet (tTup (tCons (tC (.str tag)) (tFlds a (.ref C) d C fs))) (gone 1 D) (σ.set 1 (some (.ref a))) H) → wCl T.K Wo D (clL T tab) (.ref C) d σ H
  | [], _, _, e, _ => by simp at e
  | (x, t) :: r, hx, hm, e, q => by
    refine ⟨c == x, hx _ List.mem_cons_self, ?_⟩
    rw [List.lookup_cons] at e
    by_cases h : c = x
    · subst h
      rw [beq_self_eq_true] at e ⊢
      cases e
      rw [if_pos rfl]
      have hC : mgA T c = C := hm (by simp)
      show ∀ a, H a = none → tRet (tTup (tCons (tC (.str tag)) (tFlds a (.ref C) d (mgA T c) fs))) (gone 1 D) (σ.set 1 (some (.ref a))) H
      rw [hC]
      exact q
    · have hb : (c == x) = false := beq_eq_false_iff_ne.mpr h
      rw [hb] at e ⊢
      rw [if_neg (by simp)]
      exact cl_find (fun e he => hx e (List.mem_cons_of_mem _ he)) (fun hc => hm (List.mem_cons_of_mem _ hc)) e q
end
section
variable {T : Tx} {v : Ev} {P : Program} {w : World} {base : Heap} {lv : Nat} {nm rn : List (Nat × Str)} {bt gl : List Str}
theorem fn_fault {x qual : Str} {params : Arguments} {body : List Stmt} {sc : Scope} {f : Addr} {fd : FuncData} {tab : List Clw} {h0 : ExceptHandler} {hds : List ExceptHandler} {p1 p2 p3 p4 p5 p6 : Pos} {k : Nat} (F : FunD T.K x qual params body sc [] [] f fd) (S : FaultSc tab sc) (O : TabOk T tab)
    (clo : ∀ n caps a, FnV P w T.K T.mg base lv (.ref a) (spClo T (v.cl n caps) n caps a)) (hb : body = [.Try [.Expr (.Call (.Name "work" p1) [] [] p2) p3] (h0 :: hds) [] [] p4, .Return (some (.Constant .none k p5)) p6]) (ok : clB "fault" (h0 :: hds) tab = true) :
    FnG P w T.K T.mg base (lv + 1) f fd (["work"] : List Str) (spD T (faultS v tab)) := by
  obtain ⟨oc, od, dV, kV, doc, pm, an, cdv, ct, osl, rfl, lk, hcd, _, _⟩ := F.ex
  refine fnG_of lk hcd S.fs (fun vs H Q E hs => ?_) fun A outer s H vs Q E room gd hs => ?_
  · obtain ⟨P', b, G, ds, KQ, KE, pre, hl, ⟨n, caps, rfl, _⟩, _⟩ := hs
    rw [← hl.length]; rfl
  · obtain ⟨P', b, G, ds, KQ, KE, pre, hl, ⟨n, caps, rfl, hv⟩, hQ, hE⟩ := hs
    subst hb
    let X := cxOf (L2.CX P w) P w T.K T.mg base ["work", "fault"] qual sc f cdv A outer s H E
    let tb : WX → TS := fun W D σ H => ∃ (B : Bs) (Ex : Xc → Nat → Prop), (∀ σ' cls d H', σ'.length = 2 → exD T B Ex cls d H' → W cls d σ' H') ∧ tDrop (up T B (dCallV Ex v.cl 0 dNil)) D σ H
    have hbody : ∀ (W : WX) (pn : List (Addr × Obj)) (xe : Value → Shared → Prop), Takes (X.tr pn xe) W → PSs (X.tr pn xe) [.Expr (.Call (.Name "work" p1) [] [] p2) p3] (tb W) := fun W pn xe tk => by
      refine ⟨fun pins s σ H D I ⟨B, Ex, hW, h⟩ => ?_⟩
      have hw : PE (X.tr pn xe) (.Name "work" p1) (tVar 0) := pe_var (X := X.tr pn xe) rfl (.inl S.w) (by decide) (by decide)
      exact (pss_one (ps_expr (pe_callC0 clo room gd (fun pins σ H s e s' I c => tk e s' (XE.of_call I (fun cls d H' h => hW σ cls d H' I.len h) c)) hw))).run pins s σ H D I h
    refine ⟨_, pss_cons (ps_tryA (X := X) rfl rfl S.fs.nd takes_none5 hbody (clB_ok (T := T) rfl rfl rfl rfl S.f S.g O.is ok)) (pss_one (ps_ret pe_non)), ?_⟩
    have R := pre.start hl (["work", "fault"] : List Str) (by simp)
    refine ⟨⟨G, H, P'⟩, faultK tab KQ, fun σ' cls d H' hlen hx => ?_, ?_⟩
    · obtain ⟨b', G', xc, hp, ⟨h1, C, dd, gs, rfl, rfl, h2, h3⟩, tag, fs, ds, hf, hg, hK⟩ := hx
      have hm : ∀ {c : Str}, c ∈ tab.map (·.1) → ∃ C, T.mg c = some (.ref C) := fun {c} hc => by
        obtain ⟨e, he, rfl⟩ := List.mem_map.mp hc
        obtain ⟨C, z, _⟩ := O.is e he
        exact ⟨C, z⟩
      have hin : xc.c ∈ tab.map (·.1) := List.mem_map.mpr ⟨_, PySem.mem_of_lookup hf, rfl⟩
      refine cl_find (fun e he => ?_) (fun _ => mgA_eq h1) hf fun a ha => ?_
      · have h4 : e.1 ∈ tab.map (·.1) := List.mem_map.mpr ⟨e, he, rfl⟩
        obtain ⟨C', h5⟩ := hm h4
        rw [mgA_eq h5]
        exact O.ap _ hin _ h4 C C' h1 h5
      · have hs : (σ'.set 1 (some (V.ref a)))[1]? = some (some (.ref a)) := List.getElem?_set_self (by omega)
        refine flds_run hs h2 h3 hg fun vs hvs => ?_
        have hvs' : Hl T P' G' (.str tag :: ds) (.str tag :: vs) := .cons (.str tag) hvs
        have hlen2 : fs.length = ds.length := by
          have : ∀ (fs : List Str) (ds : List D), getsD xc.fs fs = some ds → fs.length = ds.length := by
            intro fs
            induction fs with
            | nil => intro ds e; simp only [getsD, Option.some.injEq] at e; rw [← e]; rfl
            | cons f fs ih =>
              intro ds e
              simp only [getsD, Option.bind_eq_some_iff, Option.map_eq_some_iff] at e
              obtain ⟨_, _, l, e2, rfl⟩ := e
              simp [ih l e2]
          exact this fs ds hg
        refine ⟨?_, fun p hp' => ?_⟩
        · have := O.sz _ (PySem.mem_of_lookup hf)
          have h100 : fs.length ≤ 100 := this
          rw [sizeLine_eq]
          simp only [List.length_cons, ← hvs.length, ← hlen2]
          omega
        · have R2 := Rep.laidF hp hp' (o := .tup (.str tag :: vs)) (fun ps z => by cases z)
          refine hQ _ false b' (.ref p) _ _ R2 ?_ hK
          show Hd _ _ _ _ _
          exact .obj upd_same (.tup (hvs'.mono (sub_upd (hp.fresh hp').g)))
    · refine ⟨_, [], G, fun _ n' => KQ .non false n'.b, R, ⟨n, caps, rfl, hv⟩, fun r n' v' H' G' R' s' _ hk => ?_⟩
      refine hQ .non false _ .non H' G' R'.post ?_ hk
      show Hd _ _ _ _ _
      exact .non
end
end Sh
namespace Sh
open L2 PySem PySem.Spec PyProof.Rows

def gcdS : DSp := fun ds b KQ KE => ∃ i j : Int, ds = [.int i, .int j] ∧ KQ (.int ((Nat.gcd i.natAbs j.natAbs : Nat) : Int)) false b
section
variable {T : Tx} {P : Program} {w : World} {base : Heap} {lv : Nat}
theorem fn_gcd : FnV P w T.K T.mg base lv (.builtin "math.gcd") (spD T gcdS) := by
  intro X e1 e2 e3 e4 e5 room gd pins s σ H us vs Q E hx I r h
  obtain ⟨P', b, G, ds, KQ, KE, pre, hl, ⟨i, j, rfl, hK⟩, hQ, _⟩ := h
  cases hl with
  | cons h1 t =>
  cases t with
  | cons h2 t =>
  cases t
  obtain rfl := (Av.int_ (H := H) (.inl h1))
  obtain rfl := (Av.int_ (H := H) (.inl h2))
  refine cr_gcd pins s σ H _ us Q I r ⟨i, j, rfl, ?_⟩
  have R := (pre.start (T := T) (ds := []) .nil [] (by simp)).post
  exact hQ (.int _) false b _ H G R (show Hd _ _ _ _ _ from .int _) hK
end
end Sh
namespace Sh
open L2 PySem PySem.Spec PyProof.Rows

def sysB (g : Addr → Option Obj) : Bool := match g sysModules with
  | some o => match o.data with
    | .dict _ _ => true
    | _ => false
  | none => false
theorem sysB_ok {g : Addr → Option Obj} (h : sysB g = true) : ∃ o es n, g sysModules = some o ∧ o.data = .dict es n := by
  unfold sysB at h
  split at h
  · rename_i o e
    split at h
    · rename_i es n d
      exact ⟨o, es, n, e, d⟩
    · cases h
  · cases h
/-- what is looked at: what the module's names reach, the table of statics -/
def frM (n : Nat) (g : Addr → Option Obj) : PySem.W.Frag := He.frT g (cStatics :: He.asD g n)
theorem frM_in {n : Nat} {h : Heap} : (frM n h.get?).In h := He.frT_in
def tabM (g : Addr → Option Obj) (K : PySem.W.Frag) (p : He.Defn) : Bool := PySem.W.codeHdIn K (He.cT K p).1 (He.cT K p).2 && (K.lookup (He.cT K p).2).isNone && ((g (He.cT K p).2).map He.emptyTab == some true)
structure SayM (fa : List He.Fa) (fn : List He.DefD) (tf : List He.Defn) (ex : PySem.W.Frag → Bool) (h : Heap) (K : PySem.W.Frag) : Prop where
  t : He.SaysD fa fn K
  more : ex K = true
  hd : ∀ p ∈ tf, PySem.W.codeHdIn K (He.cT K p).1 (He.cT K p).2 = true ∧ K.lookup (He.cT K p).2 = none
  empty : ∀ p ∈ tf, h.get? (He.cT K p).2 = some { cls := .none, data := .fields #[] }
  sys : ∃ o es n, h.get? sysModules = some o ∧ o.data = .dict es n
def obM (n : Nat) (fa : List He.Fa) (fn : List He.DefD) (tf : List He.Defn) (ex : PySem.W.Frag → Bool) (g : Addr → Option Obj) : He.AlD × Bool := (He.obsD fa fn (frM n g), ex (frM n g) && (tf.all (tabM g (frM n g)) && sysB g))
theorem sayM_of {n : Nat} {fa : List He.Fa} {fn : List He.DefD} {tf : List He.Defn} {ex : PySem.W.Frag → Bool} {h : Heap} (e : obM n fa fn tf ex h.get? = (He.valD fn, true)) : SayM fa fn tf ex h (frM n h.get?) := by
  obtain ⟨e1, e2⟩ := Prod.mk.inj e
  simp only [Bool.and_eq_true, List.all_eq_true] at e2
  obtain ⟨h1, h2, h3⟩ := e2
  refine ⟨e1, h1, fun p hp => ?_, fun p hp => ?_, sysB_ok h3⟩
  · have := h2 p hp
    simp only [tabM, Bool.and_eq_true, Option.isNone_iff_eq_none] at this
    exact this.1
  · have := h2 p hp
    simp only [tabM, Bool.and_eq_true, beq_iff_eq, Option.map_eq_some_iff] at this
    obtain ⟨_, o, k1, k2⟩ := this
    rw [k1, He.emptyTab_eq k2]
def hookM (n : Nat) (fa : List He.Fa) (fn : List He.DefD) (tf : List He.Defn) (ex : PySem.W.Frag → Bool) : PySem.W.Hook where
  α := He.AlD × Bool
  obs s := obM n fa fn tf ex s.heap.get?
  val _ := (He.valD fn, true)
  says _ h := ∃ K : PySem.W.Frag, K.In h ∧ SayM fa fn tf ex h K
  of _ _ e := ⟨_, frM_in, sayM_of e⟩
  keeps := fun _ _ _ ⟨K, hK, c⟩ k => ⟨K, PySem.W.Frag.In.keeps hK k, c.t, c.more, c.hd, fun p hp => k _ _ (c.empty p hp), by
    obtain ⟨o, es, m, s1, s2⟩ := c.sys
    exact ⟨o, es, m, k _ _ s1, s2⟩⟩
theorem obM_eq {n : Nat} {fa : List He.Fa} {fn : List He.DefD} {tf : List He.Defn} {ex : PySem.W.Frag → Bool} {g : Addr → Option Obj} {s : Shared} (h : ∀ a, g a = s.heap.get? a) : obM n fa fn tf ex g = (hookM n fa fn tf ex).obs s := by
  rw [funext h]; rfl
end Sh
namespace Sh
open L2 PySem PySem.Spec PyProof.Rows

theorem zip_lookup : ∀ {ns : List Str} {us : List Value}, us.length = ns.length → ∀ n ∈ ns, ((ns.zip us).lookup n).isSome = true
  | [], _, _, _, h => by cases h
  | a :: ns, [], hl, _, _ => by simp at hl
  | a :: ns, u :: us, hl, n, h => by
    rw [List.zip_cons_cons, List.lookup_cons]
    cases q : n == a with
    | true => rfl
    | false =>
      rcases List.mem_cons.mp h with e | h
      · subst e; simp at q
      · exact zip_lookup (by simpa using hl) n h
theorem fm_congr {α β : Type} {f g : α → Option β} : ∀ {l : List α}, (∀ a ∈ l, f a = g a) → l.filterMap f = l.filterMap g
  | [], _ => rfl
  | a :: l, h => by
    rw [List.filterMap_cons, List.filterMap_cons, h a List.mem_cons_self, fm_congr fun b hb => h b (List.mem_cons_of_mem _ hb)]
theorem zip_binds : ∀ {ns : List Str} {us : List Value}, ns.Nodup → us.length = ns.length → ns.filterMap (fun n => ((ns.zip us).lookup n).map fun v => (n, v)) = ns.zip us
  | [], us, _, hl => by simp
  | a :: ns, [], _, hl => by simp at hl
  | a :: ns, u :: us, nd, hl => by
    rw [List.nodup_cons] at nd
    have h0 : (((a, u) :: ns.zip us).lookup a).map (fun v => (a, v)) = some (a, u) := by simp [List.lookup_cons]
    have key : ns.filterMap (fun n => (((a, u) :: ns.zip us).lookup n).map fun v => (n, v)) = ns.filterMap (fun n => ((ns.zip us).lookup n).map fun v => (n, v)) := by
      refine fm_congr fun n hn => ?_
      have ne : (n == a) = false := beq_eq_false_iff_ne.mpr fun e => nd.1 (e ▸ hn)
      rw [List.lookup_cons, ne]
    rw [List.zip_cons_cons]
    refine (List.filterMap_cons_some (f := fun n => (((a, u) :: ns.zip us).lookup n).map fun v => (n, v)) h0).trans ?_
    rw [key, zip_binds nd.2 (us := us) (by simpa using hl)]
def parN (ps : Arguments) (xs : List Str) : Bool := match ps with
  | ⟨[], as, none, [], [], none, []⟩ => decide (as.map (·.arg) = xs) && decide xs.Nodup
  | _ => false
theorem parN_bind {ps : Arguments} {xs : List Str} (h : parN ps xs = true) {x qual : Str} {body : List Stmt} {sc : Scope} {kV doc pm : Value} {an : Option Addr} {cdv ct : Value} {us : List Value} (hl : us.length = xs.length) :
    bindArgs (PySem.W.fnOf x qual ps body sc .none kV doc pm an cdv ct) ⟨us, []⟩ = pure (xs.zip us) := by
  unfold parN at h
  split at h
  · rename_i as
    simp only [Bool.and_eq_true, decide_eq_true_eq] at h
    obtain ⟨rfl, nd⟩ := h
    have hl' : us.length = as.length := by simpa using hl
    have h1 := zip_binds nd hl
    have h2 := zip_lookup hl
    have h3 : ((as.map (·.arg)).filter fun n => ((as.map (·.arg)).zip us |>.lookup n).isNone) = [] := by
      rw [List.filter_eq_nil_iff]
      intro n hn
      have := h2 n hn
      cases q : ((as.map (·.arg)).zip us).lookup n with
      | none => rw [q] at this; cases this
      | some _ => simp
    have h4 : (as.map (·.arg)).take as.length = as.map (·.arg) := by rw [List.take_of_length_le]; simp
    unfold bindArgs
    simp [-List.filterMap_map, seqItems?, PySem.W.fnOf, hl', h1, h3, h4]
    rfl
  · cases h
def scB (N ps : List Str) (sc : Scope) : Bool := (sc.kind == .function) && !sc.isCoroutine && !sc.isGenerator && decide N.Nodup && decide (N.take ps.length = ps) && (ps.all fun x => sc.names.lookup x == some .local || sc.names.lookup x == some .cell) && sc.names.all fun y => !(y.2 == .free)
theorem scB_ok {N ps : List Str} {sc : Scope} (h : scB N ps sc = true) : FnScope N ps sc := by
  simp only [scB, Bool.and_eq_true, Bool.or_eq_true, decide_eq_true_eq, beq_iff_eq, Bool.not_eq_true', List.all_eq_true, beq_eq_false_iff_ne] at h
  obtain ⟨⟨⟨⟨⟨⟨h1, h2⟩, h3⟩, h4⟩, h5⟩, h6⟩, h7⟩ := h
  exact ⟨h1, h2, h3, h4, h5, h6, h7⟩

section
variable {T : Tx} {v v0 : Ev} {P : Program} {w : World} {base : Heap} {lv lv' : Nat} {nm rn : List (Nat × Str)} {bt gl : List Str}
theorem RzV.mono {K : PySem.W.Frag} {mg : Str → Option Value} {x : Str} {C : Addr} {n : Nat} {fs : List (Str × Nat)} (h : RzV P w K mg base lv x C n fs) (hl : lv ≤ lv') : RzV P w K mg base lv' x C n fs :=
  fun X e1 e2 e3 e4 e5 r => h X e1 e2 e3 e4 e5 (r.mono hl)
theorem Gf.up (g : Gf T v P w base lv nm rn bt gl) (hl : lv ≤ lv') : Gf T v P w base lv' nm rn bt gl where
  calls j x h := by
    obtain ⟨u, a, b, c⟩ := g.calls j x h
    exact ⟨u, a, b, c.mono hl⟩
  bt := g.bt
  gl := g.gl
  kit := g.kit
  clo n caps a := (g.clo n caps a).mono hl
  rz j x c n fs h1 h2 := by
    obtain ⟨a, C, b, r, q⟩ := g.rz j x c n fs h1 h2
    exact ⟨a, C, b, r.mono hl, q⟩
  ci := g.ci
theorem Gf.put (g : Gf T v P w base lv nm rn bt gl) {j : Nat} {x : Str} {u : Value} (hm : T.mg x = some u) (hk : PySem.W.keepIn T.K u = true ∨ ∃ id, u = .builtin id) (hF : FnV P w T.K T.mg base lv u (spD T (v.Φ j))) : Gf T v P w base lv ((j, x) :: nm) rn bt gl where
  calls i y h := by
    rw [List.lookup_cons] at h
    cases q : i == j with
    | true =>
      rw [q] at h; cases h
      obtain rfl := beq_iff_eq.mp q
      exact ⟨u, hm, hk, hF⟩
    | false => rw [q] at h; exact g.calls i y h
  bt := g.bt
  gl := g.gl
  kit := g.kit
  clo := g.clo
  rz := g.rz
  ci := g.ci
/-- with closures that may be called -/
theorem Gf.withClo (g : Gf T v0 P w base lv nm rn bt gl) (h1 : ∀ j x, nm.lookup j = some x → v.Φ j = v0.Φ j) (h2 : v.cs = v0.cs) (h3 : v.rz = v0.rz) (hc : ∀ n caps a, FnV P w T.K T.mg base lv (.ref a) (spClo T (v.cl n caps) n caps a)) : Gf T v P w base lv nm rn bt gl where
  calls j x h := by rw [h1 j x h]; exact g.calls j x h
  bt := g.bt
  gl := g.gl
  kit := by rw [h2]; exact g.kit
  clo := hc
  rz := by rw [h3]; exact g.rz
  ci := g.ci
def ini (cd : Stmt) : Stmt := ((C8.clsBody cd).find? fun s => match s with
  | .FunctionDef (name := n) .. => n == ("__init__" : Str)
  | _ => false).getD (.Pass ⟨0, 0, 0, 0⟩)
/-- a def of the text, or a class with what its __init__ does at its end -/
structure DefE where
  x : Str
  j : Nat
  st : Stmt
  N : List Str
  m : Nat
  rs : RSs
  rc : Nat := 0
  cl : Option (Str × Nat × List (Str × RX)) := none
def DefE.d (e : DefE) : He.DefD := match e.cl with
  | none => ⟨(e.x, none), e.x, e.x, defArgs e.st, defBody e.st, defScope e.st, [], []⟩
  | some (q, _) => ⟨(e.x, some "__init__"), "__init__", q, defArgs (ini e.st), defBody (ini e.st), defScope (ini e.st), [], []⟩
def DefE.ck (e : DefE) (nm rn : List (Nat × Str)) (bt gl cs : List Str) : Bool := (nm.lookup e.j).isNone &&
  scB e.N (e.N.take e.m) (defScope e.st) && parN (defArgs e.st) (e.N.take e.m) && decide (e.m ≤ e.N.length) && okSs ⟨e.N, defScope e.st, none, nm, bt, gl, cs, rn, fun _ _ _ _ => false, []⟩ e.rs (defBody e.st)
/-- .. one that calls itself, too -/
def DefE.ck' (e : DefE) (nm rn : List (Nat × Str)) (bt gl cs : List Str) : Bool := if e.rc = 0 then e.ck nm rn bt gl cs else (nm.lookup e.j).isNone &&
  scB e.N (e.N.take e.m) (defScope e.st) && parN (defArgs e.st) (e.N.take e.m) && decide (e.m ≤ e.N.length) && okSs ⟨e.N, defScope e.st, none, (e.j, e.x) :: nm, bt, gl, cs, rn, fun _ _ _ _ => false, []⟩ e.rs (defBody e.st)
/-- .. a class -/
def DefE.ckI (e : DefE) (k : Nat) (fl : List (Str × RX)) (nm rn : List (Nat × Str)) (bt gl cs : List Str) : Bool := cs.contains e.x && scB e.N (e.N.take e.m) (defScope (ini e.st)) && parN (defArgs (ini e.st)) (e.N.take e.m) && decide (e.m ≤ e.N.length) &&
  okSs ⟨e.N, defScope (ini e.st), none, nm, bt, gl, cs, rn, fun _ _ _ _ => false, []⟩ e.rs ((defBody (ini e.st)).take k) && okSs ⟨e.N, defScope (ini e.st), none, nm, bt, gl, cs, rn, fun _ _ _ _ => false, []⟩ (fldR fl) ((defBody (ini e.st)).drop k)
def ckAll (rn : List (Nat × Str)) (bt gl cs : List Str) : List DefE → List (Nat × Str) → Bool
  | [], _ => true
  | e :: l, nm => (match e.cl with
    | none => e.ck' nm rn bt gl cs
    | some (_, k, fl) => e.ckI k fl nm rn bt gl cs) && ckAll rn bt gl cs l ((e.j, e.x) :: nm)
def lvAll : List DefE → Nat
  | [] => 0
  | e :: l => (e.rc + 2) + lvAll l
def nmAll : List DefE → List (Nat × Str) → List (Nat × Str)
  | [], nm => nm
  | e :: l, nm => nmAll l ((e.j, e.x) :: nm)
def Ev.at_ (v : Ev) (j : Nat) (S : DSp) : Ev := { v with Φ := fun i => if i = j then S else v.Φ i }
def DoesAll (v : Ev) (Ψ : Nat → Nat → DSp) : List DefE → Prop
  | [] => True
  | e :: l => (match e.cl with
    | some (_, _, fl) => DoesI v e.x e.N e.m e.rs fl (v.Φ e.j)
    | none => if e.rc = 0 then Does v e.N e.m e.rs (v.Φ e.j) else (∀ n, n < e.rc → Does (v.at_ e.j (Ψ e.j n)) e.N e.m e.rs (Ψ e.j (n + 1))) ∧ (∀ ds b KQ KE, ¬ Ψ e.j 0 ds b KQ KE) ∧ v.Φ e.j = Ψ e.j e.rc) ∧ DoesAll v Ψ l
/-- a def as it stands -/
def Stands (T : Tx) (x : Str) (st : Stmt) : Prop := ∃ fd, FunD T.K x x (defArgs st) (defBody st) (defScope st) [] [] (He.ga T.K x) fd ∧ T.mg x = some (.ref (He.ga T.K x))
def StandsE (T : Tx) (e : DefE) : Prop := match e.cl with
  | none => Stands T e.x e.st
  | some (q, _) => (∃ fd, FunD T.K "__init__" q (defArgs (ini e.st)) (defBody (ini e.st)) (defScope (ini e.st)) [] [] (He.ma T.K (He.ga T.K e.x) "__init__") fd) ∧ T.mg e.x = some (.ref (He.ga T.K e.x)) ∧ (He.Fa.mkr e.x).ok T.K = true
theorem Gf.atΦ (g : Gf T v P w base lv nm rn bt gl) {j : Nat} {S : DSp} (h : nm.lookup j = none) : Gf T (v.at_ j S) P w base lv nm rn bt gl where
  calls i y hy := by
    have : (v.at_ j S).Φ i = v.Φ i := by
      show (if i = j then S else v.Φ i) = v.Φ i
      rw [if_neg]
      rintro rfl
      rw [h] at hy; cases hy
    rw [this]; exact g.calls i y hy
  bt := g.bt
  gl := g.gl
  kit := g.kit
  clo := g.clo
  rz := g.rz
  ci := g.ci
theorem Gf.chain {Ψ : Nat → Nat → DSp} : ∀ (l : List DefE) {lv : Nat} {nm : List (Nat × Str)}, Gf T v P w base lv nm rn bt gl → ckAll rn bt gl v.cs l nm = true → (∀ e ∈ l, StandsE T e) → DoesAll v Ψ l → Gf T v P w base (lv + lvAll l) (nmAll l nm) rn bt gl
  | [], _, _, g, _, _, _ => g
  | e :: l, lv, nm, g, h, hs, hd => by
    simp only [ckAll, Bool.and_eq_true] at h
    obtain ⟨h, hl⟩ := h
    have hst := hs e List.mem_cons_self
    obtain ⟨hd, hr⟩ := hd
    have key : FnV P w T.K T.mg base (lv + (e.rc + 2)) (.ref (He.ga T.K e.x)) (spD T (v.Φ e.j)) ∧ T.mg e.x = some (.ref (He.ga T.K e.x)) ∧ PySem.W.keepIn T.K (.ref (He.ga T.K e.x)) = true := by
      unfold StandsE at hst
      cases hcl : e.cl with
      | some z =>
        obtain ⟨q, kk, fl⟩ := z
        simp only [hcl] at h hd hst
        obtain ⟨⟨fd, F⟩, hm, hmk⟩ := hst
        have M := He.mkr_ok hmk
        unfold DefE.ckI at h
        simp only [Bool.and_eq_true, decide_eq_true_eq, List.contains_iff_mem] at h
        obtain ⟨⟨⟨⟨⟨h0, h1⟩, h2⟩, h3⟩, h4⟩, h5⟩ := h
        have hlen : (e.N.take e.m).length = e.m := by rw [List.length_take]; omega
        have hb : Binds T.K fd (e.N.take e.m) [] := F.bindsN fun _ _ _ _ _ _ us hl => parN_bind h2 hl
        have FG := fnI_of (C := He.ga T.K e.x) F (scB_ok h1) (g.up (Nat.le_add_right lv 0)) h0 hm h4 h5 (by rw [hlen]; exact hd)
        exact ⟨(cls_fnV M (FG) hb).mono (by omega), hm, M.kp⟩
      | none =>
      simp only [hcl] at h hd hst
      obtain ⟨fd, F, hm⟩ := hst
      refine ⟨?_, hm, F.kp⟩
      unfold DefE.ck' at h
      by_cases h0 : e.rc = 0
      · rw [if_pos h0] at h hd
        simp only [DefE.ck, Bool.and_eq_true, decide_eq_true_eq] at h
        obtain ⟨⟨⟨⟨_, h1⟩, h2⟩, h3⟩, h4⟩ := h
        have hlen : (e.N.take e.m).length = e.m := by rw [List.length_take]; omega
        have FG := fnD_of F (scB_ok h1) g h4 (by rw [hlen]; exact hd)
        exact (FG.fnV (F.bindsN fun _ _ _ _ _ _ us hl => parN_bind h2 hl)).mono (by omega)
      · rw [if_neg h0] at h hd
        simp only [Bool.and_eq_true, decide_eq_true_eq, Option.isNone_iff_eq_none] at h
        obtain ⟨⟨⟨⟨hn, h1⟩, h2⟩, h3⟩, h4⟩ := h
        obtain ⟨d1, d2, d3⟩ := hd
        have hlen : (e.N.take e.m).length = e.m := by rw [List.length_take]; omega
        have hb : Binds T.K fd (e.N.take e.m) [] := F.bindsN fun _ _ _ _ _ _ us hl => parN_bind h2 hl
        have go : ∀ n, n ≤ e.rc → FnV P w T.K T.mg base (lv + n) (.ref (He.ga T.K e.x)) (spD T (Ψ e.j n)) := by
          intro n
          induction n with
          | zero =>
            intro _ X _ _ _ _ _ _ _ pins s σ H us vs Q E _ _ _ hsp
            obtain ⟨_, _, _, _, _, _, _, _, z, _⟩ := hsp
            exact absurd z (d2 _ _ _ _)
          | succ n ih =>
            intro hle
            have g1 : Gf T (v.at_ e.j (Ψ e.j n)) P w base (lv + n) ((e.j, e.x) :: nm) rn bt gl := by
              refine (g.atΦ hn |>.up (Nat.le_add_right _ _)).put hm (.inl F.kp) ?_
              have : (v.at_ e.j (Ψ e.j n)).Φ e.j = Ψ e.j n := if_pos rfl
              rw [this]
              exact ih (by omega)
            exact (fnD_of F (scB_ok h1) g1 h4 (by rw [hlen]; exact d1 n (by omega))).fnV hb
        rw [d3]
        exact (go e.rc (Nat.le_refl _)).mono (by omega)
    have g2 := (g.up (Nat.le_add_right lv (e.rc + 2))).put key.2.1 (.inl key.2.2) key.1
    have := Gf.chain l g2 hl (fun e he => hs e (List.mem_cons_of_mem _ he)) hr
    rw [lvAll, ← Nat.add_assoc]
    exact this
end

def oexB (K : PySem.W.Frag) (C : Addr) : Bool := (match K.lookup C with
  | some ⟨.type t, _, .cls cd, sl⟩ => (match cd.mro, sl.toList with
    | .ref C' :: bm, [_, _, _, _, some (.builtin n), _] => t == "type" && C' == C && n == "ValueError.__new__" && !cd.hasDel && cd.hasDict && PySem.HandSPX.refsVE bm
    | _, _ => false)
  | _ => false) && He.eqO (PySem.W.findIn K (.ref C) "__setattr__") (some (some (.builtin "object.__setattr__"))) && decide (PySem.W.subIn K (.ref C) (.type "BaseException") = some true) && decide (PySem.W.typeIn K (.ref C) = some (.type "type")) && PySem.W.keepIn K (.ref C)
theorem oexB_ok {K : PySem.W.Frag} {C : Addr} (h : oexB K C = true) : OexC K C := by
  unfold oexB at h
  simp only [Bool.and_eq_true, decide_eq_true_eq] at h
  obtain ⟨⟨⟨⟨h1, h2⟩, h3⟩, h4⟩, h5⟩ := h
  refine ⟨?_, He.eqO_ok h2, h3, h4, h5⟩
  split at h1
  · rename_i t dd cd sl ho
    split at h1
    · rename_i C' bm k0 k1 k2 k3 n k5 hm hs
      simp only [Bool.and_eq_true, beq_iff_eq, Bool.not_eq_true'] at h1
      obtain ⟨⟨⟨⟨⟨rfl, rfl⟩, rfl⟩, hdel⟩, hdi⟩, ht⟩ := h1
      obtain ⟨nm, bs, mro, ns, qn, hd, sn, sub, ab, col, del⟩ := cd
      dsimp only at hm hdel hdi
      subst hm hdel hdi
      have hsl : sl = #[k0, k1, k2, k3, some (.builtin "ValueError.__new__"), k5] := by
        obtain ⟨l⟩ := sl
        simp only at hs
        rw [hs]
      subst hsl
      exact ⟨nm, qn, ns, bs, bm, sn, sub, ab, col, dd, k0, k1, k2, k3, k5, ho, ht⟩
    · cases h1
  · cases h1
/-- an own exception: its class, its __init__ -/
structure XIn where
  c : Str
  q : Str
  cd : Stmt
  N : List Str
  fs : List (Str × Nat)
  j : Nat
def XIn.d (x : XIn) : He.DefD := ⟨(x.c, some "__init__"), "__init__", x.q, defArgs (ini x.cd), defBody (ini x.cd), defScope (ini x.cd), [], []⟩
def XIn.tx (b : Str) (x : XIn) : Bool := scB x.N x.N (defScope (ini x.cd)) && parN (defArgs (ini x.cd)) x.N && !x.fs.isEmpty && (x.fs.all fun p => decide (0 < p.2) && decide (p.2 < x.N.length)) && decide (x.fs.length ≤ 900) && decide (x.N.length ≤ 900) && !(x.c == ("__debug__" : Str)) &&
  match defBody (ini x.cd) with
  | .Expr (.Call (.Attribute (.Name x0 p1) m p2) [.Name self p3, .Constant (.str zc) kc p4] [] p5) pe :: r => x0 == b && m == ("__init__" : Str) && p2.endLine == p5.line && decide (x.N[0]? = some self) && ((defScope (ini x.cd)).names.lookup x0 == some .globalImplicit) && ((defScope (ini x.cd)).names.lookup self == some .local) &&
    !(self == ("__debug__" : Str)) && !(self == ("__classdict__" : Str)) && !(x0 == ("__debug__" : Str)) && initC x.N (defScope (ini x.cd)) self r x.fs
  | _ => false
def XIn.kb (K : PySem.W.Frag) (x : XIn) : Bool := oexB K (He.ga K x.c) && xfB K (He.ga K x.c) && He.eqO (PySem.W.findIn K (.ref (He.ga K x.c)) "__init__") (some (some (.ref (He.ma K (He.ga K x.c) "__init__")))) && decide (PySem.W.typeIn K (.ref (He.ma K (He.ga K x.c) "__init__")) = some (.type "function")) &&
  x.fs.all fun p => He.eqO (PySem.W.findIn K (.ref (He.ga K x.c)) p.1) (some none)
def XIn.rz (x : XIn) : Str × Nat × List (Str × Nat) := (x.c, x.N.length - 1, x.fs)
def initByB (K : PySem.W.Frag) (C0 : Addr) : Bool := PySem.W.readsIn K C0 (.type "type") && He.eqO (PySem.W.specialIn K (.ref C0) "__getattribute__") (some (some (.builtin "type.__getattribute__"))) && (match PySem.W.findCls K (.ref C0) (.type "type") "__init__" with
  | some (.val (.builtin b)) => b == "ValueError.__init__"
  | _ => false)
theorem initByB_ok {K : PySem.W.Frag} {C0 : Addr} (h : initByB K C0 = true) : InitBy K C0 (.type "type") := by
  unfold initByB at h
  simp only [Bool.and_eq_true] at h
  obtain ⟨⟨h1, h2⟩, h3⟩ := h
  refine ⟨h1, He.eqO_ok h2, ?_⟩
  split at h3
  · rename_i b e; rw [e, beq_iff_eq.mp h3]
  · cases h3
section
variable {P : Program} {w : World} {K : PySem.W.Frag} {mg : Str → Option Value} {base : Heap}
theorem XIn.rz_ok {x : XIn} {b : Str} {fd : FuncData} (F : FunD K "__init__" x.q (defArgs (ini x.cd)) (defBody (ini x.cd)) (defScope (ini x.cd)) [] [] (He.ma K (He.ga K x.c) "__init__") fd) (ht : x.tx b = true) (hk : x.kb K = true) (hb : initByB K (He.ga K b) = true)
    (hm : mg x.c = some (.ref (He.ga K x.c))) (hmb : mg b = some (.ref (He.ga K b))) : RzV P w K mg base 2 x.c (He.ga K x.c) (x.N.length - 1) x.fs ∧ ∀ p ∈ x.fs, 0 < p.2 ∧ p.2 < x.N.length - 1 + 1 := by
  unfold XIn.tx at ht
  simp only [Bool.and_eq_true, decide_eq_true_eq, Bool.not_eq_true', List.all_eq_true] at ht
  obtain ⟨⟨⟨⟨⟨⟨⟨t1, t2⟩, t3⟩, t4⟩, t5⟩, t6⟩, t7⟩, t8⟩ := ht
  unfold XIn.kb at hk
  simp only [Bool.and_eq_true, decide_eq_true_eq, List.all_eq_true] at hk
  obtain ⟨⟨⟨⟨k1, k2⟩, k3⟩, k4⟩, k5⟩ := hk
  have hbi : Binds K fd x.N [] := F.bindsN fun _ _ _ _ _ _ us hl => parN_bind t2 hl
  split at t8
  · rename_i x0 p1 m p2 self p3 zc kc p4 p5 pe r hbody
    simp only [Bool.and_eq_true, beq_iff_eq, decide_eq_true_eq, Bool.not_eq_true'] at t8
    obtain ⟨⟨⟨⟨⟨⟨⟨⟨⟨rfl, rfl⟩, u3⟩, u4⟩, u5⟩, u6⟩, u7⟩, u8⟩, u9⟩, u10⟩ := t8
    have hN : x.N.length = x.N.length - 1 + 1 := by
      have := (List.getElem?_eq_some_iff.mp u4).1
      omega
    obtain ⟨oc, od, dV, kV, doc, pm, an, cdv, ct, osl, rfl, lk, hcd, _, _⟩ := F.ex
    rw [hbody] at lk hbi
    have hi : ∀ p ∈ x.fs, 0 < p.2 ∧ p.2 < x.N.length - 1 + 1 := fun p hp => by rw [← hN]; exact t4 p hp
    refine ⟨rzV_of (oexB_ok k1) (He.eqO_ok k3) k4 (fnX_of (lv := 0) lk hcd (scB_ok t1) (oexB_ok k1) (initByB_ok hb) hmb u5 u9 (by rw [u3]; exact beq_self_eq_true _) hN u4 u6 u7 u8 u10 (fun p hp => He.eqO_ok (k5 p hp)) (fun z => by rw [z] at t3; cases t3) t5 fun p hp => (hi p hp).2) hbi hm (by omega) t7 fun p hp => (hi p hp).1, hi⟩
  · cases t8
end
def clsFB (K : PySem.W.Frag) (x : Str) : Bool := (He.Fa.cls x).ok K && He.eqO (PySem.W.findIn K (.ref (He.ga K x)) "__class__") (some (some (.builtin "object.__class__"))) && He.eqO (PySem.W.specialIn K (.builtin "object.__class__") "__get__") (some (some (.builtin "getset_descriptor.__get__"))) &&
  decide (PySem.W.takesIn K (.builtin "object.__class__") = some true) && decide (PySem.W.mroIn K (He.ga K x) (.type "object") = some true)
theorem clsFB_ok {K : PySem.W.Frag} {x : Str} (h : clsFB K x = true) : ClsF K (He.ga K x) := by
  unfold clsFB at h
  simp only [Bool.and_eq_true, decide_eq_true_eq] at h
  exact ⟨He.cls_ok h.1.1.1.1, He.eqO_ok h.1.1.1.2, He.eqO_ok h.1.1.2, h.1.2, h.2⟩
def kitB (K : PySem.W.Frag) (cs : List Str) : Bool := (cs.all fun c => tyNs.all fun a => decide (PySem.W.kitOne K (.type a) (.ref (He.ga K c)) = some false) && decide (PySem.W.kitOne K (.ref (He.ga K c)) (.type a) = some false)) &&
  (cs.all fun c => cs.all fun d => decide (PySem.W.kitOne K (.ref (He.ga K c)) (.ref (He.ga K d)) = some (c == d))) && (cs.all fun c => fldNs.all fun f => He.eqO (PySem.W.findIn K (.ref (He.ga K c)) f) (some none)) && cs.all (clsFB K)
theorem kitB_ok {T : Tx} {cs : List Str} (h : kitB T.K cs = true) (hm : ∀ c ∈ cs, T.mg c = some (.ref (He.ga T.K c))) : KitOk T cs := by
  unfold kitB at h
  simp only [Bool.and_eq_true, List.all_eq_true, decide_eq_true_eq] at h
  obtain ⟨⟨⟨k1, k2⟩, k3⟩, k4⟩ := h
  refine ⟨fun c hc => ⟨_, hm c hc⟩, fun c hc a ha C e => ?_, fun c hc a ha C e => ?_, fun c hc d hd C D e1 e2 => ?_, fun c hc C e f hf => ?_, fun c hc C e => ?_⟩
  · rw [hm c hc] at e; cases e; exact (k1 c hc a ha).1
  · rw [hm c hc] at e; cases e; exact (k1 c hc a ha).2
  · rw [hm c hc] at e1; rw [hm d hd] at e2; cases e1; cases e2; exact k2 c hc d hd
  · rw [hm c hc] at e; cases e; exact He.eqO_ok (k3 c hc f hf)
  · rw [hm c hc] at e; cases e; exact clsFB_ok (k4 c hc)
def clwB (K : PySem.W.Frag) (tab : List Clw) : Bool := (tab.all fun e => tab.all fun f => decide (PySem.W.exmOne K (.ref (He.ga K e.1)) (.ref (He.ga K f.1)) = some (e.1 == f.1))) && tab.all fun e => decide (e.2.2.length ≤ 100) && xfB K (He.ga K e.1) && e.2.2.all fun f => He.eqO (PySem.W.findIn K (.ref (He.ga K e.1)) f) (some none)
theorem clwB_ok {T : Tx} {tab : List Clw} (h : clwB T.K tab = true) (hm : ∀ e ∈ tab, T.mg e.1 = some (.ref (He.ga T.K e.1))) : TabOk T tab := by
  unfold clwB at h
  simp only [Bool.and_eq_true, List.all_eq_true, decide_eq_true_eq] at h
  refine ⟨fun c hc c' hc' C C' e1 e2 => ?_, fun e he => (h.2 e he).1.1, fun e he => ⟨_, hm e he, xfB_ok (h.2 e he).1.2, fun f hf => He.eqO_ok ((h.2 e he).2 f hf)⟩⟩
  obtain ⟨a, ha, rfl⟩ := List.mem_map.mp hc
  obtain ⟨b, hb, rfl⟩ := List.mem_map.mp hc'
  rw [hm a ha] at e1; rw [hm b hb] at e2; cases e1; cases e2
  exact h.1 a ha b hb
/-- where all begins -/
theorem gf0 {T : Tx} {v : Ev} {P : Program} {w : World} {base : Heap} {rn : List (Nat × Str)} {bt gl : List Str} {b : Str} (xs : List XIn) (hcl : ∀ n caps ds k KQ KE, ¬ v.cl n caps ds k KQ KE) (hrz : v.rz = fun j => (xs.find? fun e => e.j == j).map XIn.rz) (hrn : (rn.all fun p => match xs.find? fun e => e.j == p.1 with
    | some e => e.c == p.2
    | none => true) = true) (hx : ∀ x ∈ xs, (∃ fd, FunD T.K "__init__" x.q (defArgs (ini x.cd)) (defBody (ini x.cd)) (defScope (ini x.cd)) [] [] (He.ma T.K (He.ga T.K x.c) "__init__") fd) ∧ x.tx b = true ∧ x.kb T.K = true ∧ T.mg x.c = some (.ref (He.ga T.K x.c)))
    (hb : initByB T.K (He.ga T.K b) = true) (hmb : T.mg b = some (.ref (He.ga T.K b))) (hbt : ∀ x ∈ bt, T.mg x = none) (hgl : ∀ x ∈ gl, ∃ a, T.mg x = some (.ref a)) (kit : KitOk T v.cs) (hci : ∀ (i : Nat) x, rn.lookup (1000000 + i) = some x → ∃ t, T.mg x = some (.int i t)) : Gf T v P w base 2 [] rn bt gl where
  calls j x h := by cases h
  bt x h := hbt x (List.contains_iff_mem.mp h)
  gl x h := hgl x (List.contains_iff_mem.mp h)
  kit := kit
  ci := hci
  clo n caps a := by
    intro X _ _ _ _ _ _ _ pins s σ H us vs Q E _ _ _ h
    obtain ⟨_, _, _, _, _, _, _, _, _, z, _⟩ := h
    exact absurd z (hcl _ _ _ _ _ _)
  rz j x c n fs h1 h2 := by
    rw [hrz] at h2
    have h3 := List.all_eq_true.mp hrn _ (mem_lk h1)
    cases q : xs.find? fun e => e.j == j with
    | none => simp only [q] at h2; cases h2
    | some e =>
      have h3 : (match xs.find? fun e => e.j == j with
        | some e => e.c == x
        | none => true) = true := h3
      rw [q] at h3
      simp only [q, Option.map_some, XIn.rz, Option.some.injEq, Prod.mk.injEq] at h2
      obtain ⟨rfl, rfl, rfl⟩ := h2
      obtain ⟨⟨fd, F⟩, k1, k2, k3⟩ := hx e (List.mem_of_find?_eq_some q)
      obtain ⟨r1, r2⟩ := XIn.rz_ok (P := P) (w := w) (base := base) F k1 k2 hb k3 hmb
      exact ⟨(beq_iff_eq.mp h3).symm, _, k3, by rw [← beq_iff_eq.mp h3]; exact r1, r2⟩
end Sh
set_option maxHeartbeats  1000000
namespace Sh
open L2 PySem PySem.Spec PyProof.Rows
def S0 (c : Str) : DSp := fun ds b KQ KE => ds = [] ∧ KQ (.ins c []) true b
section
variable {T : Tx} {v : Ev} {P : Program} {w : World} {base : Heap} {lv : Nat}
theorem cls0_fnV {c : Str} {C : Addr} (hmk : PySem.W.makesIn T.K C = true) (hi : PySem.W.findIn T.K (.ref C) "__init__" = some (some (.builtin "object.__init__"))) (hm : T.mg c = some (.ref C)) (hc : ClsF T.K C) : FnV P w T.K T.mg base lv (.ref C) (spD T (S0 c)) := by
  intro X e1 e2 e3 e4 e5 room gd pins s σ H us vs Q E hx I rel h
  obtain ⟨P', b, G, ds, KQ, KE, pre, hl, hS, hQ, hE⟩ := h
  obtain ⟨rfl, hk⟩ := hS
  cases hl
  cases rel
  have I2 := Inv.made (C := C) I
  have hy : H (s.heap.objs.size + 1) = none := I.hok.fresh (Nat.le_succ _)
  have hdx : H s.heap.objs.size = none := I.hok.fresh (Nat.le_refl _)
  have hne : s.heap.objs.size ≠ s.heap.objs.size + 1 := Nat.ne_of_lt (Nat.lt_succ_self _)
  have hyd : (upd H s.heap.objs.size (.own (s.heap.objs.size + 1))) (s.heap.objs.size + 1) = none := by rw [upd_ne (Ne.symm hne)]; exact hy
  have R0 := pre.start (ds := []) (vs := []) .nil [] (by simp)
  have R2 := (R0.laid (.own (s.heap.objs.size + 1)) hdx).laid (.ins C s.heap.objs.size []) hyd
  have own : OwnO T ⟨G, H, P'⟩ G (upd (upd H s.heap.objs.size (.own (s.heap.objs.size + 1))) (s.heap.objs.size + 1) (.ins C s.heap.objs.size [])) (.ins c []) (s.heap.objs.size + 1) (.ins C s.heap.objs.size []) :=
    ⟨R0.fresh hy, upd_same, trivial, .ins hm hc (fun f h => absurd rfl h) .nil⟩
  have fin := hQ _ true _ _ _ _ R2.post ⟨_, _, rfl, own⟩ hk
  subst e1 e2 e5
  refine wpAny_call (make_map0 (K := X.K) I.kIn (by rw [e3]; exact hmk) (by rw [e3]; exact hi) (fun self => PySem.W.Looks.of_pure (PySem.W.oi_bind _)) ?_)
  have top := mro_obj (K := X.K) (C := C) (by rw [e3]; exact hmk)
  have hob : ((s.heap.push PySem.W.emptyDict).push (PySem.W.instObj C s.heap.objs.size)).get? (s.heap.objs.size + 1) = some (PySem.W.instObj C s.heap.objs.size) := by
    have := Heap.get?_push_size (s.heap.push PySem.W.emptyDict) (o := PySem.W.instObj C s.heap.objs.size) rfl
    rw [Heap.size_push] at this
    exact this
  have t1 : PySem.W.Looks (model X.prog X.w) ((s.heap.push PySem.W.emptyDict).push (PySem.W.instObj C s.heap.objs.size)) (typeOf (.ref (s.heap.objs.size + 1))) (.ref C) := NwA.type_at hob rfl
  have t2 : PySem.W.Looks (model X.prog X.w) ((s.heap.push PySem.W.emptyDict).push (PySem.W.instObj C s.heap.objs.size)) (isInstance (.ref (s.heap.objs.size + 1)) (.type "object")) true := t1.andThen (PySem.W.looks_mroIn I2.kIn top)
  refine codeAny_call_builtin PySem.W.oi_plain PySem.W.entry_oi (@PySem.W.check_slot (model X.prog X.w) _ _ _ "object.__init__" "object" "__init__" (.ref (s.heap.objs.size + 1)) [] [] _ PySem.W.oi_kind PySem.W.oi_split t2 (NwA.oi_args_any (.ref (s.heap.objs.size + 1)) [] []) ?_)
  rw [PySem.W.oi_run]
  exact wpAny_pure (And.intro rfl ⟨.ref (s.heap.objs.size + 1), _, I2, rfl, fin⟩)
end
end Sh
set_option maxHeartbeats  2000000
namespace Sh
open L2 PySem PySem.Spec PyProof.Rows

structure LawIn where
  xs : List XIn
  b : Str
  L : LawT
  gcd : List Nat
  dr : Nat × Stmt
  pen : Stmt
  law : Stmt
  defs : List DefE
  tab : List Clw
  fl : List (Nat × Stmt)
  due : List DefE
  Φ0 : Fns
  Ψ : Nat → Nat → DSp := fun _ _ _ _ _ _ => False
  r : RSs
  c0 : List (Nat × Str) := []
/-- what is due for a closure's try -/
def DueD (v : Ev) (tab : List Clw) (b : Nat) (t : Nat × List D × D) : Prop := (∃ p : PyData, t.2.2.pyd = some p ∧ p.showable = true ∧ p.depth ≤ 64 ∧ p.shown.length ≤ Z) ∧ ∀ KQ : D → Bool → Nat → Prop, KQ t.2.2 false b → faultS v tab [.clo t.1 t.2.1] b KQ noX
/-- all tries end as is due -/
def dueS (v : Ev) (tab : List Clw) : DSp := fun ds b KQ _ => ∃ l : List (Nat × List D × D), ds = [.lst (l.map fun t => .tup [.clo t.1 t.2.1, t.2.2])] ∧ l.length < Z ∧ (∀ t ∈ l, DueD v tab b t) ∧ KQ (.bl true) false b
def dOf (x : Str) (st : Stmt) : He.DefD := ⟨(x, none), x, x, defArgs st, defBody st, defScope st, [], []⟩
namespace LawIn
def v0 (I : LawIn) : Ev := { Φ := I.Φ0, cs := I.L.cs, rz := fun j => (I.xs.find? fun e => e.j == j).map XIn.rz, lf := I.L.lf }
def vc (I : LawIn) : Ev := { I.v0 with cl := fun n caps => cloS I.v0 (I.L.ld n) caps }
def Φ (I : LawIn) : Fns := fun j => if (I.fl.any fun p => p.1 == j) = true then faultS I.vc I.tab else if (I.due.any fun e => e.j == j) = true then dueS I.vc I.tab else I.Φ0 j
def v (I : LawIn) : Ev := { I.vc with Φ := I.Φ }
def fn (I : LawIn) : List He.DefD := I.xs.map XIn.d ++ I.defs.map DefE.d ++ [dOf "_law_pen" I.pen, dOf "_law_draw" I.dr.2, dOf "law" I.law] ++ I.fl.map (fun p => dOf "_law_fault" p.2) ++ I.due.map fun e => dOf e.x e.st
/-- what must stand in the module by its name -/
def glos (I : LawIn) : List Str := I.b :: I.xs.map XIn.c ++ I.defs.map DefE.x ++ (["_law_pen", "_law_draw", "law"] : List Str) ++ I.fl.map (fun _ => ("_law_fault" : Str)) ++ I.due.map DefE.x ++ I.L.gl ++ I.L.cs ++ I.tab.map (·.1)
def frees (I : LawIn) : List Str := I.L.bt ++ (["len", "int", "list"] : List Str)
def fa (I : LawIn) : List He.Fa := I.glos.map .glo ++ I.frees.map .free
def gcdB (K : PySem.W.Frag) : Bool := match PySem.W.nsIn K mainGlobals "gcd" with
  | some (some (.builtin b)) => b == "math.gcd"
  | _ => false
def c0B (K : PySem.W.Frag) (C : Addr) : Bool := PySem.W.makesIn K C && He.eqO (PySem.W.findIn K (.ref C) "__init__") (some (some (.builtin "object.__init__"))) && PySem.W.keepIn K (.ref C)
def ex (I : LawIn) (K : PySem.W.Frag) : Bool := (K.lookup sysModules).isNone && (I.gcd.all fun _ => gcdB K) && initByB K (He.ga K I.b) && I.xs.all (XIn.kb K) && kitB K I.L.cs && clwB K I.tab && (I.defs.all fun e => e.cl.isNone || (He.Fa.mkr e.x).ok K) && (I.c0.all fun p => I.L.cs.contains p.2 && c0B K (He.ga K p.2)) && I.L.rn.all fun p => decide (p.1 < 1000000) || (He.Fa.int p.2 ((p.1 : Int) - 1000000)).ok K
def nm0 (I : LawIn) : List (Nat × Str) := (I.dr.1, "_law_draw") :: ((I.gcd.map fun j => (j, ("gcd" : Str))) ++ I.c0)
def drawB (sc : Scope) : Bool := scB ["pen", "many", "cell", "digit", "blend"] ["pen", "many"] sc && ((["pen", "many", "cell", "digit", "blend"] : List Str).all fun x => sc.names.lookup x == some .local) && (["len", "int"] : List Str).all fun x => sc.names.lookup x == some .globalImplicit
def penB (sc : Scope) : Bool := scB ["script", "fold", "cell"] ["script"] sc && ((["script", "fold", "cell"] : List Str).all fun x => sc.names.lookup x == some .local) && (["list", "int"] : List Str).all fun x => sc.names.lookup x == some .globalImplicit
def faultB (tab : List Clw) (st : Stmt) : Bool := scB ["work", "fault"] ["work"] (defScope st) && ((defScope st).names.lookup ("work" : Str) == some .local) && ((defScope st).names.lookup ("fault" : Str) == some .local) && (tab.all fun e => (defScope st).names.lookup e.1 == some .globalImplicit && !(e.1 == ("__debug__" : Str))) && parN (defArgs st) ["work"] &&
  match defBody st with
  | [.Try [.Expr (.Call (.Name w _) [] [] _) _] (h0 :: hds) [] [] _, .Return (some (.Constant .none _ _)) _] => w == ("work" : Str) && clB "fault" (h0 :: hds) tab
  | _ => false
def rnB (I : LawIn) : Bool := I.L.rn.all fun p => match I.xs.find? fun e => e.j == p.1 with
    | some e => e.c == p.2
    | none => true
/-- the text -/
def ck (I : LawIn) : Bool := (I.rnB) && (I.xs.all (XIn.tx I.b)) && ckAll I.L.rn I.L.bt I.L.gl I.L.cs I.defs I.nm0 && drawB (defScope I.dr.2) && parN (defArgs I.dr.2) ["pen", "many"] && penB (defScope I.pen) && parN (defArgs I.pen) ["script"] && parN (defArgs I.law) ["script"] &&
  scB I.L.N ["script"] I.L.sc && decide (I.L.N[1]? = some ("pen" : Str)) && decide (I.L.N[0]? = some ("script" : Str)) && (I.L.sc.names.lookup ("pen" : Str) == some .local) && (I.L.sc.names.lookup ("script" : Str) == some .local) && (I.L.sc.names.lookup ("_law_pen" : Str) == some .globalImplicit) &&
  (match defBody I.law with
  | .Assign [.Name p _] (.Call (.Name f _) [.Name s _] [] _) _ :: st => p == ("pen" : Str) && f == ("_law_pen" : Str) && s == ("script" : Str) && okSs I.L.ck I.r st
  | _ => false)
/-- the tests of closures -/
def ckNm (I : LawIn) : Bool := (nmAll I.defs I.nm0).all fun p => !(I.fl.any fun q => q.1 == p.1) && !(I.due.any fun e => e.j == p.1)
def ckDue (I : LawIn) : Bool := match I.fl, I.due with
  | [(j, st)], [e] => !(e.j == j) && faultB I.tab st && e.ck ((j, "_law_fault") :: nmAll I.defs I.nm0) I.L.rn I.L.bt I.L.gl I.L.cs && (I.L.ns.all fun p => p.1 == e.j && p.2 == e.x)
  | _, _ => I.L.ns.isEmpty
end LawIn
/-- what the head tells -/
structure LawSay (I : LawIn) (K : PySem.W.Frag) (mg : Str → Option Value) : Prop where
  d : ∀ e ∈ I.fn, ∃ fd, FunD K e.name e.qual e.params e.body e.scope (e.dvs K) (e.kws K) (He.fAd K e.at_) fd
  g : ∀ x ∈ I.glos, mg x = some (.ref (He.ga K x))
  f : ∀ x ∈ I.frees, mg x = none
  m : ∀ x u, PySem.W.nsIn K mainGlobals x = some (some u) → mg x = some u
  x : I.ex K = true
  i : ∀ x i, (He.Fa.int x i).ok K = true → ∃ t, mg x = some (.int i t)
theorem lawSay_of {I : LawIn} {h : Heap} {K : PySem.W.Frag} {mg : Str → Option Value} {tf : List He.Defn} (X : K.In h) (G : h.Ns mainGlobals mg) (S : SayM I.fa I.fn tf I.ex h K) : LawSay I K mg where
  d e he := S.t.defs he
  g x hx := He.glo_ok X G (S.t.facts (f := .glo x) (by
    unfold LawIn.fa
    exact List.mem_append.mpr (.inl (List.mem_map.mpr ⟨x, hx, rfl⟩))))
  f x hx := He.free_ok X G (S.t.facts (f := .free x) (by
    unfold LawIn.fa
    exact List.mem_append.mpr (.inr (List.mem_map.mpr ⟨x, hx, rfl⟩))))
  m x u e := PySem.W.mg_of X G e
  x := S.more
  i x i h := He.int_ok X G h
def LawIn.T (I : LawIn) (K : PySem.W.Frag) (mg : Str → Option Value) : Tx := ⟨K, mg, [((He.cT K ("law", none)).2, (("law" : Str) ++ ".<locals>.") ++ "<lambda>")], [], I.L.lo⟩
section
variable {I : LawIn} {P : Program} {w : World} {K : PySem.W.Frag} {mg : Str → Option Value} {base : Heap}
theorem LawSay.st (S : LawSay I K mg) {x : Str} {st : Stmt} (hd : dOf x st ∈ I.fn) (hg : x ∈ I.glos) : Stands (I.T K mg) x st := by
  obtain ⟨fd, F⟩ := S.d _ hd
  exact ⟨fd, F, S.g x hg⟩
theorem LawSay.exs_ (S : LawSay I K mg) : K.lookup sysModules = none ∧ (∀ j ∈ I.gcd, LawIn.gcdB K = true) ∧ initByB K (He.ga K I.b) = true ∧ (∀ x ∈ I.xs, x.kb K = true) ∧ kitB K I.L.cs = true ∧ clwB K I.tab = true ∧ (∀ e ∈ I.defs, e.cl = none ∨ (He.Fa.mkr e.x).ok K = true) ∧ (∀ p ∈ I.c0, p.2 ∈ I.L.cs ∧ LawIn.c0B K (He.ga K p.2) = true) ∧ ∀ p ∈ I.L.rn, p.1 < 1000000 ∨ (He.Fa.int p.2 ((p.1 : Int) - 1000000)).ok K = true := by
  have h := S.x
  unfold LawIn.ex at h
  simp only [Bool.and_eq_true, Bool.or_eq_true, List.all_eq_true, Option.isNone_iff_eq_none, decide_eq_true_eq, List.contains_iff_mem] at h
  obtain ⟨⟨⟨⟨⟨⟨⟨⟨h1, h2⟩, h3⟩, h4⟩, h5⟩, h6⟩, h7⟩, h9⟩, h8⟩ := h
  exact ⟨h1, h2, h3, h4, h5, h6, h7, h9, h8⟩
theorem gcd_mg (S : LawSay I K mg) (h : LawIn.gcdB K = true) : mg "gcd" = some (.builtin "math.gcd") := by
  unfold LawIn.gcdB at h
  split at h
  · rename_i b e
    rw [S.m _ _ e, beq_iff_eq.mp h]
  · cases h
/-- the defs that are called, behind the gcd and the draw -/
theorem law_g0 (S : LawSay I K mg) (hck : I.ck = true) (hdr : I.Φ0 I.dr.1 = drawS) (hgc : ∀ j ∈ I.gcd, I.Φ0 j = gcdS) (hc0 : ∀ p ∈ I.c0, I.Φ0 p.1 = S0 p.2) (hdraw : DrawT (defBody I.dr.2)) (hd : DoesAll I.v0 I.Ψ I.defs) : Gf (I.T K mg) I.v0 P w base (2 + lvAll I.defs) (nmAll I.defs I.nm0) I.L.rn I.L.bt I.L.gl := by
  unfold LawIn.ck at hck
  simp only [Bool.and_eq_true] at hck
  obtain ⟨⟨⟨⟨⟨⟨⟨⟨⟨⟨⟨⟨⟨⟨c1, c2⟩, c3⟩, c4⟩, c5⟩, c6⟩, c7⟩, c8⟩, c9⟩, c10⟩, c11⟩, c12⟩, c13⟩, c14⟩, c15⟩ := hck
  obtain ⟨_, x2, x3, x4, x5, x6, x7, x9, x8⟩ := S.exs_
  have mem : ∀ x ∈ I.b :: I.xs.map XIn.c ++ I.defs.map DefE.x ++ (["_law_pen", "_law_draw", "law"] : List Str), x ∈ I.glos := fun x hx =>
    List.mem_append_left _ (List.mem_append_left _ (List.mem_append_left _ (List.mem_append_left _ (List.mem_append_left _ hx))))
  have free : ∀ x ∈ I.frees, (I.T K mg).mg x = none := S.f
  have g1 : Gf (I.T K mg) I.v0 P w base 2 [] I.L.rn I.L.bt I.L.gl := by
    refine gf0 (b := I.b) I.xs (fun _ _ _ _ _ _ z => z) rfl c1 (fun x hx => ⟨?_, List.all_eq_true.mp c2 x hx, x4 x hx, S.g _ (mem _ ?_)⟩) x3 (S.g _ (mem _ ?_)) (fun x hx => free x ?_) (fun x hx => ⟨_, S.g x ?_⟩) (kitB_ok x5 fun c hc => S.g c ?_) (fun i x h => ?_)
    · exact S.d x.d (by unfold LawIn.fn; simp only [List.mem_append, List.mem_map]; exact .inl (.inl (.inl (.inl ⟨x, hx, rfl⟩))))
    · simp only [List.mem_append, List.mem_cons, List.mem_map]
      exact .inl (.inl (.inr ⟨x, hx, rfl⟩))
    · simp
    · unfold LawIn.frees; exact List.mem_append.mpr (.inl hx)
    · unfold LawIn.glos; simp only [List.mem_append]; exact .inl (.inl (.inr hx))
    · unfold LawIn.glos; simp only [List.mem_append]; exact .inl (.inr hc)
    · have := (x8 _ (mem_lk h)).resolve_left (by simp)
      obtain ⟨t, et⟩ := S.i x _ this
      exact ⟨t, by have e : (((1000000 + i : Nat) : Int) - 1000000) = (i : Int) := by omega
                   rw [e] at et; exact et⟩
  have g15 : Gf (I.T K mg) I.v0 P w base 2 I.c0 I.L.rn I.L.bt I.L.gl := by
    have : ∀ l : List (Nat × Str), (∀ p ∈ l, p ∈ I.c0) → Gf (I.T K mg) I.v0 P w base 2 l I.L.rn I.L.bt I.L.gl := by
      intro l
      induction l with
      | nil => intro _; exact g1
      | cons p l ih =>
        intro hl
        have hp := hl p List.mem_cons_self
        obtain ⟨y1, y2⟩ := x9 p hp
        unfold LawIn.c0B at y2
        simp only [Bool.and_eq_true] at y2
        have hm : (I.T K mg).mg p.2 = some (.ref (He.ga K p.2)) := S.g p.2 (by unfold LawIn.glos; simp only [List.mem_append]; exact .inl (.inr y1))
        refine (ih fun i hi => hl i (List.mem_cons_of_mem _ hi)).put (j := p.1) (x := p.2) hm (.inl y2.2) ?_
        show FnV _ _ _ _ _ _ _ (spD _ (I.Φ0 p.1))
        rw [hc0 p hp]
        exact cls0_fnV y2.1.1 (He.eqO_ok y2.1.2) hm (g1.kit.cls p.2 y1 _ hm)
    exact this I.c0 fun _ h => h
  have g2 : Gf (I.T K mg) I.v0 P w base 2 ((I.gcd.map fun j => (j, ("gcd" : Str))) ++ I.c0) I.L.rn I.L.bt I.L.gl := by
    have : ∀ l : List Nat, (∀ j ∈ l, j ∈ I.gcd) → Gf (I.T K mg) I.v0 P w base 2 ((l.map fun j => (j, ("gcd" : Str))) ++ I.c0) I.L.rn I.L.bt I.L.gl := by
      intro l
      induction l with
      | nil => intro _; exact g15
      | cons j l ih =>
        intro hl
        have hj := hl j List.mem_cons_self
        refine (ih fun i hi => hl i (List.mem_cons_of_mem _ hi)).put (gcd_mg S (x2 j hj)) (.inr ⟨_, rfl⟩) ?_
        show FnV _ _ _ _ _ _ _ (spD _ (I.Φ0 j))
        rw [hgc j hj]
        exact fn_gcd
    exact this I.gcd fun _ h => h
  obtain ⟨fd, F, hm⟩ := S.st (x := "_law_draw") (st := I.dr.2) (by unfold LawIn.fn; simp) (mem _ (by simp))
  have D : DrawSc (I.T K mg) (defScope I.dr.2) := by
    unfold LawIn.drawB at c4
    simp only [Bool.and_eq_true, List.all_eq_true, beq_iff_eq] at c4
    obtain ⟨⟨d1, d2⟩, d3⟩ := c4
    refine ⟨scB_ok d1, d2, fun x hx => ⟨d3 x hx, free x ?_⟩⟩
    unfold LawIn.frees
    simp only [List.mem_append, List.mem_cons, List.not_mem_nil, or_false] at hx ⊢
    rcases hx with rfl | rfl
    · exact .inr (.inl rfl)
    · exact .inr (.inr (.inl rfl))
  have g3 : Gf (I.T K mg) I.v0 P w base 2 I.nm0 I.L.rn I.L.bt I.L.gl := by
    refine g2.put hm (.inl F.kp) ?_
    show FnV _ _ _ _ _ _ _ (spD _ (I.Φ0 I.dr.1))
    rw [hdr]
    exact (fn_draw (lv := 1) F D hdraw).fnV (F.bindsN fun _ _ _ _ _ _ us hl => parN_bind c5 hl)
  refine g3.chain I.defs c3 (fun e he => ?_) hd
  have inF : e.d ∈ I.fn := by unfold LawIn.fn; simp only [List.mem_append, List.mem_map]; exact .inl (.inl (.inl (.inr ⟨e, he, rfl⟩)))
  have inG : e.x ∈ I.glos := mem _ (by
    simp only [List.mem_append, List.mem_cons, List.mem_map]
    exact .inl (.inr ⟨e, he, rfl⟩))
  have hF := S.d _ inF
  unfold StandsE
  unfold DefE.d at hF
  cases hcl : e.cl with
  | none =>
    simp only [hcl] at hF
    obtain ⟨fd, F⟩ := hF
    exact ⟨fd, F, S.g _ inG⟩
  | some z =>
    obtain ⟨q, k, fl⟩ := z
    simp only [hcl] at hF
    obtain ⟨fd, F⟩ := hF
    exact ⟨⟨fd, F⟩, S.g _ inG, (x7 e he).resolve_left (by rw [hcl]; simp)⟩
/-- .. with closures -/
theorem law_g1 (g : Gf (I.T K mg) I.v0 P w base (2 + lvAll I.defs) (nmAll I.defs I.nm0) I.L.rn I.L.bt I.L.gl) (hnm : I.L.nm = nmAll I.defs I.nm0) (hcn : I.ckNm = true) : Gf (I.T K mg) I.v P w base (3 + lvAll I.defs) I.L.nm I.L.rn I.L.bt I.L.gl := by
  rw [← hnm] at g
  refine (g.up (by omega)).withClo (fun j x h => ?_) rfl rfl fun n caps a => ?_
  · rw [hnm] at h
    have := List.all_eq_true.mp hcn _ (mem_lk h)
    simp only [Bool.and_eq_true, Bool.not_eq_true'] at this
    show I.Φ j = I.Φ0 j
    unfold LawIn.Φ
    rw [this.1, this.2]
    rfl
  have e : 3 + lvAll I.defs = (2 + lvAll I.defs) + 1 := by omega
  rw [e]
  exact clo_fnV (v := I.v0) (d := I.L.ld n) g (fun q ps body sc h => lamB_ok rfl h) fun _ _ _ _ h => h
/-- the defs that are handed closures -/
theorem law_ns (S : LawSay I K mg) (hck : I.ckDue = true) (hnm : I.L.nm = nmAll I.defs I.nm0) (g : Gf (I.T K mg) I.v P w base (3 + lvAll I.defs) I.L.nm I.L.rn I.L.bt I.L.gl) (hdue : ∀ (v : Ev) (tab : List Clw) (e : DefE) (j : Nat), I.due = [e] → I.fl.map (·.1) = [j] → v.Φ j = faultS v tab → Does v e.N e.m e.rs (dueS v tab)) :
    ∀ j y, I.L.ns.lookup j = some y → SFn (I.T K mg) P w base (5 + lvAll I.defs) y (I.v.Φ j) := by
  intro j y hj
  unfold LawIn.ckDue at hck
  split at hck
  · rename_i j0 st e efl edue
    simp only [Bool.and_eq_true] at hck
    obtain ⟨⟨⟨c0, c1⟩, c2⟩, c3⟩ := hck
    unfold LawIn.faultB at c1
    simp only [Bool.and_eq_true, beq_iff_eq, List.all_eq_true, Bool.not_eq_true'] at c1
    obtain ⟨⟨⟨⟨⟨f1, f2⟩, f3⟩, f4⟩, f5⟩, f6⟩ := c1
    obtain ⟨_, _, _, _, _, x6, _⟩ := S.exs_
    obtain ⟨fd, F, hm⟩ := S.st (x := "_law_fault") (st := st) (by unfold LawIn.fn; simp only [List.mem_append, List.mem_map]; exact .inl (.inr ⟨(j0, st), by rw [efl]; simp, rfl⟩)) (by unfold LawIn.glos; simp [efl])
    have hT : TabOk (I.T K mg) I.tab := clwB_ok x6 fun e he => S.g _ (by unfold LawIn.glos; simp only [List.mem_append, List.mem_map]; exact .inr ⟨e, he, rfl⟩)
    have sc : FaultSc I.tab (defScope st) := ⟨scB_ok f1, f2, f3, fun c hc => by
      obtain ⟨e, he, rfl⟩ := List.mem_map.mp hc
      exact f4 e he⟩
    split at f6
    · rename_i wn p1 p2 p3 h0 hds p4 k p5 p6 hb
      simp only [Bool.and_eq_true, beq_iff_eq] at f6
      obtain ⟨rfl, f7⟩ := f6
      have FG := fn_fault (lv := 3 + lvAll I.defs) F sc hT g.clo hb f7
      have e0 : I.Φ j0 = faultS I.vc I.tab := by unfold LawIn.Φ; rw [if_pos (by rw [efl]; simp)]
      have g2 : Gf (I.T K mg) I.v P w base (4 + lvAll I.defs) ((j0, "_law_fault") :: I.L.nm) I.L.rn I.L.bt I.L.gl := by
        refine (g.up (by omega)).put hm (.inl F.kp) ?_
        show FnV _ _ _ _ _ _ _ (spD _ (I.Φ j0))
        rw [e0, show 4 + lvAll I.defs = 3 + lvAll I.defs + 1 by omega]
        exact FG.fnV (F.bindsN fun _ _ _ _ _ _ us hl => parN_bind f5 hl)
      have hp := List.all_eq_true.mp c3 _ (mem_lk hj)
      simp only [Bool.and_eq_true, beq_iff_eq] at hp
      obtain ⟨rfl, rfl⟩ := hp
      simp only [DefE.ck, Bool.and_eq_true, decide_eq_true_eq] at c2
      obtain ⟨⟨⟨⟨_, h1⟩, h2⟩, h3⟩, h4⟩ := c2
      obtain ⟨fd2, F2, hm2⟩ := S.st (x := e.x) (st := e.st) (by unfold LawIn.fn; simp only [List.mem_append, List.mem_map]; exact .inr ⟨e, by rw [edue]; simp, rfl⟩) (by unfold LawIn.glos; simp [edue])
      have hlen : (e.N.take e.m).length = e.m := by rw [List.length_take]; omega
      have e1 : I.Φ e.j = dueS I.vc I.tab := by
        unfold LawIn.Φ
        rw [if_neg (by rw [efl]; simp only [List.any_cons, List.any_nil, Bool.or_false, beq_iff_eq]; intro z; rw [z] at c0; simp at c0), if_pos (by rw [edue]; simp)]
      have hd := hdue I.v I.tab e j0 edue (by rw [efl]; rfl) e0
      rw [← hnm] at h4
      refine ⟨_, fd2, e.N.take e.m, hm2, F2.kp, F2.bindsN fun _ _ _ _ _ _ us hl => parN_bind h2 hl, ?_⟩
      rw [show 5 + lvAll I.defs = 4 + lvAll I.defs + 1 by omega]
      show FnG _ _ _ _ _ _ _ _ _ (spD _ (I.Φ e.j))
      rw [e1]
      exact fnD_of F2 (scB_ok h1) g2 h4 (by rw [hlen]; exact hd)
    · cases f6
  · rw [List.isEmpty_iff.mp hck] at hj; cases hj
/-- the law's row -/
theorem law_walk (S : LawSay I K mg) (hck : I.ck = true) (hcd : I.ckDue = true) (hnm : I.L.nm = nmAll I.defs I.nm0) (hsc : I.L.sc = defScope I.law) (hdr : I.Φ0 I.dr.1 = drawS) (hgc : ∀ j ∈ I.gcd, I.Φ0 j = gcdS) (hc0 : ∀ p ∈ I.c0, I.Φ0 p.1 = S0 p.2) (hcn : I.ckNm = true) (hdue : ∀ (v : Ev) (tab : List Clw) (e : DefE) (j : Nat), I.due = [e] → I.fl.map (·.1) = [j] → v.Φ j = faultS v tab → Does v e.N e.m e.rs (dueS v tab)) (hdraw : DrawT (defBody I.dr.2)) (hpen : PenT (defBody I.pen))
    (hd : DoesAll I.v0 I.Ψ I.defs) (hl : LawDoes I.v I.L.N I.r) :
    ∃ fd, (∀ (s : Shared) (u : Value), BindsTo s fd ⟨[u], []⟩ [("script", u)]) ∧ (He.cT K ("law", none)).1 = He.codeOf K ("law", none) ∧ ∀ (P : Program) (w : World) (base : Heap), K.In base → base.Ns mainGlobals mg → LamX.TabB base mg (He.cT K ("law", none)).1 (He.cT K ("law", none)).2 →
      FnG P w K mg base (6 + lvAll I.defs) (He.ga K "law") fd ["script"] (lawSp K [(He.cT K ("law", none)).2]) := by
  have hck' := hck
  unfold LawIn.ck at hck
  simp only [Bool.and_eq_true, decide_eq_true_eq, beq_iff_eq] at hck
  obtain ⟨⟨⟨⟨⟨⟨⟨⟨⟨⟨⟨⟨⟨⟨c1, c2⟩, c3⟩, c4⟩, c5⟩, c6⟩, c7⟩, c8⟩, c9⟩, c10⟩, c11⟩, c12⟩, c13⟩, c14⟩, c15⟩ := hck
  obtain ⟨fd, F, hm⟩ := S.st (x := "law") (st := I.law) (by unfold LawIn.fn; simp) (by unfold LawIn.glos; simp)
  obtain ⟨pfd, pF, pm⟩ := S.st (x := "_law_pen") (st := I.pen) (by unfold LawIn.fn; simp) (by unfold LawIn.glos; simp)
  have free : ∀ x ∈ I.frees, (I.T K mg).mg x = none := S.f
  have D : PenSc (I.T K mg) (defScope I.pen) := by
    unfold LawIn.penB at c6
    simp only [Bool.and_eq_true, List.all_eq_true, beq_iff_eq] at c6
    obtain ⟨⟨d1, d2⟩, d3⟩ := c6
    refine ⟨scB_ok d1, d2, fun x hx => ⟨d3 x hx, free x ?_⟩⟩
    unfold LawIn.frees
    simp only [List.mem_append, List.mem_cons, List.not_mem_nil, or_false] at hx ⊢
    rcases hx with rfl | rfl
    · exact .inr (.inr (.inr rfl))
    · exact .inr (.inr (.inl rfl))
  have hcode : fd.code = .ref (He.cT K ("law", none)).1 := by
    obtain ⟨oc, od, dV, kV, doc, pm, an, cdv, ct, osl, e, lk, hcd, _, _⟩ := F.ex
    obtain ⟨c, rfl⟩ := He.codeIn_ref hcd
    have : He.codeOf K ("law", none) = c := He.codeOf_eq (p := ("law", none)) lk (by rw [e])
    show fd.code = .ref (He.codeOf K ("law", none))
    rw [this, e]
  refine ⟨fd, fun s u => F.bindsA (fun _ _ _ _ _ _ us hl => parN_bind c8 hl) s [u] rfl, rfl, fun P w base hin hns TB => ?_⟩
  have g0 := law_g0 (P := P) (w := w) (base := base) S hck' hdr hgc hc0 hdraw hd
  have g1 := law_g1 g0 hnm hcn
  have hS := law_ns S hcd hnm g1 hdue
  have pG : FnG P w (I.T K mg).K (I.T K mg).mg base (5 + lvAll I.defs) (He.ga K "_law_pen") pfd ["script"] (penSp (I.T K mg).K) := by
    rw [show 5 + lvAll I.defs = 4 + lvAll I.defs + 1 by omega]
    exact fn_pen (T := I.T K mg) pF D hpen
  split at c15
  · rename_i p q1 f q2 s q3 q4 q5 st hb
    simp only [Bool.and_eq_true, beq_iff_eq] at c15
    obtain ⟨⟨⟨rfl, rfl⟩, rfl⟩, hok⟩ := c15
    rw [show 6 + lvAll I.defs = 5 + lvAll I.defs + 1 by omega]
    rw [← hsc] at F
    exact fn_law (T := I.T K mg) (v := I.v) (L := I.L) F (scB_ok c9) (g1.up (by omega)) rfl pm pF.kp pG (pF.bindsN fun _ _ _ _ _ _ us hl => parN_bind c7 hl) rfl rfl (fun _ h => by cases h) rfl TB hcode hS ⟨c10, c11, c12, c13, c14⟩ hb hok hl
  · cases c15
/-- what the head's end asks -/
theorem law_rowF {l : PySem.W.OpenLaw} {d : DefRec} {n : Nat} (hdn : d.name = ("law" : Str)) (hck : I.ck = true) (hcd : I.ckDue = true) (hnm : I.L.nm = nmAll I.defs I.nm0) (hsc : I.L.sc = defScope I.law) (hdr : I.Φ0 I.dr.1 = drawS) (hgc : ∀ j ∈ I.gcd, I.Φ0 j = gcdS) (hc0 : ∀ p ∈ I.c0, I.Φ0 p.1 = S0 p.2) (hcn : I.ckNm = true) (hdue : ∀ (v : Ev) (tab : List Clw) (e : DefE) (j : Nat), I.due = [e] → I.fl.map (·.1) = [j] → v.Φ j = faultS v tab → Does v e.N e.m e.rs (dueS v tab)) (hdraw : DrawT (defBody I.dr.2)) (hpen : PenT (defBody I.pen))
    (hd : DoesAll I.v0 I.Ψ I.defs) (hl : LawDoes I.v I.L.N I.r) (w : World) (mg : Str → Option Value) (fa : Addr) (h : Heap) (Y : (hookM n I.fa I.fn [("law", none)] I.ex).says w h) (G : h.Ns mainGlobals mg) (hm : mg d.name = some (.ref fa)) :
    ∃ (K : PySem.W.Frag) (fd : FuncData) (cs : List (Addr × Addr)) (sp : Sp), K.In h ∧ (∀ p ∈ cs, h.get? p.2 = some { cls := .none, data := .fields #[] }) ∧ (∀ p ∈ cs, K.lookup p.2 = none) ∧
      (∀ p ∈ cs, PySem.W.CodeHd h p.1 p.2) ∧ (∃ o es n, h.get? sysModules = some o ∧ o.data = .dict es n) ∧ K.lookup sysModules = none ∧ (∀ (s : Shared) (u : Value), BindsTo s fd ⟨[u], []⟩ [("script", u)]) ∧ LawSp K 63 (cs.map (·.2)) sp ∧
      ∀ base : Heap, K.In base → base.Ns mainGlobals mg → (∀ p ∈ cs, LamX.TabB base mg p.1 p.2) → FnG l.prog w K mg base (6 + lvAll I.defs) fa fd ["script"] sp := by
  obtain ⟨K, KX, Y⟩ := Y
  have S : LawSay I K mg := lawSay_of KX G Y
  have hg : mg "law" = some (.ref (He.ga K "law")) := S.g _ (by unfold LawIn.glos; simp)
  rw [hdn, hg] at hm
  cases hm
  obtain ⟨fd, hb, _, hF⟩ := law_walk S hck hcd hnm hsc hdr hgc hc0 hcn hdue hdraw hpen hd hl
  have one : ∀ {Pr : Addr × Addr → Prop}, Pr (He.cT K ("law", none)) → ∀ p ∈ [He.cT K ("law", none)], Pr p := fun h p hp => by
    rw [List.mem_singleton.mp hp]; exact h
  have mem : (("law", none) : He.Defn) ∈ [(("law", none) : He.Defn)] := List.mem_singleton.mpr rfl
  exact ⟨K, fd, [He.cT K ("law", none)], _, KX, one (Pr := fun p => h.get? p.2 = _) (Y.empty _ mem), one (Pr := fun p => K.lookup p.2 = none) (Y.hd _ mem).2, one (Pr := fun p => PySem.W.CodeHd h p.1 p.2) (PySem.W.codeHd_of_K KX (Y.hd _ mem).1), Y.sys, S.exs_.1, hb, lawSp_ok, fun base k1 k2 k3 => hF _ _ _ k1 k2 (k3 _ (List.mem_singleton.mpr rfl))⟩
end
end Sh
namespace Sh
open L2 PySem PySem.Spec PyProof.Rows

def rDue (j : Nat) : RSs := .cons (.ret (.b1 .all (.lc (.seq (.var 0)) (.tp (.cons (.nm 1) (.cons (.nm 2) .nil))) [1, 2] .yes (.b2 (.cmp .Eq) (.b1 .repr (.call j (.cons (.var 1) .nil))) (.b1 .repr (.var 2)))))) .nil
theorem due_go {v : Ev} {tab : List Clw} {j b : Nat} (hj : v.Φ j = faultS v tab) {d0 : D} {K : List D → En → Prop} : ∀ (l : List (Nat × List D × D)) (acc : List D), (∀ t ∈ l, DueD v tab b t) → acc.length + l.length < Z → K (acc ++ List.replicate l.length (.bl true)) ⟨[.sh d0, .no, .no], b⟩ →
    lcGo (.tp (.cons (.nm 1) (.cons (.nm 2) .nil))) (ec v noX .yes) (ev v noX (.b2 (.cmp .Eq) (.b1 .repr (.call j (.cons (.var 1) .nil))) (.b1 .repr (.var 2)))) [1, 2] (l.map fun t => .tup [.clo t.1 t.2.1, t.2.2]) acc ⟨[.sh d0, .no, .no], b⟩ K
  | [], acc, _, _, h => by simpa [lcGo] using h
  | t :: l, acc, hd, hl, h => by
    obtain ⟨⟨p, e1, e2, e3, e4⟩, hf⟩ := hd t List.mem_cons_self
    rw [List.length_cons] at hl
    have next : acc.length < Z ∧ lcGo (.tp (.cons (.nm 1) (.cons (.nm 2) .nil))) (ec v noX .yes) (ev v noX (.b2 (.cmp .Eq) (.b1 .repr (.call j (.cons (.var 1) .nil))) (.b1 .repr (.var 2)))) [1, 2] (l.map fun t => .tup [.clo t.1 t.2.1, t.2.2]) (acc ++ [.bl true]) ⟨[.sh d0, .no, .no], b⟩ K := by
      refine ⟨by omega, due_go hj l _ (fun t ht => hd t (List.mem_cons_of_mem _ ht)) (by simp; omega) ?_⟩
      rw [List.append_assoc]
      exact h
    refine ⟨_, rfl, ?_⟩
    show v.Φ j [.clo t.1 t.2.1] b _ noX
    rw [hj]
    exact hf _ ⟨t.2.2, .ret (.str p.shown), rfl, ⟨p, e1, e2, e3, e4, rfl⟩, t.2.2, .ret (.str p.shown), rfl, ⟨p, e1, e2, e3, e4, rfl⟩, .str p.shown, .str p.shown, .ret (.bl true), rfl, rfl, .inr ⟨p.shown, p.shown, rfl, rfl, by simp⟩, next⟩
theorem does_due {v : Ev} {tab : List Clw} {j : Nat} {N : List Str} (hN : N.length = 3) (hj : v.Φ j = faultS v tab) : Does v N 1 (rDue j) (dueS v tab) := by
  rintro ds b KQ KE ⟨l, rfl, hl, hd, hK⟩
  refine ⟨rfl, ?_⟩
  rw [hN]
  show dUn fAll (ev v KE (.lc _ _ _ _ _)) _ _
  refine ⟨_, Or.inl rfl, fun _ => ⟨fun i hi d e => ?_, ?_⟩⟩
  · simp only [List.mem_cons, List.not_mem_nil, or_false] at hi
    rcases hi with rfl | rfl <;> simp [List.replicate] at e
  refine due_go hj l [] hd (by simpa using hl) ?_
  refine ⟨_, _, rfl, ⟨List.replicate l.length true, by simp, rfl⟩, ?_⟩
  have e : (List.replicate l.length true).all id = true := by simp
  rw [e]
  exact hK
end Sh
namespace Sh
open L2 PySem PySem.Spec PyProof.Rows

section
variable {n : En} {d : D} {i : Nat} {l : List D} {fr : Bool} {K : D → En → Prop} {Ks : En → Prop} {Ko : Ko}
theorem fet_val : fet n (.val d) = some d := rfl
theorem fet_tmp : fet n (.tmp d) = some d := rfl
theorem fet_slt : fet n (.slt i) = match n.ρ[i]? with
    | some (.sh d) => some d
    | some (.ow d) => some d
    | _ => none := rfl
theorem fet_if : fet n (if fr = true then .tmp d else .val d) = some d := by cases fr <;> rfl
theorem frz_val : frz n (.val d) K = K d n := rfl
theorem frz_tmp : frz n (.tmp d) K = K d n := rfl
theorem frz_if : frz n (if fr = true then .tmp d else .val d) K = K d n := by cases fr <;> rfl
theorem frz_slt : frz n (.slt i) K = match n.ρ[i]? with
  | some (.sh d) => K d n
  | some (.ow d) => K d { n with ρ := n.ρ.set i (.sh d) }
  | _ => False := rfl
theorem resOf_ret : resOf (.ret d) = .val d := rfl
theorem resOf_newT : resOf (.newT l) = .val (.tup l) := rfl
theorem resOf_newL : resOf (.newL l) = .tmp (.lst l) := rfl
theorem retK_val : retK Ko (.val d) n = Ko.rt d false n.b := rfl
theorem retK_tmp : retK Ko (.tmp d) n = Ko.rt d true n.b := rfl
theorem retK_if : retK Ko (if fr = true then .tmp d else .val d) n = Ko.rt d fr n.b := by cases fr <;> rfl
theorem retK_slt : retK Ko (.slt i) n = match n.ρ[i]? with
    | some (.sh d) => Ko.rt d false n.b
    | some (.ow d) => Ko.rt d true n.b
    | _ => False := rfl
theorem sto_val : sto i (.val d) n Ks = Ks { n with ρ := n.ρ.set i (.sh d) } := rfl
theorem sto_tmp : sto i (.tmp d) n Ks = Ks { n with ρ := n.ρ.set i (.ow d) } := rfl
theorem sto_slt {j : Nat} : sto i (.slt j) n Ks = frz n (.slt j) fun d n1 => Ks { n1 with ρ := n1.ρ.set i (.sh d) } := rfl
theorem norm_val {K : Rs → En → Prop} : norm (.val d) n K = K (.val d) n := rfl
theorem norm_tmp {K : Rs → En → Prop} : norm (.tmp d) n K = K (.tmp d) n := rfl
theorem norm_if {K : Rs → En → Prop} : norm (if fr = true then .tmp d else .val d) n K = K (if fr = true then .tmp d else .val d) n := by cases fr <;> rfl
theorem norm_slt {K : Rs → En → Prop} : norm (.slt i) n K = frz n (.slt i) fun d n1 => K (.val d) n1 := rfl
end
theorem atI_nat {α : Type} (l : List α) (i : Nat) : atI l (i : Int) = l[i]? := by
  unfold atI ixN
  by_cases h : i < l.length
  · simp [h]
  · have : ¬ ((i : Int) < l.length) := by omega
    simp [h]
theorem atI_0 {α : Type} (l : List α) : atI l 0 = l[0]? := atI_nat l 0
theorem atI_1 {α : Type} (l : List α) : atI l 1 = l[1]? := atI_nat l 1
theorem atI_2 {α : Type} (l : List α) : atI l 2 = l[2]? := atI_nat l 2
theorem atI_3 {α : Type} (l : List α) : atI l 3 = l[3]? := atI_nat l 3
theorem eqv_int (i j : Int) : PyData.eqv (.int i) (.int j) = decide (i = j) := by
  rw [Bool.eq_iff_iff]; simp [PyData.eqv]
theorem fEq_int {neg : Bool} {i j : Int} {e : Ef} : fEq neg (.int i) (.int j) e ↔ e = .ret (.bl (if neg then !decide (i = j) else decide (i = j))) := by
  constructor
  · rintro (⟨p, q, h1, h2, _, _, rfl⟩ | ⟨a, b, h, _⟩)
    · cases h1; cases h2; rw [eqv_int]
    · cases h
  · rintro rfl
    exact .inl ⟨.int i, .int j, rfl, rfl, by simp [SeqAt.shaped, PyData.canLay0, PyData.depth], by simp [SeqAt.shaped, PyData.canLay0, PyData.depth], by rw [eqv_int]⟩
theorem strs_ok {a : Str} (h : SeqAt.shaped (.str a) = true) : True := trivial
theorem fEq_str {neg : Bool} {i j : Str} {e : Ef} : fEq neg (.str i) (.str j) e ↔ e = .ret (.bl (if neg then !decide (i = j) else decide (i = j))) := by
  constructor
  · rintro (⟨p, q, h1, h2, _, _, rfl⟩ | ⟨a, b, h1, h2, rfl⟩)
    · cases h1; cases h2
      have : PyData.eqv (.str i) (.str j) = decide (i = j) := by rw [Bool.eq_iff_iff]; simp [PyData.eqv]
      rw [this]
    · cases h1; cases h2; rfl
  · rintro rfl
    exact .inr ⟨i, j, rfl, rfl, rfl⟩
theorem fIsN_bl {neg : Bool} {i j : Bool} {e : Ef} : fIsN neg (.bl i) (.bl j) e ↔ e = .ret (.bl (if neg then !decide (i = j) else decide (i = j))) := by
  constructor
  · rintro (⟨a, b, h1, h2, rfl⟩ | ⟨h, _⟩)
    · cases h1; cases h2; rfl
    · cases h
  · rintro rfl
    exact .inl ⟨i, j, rfl, rfl, rfl⟩
/-- a pick: any of these -/
def pickS : DSp := fun ds b KQ _ => ∃ (l : List D) (b' : Nat), (ds = [.pen, .lst l] ∨ ds = [.pen, .tup l]) ∧ 0 < l.length ∧ l.length < 1073741824 ∧ b = b' + 1 ∧ ∀ d ∈ l, KQ d false b'
def rPick (j : Nat) : RSs := .cons (.ret (.b2 .ix (.var 1) (.call j (.cons (.var 0) (.cons (.b1 .len (.var 1)) .nil))))) .nil
theorem does_pick {v : Ev} {j : Nat} {N : List Str} (hN : N.length = 2) (hj : v.Φ j = drawS) : Does v N 2 (rPick j) pickS := by
  rintro ds b KQ KE ⟨l, b', hds, h0, h1, rfl, hK⟩
  rw [hN]
  have key : ∀ r : Int, 0 ≤ r → r < (l.length : Int) → ∃ d, atI l r = some d ∧ KQ d false b' := fun r r1 r2 => by
    obtain ⟨i, rfl⟩ := Int.eq_ofNat_of_zero_le r1
    have hi : i < l.length := by omega
    exact ⟨l[i], by rw [atI_nat, List.getElem?_eq_getElem hi], hK _ (List.getElem_mem hi)⟩
  rcases hds with rfl | rfl
  all_goals
    refine ⟨rfl, ?_⟩
    unfold rPick
    simp [ev, evs, ec, eo, ei, exs, ex, evr, fB1, fB2, fOp, fCmp, fI, fB, fAdd, fSub, fMul, fDiv, fMod, fNeg, fAbs, fInt, fLen, fIx, fIsi, dBin, dUn, dVar, dC, dTup, dLst, dCons, dNil, dtOf, dAnd, dOr, dNot, dtAnd, dtOr, dtNot, dIte, dCall, dYes, fet_val, fet_tmp, fet_slt, fet_if, frz_val, frz_tmp, frz_slt, frz_if, resOf_ret, resOf_newT, resOf_newL, retK_val, retK_tmp, retK_slt, retK_if, sSeq, sNx, sBk, sIf, sRet, sRetN, sAsg, sto_val, sto_tmp, sto_slt, sPar, rCons, rNil, norm_val, norm_tmp, norm_slt, norm_if, stoAll, sEx, dTy, ty1, atI_0, atI_1, atI_2, atI_3, fEq_int, fEq_str, fIsN_bl, and_assoc]
    rw [hj]
    refine ⟨l.length, b', rfl, by omega, by omega, rfl, fun r r1 r2 => ?_⟩
    obtain ⟨d, e, k⟩ := key r r1 r2
    simp [fet_val, resOf_ret, retK_val, e, k]
end Sh
namespace Sh
open L2 PySem PySem.Spec PyProof.Rows

mutual
def D.shw : D → Prop
  | .non => True
  | .bl _ => True
  | .int i => i.natAbs < 10 ^ 12
  | .str x => (x.cps.toList.all fun c => decide (c < 16 ^ 8)) = true
  | .tup l => shwL l
  | .lst l => shwL l
  | .dct _ [] => True
  | _ => False
def shwL : List D → Prop
  | [] => True
  | d :: r => d.shw ∧ shwL r
end
mutual
def D.siz : D → Nat
  | .str x => x.cps.size
  | .tup l => sizL l
  | .lst l => sizL l
  | _ => 0
def sizL : List D → Nat
  | [] => 0
  | d :: r => d.siz + 1 + sizL r
end
mutual
def D.dpt : D → Nat
  | .tup l => dptL l + 1
  | .lst l => dptL l + 1
  | .dct _ [] => 1
  | _ => 0
def dptL : List D → Nat
  | [] => 0
  | d :: r => max d.dpt (dptL r)
end
mutual
theorem shw_py : ∀ {d : D}, d.shw → ∃ p, d.pyd = some p ∧ p.showable = true ∧ p.leavesShort 13 = true ∧ p.depth = d.dpt ∧ p.bulk = d.siz
  | .non, _ => ⟨.none, rfl, rfl, rfl, rfl, rfl⟩
  | .bl b, _ => ⟨.bool b, rfl, rfl, rfl, rfl, rfl⟩
  | .int i, h => by
    have h : i.natAbs < 10 ^ 12 := by simpa only [D.shw] using h
    refine ⟨.int i, rfl, ?_, ?_, rfl, rfl⟩
    · have : i.natAbs.log2 < 1920 := by
        by_cases h0 : i.natAbs = 0
        · rw [h0]; decide
        · have : i.natAbs < 2 ^ 40 := Nat.lt_of_lt_of_le h (by decide)
          have := (Nat.log2_lt h0).mpr this
          omega
      simpa only [PyData.showable, decide_eq_true_eq] using this
    · simpa only [PyData.leavesShort, decide_eq_true_eq] using PyData.shown_int_le h
  | .str x, h => ⟨.str x, rfl, rfl, by simpa only [D.shw, PyData.leavesShort] using h, rfl, by simp only [PyData.bulk, D.siz]⟩
  | .tup l, h => by
    obtain ⟨q, e1, e2, e3, e4, e5⟩ := shwL_py (l := l) (by simpa only [D.shw] using h)
    exact ⟨.tuple q, by simp only [D.pyd, e1, Option.map_some], by simpa only [PyData.showable] using e2, by simpa only [PyData.leavesShort] using e3, by simp only [PyData.depth, D.dpt, e4], by simp only [PyData.bulk, D.siz, e5]⟩
  | .lst l, h => by
    obtain ⟨q, e1, e2, e3, e4, e5⟩ := shwL_py (l := l) (by simpa only [D.shw] using h)
    exact ⟨.list q, by simp only [D.pyd, e1, Option.map_some], by simpa only [PyData.showable] using e2, by simpa only [PyData.leavesShort] using e3, by simp only [PyData.depth, D.dpt, e4], by simp only [PyData.bulk, D.siz, e5]⟩
  | .dct _ [], _ => ⟨.dict [], rfl, rfl, rfl, rfl, rfl⟩
  | .dct _ (_ :: _), h => by simp [D.shw] at h
  | .ty _, h => by simp [D.shw] at h
  | .glo _, h => by simp [D.shw] at h
  | .pen, h => by simp [D.shw] at h
  | .ins _ _, h => by simp [D.shw] at h
  | .clo _ _, h => by simp [D.shw] at h
  | .lam _, h => by simp [D.shw] at h
theorem shwL_py : ∀ {l : List D}, shwL l → ∃ q, pydL l = some q ∧ PyData.showableAll q = true ∧ PyData.leavesShortAll 13 q = true ∧ PyData.depthAll q = dptL l ∧ PyData.bulkAll q = sizL l
  | [], _ => ⟨[], rfl, rfl, rfl, rfl, rfl⟩
  | d :: r, h => by
    simp only [shwL] at h
    obtain ⟨p, e1, e2, e3, e4, e5⟩ := shw_py h.1
    obtain ⟨q, k1, k2, k3, k4, k5⟩ := shwL_py h.2
    exact ⟨p :: q, by simp only [pydL, e1, k1, Option.bind_some, Option.map_some], by simp only [PyData.showableAll, e2, k2, Bool.and_self], by simp only [PyData.leavesShortAll, e3, k3, Bool.and_self], by simp only [PyData.depthAll, dptL, e4, k4], by simp only [PyData.bulkAll, sizL, e5, k5]⟩
end
/-- what may be shown -/
def Rp (d : D) : Prop := d.shw ∧ d.dpt ≤ 64 ∧ d.siz ≤ 1000000
def reprD (d : D) : Str := (d.pyd.map PyData.shown).getD default
theorem Rp.ex {d : D} (h : Rp d) : ∃ p, d.pyd = some p ∧ p.showable = true ∧ p.depth ≤ 64 ∧ p.shown.length ≤ Z := by
  obtain ⟨p, e1, e2, e3, e4, e5⟩ := shw_py h.1
  refine ⟨p, e1, e2, by rw [e4]; exact h.2.1, ?_⟩
  have := PyData.shown_le_bulk 13 (by decide) p e3
  rw [e5] at this
  have := h.2.2
  unfold Z
  omega
theorem fRepr_iff {d : D} {e : Ef} (h : Rp d) : fRepr d e ↔ e = .ret (.str (reprD d)) := by
  obtain ⟨p, e1, e2, e3, e4⟩ := h.ex
  have er : reprD d = p.shown := by unfold reprD; rw [e1]; rfl
  rw [er]
  constructor
  · rintro ⟨q, k1, _, _, _, rfl⟩
    rw [e1] at k1; cases k1; rfl
  · rintro rfl
    exact ⟨p, e1, e2, e3, e4, rfl⟩
end Sh
namespace Sh
open L2 PySem PySem.Spec PyProof.Rows

def Pr (v : Ev) (Ex : Xc → Nat → Prop) (e : RX) (n : En) (r : Rs) : Prop := ∀ K : Rs → En → Prop, K r n → ev v Ex e n K
def PrL (v : Ev) (Ex : Xc → Nat → Prop) (l : RXs) (n : En) (ds : List D) : Prop := ∀ K : List D → En → Prop, K ds n → evs v Ex l n K
def PrC (v : Ev) (Ex : Xc → Nat → Prop) (c : RC) (n : En) (b : Bool) : Prop := ∀ K : Bool → En → Prop, K b n → ec v Ex c n K
def rd : Rs → Option D
  | .val d => some d
  | .tmp d => some d
  | _ => none
section
variable {v : Ev} {Ex : Xc → Nat → Prop} {n : En} {d d1 d2 : D} {r r1 r2 : Rs} {a c x y : RX} {l : RXs} {ds : List D} {i k : Nat} {e : Ef} {f : B1} {g : B2}
theorem rd_fet (h : rd r = some d) : fet n r = some d := by cases r <;> cases h <;> rfl
theorem rd_frz {K : D → En → Prop} (h : rd r = some d) (q : K d n) : frz n r K := by cases r <;> cases h <;> exact q
theorem Pr.var (h : n.ρ[i]? = some (.sh d)) : Pr v Ex (.var i) n (.val d) := fun K q => by
  show dVar i n K
  unfold dVar; rw [h]; exact q
theorem Pr.own (h : n.ρ[i]? = some (.ow d)) : Pr v Ex (.var i) n (.slt i) := fun K q => by
  show dVar i n K
  unfold dVar; rw [h]; exact q
theorem fet_own (h : n.ρ[i]? = some (.ow d)) : fet n (.slt i) = some d := by rw [fet_slt, h]
theorem Pr.cst : Pr v Ex (.c d) n (.val d) := fun _ q => q
theorem Pr.b1 (h : Pr v Ex a n r) (hr : fet n r = some d) (he : fB1 v f d e) : Pr v Ex (.b1 f a) n (resOf e) := fun K q => h _ ⟨d, e, hr, he, q⟩
theorem Pr.b2 (h : Pr v Ex a n r1) (k : Pr v Ex c n r2) (h1 : fet n r1 = some d1) (h2 : fet n r2 = some d2) (he : fB2 g d1 d2 e) : Pr v Ex (.b2 g a c) n (resOf e) := fun K q => h _ (k _ ⟨d1, d2, e, h1, h2, he, q⟩)
theorem PrL.nil : PrL v Ex .nil n [] := fun _ q => q
theorem PrL.cons (h : Pr v Ex a n r) (hr : rd r = some d) (k : PrL v Ex l n ds) : PrL v Ex (.cons a l) n (d :: ds) := fun K q => h _ (rd_frz hr (k _ q))
theorem Pr.tup (h : PrL v Ex l n ds) (hz : ds.length ≤ Z) : Pr v Ex (.tup l) n (.val (.tup ds)) := fun K q => h _ ⟨hz, q⟩
theorem Pr.lst (h : PrL v Ex l n ds) (hz : ds.length ≤ Z) : Pr v Ex (.lst l) n (.tmp (.lst ds)) := fun K q => h _ ⟨hz, q⟩
/-- a def that only reckons -/
def Reck (S : DSp) (ds : List D) (b : Nat) (d : D) (Ex : Xc → Nat → Prop) : Prop := ∀ KQ : D → Bool → Nat → Prop, KQ d false b → S ds b KQ Ex
theorem Pr.call (h : PrL v Ex l n ds) (hS : Reck (v.Φ k) ds n.b d Ex) : Pr v Ex (.call k l) n (.val d) := fun K q => h _ (hS _ (by show K (.val d) _; exact q))
theorem PrC.val (h : Pr v Ex a n (.val (.bl b))) : PrC v Ex (.v a) n b := fun K q => h _ ⟨b, rfl, q⟩
theorem PrC.cmp {o : CmpOp} {b : Bool} (h : Pr v Ex a n r1) (k : Pr v Ex c n r2) (h1 : fet n r1 = some d1) (h2 : fet n r2 = some d2) (he : fCmp o d1 d2 (.ret (.bl b))) : PrC v Ex (.cmp o a c) n b := fun K q => h _ (k _ ⟨d1, d2, _, h1, h2, he, b, rfl, q⟩)
theorem PrC.not {t : RC} {b : Bool} (h : PrC v Ex t n b) : PrC v Ex (.not t) n (!b) := fun K q => h _ q
theorem PrC.and {t u : RC} {b b' : Bool} (h : PrC v Ex t n b) (k : b = true → PrC v Ex u n b') : PrC v Ex (.and t u) n (b && b') := fun K q => h _ (by
  cases b with
  | true => exact k rfl _ q
  | false => exact q)
theorem PrC.or {t u : RC} {b b' : Bool} (h : PrC v Ex t n b) (k : b = false → PrC v Ex u n b') : PrC v Ex (.or t u) n (b || b') := fun K q => h _ (by
  cases b with
  | true => exact q
  | false => exact k rfl _ q)
theorem Pr.and {b b' : Bool} (h : Pr v Ex a n (.val (.bl b))) (k : b = true → Pr v Ex c n (.val (.bl b'))) : Pr v Ex (.and a c) n (.val (.bl (b && b'))) := fun K q => h _ ⟨b, rfl, by
  cases b with
  | true => exact k rfl _ q
  | false => exact q⟩
theorem Pr.or {b b' : Bool} (h : Pr v Ex a n (.val (.bl b))) (k : b = false → Pr v Ex c n (.val (.bl b'))) : Pr v Ex (.or a c) n (.val (.bl (b || b'))) := fun K q => h _ ⟨b, rfl, by
  cases b with
  | true => exact q
  | false => exact k rfl _ q⟩
theorem Pr.not {b : Bool} (h : Pr v Ex a n (.val (.bl b))) : Pr v Ex (.not a) n (.val (.bl (!b))) := fun K q => h _ ⟨b, rfl, q⟩
theorem Pr.ite {t : RC} {b : Bool} (h : PrC v Ex t n b) (k1 : b = true → Pr v Ex a n r) (k2 : b = false → Pr v Ex c n r) : Pr v Ex (.ite t a c) n r := fun K q => h _ (by
  cases b with
  | true => exact k1 rfl _ q
  | false => exact k2 rfl _ q)
variable {K : Ko} {rest : RSs}
theorem exs_cons {s : RS} (h : ex v Ex s { K with nx := exs v Ex rest K } n) : exs v Ex (.cons s rest) K n := h
theorem ex_asg (h : Pr v Ex a n (.val d)) (q : K.nx { n with ρ := n.ρ.set i (.sh d) }) : ex v Ex (.asg i a) K n := h _ q
theorem ex_asgT (h : Pr v Ex a n (.tmp d)) (q : K.nx { n with ρ := n.ρ.set i (.ow d) }) : ex v Ex (.asg i a) K n := h _ q
theorem ex_ret (h : Pr v Ex a n (.val d)) (q : K.rt d false n.b) : ex v Ex (.ret a) K n := h _ q
theorem ex_retT (h : Pr v Ex a n (.tmp d)) (q : K.rt d true n.b) : ex v Ex (.ret a) K n := h _ q
theorem ex_ite {t : RC} {b : Bool} {p q : RSs} (h : PrC v Ex t n b) (k1 : b = true → exs v Ex p K n) (k2 : b = false → exs v Ex q K n) : ex v Ex (.ite t p q) K n := h _ (by
  cases b with
  | true => exact k1 rfl
  | false => exact k2 rfl)
theorem ex_app (h : Pr v Ex a n r) (hr : rd r = some d) (hi : n.ρ[i]? = some (.ow (.lst ds))) (hz : ds.length < Z) (q : K.nx { n with ρ := n.ρ.set i (.ow (.lst (ds ++ [d]))) }) : ex v Ex (.ex (.app i a)) K n := ⟨⟨ds, hi⟩, h _ (rd_frz hr ⟨ds, hi, hz, q⟩)⟩
theorem Pr.repr (h : Pr v Ex a n r) (hr : fet n r = some d) (hp : Rp d) : Pr v Ex (.b1 .repr a) n (.val (.str (reprD d))) := Pr.b1 (f := .repr) (e := .ret (.str (reprD d))) h hr ((fRepr_iff hp).mpr rfl)
theorem ex_asg_call (h : PrL v Ex l n ds) (q : v.Φ k ds n.b (fun d fr b' => sto i (if fr = true then .tmp d else .val d) { n with b := b' } K.nx) Ex) : ex v Ex (.asg i (.call k l)) K n := h _ q
end
mutual
def litV : RX → Option D
  | .c d => some d
  | .b1 .neg (.c (.int i)) => some (.int (-i))
  | .tup l => (litL l).bind fun ds => if ds.length ≤ 1000 then some (.tup ds) else none
  | .lst l => (litL l).bind fun ds => if ds.length ≤ 1000 then some (.lst ds) else none
  | .dctN t => some (.dct t [])
  | _ => none
def litL : RXs → Option (List D)
  | .nil => some []
  | .cons a l => (litV a).bind fun d => (litL l).map fun ds => d :: ds
end
section
variable {v : Ev} {Ex : Xc → Nat → Prop} {n : En}
theorem le_Z {m : Nat} (h : m ≤ 1000) : m ≤ Z := by unfold Z; omega
mutual
theorem litV_ok : ∀ {e : RX} {d : D}, litV e = some d → ∃ r, rd r = some d ∧ Pr v Ex e n r
  | .c d, d', h => by simp only [litV, Option.some.injEq] at h; subst h; exact ⟨.val d, rfl, .cst⟩
  | .b1 f a, d', h => by
    unfold litV at h
    split at h <;> first | (rename_i q; cases q; done) | skip
    all_goals first | (cases h; done) | skip
    · rename_i i q
      cases q; cases h
      exact ⟨.val (.int (-i)), rfl, Pr.b1 (f := .neg) (e := .ret (.int (-i))) .cst rfl ⟨i, rfl, rfl⟩⟩
  | .tup l, d', h => by
    simp only [litV, Option.bind_eq_some_iff] at h
    obtain ⟨ds, h1, h2⟩ := h
    split at h2
    · cases h2; exact ⟨_, rfl, .tup (litL_ok h1) (le_Z ‹_›)⟩
    · cases h2
  | .lst l, d', h => by
    simp only [litV, Option.bind_eq_some_iff] at h
    obtain ⟨ds, h1, h2⟩ := h
    split at h2
    · cases h2; exact ⟨_, rfl, .lst (litL_ok h1) (le_Z ‹_›)⟩
    · cases h2
  | .dctN t, d', h => by simp only [litV, Option.some.injEq] at h; subst h; exact ⟨.tmp (.dct t []), rfl, fun _ q => q⟩
  | .var _, _, h => by simp [litV] at h
  | .b2 _ _ _, _, h => by simp [litV] at h
  | .chain _ _ _ _ _, _, h => by simp [litV] at h
  | .and _ _, _, h => by simp [litV] at h
  | .or _ _, _, h => by simp [litV] at h
  | .not _, _, h => by simp [litV] at h
  | .ite _ _ _, _, h => by simp [litV] at h
  | .cut _ _ _, _, h => by simp [litV] at h
  | .call _ _, _, h => by simp [litV] at h
  | .callV _ _, _, h => by simp [litV] at h
  | .callS _ _, _, h => by simp [litV] at h
  | .app _ _, _, h => by simp [litV] at h
  | .pop _, _, h => by simp [litV] at h
  | .pop0 _, _, h => by simp [litV] at h
  | .popI _ _, _, h => by simp [litV] at h
  | .lc _ _ _ _ _, _, h => by simp [litV] at h
theorem litL_ok : ∀ {l : RXs} {ds : List D}, litL l = some ds → PrL v Ex l n ds
  | .nil, ds, h => by simp only [litL, Option.some.injEq] at h; subst h; exact .nil
  | .cons a l, ds, h => by
    simp only [litL, Option.bind_eq_some_iff, Option.map_eq_some_iff] at h
    obtain ⟨d, h1, es, h2, rfl⟩ := h
    obtain ⟨r, k1, k2⟩ := litV_ok h1
    exact .cons k2 k1 (litL_ok h2)
end
theorem PrL.lit {a : RX} {l : RXs} {d : D} {ds : List D} (h : litV a = some d) (k : PrL v Ex l n ds) : PrL v Ex (.cons a l) n (d :: ds) := by
  obtain ⟨r, k1, k2⟩ := litV_ok (v := v) (Ex := Ex) (n := n) h
  exact .cons k2 k1 k
end
end Sh
set_option maxHeartbeats  1000000
namespace Sh
open L2 PySem PySem.Spec PyProof.Rows

abbrev pyI (ns : List Int) : PyData := .tuple (ns.map .int)
theorem py_ints : ∀ ns : List Int, pyL (ns.map D.int) = some (ns.map .int)
  | [] => rfl
  | n :: ns => by rw [List.map_cons, pyL, py_ints ns]; rfl
theorem py_tupI (ns : List Int) : (tupI ns).py = some (pyI ns) := by
  show (pyL (ns.map D.int)).map PyData.tuple = _
  rw [py_ints]; rfl
theorem py_tups : ∀ ls : List (List Int), pyL (ls.map tupI) = some (ls.map pyI)
  | [] => rfl
  | n :: ls => by rw [List.map_cons, pyL, py_tups ls, py_tupI]; rfl
theorem lay_ints : ∀ ns : List Int, PyData.canLayAll0 (ns.map .int) = true
  | [] => rfl
  | n :: ns => by rw [List.map_cons, PyData.canLayAll0, lay_ints ns]; rfl
theorem dep_ints : ∀ ns : List Int, PyData.depthAll (ns.map .int) = 0
  | [] => rfl
  | n :: ns => by rw [List.map_cons, PyData.depthAll, dep_ints ns]; rfl
theorem lay_tups : ∀ ls : List (List Int), PyData.canLayAll0 (ls.map pyI) = true
  | [] => rfl
  | n :: ls => by rw [List.map_cons, PyData.canLayAll0, lay_tups ls, Bool.and_true]; exact lay_ints n
theorem dep_tups : ∀ ls : List (List Int), PyData.depthAll (ls.map pyI) ≤ 1
  | [] => Nat.zero_le _
  | n :: ls => by
    rw [List.map_cons, PyData.depthAll]
    have h1 := dep_tups ls
    have h2 : PyData.depth (pyI n) = 1 := by show PyData.depthAll (n.map .int) + 1 = 1; rw [dep_ints]
    omega
theorem shp_lst {l : List PyData} (h1 : PyData.canLayAll0 l = true) (h2 : PyData.depthAll l ≤ 50) : SeqAt.shaped (.list l) = true := by
  unfold SeqAt.shaped
  rw [Bool.and_eq_true, decide_eq_true_eq]
  exact ⟨h1, by show PyData.depthAll l + 1 ≤ 64; omega⟩
theorem shp_tup {l : List PyData} (h1 : PyData.canLayAll0 l = true) (h2 : PyData.depthAll l ≤ 50) : SeqAt.shaped (.tuple l) = true := by
  unfold SeqAt.shaped
  rw [Bool.and_eq_true, decide_eq_true_eq]
  exact ⟨h1, by show PyData.depthAll l + 1 ≤ 64; omega⟩
theorem shp_int (i : Int) : SeqAt.shaped (.int i) = true := by
  unfold SeqAt.shaped; rfl
theorem shp_tupI (ns : List Int) : SeqAt.shaped (pyI ns) = true := shp_tup (lay_ints _) (by rw [dep_ints]; omega)
theorem eqv_ints : ∀ a b : List Int, PyData.eqvAll (a.map .int) (b.map .int) = decide (a = b)
  | [], [] => rfl
  | [], _ :: _ => rfl
  | _ :: _, [] => rfl
  | x :: a, y :: b => by
    rw [List.map_cons, List.map_cons, PyData.eqvAll, eqv_ints a b, Bool.eq_iff_iff]
    simp [PyData.eqv]
theorem eqv_tupI (a b : List Int) : PyData.eqv (pyI a) (pyI b) = decide (a = b) := by
  show PyData.eqvAll _ _ = _
  exact eqv_ints a b
def Sq (d : D) (l : List D) : Prop := d = .lst l ∨ d = .tup l
theorem in_int {neg : Bool} {x : Int} {d : D} {ns : List Int} (h : Sq d (ns.map .int)) : fIn neg (.int x) d (.ret (.bl (if neg then !decide (x ∈ ns) else decide (x ∈ ns)))) := by
  refine ⟨_, .int x, _, h, rfl, py_ints ns, shp_int x, shp_lst (lay_ints _) (by rw [dep_ints]; omega), ?_⟩
  have : (List.map PyData.int ns).any (fun z => PyData.eqv z (.int x)) = decide (x ∈ ns) := by
    rw [Bool.eq_iff_iff]
    simp [List.any_eq_true, PyData.eqv]
  rw [this]
theorem in_tup {neg : Bool} {x : List Int} {d : D} {ls : List (List Int)} (h : Sq d (ls.map tupI)) : fIn neg (tupI x) d (.ret (.bl (if neg then !decide (x ∈ ls) else decide (x ∈ ls)))) := by
  refine ⟨_, pyI x, _, h, py_tupI x, py_tups ls, shp_tupI x, shp_lst (lay_tups _) (by have := dep_tups ls; omega), ?_⟩
  have : (List.map pyI ls).any (fun z => PyData.eqv z (pyI x)) = decide (x ∈ ls) := by
    rw [Bool.eq_iff_iff, List.any_map, List.any_eq_true, decide_eq_true_eq]
    constructor
    · rintro ⟨a, ha, e⟩
      rw [Function.comp, eqv_tupI, decide_eq_true_eq] at e
      exact e ▸ ha
    · intro h
      exact ⟨x, h, by rw [Function.comp, eqv_tupI, decide_eq_true_eq]⟩
  rw [this]
theorem eq_tup {neg : Bool} (a b : List Int) : fEq neg (tupI a) (tupI b) (.ret (.bl (if neg then !decide (a = b) else decide (a = b)))) :=
  .inl ⟨_, _, py_tupI a, py_tupI b, shp_tupI a, shp_tupI b, by rw [eqv_tupI]⟩
theorem eq_lst {neg : Bool} (a b : List Int) : fEq neg (.lst (a.map .int)) (.lst (b.map .int)) (.ret (.bl (if neg then !decide (a = b) else decide (a = b)))) := by
  have p : ∀ a : List Int, (D.lst (a.map .int)).py = some (.list (a.map .int)) := fun a => by
    show (pyL (a.map D.int)).map PyData.list = _
    rw [py_ints]; rfl
  have q : ∀ a : List Int, SeqAt.shaped (.list (a.map .int)) = true := fun a => shp_lst (lay_ints _) (by rw [dep_ints]; omega)
  refine .inl ⟨_, _, p a, p b, q a, q b, ?_⟩
  have : PyData.eqv (.list (a.map .int)) (.list (b.map .int)) = decide (a = b) := eqv_ints a b
  rw [this]

def PrI (v : Ev) (Ex : Xc → Nat → Prop) (it : RI) (n : En) (l : List D) : Prop := ∀ K, K l n → ei v Ex it n K
section
variable {v : Ev} {Ex : Xc → Nat → Prop} {n : En} {d d1 d2 : D} {r r1 r2 : Rs} {a x y : RX} {c : RC} {l : List D} {ls : RXs} {ds : List D} {i k : Nat} {e : Ef} {f : B1} {g : B2}
theorem PrI.seq (h : Pr v Ex a n r) (hr : rd r = some d) (hd : Sq d l) : PrI v Ex (.seq a) n l := fun K q => h _ (rd_frz hr ⟨l, hd, fun _ => q⟩)
theorem PrI.rg1 {m : Int} (h : Pr v Ex a n r) (hr : rd r = some (.int m)) (hm : InR m) : PrI v Ex (.rg1 (.cons a .nil)) n (rgD 0 m) := fun K q => h _ (rd_frz hr ⟨m, rfl, hm, q⟩)
theorem wip1 (ρ : List Sv) (i : Nat) : wip [i] ρ = ρ.set i .no := rfl
theorem unw1 (ρ : List Sv) (i : Nat) : unw ρ [i] (ρ.set i .no) = ρ := by
  show (ρ.set i .no).set i (ρ[i]?.getD .no) = ρ
  rw [List.set_set]
  apply List.ext_getElem?
  intro j
  rw [List.getElem?_set]
  by_cases e : i = j
  · subst e
    by_cases h : i < ρ.length
    · rw [if_pos rfl, if_pos h, List.getElem?_eq_getElem h]; rfl
    · rw [if_pos rfl, if_neg h, List.getElem?_eq_none (by omega)]
  · rw [if_neg e]
theorem lcGo_one {α : Type} {h : α → D} {p : α → Bool} {f : α → D} {tc : TDt} {te : TD} {ρ0 : List Sv} {b : Nat} : ∀ (xs : List α) (acc : List D) (K : List D → En → Prop), acc.length + xs.length ≤ Z →
    (∀ x ∈ xs, ∀ K : Bool → En → Prop, K (p x) ⟨ρ0.set i (.sh (h x)), b⟩ → tc ⟨ρ0.set i (.sh (h x)), b⟩ K) → (∀ x ∈ xs, p x = true → ∃ r, rd r = some (f x) ∧ ∀ K : Rs → En → Prop, K r ⟨ρ0.set i (.sh (h x)), b⟩ → te ⟨ρ0.set i (.sh (h x)), b⟩ K) →
    K (acc ++ (xs.filter p).map f) ⟨ρ0.set i .no, b⟩ → lcGo (.nm i) tc te [i] (xs.map h) acc ⟨ρ0.set i .no, b⟩ K
  | [], acc, K, _, _, _, q => by simpa [lcGo] using q
  | x :: xs, acc, K, hz, hc, he, q => by
    rw [List.length_cons] at hz
    refine ⟨_, rfl, ?_⟩
    rw [List.set_set]
    refine hc x List.mem_cons_self _ ?_
    have tl := fun (acc : List D) (hz : acc.length + xs.length ≤ Z) (q : K (acc ++ (xs.filter p).map f) ⟨ρ0.set i .no, b⟩) => lcGo_one xs acc K hz (fun y hy => hc y (List.mem_cons_of_mem _ hy)) (fun y hy => he y (List.mem_cons_of_mem _ hy)) q
    cases px : p x with
    | true =>
      rw [if_pos rfl]
      obtain ⟨r, hr, hk⟩ := he x List.mem_cons_self px
      refine hk _ (rd_frz hr ⟨by omega, ?_⟩)
      rw [wip1, List.set_set]
      refine tl _ (by rw [List.length_append, List.length_singleton]; omega) ?_
      rw [List.filter_cons, px] at q
      simpa using q
    | false =>
      rw [if_neg (by simp)]
      rw [wip1, List.set_set]
      refine tl _ (by omega) ?_
      rw [List.filter_cons, px] at q
      simpa using q
/-- [e for x in it if c], typed -/
theorem Pr.lc {α : Type} {h : α → D} {xs : List α} {p : α → Bool} {f : α → D} {it : RI} {c : RC} {e : RX} (hi : PrI v Ex it n (xs.map h)) (no : ∀ d, n.ρ[i]? ≠ some (.ow d)) (hz : xs.length ≤ Z) (hc : ∀ x ∈ xs, PrC v noX c { n with ρ := n.ρ.set i (.sh (h x)) } (p x))
    (he : ∀ x ∈ xs, p x = true → ∃ r, rd r = some (f x) ∧ Pr v noX e { n with ρ := n.ρ.set i (.sh (h x)) } r) : Pr v Ex (.lc it (.nm i) [i] c e) n (.tmp (.lst ((xs.filter p).map f))) := fun K q => hi _ (by
  refine ⟨fun j hj d => by obtain rfl := List.mem_singleton.mp hj; exact no d, ?_⟩
  obtain ⟨ρ, b⟩ := n
  refine lcGo_one xs [] _ (by simpa using hz) hc he ?_
  show K _ { ρ := unw ρ [i] (ρ.set i .no), b := b }
  rw [unw1]
  exact q)
theorem PrC.yes : PrC v Ex .yes n true := fun _ q => q
theorem filter_tt {α : Type} (l : List α) : (l.filter fun _ => true) = l := List.filter_eq_self.mpr fun _ _ => rfl
/-- [e for x in it] -/
theorem Pr.lcy {α : Type} {h : α → D} {xs : List α} {f : α → D} {it : RI} {e : RX} (hi : PrI v Ex it n (xs.map h)) (no : ∀ d, n.ρ[i]? ≠ some (.ow d)) (hz : xs.length ≤ Z) (he : ∀ x ∈ xs, ∃ r, rd r = some (f x) ∧ Pr v noX e { n with ρ := n.ρ.set i (.sh (h x)) } r) :
    Pr v Ex (.lc it (.nm i) [i] .yes e) n (.tmp (.lst (xs.map f))) := by
  have := Pr.lc (p := fun _ => true) (c := .yes) (e := e) (f := f) hi no hz (fun _ _ => PrC.yes) fun x hx _ => he x hx
  rwa [filter_tt] at this
theorem Pr.tuple (h : Pr v Ex a n r) (hr : fet n r = some d) (hd : Sq d l) : Pr v Ex (.b1 .tuple a) n (.val (.tup l)) := Pr.b1 (f := .tuple) (e := .newT l) h hr ⟨l, hd, rfl⟩
theorem Pr.list (h : Pr v Ex a n r) (hr : fet n r = some d) (hd : Sq d l) : Pr v Ex (.b1 .list a) n (.tmp (.lst l)) := Pr.b1 (f := .list) (e := .newL l) h hr ⟨l, hd, rfl⟩
theorem Pr.len (h : Pr v Ex a n r) (hr : fet n r = some d) (hd : Sq d l) : Pr v Ex (.b1 .len a) n (.val (.int l.length)) := Pr.b1 (f := .len) (e := .ret (.int l.length)) h hr (.inl ⟨l, hd, rfl⟩)
theorem Pr.all {bs : List Bool} (h : Pr v Ex a n r) (hr : fet n r = some (.lst (bs.map .bl))) : Pr v Ex (.b1 .all a) n (.val (.bl (bs.all id))) := Pr.b1 (f := .all) (e := .ret (.bl (bs.all id))) h hr ⟨bs, rfl, rfl⟩
theorem Pr.any {bs : List Bool} (h : Pr v Ex a n r) (hr : fet n r = some (.lst (bs.map .bl))) : Pr v Ex (.b1 .any a) n (.val (.bl (bs.any id))) := Pr.b1 (f := .any) (e := .ret (.bl (bs.any id))) h hr ⟨bs, rfl, rfl⟩
theorem Pr.sum {ns : List Int} (h : Pr v Ex a n r) (hr : fet n r = some (.lst (ns.map .int))) : Pr v Ex (.b1 .sum a) n (.val (.int ns.sum)) := Pr.b1 (f := .sum) (e := .ret (.int ns.sum)) h hr ⟨ns, rfl, rfl⟩
theorem Pr.att {F : Str} {c : Str} {fs : List (Str × D)} (h : Pr v Ex a n r) (hr : fet n r = some (.ins c fs)) (hl : fs.lookup F = some d) : Pr v Ex (.b1 (.att F) a) n (.val d) := Pr.b1 (f := .att F) (e := .ret d) h hr ⟨c, fs, d, rfl, hl, rfl⟩
theorem Pr.ix {m : Nat} (h : Pr v Ex a n r1) (h1 : fet n r1 = some d) (hd : Sq d l) (k : Pr v Ex x n r2) (h2 : fet n r2 = some (.int m)) (hl : l[m]? = some d2) : Pr v Ex (.b2 .ix a x) n (.val d2) :=
  Pr.b2 (g := .ix) (e := .ret d2) h k h1 h2 ⟨l, m, d2, hd, rfl, by rw [atI_nat]; exact hl, rfl⟩
theorem Pr.rgT {m : Int} (h : Pr v Ex a n r) (hr : fet n r = some (.int m)) (hm : RgOk 0 m) : Pr v Ex (.b1 .rgT a) n (.val (.tup (rgD 0 m))) := Pr.b1 (f := .rgT) (e := .newT (rgD 0 m)) h hr ⟨m, rfl, hm, rfl⟩
theorem Pr.rgL {m : Int} (h : Pr v Ex a n r) (hr : fet n r = some (.int m)) (hm : RgOk 0 m) : Pr v Ex (.b1 .rgL a) n (.tmp (.lst (rgD 0 m))) := Pr.b1 (f := .rgL) (e := .newL (rgD 0 m)) h hr ⟨m, rfl, hm, rfl⟩
/-- all([..]), any([..]) -/
theorem Pr.allC {α : Type} {h : α → D} {xs : List α} {f : α → Bool} {it : RI} {e : RX} (hi : PrI v Ex it n (xs.map h)) (no : ∀ d, n.ρ[i]? ≠ some (.ow d)) (hz : xs.length ≤ Z) (he : ∀ x ∈ xs, Pr v noX e { n with ρ := n.ρ.set i (.sh (h x)) } (.val (.bl (f x)))) :
    Pr v Ex (.b1 .all (.lc it (.nm i) [i] .yes e)) n (.val (.bl (xs.all f))) := by
  have := Pr.all (bs := xs.map f) (Pr.lcy (f := fun x => .bl (f x)) hi no hz fun x hx => ⟨_, rfl, he x hx⟩) (by rw [fet_tmp, List.map_map]; rfl)
  rwa [List.all_map] at this
theorem Pr.anyC {α : Type} {h : α → D} {xs : List α} {f : α → Bool} {it : RI} {e : RX} (hi : PrI v Ex it n (xs.map h)) (no : ∀ d, n.ρ[i]? ≠ some (.ow d)) (hz : xs.length ≤ Z) (he : ∀ x ∈ xs, Pr v noX e { n with ρ := n.ρ.set i (.sh (h x)) } (.val (.bl (f x)))) :
    Pr v Ex (.b1 .any (.lc it (.nm i) [i] .yes e)) n (.val (.bl (xs.any f))) := by
  have := Pr.any (bs := xs.map f) (Pr.lcy (f := fun x => .bl (f x)) hi no hz fun x hx => ⟨_, rfl, he x hx⟩) (by rw [fet_tmp, List.map_map]; rfl)
  rwa [List.any_map] at this
/-- comparing -/
theorem Pr.cmp {o : CmpOp} {b : Bool} (h : Pr v Ex a n r1) (k : Pr v Ex x n r2) (h1 : fet n r1 = some d1) (h2 : fet n r2 = some d2) (he : fCmp o d1 d2 (.ret (.bl b))) : Pr v Ex (.b2 (.cmp o) a x) n (.val (.bl b)) := Pr.b2 (g := .cmp o) (e := .ret (.bl b)) h k h1 h2 he
theorem PrC.chain {o p : CmpOp} {b1 b2 : Bool} {d3 : D} {r3 : Rs} (h : Pr v Ex a n r1) (k : Pr v Ex x n r2) (m : Pr v Ex y n r3) (h1 : fet n r1 = some d1) (h2 : fet n r2 = some d2) (h3 : fet n r3 = some d3) (e1 : fCmp o d1 d2 (.ret (.bl b1))) (e2 : fCmp p d2 d3 (.ret (.bl b2))) : PrC v Ex (.chain o p a x y) n (b1 && b2) := fun K q =>
  h _ (k _ ⟨d1, d2, b1, h1, h2, e1, by
    cases b1 with
    | true => exact m _ ⟨d2, d3, _, h2, h3, e2, b2, rfl, q⟩
    | false => exact ⟨false, rfl, q⟩⟩)
theorem Pr.chain {o p : CmpOp} {b1 b2 : Bool} {d3 : D} {r3 : Rs} (h : Pr v Ex a n r1) (k : Pr v Ex x n r2) (m : Pr v Ex y n r3) (h1 : fet n r1 = some d1) (h2 : fet n r2 = some d2) (h3 : fet n r3 = some d3) (e1 : fCmp o d1 d2 (.ret (.bl b1))) (e2 : fCmp p d2 d3 (.ret (.bl b2))) : Pr v Ex (.chain o p a x y) n (.val (.bl (b1 && b2))) := fun K q =>
  h _ (k _ ⟨d1, d2, b1, h1, h2, e1, by
    cases b1 with
    | true => exact m _ ⟨d2, d3, _, h2, h3, e2, q⟩
    | false => exact q⟩)
theorem Pr.isi {ts : List TyS} {t : TyS} (h : Pr v Ex a n r) (hr : fet n r = some d) (ht : dTy d = some t) (hc : ∀ c, t = .own c → c ∈ v.cs) : Pr v Ex (.b1 (.isi ts) a) n (.val (.bl (ts.any (ty1 t)))) := Pr.b1 (f := .isi ts) (e := .ret (.bl (ts.any (ty1 t)))) h hr ⟨t, ht, hc, rfl⟩
theorem Pr.isiT {ts : List TyS} {t : TyS} (h : Pr v Ex a n r) (hr : fet n r = some d) (ht : dTy d = some t) (hc : ∀ c, t = .own c → c ∈ v.cs) : Pr v Ex (.b1 (.isiT ts) a) n (.val (.bl (ts.any (ty1 t)))) := Pr.b1 (f := .isiT ts) (e := .ret (.bl (ts.any (ty1 t)))) h hr ⟨t, ht, hc, rfl⟩
end
theorem forI {α β : Type} {g : RT} {t : TDs} {h : α → D} {I : β → En → Prop} {step : β → α → β} {K : Ko} : ∀ (xs : List α) (s : β) (n : En), I s n →
    (∀ s n x, x ∈ xs → I s n → ∃ ρ', bdT g (h x) n.ρ = some ρ' ∧ ∀ nx : En → Prop, (∀ n', I (step s x) n' → nx n') → t { nx := nx, ct := nx, bk := K.nx, rt := K.rt } { n with ρ := ρ' }) → (∀ n', I (xs.foldl step s) n' → K.nx n') → forGo g t (xs.map h) K n
  | [], s, n, hI, _, q => q n hI
  | x :: xs, s, n, hI, hs, q => by
    obtain ⟨ρ', e, k⟩ := hs s n x List.mem_cons_self hI
    exact ⟨ρ', e, k _ fun n' h' => forI xs (step s x) n' h' (fun s n y hy => hs s n y (List.mem_cons_of_mem _ hy)) q⟩
end Sh
namespace Sh
open L2 PySem PySem.Spec PyProof.Rows

def Rg (n : Nat) : List Int := (List.range n).map Int.ofNat
theorem rgD_Rg (n : Nat) : rgD 0 (n : Int) = (Rg n).map .int := by
  unfold rgD Rg
  rw [List.map_map]
  have : ((n : Int) - 0).toNat = n := by omega
  rw [this]
  refine List.map_congr_left fun i _ => ?_
  show D.int (0 + (i : Int)) = .int (i : Int)
  rw [Int.zero_add]
theorem Rg_length (n : Nat) : (Rg n).length = n := by unfold Rg; simp
theorem mem_Rg {n : Nat} {x : Int} : x ∈ Rg n ↔ 0 ≤ x ∧ x < n := by
  unfold Rg
  rw [List.mem_map]
  constructor
  · rintro ⟨i, hi, rfl⟩
    have := List.mem_range.mp hi
    show 0 ≤ (i : Int) ∧ (i : Int) < n
    omega
  · rintro ⟨h0, h1⟩
    obtain ⟨i, rfl⟩ := Int.eq_ofNat_of_zero_le h0
    exact ⟨i, List.mem_range.mpr (by omega), rfl⟩
theorem Rg_pw (n : Nat) : (Rg n).Pairwise (· < ·) := by
  unfold Rg
  rw [List.pairwise_map]
  refine List.Pairwise.imp (fun {a b} h => ?_) (List.pairwise_lt_range)
  show (a : Int) < (b : Int)
  omega
theorem Rg_succ (n : Nat) : Rg (n + 1) = Rg n ++ [(n : Int)] := by
  unfold Rg
  rw [List.range_succ, List.map_append]
  rfl
/-- a lot of n things -/
structure Lot (n : Nat) (a : List Int) : Prop where
  pw : a.Pairwise (· < ·)
  mem : ∀ x ∈ a, 0 ≤ x ∧ x < n
theorem Lot.rg (n : Nat) : Lot n (Rg n) := ⟨Rg_pw n, fun x hx => mem_Rg.mp hx⟩
theorem Lot.nil (n : Nat) : Lot n [] := ⟨.nil, fun x hx => by cases hx⟩
theorem Lot.filter {n : Nat} {a : List Int} (h : Lot n a) (p : Int → Bool) : Lot n (a.filter p) := ⟨h.pw.filter p, fun x hx => h.mem x (List.mem_filter.mp hx).1⟩
theorem pw_ext : ∀ {a b : List Int}, a.Pairwise (· < ·) → b.Pairwise (· < ·) → (∀ x, x ∈ a ↔ x ∈ b) → a = b
  | [], [], _, _, _ => rfl
  | [], y :: b, _, _, h => absurd ((h y).mpr List.mem_cons_self) (by simp)
  | x :: a, [], _, _, h => absurd ((h x).mp List.mem_cons_self) (by simp)
  | x :: a, y :: b, ha, hb, h => by
    rw [List.pairwise_cons] at ha hb
    have e : x = y := by
      rcases List.mem_cons.mp ((h x).mp List.mem_cons_self) with e | h1
      · exact e
      · rcases List.mem_cons.mp ((h y).mpr List.mem_cons_self) with e | h2
        · exact e.symm
        · have := hb.1 x h1
          have := ha.1 y h2
          omega
    subst e
    rw [pw_ext ha.2 hb.2 fun z => ?_]
    constructor
    · intro hz
      rcases List.mem_cons.mp ((h z).mp (List.mem_cons_of_mem _ hz)) with e | h1
      · subst e; have := ha.1 z hz; omega
      · exact h1
    · intro hz
      rcases List.mem_cons.mp ((h z).mpr (List.mem_cons_of_mem _ hz)) with e | h1
      · subst e; have := hb.1 z hz; omega
      · exact h1
theorem Lot.ext {n m : Nat} {a b : List Int} (ha : Lot n a) (hb : Lot m b) (h : ∀ x, x ∈ a ↔ x ∈ b) : a = b := pw_ext ha.pw hb.pw h
theorem Lot.nodup {n : Nat} {a : List Int} (h : Lot n a) : a.Nodup := h.pw.imp fun h => by omega
theorem Lot.len {n : Nat} {a : List Int} (h : Lot n a) : a.length ≤ n := by
  have : ∀ (L M : List Int), L.Nodup → (∀ x ∈ L, x ∈ M) → L.length ≤ M.length := by
    intro L
    induction L with
    | nil => exact fun _ _ _ => Nat.zero_le _
    | cons x l ih =>
      intro M hn hs
      obtain ⟨h1, h2⟩ := List.nodup_cons.mp hn
      have hx : x ∈ M := hs x List.mem_cons_self
      have q := ih (M.erase x) h2 fun y hy => (List.mem_erase_of_ne (fun (e : y = x) => h1 (by rw [← e]; exact hy))).2 (hs y (List.mem_cons_of_mem _ hy))
      have e := List.length_erase_of_mem hx
      have hp : 0 < M.length := List.length_pos_of_mem hx
      rw [List.length_cons]
      omega
  have := this a (Rg n) h.nodup fun x hx => mem_Rg.mpr (h.mem x hx)
  rwa [Rg_length] at this
/-- within, in common, without -/
def inL (a b : List Int) : Bool := a.all fun x => decide (x ∈ b)
def both (a b : List Int) : List Int := a.filter fun x => decide (x ∈ b)
def wo (a : List Int) (x : Int) : List Int := a.filter fun y => !decide (y = x)
theorem inL_iff {a b : List Int} : inL a b = true ↔ ∀ x ∈ a, x ∈ b := by simp [inL]
theorem mem_both {a b : List Int} {x : Int} : x ∈ both a b ↔ x ∈ a ∧ x ∈ b := by simp [both]
theorem mem_wo {a : List Int} {x y : Int} : y ∈ wo a x ↔ y ∈ a ∧ y ≠ x := by simp [wo]
theorem Lot.both {n : Nat} {a : List Int} (h : Lot n a) (b : List Int) : Lot n (both a b) := h.filter _
theorem Lot.wo {n : Nat} {a : List Int} (h : Lot n a) (x : Int) : Lot n (wo a x) := h.filter _
/-- the closing by a family -/
def clos (n : Nat) (ls : List (List Int)) (a : List Int) : List Int := ls.foldl (fun best o => if inL a o = true ∧ o.length < best.length then o else best) (Rg n)
/-- a family of closed lots -/
structure Fam (n : Nat) (ls : List (List Int)) : Prop where
  lot : ∀ a ∈ ls, Lot n a
  top : Rg n ∈ ls
  meet : ∀ a ∈ ls, ∀ b ∈ ls, both a b ∈ ls
/-- .. in order -/
structure FamS (n : Nat) (ls : List (List Int)) : Prop extends Fam n ls where
  srt : ls.Pairwise fun a b => HT.lexLt a b = true
/-- all lots, as they are made; in order -/
def allL (n : Nat) : List (List Int) := (Rg n).foldl (fun out x => out ++ out.map (· ++ [x])) [[]]
def srtL (ls : List (List Int)) : List (List Int) := ls.mergeSort fun a b => !HT.lexLt b a
theorem srtL_perm (ls : List (List Int)) : (srtL ls).Perm ls := List.mergeSort_perm ls _
theorem swo_lex : SrtO.Swo HT.lexLt := NtL.swo_lexL fun x : List Int => x
theorem lex_trans {a b c : List Int} (h1 : HT.lexLt b a = false) (h2 : HT.lexLt c b = false) : HT.lexLt c a = false := swo_lex.2 a b c h1 h2
theorem srtL_pw (ls : List (List Int)) : (srtL ls).Pairwise fun a b => HT.lexLt b a = false := by
  have := List.pairwise_mergeSort (le := fun a b => !HT.lexLt b a) (fun a b c h1 h2 => by
    simp only [Bool.not_eq_true'] at *
    exact lex_trans h1 h2) (fun a b => by
    simp only [Bool.or_eq_true, Bool.not_eq_true']
    cases e : HT.lexLt b a with
    | false => exact .inl rfl
    | true => exact .inr (lex_le e)) ls
  exact this.imp fun h => by simpa using h
def lots (n : Nat) : List (List Int) := srtL (allL n)
theorem allL_succ (n : Nat) : allL (n + 1) = allL n ++ (allL n).map (· ++ [(n : Int)]) := by
  unfold allL
  rw [Rg_succ, List.foldl_append]
  rfl
theorem allL_length : ∀ n, (allL n).length = 2 ^ n
  | 0 => rfl
  | n + 1 => by rw [allL_succ, List.length_append, List.length_map, allL_length n, Nat.pow_succ]; omega
theorem Lot.snoc {n : Nat} {a : List Int} (h : Lot n a) : Lot (n + 1) (a ++ [(n : Int)]) := by
  refine ⟨?_, fun x hx => ?_⟩
  · rw [List.pairwise_append]
    refine ⟨h.pw, List.pairwise_singleton _ _, fun x hx y hy => ?_⟩
    rw [List.mem_singleton.mp hy]
    exact (h.mem x hx).2
  · rcases List.mem_append.mp hx with hx | hx
    · have := h.mem x hx
      constructor <;> omega
    · rw [List.mem_singleton.mp hx]
      constructor <;> omega
theorem Lot.up {n : Nat} {a : List Int} (h : Lot n a) : Lot (n + 1) a := ⟨h.pw, fun x hx => by have := h.mem x hx; constructor <;> omega⟩
theorem mem_allL : ∀ {n : Nat} {a : List Int}, a ∈ allL n ↔ Lot n a
  | 0, a => by
    constructor
    · intro h
      have : a = [] := by simpa [allL, Rg] using h
      rw [this]; exact Lot.nil 0
    · intro h
      have : a = [] := by
        cases a with
        | nil => rfl
        | cons x a => have := h.mem x List.mem_cons_self; omega
      rw [this]; simp [allL, Rg]
  | n + 1, a => by
    rw [allL_succ, List.mem_append, List.mem_map]
    constructor
    · rintro (h | ⟨b, hb, rfl⟩)
      · exact (mem_allL.mp h).up
      · exact (mem_allL.mp hb).snoc
    · intro h
      by_cases hn : (n : Int) ∈ a
      · right
        refine ⟨wo a n, mem_allL.mpr ⟨(h.wo n).pw, fun x hx => ?_⟩, ?_⟩
        · have := mem_wo.mp hx
          have := h.mem x this.1
          constructor <;> omega
        · have l1 : Lot n (wo a n) := ⟨(h.wo n).pw, fun x hx => by
            have := mem_wo.mp hx
            have := h.mem x this.1
            constructor <;> omega⟩
          refine Lot.ext l1.snoc h fun x => ?_
          rw [List.mem_append, mem_wo, List.mem_singleton]
          constructor
          · rintro (⟨h1, _⟩ | rfl)
            · exact h1
            · exact hn
          · intro hx
            by_cases e : x = n
            · exact .inr e
            · exact .inl ⟨hx, e⟩
      · left
        refine mem_allL.mpr ⟨h.pw, fun x hx => ?_⟩
        have h1 := h.mem x hx
        have : x ≠ n := fun e => hn (e ▸ hx)
        constructor <;> omega
theorem mem_lots {n : Nat} {a : List Int} : a ∈ lots n ↔ Lot n a := by
  unfold lots
  rw [(srtL_perm _).mem_iff, mem_allL]
theorem lots_length (n : Nat) : (lots n).length = 2 ^ n := by
  unfold lots
  rw [(srtL_perm _).length_eq, allL_length]
theorem allL_nodup : ∀ n, (allL n).Nodup
  | 0 => by simp [allL, Rg]
  | n + 1 => by
    rw [allL_succ, List.nodup_append]
    refine ⟨allL_nodup n, ?_, fun a ha b hb => ?_⟩
    · rw [List.nodup_iff_pairwise_ne, List.pairwise_map]
      refine List.Pairwise.imp (fun {a b} h e => h (List.append_cancel_right e)) (List.nodup_iff_pairwise_ne.mp (allL_nodup n))
    · rintro rfl
      obtain ⟨c, _, rfl⟩ := List.mem_map.mp hb
      have := (mem_allL.mp ha).mem n (by simp)
      omega
theorem lots_nodup (n : Nat) : (lots n).Nodup := (srtL_perm _).nodup_iff.mpr (allL_nodup n)
theorem nodup_len {α : Type} [BEq α] [LawfulBEq α] : ∀ (L M : List α), L.Nodup → (∀ x ∈ L, x ∈ M) → L.length ≤ M.length
  | [], _, _, _ => Nat.zero_le _
  | x :: l, M, hn, hs => by
    obtain ⟨h1, h2⟩ := List.nodup_cons.mp hn
    have hx : x ∈ M := hs x List.mem_cons_self
    have q := nodup_len l (M.erase x) h2 fun y hy => (List.mem_erase_of_ne (fun (e : y = x) => h1 (by rw [← e]; exact hy))).2 (hs y (List.mem_cons_of_mem _ hy))
    have e := List.length_erase_of_mem hx
    have hp : 0 < M.length := List.length_pos_of_mem hx
    rw [List.length_cons]
    omega
/-- few unlike lots -/
theorem few_of {n : Nat} {ls : List (List Int)} (hn : n ≤ 5) (h : ∀ a ∈ ls, Lot n a) : FewI ls := fun L nd s => by
  have := nodup_len L (allL n) nd fun a ha => mem_allL.mpr (h a (s a ha))
  rw [allL_length] at this
  have : 2 ^ n ≤ 2 ^ 5 := Nat.pow_le_pow_right (by decide) hn
  omega
/-- the least bases -/
def bases (n : Nat) (ls : List (List Int)) (a : List Int) : List (List Int) :=
  let some := (lots n).filter fun b => decide (clos n ls b = a)
  some.filter fun one => !some.any fun other => !decide (other = one) && inL other one
def extr (n : Nat) (ls : List (List Int)) (a : List Int) : List Int := a.filter fun x => !decide (x ∈ clos n ls (wo a x))
def free (n : Nat) (ls : List (List Int)) : List (List Int) := (lots n).filter fun a => decide (extr n ls a = a)
/-- what is left in an order -/
def left (n : Nat) (ls : List (List Int)) (a : List Int) (order : List Int) : List Int := order.foldl (fun o x => if x ∈ o ∧ clos n ls (wo o x) = clos n ls o then wo o x else o) a
end Sh
namespace Sh
open L2 PySem PySem.Spec PyProof.Rows

/-- a result, an exception, nothing, a draw -/
inductive Ot (α : Type) where
  | r (a : α) | x (e : Xc) | no | dr (m : Int) (k : Int → Ot α)
def Ot.bind {α β : Type} : Ot α → (α → Ot β) → Ot β
  | .r a, f => f a
  | .x e, _ => .x e
  | .no, _ => .no
  | .dr m k, f => .dr m fun i => (k i).bind f
def Ot.of {α : Type} : Option α → Ot α
  | some a => .r a
  | none => .no
/-- what holds behind it, b draws allowed -/
def Ot.post {α : Type} : Ot α → Nat → (α → Nat → Prop) → (Xc → Nat → Prop) → Prop
  | .r a, b, Q, _ => Q a b
  | .x e, b, _, E => E e b
  | .no, _, _, _ => False
  | .dr m k, b, Q, E => ∃ b', b = b' + 1 ∧ 0 < m ∧ m < 1073741824 ∧ ∀ i, 0 ≤ i → i < m → (k i).post b' Q E
/-- no exception is let through -/
def Ot.nox {α : Type} : Ot α → Ot α
  | .r a => .r a
  | .x _ => .no
  | .no => .no
  | .dr m k => .dr m fun i => (k i).nox
/-- only if -/
def gd {α : Type} (b : Bool) (o : Ot α) : Ot α := bif b then o else .no
section
variable {α β : Type} {a : α} {e : Xc} {k : α → Ot β} {o : Ot α} {Q : β → Nat → Prop} {R : α → Nat → Prop} {E : Xc → Nat → Prop} {b : Nat}
theorem bind_r : (Ot.r a).bind k = k a := id rfl
theorem bind_x : (Ot.x e).bind k = .x e := id rfl
theorem bind_no : (Ot.no).bind k = .no := id rfl
theorem bind_dr {m : Int} {f : Int → Ot α} : (Ot.dr m f).bind k = .dr m fun i => (f i).bind k := id rfl
theorem of_some : Ot.of (some a) = .r a := id rfl
theorem gd_true : gd true o = o := id rfl
theorem post_bind : ∀ {o : Ot α} {b : Nat}, (o.bind k).post b Q E ↔ o.post b (fun a b => (k a).post b Q E) E
  | .r _, _ => Iff.rfl
  | .x _, _ => Iff.rfl
  | .no, _ => Iff.rfl
  | .dr m f, b => by
    simp only [Ot.bind, Ot.post, post_bind (o := f _)]
theorem post_of {o : Option α} {R : α → Nat → Prop} : (Ot.of o).post b R E ↔ ∃ a, o = some a ∧ R a b := by cases o <;> simp [Ot.of, Ot.post]
theorem post_gd {t : Bool} : (gd t o).post b R E ↔ t = true ∧ o.post b R E := by cases t <;> simp [gd, Ot.post]
theorem post_imp {S : α → Nat → Prop} {F : Xc → Nat → Prop} (h : ∀ a b, R a b → S a b) (hx : ∀ e b, E e b → F e b) : ∀ {o : Ot α} {b : Nat}, o.post b R E → o.post b S F
  | .r _, _, p => h _ _ p
  | .x _, _, p => hx _ _ p
  | .no, _, p => p
  | .dr m f, b, ⟨b', e, h0, h1, p⟩ => ⟨b', e, h0, h1, fun i i0 i1 => post_imp h hx (p i i0 i1)⟩
theorem nox_bind : ∀ {o : Ot α}, (o.bind k).nox = o.nox.bind fun a => (k a).nox
  | .r _ => rfl
  | .x _ => rfl
  | .no => rfl
  | .dr m f => by simp only [Ot.bind, Ot.nox, nox_bind (o := f _)]
theorem post_nox {F : Xc → Nat → Prop} : ∀ {o : Ot α} {b : Nat}, o.nox.post b R E → o.post b R F
  | .r _, _, p => p
  | .x _, _, p => p.elim
  | .no, _, p => p
  | .dr m f, b, ⟨b', e, h0, h1, p⟩ => ⟨b', e, h0, h1, fun i i0 i1 => post_nox (p i i0 i1)⟩
end

def sqL : D → Option (List D)
  | .lst l => some l
  | .tup l => some l
  | _ => none
def blsL : List D → Option (List Bool)
  | [] => some []
  | .bl b :: r => (blsL r).map (b :: ·)
  | _ => none
def intsL : List D → Option (List Int)
  | [] => some []
  | .int b :: r => (intsL r).map (b :: ·)
  | _ => none
def tupsL : List D → Option (List (List Int))
  | [] => some []
  | .tup b :: r => (intsL b).bind fun x => (tupsL r).map (x :: ·)
  | _ => none
def ded : List (List Int) → List (List Int)
  | [] => []
  | a :: l => if a ∈ l then ded l else a :: ded l
def setL (ls : List (List Int)) : List (List Int) := srtL (ded ls)
def srtI (ns : List Int) : List Int := ns.mergeSort fun a b => decide (a ≤ b)
def dedI : List Int → List Int
  | [] => []
  | a :: l => if a ∈ l then dedI l else a :: dedI l
def setI (ns : List Int) : List Int := srtI (dedI ns)
def eqP (x y : D) : Option Bool := (x.py).bind fun p => (y.py).bind fun q => if SeqAt.shaped p && SeqAt.shaped q then some (PyData.eqv p q) else none
def eqD : D → D → Option Bool
  | .str a, .str b => some (decide (a = b))
  | x, y => eqP x y
def inD (x y : D) : Option Bool := (sqL y).bind fun l => (x.py).bind fun p => (pyL l).bind fun q => if SeqAt.shaped p && SeqAt.shaped (.list q) then some (q.any fun z => PyData.eqv z p) else none
def isD : D → D → Option Bool
  | .bl a, .bl b => some (decide (a = b))
  | .non, .non => some true
  | _, .non => some false
  | _, _ => none
def intD : D → Option Int
  | .int i => some i
  | _ => none
def boolD : D → Option Bool
  | .bl i => some i
  | _ => none
def maxI : List Int → Option Int
  | [] => none
  | a :: l => some (l.foldl (fun m x => if m < x then x else m) a)
def minI : List Int → Option Int
  | [] => none
  | a :: l => some (l.foldl (fun m x => if x < m then x else m) a)
def rpD (d : D) : Option D := d.pyd.bind fun p => if p.showable && decide (p.depth ≤ 64) && decide (p.shown.length ≤ Z) then some (.str p.shown) else none
def isiD (cs : List Str) (ts : List TyS) (d : D) : Option D := (dTy d).bind fun t => match t with
  | .own c => if cs.contains c then some (.bl (ts.any (ty1 t))) else none
  | _ => some (.bl (ts.any (ty1 t)))
instance (a b : Int) : Decidable (RgOk a b) := inferInstanceAs (Decidable (_ ∧ _))
instance (a : Int) : Decidable (InR a) := inferInstanceAs (Decidable (_ ∧ _))
instance (a b : Int) : Decidable (CMul a b) := inferInstanceAs (Decidable (_ ∨ _))
instance (a b : Int) : Decidable (CDivN a b) := inferInstanceAs (Decidable (_ ∧ _))
instance (a b : Int) : Decidable (CPow a b) := inferInstanceAs (Decidable (_ ∧ _))
def val (d : D) : D × Bool := (d, false)
def tmp (d : D) : D × Bool := (d, true)
def pB1 (cs : List Str) : B1 → D → Option (D × Bool)
  | .len, .dct _ l => some (val (.int l.length))
  | .len, d => (sqL d).map fun l => val (.int l.length)
  | .tuple, d => (sqL d).map fun l => val (.tup l)
  | .list, d => (sqL d).map fun l => tmp (.lst l)
  | .all, .lst l => (blsL l).map fun b => val (.bl (b.all id))
  | .any, .lst l => (blsL l).map fun b => val (.bl (b.any id))
  | .sum, .lst l => (intsL l).map fun b => val (.int b.sum)
  | .abs, .int i => some (val (.int (if i < 0 then -i else i)))
  | .int, .int i => some (val (.int i))
  | .int, .bl b => some (val (.int (if b then 1 else 0)))
  | .maxL, .lst l => (intsL l).bind fun b => (maxI b).map fun i => val (.int i)
  | .minL, .lst l => (intsL l).bind fun b => (minI b).map fun i => val (.int i)
  | .repr, d => (rpD d).map val
  | .neg, .int i => some (val (.int (-i)))
  | .att f, .ins _ fs => (fs.lookup f).map val
  | .rev, .lst l => some (tmp (.lst l.reverse))
  | .rev, .tup l => some (val (.tup l.reverse))
  | .rgT, .int n => if RgOk 0 n then some (val (.tup (rgD 0 n))) else none
  | .rgL, .int n => if RgOk 0 n then some (tmp (.lst (rgD 0 n))) else none
  | .isi ts, d => (isiD cs ts d).map val
  | .isiT ts, d => (isiD cs ts d).map val
  | .sorted, d => (sqL d).bind fun l => match intsL l with
    | some ns => some (tmp (.lst ((srtI ns).map .int)))
    | none => (tupsL l).map fun ls => tmp (.lst ((srtL ls).map tupI))
  | .sset, d => (sqL d).bind fun l => match intsL l with
    | some ns => if ns.length < 64 then some (tmp (.lst ((setI ns).map .int))) else none
    | none => (tupsL l).bind fun ls => if (ded ls).length + 1 < 64 then some (tmp (.lst ((setL ls).map tupI))) else none
  | .str, .str s => some (val (.str s))
  | _, _ => none
def cmpI (f : Int → Int → Bool) (x y : D) : Option Bool := (intD x).bind fun i => (intD y).map fun j => f i j
def pCmp : CmpOp → D → D → Option Bool
  | .Eq, x, y => eqD x y
  | .NotEq, x, y => (eqD x y).map (!·)
  | .Lt, x, y => cmpI (fun i j => decide (i < j)) x y
  | .LtE, x, y => cmpI (fun i j => decide (i ≤ j)) x y
  | .Gt, x, y => cmpI (fun i j => decide (i > j)) x y
  | .GtE, x, y => cmpI (fun i j => decide (i ≥ j)) x y
  | .Is, x, y => isD x y
  | .IsNot, x, y => (isD x y).map (!·)
  | .In, x, y => inD x y
  | .NotIn, x, y => (inD x y).map (!·)
def pOp : Operator → D → D → Option (D × Bool)
  | .Add, .int i, .int j => some (val (.int (i + j)))
  | .Add, .tup l, .tup m => if l.length + m.length ≤ Z then some (val (.tup (l ++ m))) else none
  | .Add, .lst l, .lst m => if l.length + m.length ≤ Z then some (tmp (.lst (l ++ m))) else none
  | .Sub, .int i, .int j => some (val (.int (i - j)))
  | .Mult, .int i, .int j => if CMul i j then some (val (.int (i * j))) else none
  | .Mult, .tup l, .int k => if l.isEmpty = false ∧ 1 ≤ k ∧ k ≤ 1000 ∧ l.length ≤ 1000 then some (val (.tup (List.replicate k.toNat l).flatten)) else none
  | .Mult, .lst l, .int k => if 0 ≤ k ∧ k ≤ 1000 ∧ l.length ≤ 1000 then some (tmp (.lst (List.replicate k.toNat l).flatten)) else none
  | .FloorDiv, .int i, .int j => if CDivN i j then some (val (.int (i.fdiv j))) else none
  | .Mod, .int i, .int j => if 0 < j then some (val (.int (i % j))) else none
  | .Pow, .int i, .int j => if CPow i j then some (val (.int (i ^ j.toNat))) else none
  | .LShift, .int i, .int j => if CPow i j then some (val (.int (i * 2 ^ j.toNat))) else none
  | .RShift, .int i, .int j => if 0 ≤ j then some (val (.int (i / 2 ^ j.toNat))) else none
  | .BitAnd, .int i, .int j => some (val (.int (Builtin.bitAnd i j)))
  | _, _, _ => none
def pB2 : B2 → D → D → Option (D × Bool)
  | .op o, x, y => pOp o x y
  | .cmp o, x, y => (pCmp o x y).map fun b => val (.bl b)
  | .ix, x, y => (sqL x).bind fun l => (intD y).bind fun i => (atI l i).map val
  | .max, .int i, .int j => some (val (.int (if j > i then j else i)))
  | .min, .int i, .int j => some (val (.int (if j < i then j else i)))
  | .gcd, .int i, .int j => some (val (.int (Nat.gcd i.natAbs j.natAbs : Nat)))
  | .rgT, .int a, .int b => if RgOk a b then some (val (.tup (rgD a b))) else none
  | .rgL, .int a, .int b => if RgOk a b then some (tmp (.lst (rgD a b))) else none
  | _, _, _ => none

abbrev Fp := Nat → List D → Ot (D × Bool)
structure Pc where
  F : Fp
  cs : List Str
  rz : Nat → Option (Str × Nat × List (Str × Nat))
  FS : Fp := fun _ _ => .no
  lf : Nat → List Nat := fun _ => []
/-- a slot that is handed on -/
def shD (s : Option Sv) : Option D := match s with
  | some (.sh d) => some d
  | _ => none
/-- a slot that is looked at -/
def seeD (s : Option Sv) : Option D := match s with
  | some (.sh d) => some d
  | some (.ow d) => some d
  | _ => none
def isOw (s : Option Sv) : Bool := match s with
  | some (.ow _) => true
  | _ => false
def RX.isVar : RX → Option Nat
  | .var i => some i
  | _ => none
/-- an operand -/
def opd (e : RX) (ρ : List Sv) (o : Ot (D × Bool)) : Ot D := match e.isVar with
  | some i => .of (seeD ρ[i]?)
  | none => o.bind fun p => .r p.1
def lcR {α : Type} (p : α → Ot Bool) (f : α → Ot (D × Bool)) : List α → Ot (List D)
  | [] => .r []
  | a :: l => (p a).bind fun t => bif t then (f a).bind fun y => (lcR p f l).bind fun z => .r (y.1 :: z) else lcR p f l
def RI.isSeq : RI → Bool
  | .seq _ => true
  | _ => false
def boolR (p : D × Bool) : Ot Bool := if p.2 = true then .no else .of (boolD p.1)
mutual
def rx (c : Pc) : RX → List Sv → Ot (D × Bool)
  | .var i, ρ => .of ((shD ρ[i]?).map val)
  | .c d, _ => .r (val d)
  | .b1 f a, ρ => (opd a ρ (rx c a ρ)).bind fun d => .of (pB1 c.cs f d)
  | .b2 f a b, ρ => (opd a ρ (rx c a ρ)).bind fun d => (opd b ρ (rx c b ρ)).bind fun e => .of (pB2 f d e)
  | .chain o p a b e, ρ => (opd a ρ (rx c a ρ)).bind fun x => (opd b ρ (rx c b ρ)).bind fun y => (Ot.of (pCmp o x y)).bind fun b1 => bif b1 then (opd e ρ (rx c e ρ)).bind fun z => (Ot.of (pCmp p y z)).bind fun b2 => .r (val (.bl b2)) else .r (val (.bl false))
  | .and a b, ρ => ((rx c a ρ).bind boolR).bind fun b1 => bif b1 then rx c b ρ else .r (val (.bl false))
  | .or a b, ρ => ((rx c a ρ).bind boolR).bind fun b1 => bif b1 then .r (val (.bl true)) else rx c b ρ
  | .not a, ρ => ((rx c a ρ).bind boolR).bind fun b1 => .r (val (.bl (!b1)))
  | .ite t a b, ρ => (rc c t ρ).bind fun b1 => bif b1 then rx c a ρ else rx c b ρ
  | .tup l, ρ => (rxs c l ρ).bind fun ds => gd (decide (ds.length ≤ Z)) (.r (val (.tup ds)))
  | .lst l, ρ => (rxs c l ρ).bind fun ds => gd (decide (ds.length ≤ Z)) (.r (tmp (.lst ds)))
  | .dctN t, _ => .r (tmp (.dct t []))
  | .cut a lo hi, ρ => (rx c a ρ).bind fun d => (ro c lo ρ).bind fun l => (ro c hi ρ).bind fun h => match d.1 with
    | .tup xs => .r (val (.tup (cutD xs l h)))
    | .lst xs => .r (tmp (.lst (cutD xs l h)))
    | _ => .no
  | .call k l, ρ => (rxs c l ρ).bind fun ds => c.F k ds
  | .callS k l, ρ => (rxs c l ρ).bind fun ds => (Ot.of (snapL (fun j => cvOf ρ (c.lf j)) ds)).bind fun es => (c.FS k es).nox.bind fun p => gd p.1.plain (.r (val p.1))
  | .lc it g own t e, ρ => (ri c it ρ).bind fun l => gd ((own.all fun i => !isOw ρ[i]?) && (g.slots.all fun i => own.contains i) && (it.isSeq || decide (l.length ≤ Z)))
      ((lcR (fun d => (Ot.of (bdT g d (wip own ρ))).bind fun ρ' => rc c t ρ') (fun d => (Ot.of (bdT g d (wip own ρ))).bind fun ρ' => rx c e ρ') l).nox.bind fun out => .r (tmp (.lst out)))
  | _, _ => .no
def rxs (c : Pc) : RXs → List Sv → Ot (List D)
  | .nil, _ => .r []
  | .cons a l, ρ => (rx c a ρ).bind fun d => (rxs c l ρ).bind fun ds => .r (d.1 :: ds)
def rc (c : Pc) : RC → List Sv → Ot Bool
  | .yes, _ => .r true
  | .v a, ρ => (rx c a ρ).bind boolR
  | .cmp o a b, ρ => (opd a ρ (rx c a ρ)).bind fun d => (opd b ρ (rx c b ρ)).bind fun e => .of (pCmp o d e)
  | .chain o p a b e, ρ => (opd a ρ (rx c a ρ)).bind fun x => (opd b ρ (rx c b ρ)).bind fun y => (Ot.of (pCmp o x y)).bind fun b1 => bif b1 then (opd e ρ (rx c e ρ)).bind fun z => .of (pCmp p y z) else .r false
  | .not a, ρ => (rc c a ρ).bind fun b => .r (!b)
  | .and a b, ρ => (rc c a ρ).bind fun b1 => bif b1 then rc c b ρ else .r false
  | .or a b, ρ => (rc c a ρ).bind fun b1 => bif b1 then .r true else rc c b ρ
def ro (c : Pc) : RO → List Sv → Ot (Option Int)
  | .no, _ => .r none
  | .so a, ρ => (opd a ρ (rx c a ρ)).bind fun d => (Ot.of (intD d)).bind fun i => .r (some i)
def ri (c : Pc) : RI → List Sv → Ot (List D)
  | .seq a, ρ => (rx c a ρ).bind fun d => .of (sqL d.1)
  | .rg1 l, ρ => (rxs c l ρ).bind fun ds => match ds with
    | [.int b] => if InR b then .r (rgD 0 b) else .no
    | _ => .no
  | .rg2 l, ρ => (rxs c l ρ).bind fun ds => match ds with
    | [.int a, .int b] => if InR a ∧ InR b then .r (rgD a b) else .no
    | _ => .no
  | .enum a, ρ => (rx c a ρ).bind fun d => match d.1 with
    | .lst l => .r (enumD l)
    | _ => .no
  | .zip a b, ρ => (rx c a ρ).bind fun d => (rx c b ρ).bind fun e => match d.1, e.1 with
    | .lst l, .lst m => .r (zipD l m)
    | .tup l, .tup m => .r (zipD l m)
    | _, _ => .no
end

inductive Ou where
  | nx (ρ : List Sv) | bk (ρ : List Sv) | ct (ρ : List Sv) | rt (d : D) (f : Bool)
def Ou.go (o : Ou) (k : List Sv → Ot Ou) : Ot Ou := match o with
  | .nx ρ => k ρ
  | o => .r o
def Ou.lap (o : Ou) (k : List Sv → Ot Ou) : Ot Ou := match o with
  | .nx ρ => k ρ
  | .ct ρ => k ρ
  | .bk ρ => .r (.nx ρ)
  | .rt d f => .r (.rt d f)
def Ou.fin (o : Ou) : Ot (D × Bool) := match o with
  | .nx _ => .r (val .non)
  | .rt d f => .r (d, f)
  | _ => .no
def stR (i : Nat) (p : D × Bool) (ρ : List Sv) : List Sv := ρ.set i (if p.2 = true then .ow p.1 else .sh p.1)
def ownL (s : Option Sv) : Option (List D) := match s with
  | some (.ow (.lst l)) => some l
  | _ => none
/-- an expression that may pop -/
def rxp (c : Pc) (e : RX) (ρ : List Sv) : Ot ((D × Bool) × List Sv) := match e with
  | .pop j => Ot.of ((ownL ρ[j]?).bind fun l => l[l.length - 1]?.map fun d => (val d, ρ.set j (.ow (.lst l.dropLast))))
  | .pop0 j => Ot.of ((ownL ρ[j]?).bind fun l => l[0]?.map fun d => (val d, ρ.set j (.ow (.lst (l.eraseIdx 0)))))
  | .popI j a => (Ot.of (ownL ρ[j]?)).bind fun l => (opd a ρ (rx c a ρ)).bind fun k => Ot.of ((intD k).bind fun k => if 0 ≤ k ∧ k < Z then l[k.toNat]?.map fun d => (val d, ρ.set j (.ow (.lst (l.eraseIdx k.toNat)))) else none)
  | e => (rx c e ρ).bind fun p => .r (p, ρ)
def rsA (c : Pc) (i : Nat) (e : RX) (ρ : List Sv) : Ot Ou := (rxp c e ρ).bind fun p => .r (.nx (stR i p.1 p.2))
def rxsP (c : Pc) : RXs → List Sv → Ot (List (D × Bool))
  | .nil, _ => .r []
  | .cons a l, ρ => (rx c a ρ).bind fun d => (rxsP c l ρ).bind fun ds => .r (d :: ds)
def stP : List Nat → List (D × Bool) → List Sv → Option (List Sv)
  | [], [], ρ => some ρ
  | i :: l, p :: ps, ρ => stP l ps (stR i p ρ)
  | _, _, _ => none
def rsE (c : Pc) (e : RX) (ρ : List Sv) : Ot Ou := match e with
  | .app i a => (Ot.of (ownL ρ[i]?)).bind fun _ => (rxp c a ρ).bind fun p => (Ot.of (ownL p.2[i]?)).bind fun l => gd (decide (l.length < Z)) (.r (.nx (p.2.set i (.ow (.lst (l ++ [p.1.1]))))))
  | e => (rx c e ρ).bind fun _ => .r (.nx ρ)
def rsR (c : Pc) (e : RX) (ρ : List Sv) : Ot Ou := match e with
  | .var i => Ot.of ((seeD ρ[i]?).map fun d => .rt d (isOw ρ[i]?))
  | e => (rx c e ρ).bind fun p => .r (.rt p.1 p.2)
def forR {α : Type} (b : α → List Sv → Ot Ou) : List α → List Sv → Ot Ou
  | [], ρ => .r (.nx ρ)
  | d :: l, ρ => (b d ρ).bind fun o => o.lap fun ρ' => forR b l ρ'
def whR (c : List Sv → Ot Bool) (b : List Sv → Ot Ou) : Nat → List Sv → Ot Ou
  | 0, _ => .no
  | k + 1, ρ => (c ρ).bind fun t => bif t then (b ρ).bind fun o => o.lap fun ρ' => whR c b k ρ'
    else .r (.nx ρ)
def Wk : Nat := 1048576
def shrR (i : Nat) (ρ : List Sv) : Ot Ou := match ρ[i]? with
  | some (.sh _) => .r (.nx ρ)
  | some (.ow d) => .r (.nx (ρ.set i (.sh d)))
  | _ => .no
mutual
def rs (c : Pc) : RS → List Sv → Ot Ou
  | .asg i e, ρ => rsA c i e ρ
  | .asgT g e, ρ => (rx c e ρ).bind fun p => (Ot.of (bdT g p.1 ρ)).bind fun ρ' => .r (.nx ρ')
  | .par l e, ρ => (rxsP c e ρ).bind fun ps => (Ot.of (stP l ps ρ)).bind fun ρ' => .r (.nx ρ')
  | .aug i e, ρ => (Ot.of ((shD ρ[i]?).bind intD)).bind fun a => (opd e ρ (rx c e ρ)).bind fun d => (Ot.of (intD d)).bind fun b => .r (.nx (ρ.set i (.sh (.int (a + b)))))
  | .put i k e, ρ => (rx c e ρ).bind fun p => (Ot.of (ownL ρ[i]?)).bind fun l => (opd k ρ (rx c k ρ)).bind fun y => Ot.of ((intD y).bind fun k => (ixN l.length k).map fun j => .nx (ρ.set i (.ow (.lst (l.set j p.1)))))
  | .fld _ _ _, _ => .no
  | .ex e, ρ => rsE c e ρ
  | .ret e, ρ => rsR c e ρ
  | .retN, _ => .r (.rt .non false)
  | .raise k l, ρ => match c.rz k with
    | some (x, n, fs) => (rxs c l ρ).bind fun ds => if ds.length = n then .x ⟨x, fldsD (.non :: ds) fs []⟩ else .no
    | none => .no
  | .pass, ρ => .r (.nx ρ)
  | .brk, ρ => .r (.bk ρ)
  | .cnt, ρ => .r (.ct ρ)
  | .ite t a b, ρ => (rc c t ρ).bind fun b1 => bif b1 then rss c a ρ else rss c b ρ
  | .for it g b, ρ => (ri c it ρ).bind fun l => forR (fun d ρ => (Ot.of (bdT g d ρ)).bind fun ρ' => rss c b ρ') l ρ
  | .whl t b, ρ => whR (rc c t) (rss c b) Wk ρ
  | .fgt l, ρ => .r (.nx (wip l ρ))
  | .shr i, ρ => shrR i ρ
def rss (c : Pc) : RSs → List Sv → Ot Ou
  | .nil, ρ => .r (.nx ρ)
  | .cons a l, ρ => (rs c a ρ).bind fun o => o.go fun ρ' => rss c l ρ'
end
/-- a def -/
def run (c : Pc) (N m : Nat) (r : RSs) (ds : List D) : Ot (D × Bool) := if ds.length = m then
    (rss c r (ds.map .sh ++ List.replicate (N - m) .no)).bind Ou.fin
  else .no
/-- a class: its __init__ first without itself, then its fields -/
def isMe (s : Sv) : Bool := match s with
  | .me => true
  | _ => false
def flR (c : Pc) : List (Str × RX) → List Sv → Ot (D × Bool)
  | [], ρ => match (ρ[0]? : Option Sv) with
    | some (.ow (.ins k fs)) => .r (tmp (.ins k fs))
    | _ => .no
  | (f, e) :: l, ρ => (rx c e ρ).bind fun p => match (ρ[0]? : Option Sv) with
    | some (.ow (.ins k fs)) => gd (c.cs.contains k && fldNs.contains f && decide (fs.length < 900)) (flR c l (ρ.set 0 (.ow (.ins k (putFD f p.1 fs)))))
    | _ => .no
def Ou.mine (c : Pc) (cl : Str) (l : List (Str × RX)) (o : Ou) : Ot (D × Bool) := match o with
  | .nx (.me :: ρ) => gd (ρ.all fun s => !isMe s) (flR c l (.ow (.ins cl []) :: ρ))
  | _ => .no
def runI (c : Pc) (cl : Str) (N m : Nat) (pre : RSs) (l : List (Str × RX)) (ds : List D) : Ot (D × Bool) := if ds.length + 1 = m then
    (rss c pre (.me :: ds.map .sh ++ List.replicate (N - m) .no)).bind fun o => o.mine c cl l
  else .no
/-- what is promised by a function -/
def SOf (f : List D → Ot (D × Bool)) : DSp := fun ds b KQ KE => (f ds).post b (fun p b => KQ p.1 p.2 b) KE
/-- the draw -/
def drF : List D → Ot (D × Bool)
  | [.pen, .int m] => .dr m fun i => .r (val (.int i))
  | _ => .no
theorem drF_ok {ds : List D} {b : Nat} {KQ : D → Bool → Nat → Prop} {KE : Xc → Nat → Prop} (h : SOf drF ds b KQ KE) : drawS ds b KQ KE := by
  unfold SOf drF at h
  split at h
  · obtain ⟨b', e, h0, h1, h2⟩ := h
    exact ⟨_, b', rfl, h0, h1, e, h2⟩
  · exact h.elim
end Sh
namespace Sh
open L2 PySem PySem.Spec PyProof.Rows

structure Fits (v : Ev) (c : Pc) : Prop where
  F : ∀ k ds b KQ KE, SOf (c.F k) ds b KQ KE → v.Φ k ds b KQ KE
  cs : ∀ x ∈ c.cs, x ∈ v.cs
  rz : ∀ k z, c.rz k = some z → v.rz k = some z
  FS : ∀ k ds b KQ KE, SOf (c.FS k) ds b KQ KE → v.Φ k ds b KQ KE
  lf : (∀ k, v.lf k = c.lf k) ∨ ∀ k ds, c.FS k ds = .no
def rsv (p : D × Bool) : Rs := if p.2 = true then .tmp p.1 else .val p.1
theorem rsv_val {d : D} : rsv (val d) = .val d := rfl
theorem rsv_tmp {d : D} : rsv (tmp d) = .tmp d := rfl
theorem rd_rsv {p : D × Bool} : rd (rsv p) = some p.1 := by
  obtain ⟨d, f⟩ := p
  cases f <;> rfl
theorem blsL_ok : ∀ {l : List D} {b : List Bool}, blsL l = some b → l = b.map .bl
  | [], _, h => by cases h; rfl
  | d :: l, b, h => by
    cases d <;> first | (simp [blsL] at h; done) | skip
    simp only [blsL, Option.map_eq_some_iff] at h
    obtain ⟨c, h, rfl⟩ := h
    rw [blsL_ok h]; rfl
theorem intsL_ok : ∀ {l : List D} {b : List Int}, intsL l = some b → l = b.map .int
  | [], _, h => by cases h; rfl
  | d :: l, b, h => by
    cases d <;> first | (simp [intsL] at h; done) | skip
    simp only [intsL, Option.map_eq_some_iff] at h
    obtain ⟨c, h, rfl⟩ := h
    rw [intsL_ok h]; rfl
theorem tupsL_ok : ∀ {l : List D} {b : List (List Int)}, tupsL l = some b → l = b.map tupI
  | [], _, h => by cases h; rfl
  | d :: l, b, h => by
    cases d <;> first | (simp [tupsL] at h; done) | skip
    simp only [tupsL, Option.bind_eq_some_iff, Option.map_eq_some_iff] at h
    obtain ⟨x, h1, c, h, rfl⟩ := h
    rw [tupsL_ok h, intsL_ok h1]; rfl
theorem sqL_ok {d : D} {l : List D} (h : sqL d = some l) : Sq d l := by
  cases d <;> cases h
  · exact .inr rfl
  · exact .inl rfl
theorem mem_ded {ls : List (List Int)} {a : List Int} : a ∈ ded ls ↔ a ∈ ls := by
  induction ls with
  | nil => rfl
  | cons x l ih =>
    unfold ded
    split
    · rename_i h
      rw [ih, List.mem_cons]
      exact ⟨.inr, fun h' => h'.elim (fun e => e ▸ h) id⟩
    · rw [List.mem_cons, List.mem_cons, ih]
theorem ded_nodup (ls : List (List Int)) : (ded ls).Nodup := by
  induction ls with
  | nil => exact List.nodup_nil
  | cons x l ih =>
    unfold ded
    split
    · exact ih
    · rename_i h
      exact List.nodup_cons.mpr ⟨fun h' => h (mem_ded.mp h'), ih⟩
theorem srtI_perm (ns : List Int) : (srtI ns).Perm ns := List.mergeSort_perm ns _
theorem srtI_pw (ns : List Int) : (srtI ns).Pairwise (· ≤ ·) := by
  have := List.pairwise_mergeSort (le := fun a b : Int => decide (a ≤ b)) (fun a b c h1 h2 => by
    rw [decide_eq_true_eq] at *; omega) (fun a b => by
    rw [Bool.or_eq_true, decide_eq_true_eq, decide_eq_true_eq]; omega) ns
  exact this.imp fun h => of_decide_eq_true h
theorem mem_dedI {ls : List Int} {a : Int} : a ∈ dedI ls ↔ a ∈ ls := by
  induction ls with
  | nil => rfl
  | cons x l ih =>
    unfold dedI
    split
    · rename_i h
      rw [ih, List.mem_cons]
      exact ⟨.inr, fun h' => h'.elim (fun e => e ▸ h) id⟩
    · rw [List.mem_cons, List.mem_cons, ih]
theorem dedI_nodup (ls : List Int) : (dedI ls).Nodup := by
  induction ls with
  | nil => exact List.nodup_nil
  | cons x l ih =>
    unfold dedI
    split
    · exact ih
    · rename_i h
      exact List.nodup_cons.mpr ⟨fun h' => h (mem_dedI.mp h'), ih⟩
theorem mem_setI {ls : List Int} {a : Int} : a ∈ setI ls ↔ a ∈ ls := by
  unfold setI
  rw [(srtI_perm _).mem_iff, mem_dedI]
theorem setI_pw (ls : List Int) : (setI ls).Pairwise (· < ·) := ((srtI_pw (dedI ls)).and ((srtI_perm _).nodup_iff.mpr (dedI_nodup ls))).imp fun {a b} h => by
  have h1 := h.1
  have h2 := h.2
  omega
theorem fewI_ded {ls : List (List Int)} (h : (ded ls).length + 1 < 64) : FewI ls := fun L nd s => by
  have := nodup_len L (ded ls) nd fun a ha => mem_ded.mpr (s a ha)
  omega
theorem setL_pw (ls : List (List Int)) : (setL ls).Pairwise fun a b => HT.lexLt a b = true := lex_str (srtL_pw _) ((srtL_perm _).nodup_iff.mpr (ded_nodup ls))
theorem mem_setL {ls : List (List Int)} {a : List Int} : a ∈ setL ls ↔ a ∈ ls := by
  unfold setL
  rw [(srtL_perm _).mem_iff, mem_ded]
theorem maxI_ok {l : List Int} {m : Int} (h : maxI l = some m) : m ∈ l ∧ ∀ y ∈ l, y ≤ m := by
  cases l with
  | nil => cases h
  | cons a l =>
    cases h
    have key : ∀ (l : List Int) (a : Int), (l.foldl (fun m x => if m < x then x else m) a ∈ a :: l) ∧ ∀ y ∈ a :: l, y ≤ l.foldl (fun m x => if m < x then x else m) a := by
      intro l
      induction l with
      | nil => intro a; simp
      | cons x l ih =>
        intro a
        rw [List.foldl_cons]
        obtain ⟨h1, h2⟩ := ih (if a < x then x else a)
        refine ⟨?_, fun y hy => ?_⟩
        · rcases List.mem_cons.mp h1 with e | h
          · rw [e]; split <;> simp
          · exact List.mem_cons_of_mem _ (List.mem_cons_of_mem _ h)
        · have h3 := h2 _ List.mem_cons_self
          rcases List.mem_cons.mp hy with rfl | hy
          · exact Int.le_trans (by split <;> omega) h3
          · rcases List.mem_cons.mp hy with rfl | hy
            · exact Int.le_trans (by split <;> omega) h3
            · exact h2 y (List.mem_cons_of_mem _ hy)
    exact key l a
theorem minI_ok {l : List Int} {m : Int} (h : minI l = some m) : m ∈ l ∧ ∀ y ∈ l, m ≤ y := by
  cases l with
  | nil => cases h
  | cons a l =>
    cases h
    have key : ∀ (l : List Int) (a : Int), (l.foldl (fun m x => if x < m then x else m) a ∈ a :: l) ∧ ∀ y ∈ a :: l, l.foldl (fun m x => if x < m then x else m) a ≤ y := by
      intro l
      induction l with
      | nil => intro a; simp
      | cons x l ih =>
        intro a
        rw [List.foldl_cons]
        obtain ⟨h1, h2⟩ := ih (if x < a then x else a)
        refine ⟨?_, fun y hy => ?_⟩
        · rcases List.mem_cons.mp h1 with e | h
          · rw [e]; split <;> simp
          · exact List.mem_cons_of_mem _ (List.mem_cons_of_mem _ h)
        · have h3 := h2 _ List.mem_cons_self
          rcases List.mem_cons.mp hy with rfl | hy
          · exact Int.le_trans h3 (by split <;> omega)
          · rcases List.mem_cons.mp hy with rfl | hy
            · exact Int.le_trans h3 (by split <;> omega)
            · exact h2 y (List.mem_cons_of_mem _ hy)
    exact key l a
theorem eqP_ok {x y : D} {b : Bool} (h : eqP x y = some b) (neg : Bool) : fEq neg x y (.ret (.bl (if neg then !b else b))) := by
  simp only [eqP, Option.bind_eq_some_iff] at h
  obtain ⟨p, h1, q, h2, h⟩ := h
  split at h
  · rename_i hs
    rw [Bool.and_eq_true] at hs
    cases h
    exact .inl ⟨p, q, h1, h2, hs.1, hs.2, rfl⟩
  · cases h
theorem eqD_ok {x y : D} {b : Bool} (h : eqD x y = some b) (neg : Bool) : fEq neg x y (.ret (.bl (if neg then !b else b))) := by
  unfold eqD at h
  split at h
  · cases h; exact .inr ⟨_, _, rfl, rfl, rfl⟩
  · exact eqP_ok h neg
theorem inD_ok {x y : D} {b : Bool} (h : inD x y = some b) (neg : Bool) : fIn neg x y (.ret (.bl (if neg then !b else b))) := by
  simp only [inD, Option.bind_eq_some_iff] at h
  obtain ⟨l, h0, p, h1, q, h2, h⟩ := h
  split at h
  · rename_i hs
    rw [Bool.and_eq_true] at hs
    cases h
    exact ⟨l, p, q, sqL_ok h0, h1, h2, hs.1, hs.2, rfl⟩
  · cases h
theorem av_ne_non {T : Tx} {P : Px} {G H : Hp} {x : D} {v : V} (hx : x ≠ .non) (h : Av T P G H x v) : v ≠ .non := by
  rintro rfl
  rcases h with h | ⟨a, o, e, _⟩
  · cases h; exact hx rfl
  · cases e
theorem isD_ok {x y : D} {b : Bool} (h : isD x y = some b) (neg : Bool) : fIsN neg x y (.ret (.bl (if neg then !b else b))) := by
  unfold isD at h
  split at h
  · cases h; exact .inl ⟨_, _, rfl, rfl, rfl⟩
  · cases h; exact .inr ⟨rfl, .inl ⟨rfl, by cases neg <;> rfl⟩⟩
  · rename_i hx
    cases h; exact .inr ⟨rfl, .inr ⟨fun T P G H v hv => av_ne_non (fun e => hx e) hv, by cases neg <;> rfl⟩⟩
  · cases h
theorem cmpI_ok {f : Int → Int → Bool} {x y : D} {b : Bool} (h : cmpI f x y = some b) : fB f x y (.ret (.bl b)) := by
  simp only [cmpI, Option.bind_eq_some_iff, Option.map_eq_some_iff] at h
  obtain ⟨i, h1, j, h2, rfl⟩ := h
  cases x <;> cases h1
  cases y <;> cases h2
  exact ⟨i, j, rfl, rfl, rfl⟩
theorem pCmp_ok {o : CmpOp} {x y : D} {b : Bool} (h : pCmp o x y = some b) : fCmp o x y (.ret (.bl b)) := by
  cases o
  case Eq => exact eqD_ok (b := b) h false
  case NotEq =>
    simp only [pCmp, Option.map_eq_some_iff] at h
    obtain ⟨c, h, rfl⟩ := h
    exact eqD_ok h true
  case Lt => exact cmpI_ok h
  case LtE => exact cmpI_ok h
  case Gt => exact cmpI_ok h
  case GtE => exact cmpI_ok h
  case Is => exact isD_ok (b := b) h false
  case IsNot =>
    simp only [pCmp, Option.map_eq_some_iff] at h
    obtain ⟨c, h, rfl⟩ := h
    exact isD_ok h true
  case In => exact inD_ok (b := b) h false
  case NotIn =>
    simp only [pCmp, Option.map_eq_some_iff] at h
    obtain ⟨c, h, rfl⟩ := h
    exact inD_ok h true
theorem isiD_ok {cs cs' : List Str} (hcs : ∀ x ∈ cs, x ∈ cs') {ts : List TyS} {d e : D} (h : isiD cs ts d = some e) : fIsi cs' ts d (.ret e) := by
  simp only [isiD, Option.bind_eq_some_iff] at h
  obtain ⟨t, h1, h⟩ := h
  split at h
  · rename_i c
    split at h
    · rename_i hc
      cases h
      exact ⟨_, h1, fun c' e => by cases e; exact hcs _ (by simpa using hc), rfl⟩
    · cases h
  · rename_i hn
    cases h
    exact ⟨_, h1, fun c' e => (hn _ e).elim, rfl⟩
theorem rpD_ok {d e : D} (h : rpD d = some e) : fRepr d (.ret e) := by
  simp only [rpD, Option.bind_eq_some_iff] at h
  obtain ⟨p, h1, h⟩ := h
  split at h
  · rename_i hs
    simp only [Bool.and_eq_true, decide_eq_true_eq] at hs
    cases h
    exact ⟨p, h1, hs.1.1, hs.1.2, hs.2, rfl⟩
  · cases h
theorem pB1_ok {v : Ev} {cs : List Str} (hcs : ∀ x ∈ cs, x ∈ v.cs) {f : B1} {d : D} {p : D × Bool} (h : pB1 cs f d = some p) : ∃ e, fB1 v f d e ∧ resOf e = rsv p := by
  have sq : ∀ {g : List D → D × Bool}, (sqL d).map g = some p → ∃ l, Sq d l ∧ p = g l := fun h => by
    rw [Option.map_eq_some_iff] at h
    obtain ⟨l, h1, h2⟩ := h
    exact ⟨l, sqL_ok h1, h2.symm⟩
  cases f with
  | len =>
    cases d <;> first | (cases h; done) | skip
    all_goals (cases h)
    · exact ⟨_, .inl ⟨_, .inr rfl, rfl⟩, rfl⟩
    · exact ⟨_, .inl ⟨_, .inl rfl, rfl⟩, rfl⟩
    · exact ⟨_, .inr ⟨_, _, rfl, rfl⟩, rfl⟩
  | tuple =>
    obtain ⟨l, h1, rfl⟩ := sq h
    exact ⟨_, ⟨l, h1, rfl⟩, rfl⟩
  | list =>
    obtain ⟨l, h1, rfl⟩ := sq h
    exact ⟨_, ⟨l, h1, rfl⟩, rfl⟩
  | all =>
    cases d <;> first | (cases h; done) | skip
    simp only [pB1, Option.map_eq_some_iff] at h
    obtain ⟨b, h1, rfl⟩ := h
    exact ⟨_, ⟨b, by rw [blsL_ok h1], rfl⟩, rfl⟩
  | any =>
    cases d <;> first | (cases h; done) | skip
    simp only [pB1, Option.map_eq_some_iff] at h
    obtain ⟨b, h1, rfl⟩ := h
    exact ⟨_, ⟨b, by rw [blsL_ok h1], rfl⟩, rfl⟩
  | sum =>
    cases d <;> first | (cases h; done) | skip
    simp only [pB1, Option.map_eq_some_iff] at h
    obtain ⟨b, h1, rfl⟩ := h
    exact ⟨_, ⟨b, by rw [intsL_ok h1], rfl⟩, rfl⟩
  | abs =>
    cases d <;> cases h
    exact ⟨_, ⟨_, rfl, rfl⟩, rfl⟩
  | int =>
    cases d <;> cases h
    · exact ⟨_, .inr ⟨_, rfl, rfl⟩, rfl⟩
    · exact ⟨_, .inl ⟨_, rfl, rfl⟩, rfl⟩
  | maxL =>
    cases d <;> first | (cases h; done) | skip
    simp only [pB1, Option.bind_eq_some_iff, Option.map_eq_some_iff] at h
    obtain ⟨b, h1, m, h2, rfl⟩ := h
    exact ⟨_, ⟨b, m, by rw [intsL_ok h1], (maxI_ok h2).1, (maxI_ok h2).2, rfl⟩, rfl⟩
  | minL =>
    cases d <;> first | (cases h; done) | skip
    simp only [pB1, Option.bind_eq_some_iff, Option.map_eq_some_iff] at h
    obtain ⟨b, h1, m, h2, rfl⟩ := h
    exact ⟨_, ⟨b, m, by rw [intsL_ok h1], (minI_ok h2).1, (minI_ok h2).2, rfl⟩, rfl⟩
  | repr =>
    simp only [pB1, Option.map_eq_some_iff] at h
    obtain ⟨e, h1, rfl⟩ := h
    exact ⟨_, rpD_ok h1, rfl⟩
  | neg =>
    cases d <;> cases h
    exact ⟨_, ⟨_, rfl, rfl⟩, rfl⟩
  | att g =>
    cases d <;> first | (cases h; done) | skip
    simp only [pB1, Option.map_eq_some_iff] at h
    obtain ⟨e, h1, rfl⟩ := h
    exact ⟨_, ⟨_, _, e, rfl, h1, rfl⟩, rfl⟩
  | rev =>
    cases d <;> cases h
    · exact ⟨_, .inr ⟨_, rfl, rfl⟩, rfl⟩
    · exact ⟨_, .inl ⟨_, rfl, rfl⟩, rfl⟩
  | rgT =>
    cases d <;> first | (cases h; done) | skip
    simp only [pB1] at h
    split at h
    · cases h; exact ⟨_, ⟨_, rfl, ‹_›, rfl⟩, rfl⟩
    · cases h
  | rgL =>
    cases d <;> first | (cases h; done) | skip
    simp only [pB1] at h
    split at h
    · cases h; exact ⟨_, ⟨_, rfl, ‹_›, rfl⟩, rfl⟩
    · cases h
  | isi ts =>
    simp only [pB1, Option.map_eq_some_iff] at h
    obtain ⟨e, h1, rfl⟩ := h
    exact ⟨_, isiD_ok hcs h1, rfl⟩
  | isiT ts =>
    simp only [pB1, Option.map_eq_some_iff] at h
    obtain ⟨e, h1, rfl⟩ := h
    exact ⟨_, isiD_ok hcs h1, rfl⟩
  | sorted =>
    simp only [pB1, Option.bind_eq_some_iff] at h
    obtain ⟨l, h1, h⟩ := h
    split at h
    · rename_i ns hn
      cases h
      refine ⟨.newL _, .inl ⟨ns, srtI ns, ?_, srtI_perm _, srtI_pw _, rfl⟩, rfl⟩
      rw [← intsL_ok hn]; exact sqL_ok h1
    · rw [Option.map_eq_some_iff] at h
      obtain ⟨ls, h2, rfl⟩ := h
      refine ⟨.newL _, .inr ⟨ls, srtL ls, ?_, srtL_perm _, srtL_pw _, rfl⟩, rfl⟩
      rw [← tupsL_ok h2]; exact sqL_ok h1
  | sset =>
    simp only [pB1, Option.bind_eq_some_iff] at h
    obtain ⟨l, h1, h⟩ := h
    split at h
    · rename_i ns hn
      split at h
      · rename_i hf
        cases h
        refine ⟨.newL _, .inr ⟨ns, setI ns, ?_, hf, fun k => mem_setI, setI_pw _, rfl⟩, rfl⟩
        rw [← intsL_ok hn]; exact sqL_ok h1
      · cases h
    · rw [Option.bind_eq_some_iff] at h
      obtain ⟨ls, h2, h⟩ := h
      split at h
      · rename_i hf
        cases h
        refine ⟨.newL _, .inl ⟨ls, setL ls, ?_, fewI_ded hf, fun a => mem_setL, setL_pw _, rfl⟩, rfl⟩
        rw [← tupsL_ok h2]; exact sqL_ok h1
      · cases h
  | str =>
    cases d <;> cases h
    exact ⟨_, .inr ⟨_, rfl, rfl⟩, rfl⟩
  | bitl => cases h
theorem fI_ok {g : Int → Int → Int} {C : Int → Int → Prop} {i j : Int} (h : C i j) : ∃ e, fI g C (.int i) (.int j) e ∧ resOf e = rsv (val (.int (g i j))) := ⟨_, ⟨i, j, rfl, rfl, h, rfl⟩, rfl⟩
theorem pOp_ok {o : Operator} {x y : D} {p : D × Bool} (h : pOp o x y = some p) : ∃ e, fOp o x y e ∧ resOf e = rsv p := by
  unfold pOp at h
  split at h <;> first | (split at h <;> first | (cases h; done) | skip) | skip
  all_goals first | (cases h; done) | skip
  all_goals cases h
  · exact ⟨_, .inl ⟨_, _, rfl, rfl, rfl⟩, rfl⟩
  · exact ⟨_, .inr (.inl ⟨_, _, rfl, rfl, ‹_›, rfl⟩), rfl⟩
  · exact ⟨_, .inr (.inr ⟨_, _, rfl, rfl, ‹_›, rfl⟩), rfl⟩
  · exact fI_ok trivial
  · obtain ⟨e, h1, h2⟩ := fI_ok (g := fun i j => i * j) ‹_›
    exact ⟨e, .inl h1, h2⟩
  · rename_i hh
    exact ⟨_, .inr (.inl ⟨_, _, rfl, rfl, (fun z => by rw [z] at hh; cases hh.1), hh.2.1, hh.2.2.1, hh.2.2.2, rfl⟩), rfl⟩
  · rename_i hh
    exact ⟨_, .inr (.inr ⟨_, _, rfl, rfl, hh.1, hh.2.1, hh.2.2, rfl⟩), rfl⟩
  · exact fI_ok ‹_›
  · exact fI_ok ‹_›
  · exact fI_ok ‹_›
  · exact fI_ok ‹_›
  · exact fI_ok ‹_›
  · exact fI_ok trivial
theorem pB2_ok {v : Ev} {f : B2} {x y : D} {p : D × Bool} (h : pB2 f x y = some p) : ∃ e, fB2 f x y e ∧ resOf e = rsv p := by
  unfold pB2 at h
  split at h
  · exact pOp_ok h
  · rw [Option.map_eq_some_iff] at h
    obtain ⟨b, h1, rfl⟩ := h
    exact ⟨_, pCmp_ok h1, rfl⟩
  · simp only [Option.bind_eq_some_iff, Option.map_eq_some_iff] at h
    obtain ⟨l, h1, i, h2, d, h3, rfl⟩ := h
    cases y <;> cases h2
    exact ⟨_, ⟨l, _, d, sqL_ok h1, rfl, h3, rfl⟩, rfl⟩
  · cases h; exact fI_ok trivial
  · cases h; exact fI_ok trivial
  · cases h; exact fI_ok trivial
  · split at h
    · cases h; exact ⟨_, ⟨_, _, rfl, rfl, ‹_›, rfl⟩, rfl⟩
    · cases h
  · split at h
    · cases h; exact ⟨_, ⟨_, _, rfl, rfl, ‹_›, rfl⟩, rfl⟩
    · cases h
  · cases h
end Sh
namespace Sh
open L2 PySem PySem.Spec PyProof.Rows

section
variable {α : Type} {v : Ev} {c : Pc} {b : Nat} {ρ : List Sv} {Ex : Xc → Nat → Prop} {K : Rs → En → Prop}
theorem shD_is {s : Option Sv} {d : D} (h : shD s = some d) : s = some (.sh d) := by
  unfold shD at h
  split at h <;> cases h
  rfl
theorem ev_var_sh {i : Nat} {d : D} (h : shD ρ[i]? = some d) (q : K (.val d) ⟨ρ, b⟩) : ev v Ex (.var i) ⟨ρ, b⟩ K := by
  show dVar i ⟨ρ, b⟩ K
  unfold dVar
  rw [shD_is h]
  exact q
/-- an operand -/
theorem opd_ok {a : RX} {Q : D → Nat → Prop} (ih : ∀ (b : Nat) (K : Rs → En → Prop), (rx c a ρ).post b (fun p b => K (rsv p) ⟨ρ, b⟩) Ex → ev v Ex a ⟨ρ, b⟩ K) (h : (opd a ρ (rx c a ρ)).post b Q Ex) (hK : ∀ r d b, fet ⟨ρ, b⟩ r = some d → Q d b → K r ⟨ρ, b⟩) : ev v Ex a ⟨ρ, b⟩ K := by
  unfold opd at h
  split at h
  · rename_i i hi
    cases a <;> first | (cases hi; done) | skip
    cases hi
    rw [post_of] at h
    obtain ⟨d, h1, h2⟩ := h
    show dVar _ ⟨ρ, b⟩ K
    unfold dVar seeD at *
    cases hs : ρ[i]? with
    | none => rw [hs] at h1; cases h1
    | some s =>
      rw [hs] at h1
      cases s <;> cases h1
      · exact hK (.val d) d b rfl h2
      · exact hK (.slt i) d b (by rw [fet_slt]; simp only [hs]) h2
  · rw [post_bind] at h
    exact ih _ _ (post_imp (fun p b hp => hK _ _ _ (rd_fet rd_rsv) hp) (fun _ _ h => h) h)
theorem bdT_len : (∀ (g : RT) (d : D) (ρ ρ' : List Sv), bdT g d ρ = some ρ' → ρ'.length = ρ.length ∧ ∀ j, j ∉ g.slots → ρ'[j]? = ρ[j]?) := by
  intro g
  refine RT.rec (motive_1 := fun g => ∀ (d : D) (ρ ρ' : List Sv), bdT g d ρ = some ρ' → ρ'.length = ρ.length ∧ ∀ j, j ∉ g.slots → ρ'[j]? = ρ[j]?)
    (motive_2 := fun g => ∀ (d : List D) (ρ ρ' : List Sv), bdTs g d ρ = some ρ' → ρ'.length = ρ.length ∧ ∀ j, j ∉ g.slots → ρ'[j]? = ρ[j]?) ?_ ?_ ?_ ?_ g
  · intro i d ρ ρ' h
    simp only [bdT, Option.some.injEq] at h
    subst h
    refine ⟨List.length_set, fun j hj => List.getElem?_set_ne ?_⟩
    simp only [RT.slots, List.mem_singleton] at hj
    exact fun e => hj e.symm
  · intro l ih d ρ ρ' h
    cases d <;> first | (simp [bdT] at h; done) | skip
    exact ih _ _ _ (by simpa only [bdT] using h)
  · intro d ρ ρ' h
    cases d with
    | nil => simp only [bdTs, Option.some.injEq] at h; subst h; exact ⟨rfl, fun _ _ => rfl⟩
    | cons => simp [bdTs] at h
  · intro a l iha ihl d ρ ρ' h
    cases d with
    | nil => simp [bdTs] at h
    | cons d ds =>
      simp only [bdTs, Option.bind_eq_some_iff] at h
      obtain ⟨ρ1, h1, h2⟩ := h
      obtain ⟨l1, e1⟩ := iha _ _ _ h1
      obtain ⟨l2, e2⟩ := ihl _ _ _ h2
      refine ⟨l2.trans l1, fun j hj => ?_⟩
      simp only [RTs.slots, List.mem_append, not_or] at hj
      rw [e2 j hj.2, e1 j hj.1]
theorem wip_on {ρ : List Sv} {i : Nat} (hi : i < ρ.length) : ∀ {l : List Nat}, i ∈ l → (wip l ρ)[i]? = some .no
  | [], h => by simp at h
  | v :: vs, h => by
    unfold wip
    by_cases hv : v = i
    · subst hv
      rw [List.getElem?_set_self (by rw [wip_length]; exact hi)]
    · rw [List.getElem?_set_ne hv]
      exact wip_on hi ((List.mem_cons.mp h).resolve_left fun z => hv z.symm)
theorem wip_bd {g : RT} {d : D} {own : List Nat} {ρ' : List Sv} (h : bdT g d (wip own ρ) = some ρ') (hg : ∀ i ∈ g.slots, i ∈ own) : wip own ρ' = wip own ρ := by
  obtain ⟨hl, hs⟩ := bdT_len _ _ _ _ h
  rw [wip_length] at hl
  apply List.ext_getElem?
  intro j
  by_cases hj : j ∈ own
  · by_cases h2 : j < ρ.length
    · rw [wip_on (hl ▸ h2) hj, wip_on h2 hj]
    · rw [List.getElem?_eq_none (by rw [wip_length]; omega), List.getElem?_eq_none (by rw [wip_length]; omega)]
  · rw [wip_out hj, wip_out hj, hs j fun z => hj (hg j z), wip_out hj]
theorem unw_on {ρ0 ρ : List Sv} {i : Nat} (hi : i < ρ.length) : ∀ {l : List Nat}, i ∈ l → (unw ρ0 l ρ)[i]? = some (ρ0[i]?.getD .no)
  | [], h => by simp at h
  | v :: vs, h => by
    unfold unw
    by_cases hv : v = i
    · subst hv
      rw [List.getElem?_set_self (by rw [unw_length]; exact hi)]
    · rw [List.getElem?_set_ne hv]
      exact unw_on hi ((List.mem_cons.mp h).resolve_left fun z => hv z.symm)
theorem unw_wip (own : List Nat) (ρ : List Sv) : unw ρ own (wip own ρ) = ρ := by
  apply List.ext_getElem?
  intro j
  by_cases hj : j ∈ own
  · by_cases h2 : j < ρ.length
    · rw [unw_on (by rw [wip_length]; exact h2) hj, List.getElem?_eq_getElem h2]; rfl
    · rw [List.getElem?_eq_none (by rw [unw_length, wip_length]; omega), List.getElem?_eq_none (by omega)]
  · rw [unw_out hj, wip_out hj]
theorem lcGo_run {g : RT} {tc : TDt} {te : TD} {own : List Nat} {p : D → Ot Bool} {f : D → Ot (D × Bool)} (hg : ∀ i ∈ g.slots, i ∈ own)
    (hc : ∀ d b (K : Bool → En → Prop), (p d).post b (fun t b => ∀ ρ', bdT g d (wip own ρ) = some ρ' → K t ⟨ρ', b⟩) noX → ∃ ρ', bdT g d (wip own ρ) = some ρ' ∧ tc ⟨ρ', b⟩ K)
    (he : ∀ d ρ' b (K : Rs → En → Prop), bdT g d (wip own ρ) = some ρ' → (f d).post b (fun y b => K (rsv y) ⟨ρ', b⟩) noX → te ⟨ρ', b⟩ K) : ∀ (l : List D) (acc : List D) (K : List D → En → Prop) {b : Nat}, acc.length + l.length ≤ Z → (lcR p f l).nox.post b (fun out b => K (acc ++ out) ⟨wip own ρ, b⟩) Ex → lcGo g tc te own l acc ⟨wip own ρ, b⟩ K
  | [], acc, K, b, _, q => by
    have q : K (acc ++ []) ⟨wip own ρ, b⟩ := q
    rw [List.append_nil] at q
    exact q
  | d :: l, acc, K, b, hz, q => by
    rw [List.length_cons] at hz
    unfold lcR at q
    rw [nox_bind, post_bind] at q
    refine hc d b _ (post_imp (fun t b2 hn => ?_) (fun _ _ h => h) (post_nox q))
    intro ρ2 e1
    have we : wip own ρ2 = wip own ρ := wip_bd e1 hg
    cases t with
    | false =>
      show lcGo g tc te own l acc ⟨wip own ρ2, b2⟩ K
      rw [we]
      exact lcGo_run hg hc he l acc K (by omega) hn
    | true =>
      simp only [cond_true, nox_bind, post_bind] at hn
      refine he d ρ2 b2 _ e1 (post_imp (fun y b3 hy => ?_) (fun _ _ h => h) (post_nox hn))
      refine rd_frz rd_rsv ⟨by omega, ?_⟩
      show lcGo g tc te own l (acc ++ [y.1]) ⟨wip own ρ2, b3⟩ K
      rw [we]
      refine lcGo_run hg hc he l _ K (by rw [List.length_append, List.length_singleton]; omega) (post_imp (fun z b4 hz => ?_) (fun _ _ h => h) hy)
      rw [List.append_assoc]
      exact hz
theorem isOw_no {s : Option Sv} (h : (!isOw s) = true) (d : D) : s ≠ some (.ow d) := by
  rintro rfl; simp [isOw] at h
theorem boolR_is {p : D × Bool} {b1 : Bool} (h : boolR p = .r b1) : rsv p = .val (.bl b1) := by
  obtain ⟨d, f⟩ := p
  unfold boolR at h
  cases f with
  | true => simp at h
  | false =>
    rw [if_neg (by simp)] at h
    cases d <;> cases h
    rfl
/-- .. and goes on -/
theorem boolR_post {o : Ot (D × Bool)} {Q : Bool → Nat → Prop} (h : (o.bind boolR).post b Q Ex) : o.post b (fun p b => ∃ b1, rsv p = .val (.bl b1) ∧ Q b1 b) Ex := by
  rw [post_bind] at h
  refine post_imp (fun p b hp => ?_) (fun _ _ h => h) h
  cases hb : boolR p with
  | r b1 => rw [hb] at hp; exact ⟨b1, boolR_is hb, hp⟩
  | x e =>
    exfalso
    unfold boolR at hb
    split at hb
    · cases hb
    · cases q : boolD p.1 <;> rw [q] at hb <;> cases hb
  | no => rw [hb] at hp; exact hp.elim
  | dr m k =>
    exfalso
    unfold boolR at hb
    split at hb
    · cases hb
    · cases q : boolD p.1 <;> rw [q] at hb <;> cases hb
end

section
variable {v : Ev} {c : Pc}
mutual
theorem rx_ok (h : Fits v c) : ∀ (e : RX) {b : Nat} {ρ : List Sv} {Ex : Xc → Nat → Prop} {K : Rs → En → Prop}, (rx c e ρ).post b (fun p b => K (rsv p) ⟨ρ, b⟩) Ex → ev v Ex e ⟨ρ, b⟩ K
  | .var i, b, ρ, Ex, K, q => by
    simp only [rx, post_of, Option.map_eq_some_iff] at q
    obtain ⟨p, ⟨d, h1, rfl⟩, q⟩ := q
    exact ev_var_sh h1 q
  | .c d, b, ρ, Ex, K, q => q
  | .b1 f a, b, ρ, Ex, K, q => by
    simp only [rx, post_bind, post_of] at q
    refine opd_ok (a := a) (c := c) (fun b K q => rx_ok h a q) q fun r d b hr hd => ?_
    obtain ⟨p, h1, hK⟩ := hd
    obtain ⟨e, h2, h3⟩ := pB1_ok h.cs h1
    exact ⟨d, e, hr, h2, h3 ▸ hK⟩
  | .b2 f a a2, b, ρ, Ex, K, q => by
    simp only [rx, post_bind, post_of] at q
    refine opd_ok (a := a) (c := c) (fun b K q => rx_ok h a q) q fun r d b hr q2 => ?_
    refine opd_ok (a := a2) (c := c) (fun b K q => rx_ok h a2 q) q2 fun r2 d2 b hr2 hd => ?_
    obtain ⟨p, h1, hK⟩ := hd
    obtain ⟨e, h2, h3⟩ := pB2_ok (v := v) h1
    exact ⟨d, d2, e, hr, hr2, h2, h3 ▸ hK⟩
  | .chain o p a a2 a3, b, ρ, Ex, K, q => by
    simp only [rx, post_bind, post_of] at q
    refine opd_ok (a := a) (c := c) (fun b K q => rx_ok h a q) q fun r d b hr q2 => ?_
    refine opd_ok (a := a2) (c := c) (fun b K q => rx_ok h a2 q) q2 fun r2 d2 b hr2 hd => ?_
    obtain ⟨b1, h1, hd⟩ := hd
    refine ⟨d, d2, b1, hr, hr2, pCmp_ok h1, ?_⟩
    cases b1 with
    | true =>
      simp only [cond_true, post_bind, post_of] at hd
      refine opd_ok (a := a3) (c := c) (fun b K q => rx_ok h a3 q) hd fun r3 d3 b hr3 hd => ?_
      obtain ⟨b2, h2, hK⟩ := hd
      exact ⟨d2, d3, _, hr2, hr3, pCmp_ok h2, hK⟩
    | false => exact hd
  | .and a a2, b, ρ, Ex, K, q => by
    simp only [rx] at q
    rw [post_bind] at q
    refine rx_ok h a (post_imp (fun p b hp => ?_) (fun _ _ h => h) (boolR_post q))
    obtain ⟨b1, e, hp⟩ := hp
    refine ⟨b1, e, ?_⟩
    cases b1 with
    | true => exact rx_ok h a2 hp
    | false => exact hp
  | .or a a2, b, ρ, Ex, K, q => by
    simp only [rx] at q
    rw [post_bind] at q
    refine rx_ok h a (post_imp (fun p b hp => ?_) (fun _ _ h => h) (boolR_post q))
    obtain ⟨b1, e, hp⟩ := hp
    refine ⟨b1, e, ?_⟩
    cases b1 with
    | true => exact hp
    | false => exact rx_ok h a2 hp
  | .not a, b, ρ, Ex, K, q => by
    simp only [rx] at q
    rw [post_bind] at q
    refine rx_ok h a (post_imp (fun p b hp => ?_) (fun _ _ h => h) (boolR_post q))
    obtain ⟨b1, e, hp⟩ := hp
    exact ⟨b1, e, hp⟩
  | .ite t a a2, b, ρ, Ex, K, q => by
    simp only [rx, post_bind] at q
    refine rc_ok h t (post_imp (fun b1 b hp => ?_) (fun _ _ h => h) q)
    cases b1 with
    | true => exact rx_ok h a hp
    | false => exact rx_ok h a2 hp
  | .tup l, b, ρ, Ex, K, q => by
    simp only [rx, post_bind, post_gd] at q
    refine rxs_ok h l (post_imp (fun ds b hp => ?_) (fun _ _ h => h) q)
    exact ⟨of_decide_eq_true hp.1, hp.2⟩
  | .lst l, b, ρ, Ex, K, q => by
    simp only [rx, post_bind, post_gd] at q
    refine rxs_ok h l (post_imp (fun ds b hp => ?_) (fun _ _ h => h) q)
    exact ⟨of_decide_eq_true hp.1, hp.2⟩
  | .dctN t, b, ρ, Ex, K, q => q
  | .cut a lo hi, b, ρ, Ex, K, q => by
    simp only [rx, post_bind] at q
    refine rx_ok h a (post_imp (fun p b hp => ?_) (fun _ _ h => h) q)
    refine rd_frz rd_rsv ?_
    refine ro_ok h lo (post_imp (fun l b hl => ?_) (fun _ _ h => h) hp)
    refine ro_ok h hi (post_imp (fun u b hu => ?_) (fun _ _ h => h) hl)
    split at hu
    · rename_i xs e; exact .inl ⟨xs, e, hu⟩
    · rename_i xs e; exact .inr ⟨xs, e, hu⟩
    · exact hu.elim
  | .call k l, b, ρ, Ex, K, q => by
    simp only [rx, post_bind] at q
    refine rxs_ok h l (post_imp (fun ds b hp => ?_) (fun _ _ h => h) q)
    exact h.F k ds b _ _ hp
  | .lc it g own t e, b, ρ, Ex, K, q => by
    simp only [rx, post_bind] at q
    refine ri_ok h it (post_imp (fun l b hp hsq => ?_) (fun _ _ h => h) q)
    simp only [post_gd, post_bind, Bool.and_eq_true, Bool.or_eq_true, List.all_eq_true, decide_eq_true_eq, List.contains_iff_mem] at hp
    obtain ⟨⟨⟨h1, hg⟩, h2⟩, h3⟩ := hp
    have h2 : l.length ≤ Z := h2.elim hsq id
    refine ⟨fun i hi d => isOw_no (h1 i hi) d, ?_⟩
    rw [← List.append_nil ([] : List D)]
    refine lcGo_run (p := fun d => (Ot.of (bdT g d (wip own ρ))).bind fun ρ' => rc c t ρ') (f := fun d => (Ot.of (bdT g d (wip own ρ))).bind fun ρ' => rx c e ρ') hg (fun d b K hb => ?_) (fun d ρ' b K eb hy => ?_) l [] _ (by simpa using h2) (post_imp (fun out b hK => ?_) (fun _ _ h => h) h3)
    · rw [post_bind, post_of] at hb
      obtain ⟨ρ', eb, hb⟩ := hb
      exact ⟨ρ', eb, rc_ok h t (post_imp (fun t b hK => hK ρ' eb) (fun _ _ h => h) hb)⟩
    · rw [eb] at hy
      exact rx_ok h e hy
    · show K (.tmp (.lst ([] ++ out))) ⟨unw ρ own (wip own ρ), b⟩
      rw [unw_wip, List.nil_append]
      exact hK
  | .callV _ _, b, ρ, Ex, K, q => by simp only [rx, Ot.post] at q
  | .callS k l, b, ρ, Ex, K, q => by
    simp only [rx, post_bind, post_of] at q
    refine rxs_ok h l (post_imp (fun ds b hp => ?_) (fun _ _ h => h) q)
    obtain ⟨es, h1, hp⟩ := hp
    rcases h.lf with h0 | h0
    case inr => rw [h0] at hp; exact hp.elim
    have e1 : v.lf = c.lf := funext h0
    refine ⟨es, e1 ▸ h1, h.FS k es b _ _ (post_nox (post_imp (fun p b hp => ?_) (fun _ _ h => h) hp))⟩
    rw [post_gd] at hp
    exact ⟨hp.1, hp.2⟩
  | .app _ _, b, ρ, Ex, K, q => by simp only [rx, Ot.post] at q
  | .pop _, b, ρ, Ex, K, q => by simp only [rx, Ot.post] at q
  | .pop0 _, b, ρ, Ex, K, q => by simp only [rx, Ot.post] at q
  | .popI _ _, b, ρ, Ex, K, q => by simp only [rx, Ot.post] at q
theorem rxs_ok (h : Fits v c) : ∀ (e : RXs) {b : Nat} {ρ : List Sv} {Ex : Xc → Nat → Prop} {K : List D → En → Prop}, (rxs c e ρ).post b (fun p b => K p ⟨ρ, b⟩) Ex → evs v Ex e ⟨ρ, b⟩ K
  | .nil, b, ρ, Ex, K, q => q
  | .cons a l, b, ρ, Ex, K, q => by
    simp only [rxs, post_bind] at q
    refine rx_ok h a (post_imp (fun p b hp => ?_) (fun _ _ h => h) q)
    exact rd_frz rd_rsv (rxs_ok h l hp)
theorem rc_ok (h : Fits v c) : ∀ (e : RC) {b : Nat} {ρ : List Sv} {Ex : Xc → Nat → Prop} {K : Bool → En → Prop}, (rc c e ρ).post b (fun p b => K p ⟨ρ, b⟩) Ex → ec v Ex e ⟨ρ, b⟩ K
  | .yes, b, ρ, Ex, K, q => q
  | .v a, b, ρ, Ex, K, q => by
    simp only [rc] at q
    refine rx_ok h a (post_imp (fun p b hp => ?_) (fun _ _ h => h) (boolR_post q))
    exact hp
  | .cmp o a a2, b, ρ, Ex, K, q => by
    simp only [rc, post_bind, post_of] at q
    refine opd_ok (a := a) (c := c) (fun b K q => rx_ok h a q) q fun r d b hr q2 => ?_
    refine opd_ok (a := a2) (c := c) (fun b K q => rx_ok h a2 q) q2 fun r2 d2 b hr2 hd => ?_
    obtain ⟨b1, h1, hK⟩ := hd
    exact ⟨d, d2, _, hr, hr2, pCmp_ok h1, b1, rfl, hK⟩
  | .chain o p a a2 a3, b, ρ, Ex, K, q => by
    simp only [rc, post_bind, post_of] at q
    refine opd_ok (a := a) (c := c) (fun b K q => rx_ok h a q) q fun r d b hr q2 => ?_
    refine opd_ok (a := a2) (c := c) (fun b K q => rx_ok h a2 q) q2 fun r2 d2 b hr2 hd => ?_
    obtain ⟨b1, h1, hd⟩ := hd
    refine ⟨d, d2, b1, hr, hr2, pCmp_ok h1, ?_⟩
    cases b1 with
    | true =>
      simp only [cond_true, post_bind, post_of] at hd
      refine opd_ok (a := a3) (c := c) (fun b K q => rx_ok h a3 q) hd fun r3 d3 b hr3 hd => ?_
      obtain ⟨b2, h2, hK⟩ := hd
      exact ⟨d2, d3, _, hr2, hr3, pCmp_ok h2, b2, rfl, hK⟩
    | false => exact ⟨false, rfl, hd⟩
  | .not a, b, ρ, Ex, K, q => by
    simp only [rc, post_bind] at q
    exact rc_ok h a (post_imp (fun p b hp => hp) (fun _ _ h => h) q)
  | .and a a2, b, ρ, Ex, K, q => by
    simp only [rc, post_bind] at q
    refine rc_ok h a (post_imp (fun b1 b hp => ?_) (fun _ _ h => h) q)
    cases b1 with
    | true => exact rc_ok h a2 hp
    | false => exact hp
  | .or a a2, b, ρ, Ex, K, q => by
    simp only [rc, post_bind] at q
    refine rc_ok h a (post_imp (fun b1 b hp => ?_) (fun _ _ h => h) q)
    cases b1 with
    | true => exact hp
    | false => exact rc_ok h a2 hp
theorem ro_ok (h : Fits v c) : ∀ (e : RO) {b : Nat} {ρ : List Sv} {Ex : Xc → Nat → Prop} {K : Option Int → En → Prop}, (ro c e ρ).post b (fun p b => K p ⟨ρ, b⟩) Ex → eo v Ex e ⟨ρ, b⟩ K
  | .no, b, ρ, Ex, K, q => q
  | .so a, b, ρ, Ex, K, q => by
    simp only [ro, post_bind, post_of] at q
    refine opd_ok (a := a) (c := c) (fun b K q => rx_ok h a q) q fun r d b hr hd => ?_
    obtain ⟨i, h1, hK⟩ := hd
    cases d <;> cases h1
    exact ⟨i, hr, hK⟩
theorem ri_ok (h : Fits v c) : ∀ (e : RI) {b : Nat} {ρ : List Sv} {Ex : Xc → Nat → Prop} {K : List D → En → Prop}, (ri c e ρ).post b (fun p b => (e.isSeq = true → p.length ≤ Z) → K p ⟨ρ, b⟩) Ex → ei v Ex e ⟨ρ, b⟩ K
  | .seq a, b, ρ, Ex, K, q => by
    simp only [ri, post_bind, post_of] at q
    refine rx_ok h a (post_imp (fun p b hp => ?_) (fun _ _ h => h) q)
    obtain ⟨l, h1, hK⟩ := hp
    exact rd_frz rd_rsv ⟨l, sqL_ok h1, fun hz => hK fun _ => hz⟩
  | .rg1 l, b, ρ, Ex, K, q => by
    simp only [ri, post_bind] at q
    refine rxs_ok h l (post_imp (fun ds b hp => ?_) (fun _ _ h => h) q)
    split at hp
    · split at hp
      · exact ⟨_, rfl, ‹_›, hp nofun⟩
      · exact hp.elim
    · exact hp.elim
  | .rg2 l, b, ρ, Ex, K, q => by
    simp only [ri, post_bind] at q
    refine rxs_ok h l (post_imp (fun ds b hp => ?_) (fun _ _ h => h) q)
    split at hp
    · split at hp
      · rename_i hh; exact ⟨_, _, rfl, hh.1, hh.2, hp nofun⟩
      · exact hp.elim
    · exact hp.elim
  | .enum a, b, ρ, Ex, K, q => by
    simp only [ri, post_bind] at q
    refine rx_ok h a (post_imp (fun p b hp => ?_) (fun _ _ h => h) q)
    refine rd_frz rd_rsv ?_
    split at hp
    · rename_i l e; exact ⟨l, by rw [e], hp nofun⟩
    · exact hp.elim
  | .zip a a2, b, ρ, Ex, K, q => by
    simp only [ri, post_bind] at q
    refine rx_ok h a (post_imp (fun p b hp => ?_) (fun _ _ h => h) q)
    refine rd_frz rd_rsv (rx_ok h a2 (post_imp (fun p2 b hp => ?_) (fun _ _ h => h) hp))
    refine rd_frz rd_rsv ?_
    split at hp
    · rename_i l m e1 e2; exact ⟨l, m, .inl (by rw [e1, e2]), hp nofun⟩
    · rename_i l m e1 e2; exact ⟨l, m, .inr (by rw [e1, e2]), hp nofun⟩
    · exact hp.elim
end
end
end Sh
namespace Sh
open L2 PySem PySem.Spec PyProof.Rows

def Ou.to (K : Ko) : Ou → Nat → Prop
  | .nx ρ, b => K.nx ⟨ρ, b⟩
  | .bk ρ, b => K.bk ⟨ρ, b⟩
  | .ct ρ, b => K.ct ⟨ρ, b⟩
  | .rt d f, b => K.rt d f b
section
variable {v : Ev} {c : Pc} {b : Nat} {ρ : List Sv} {Ex : Xc → Nat → Prop} {K : Ko}
theorem sto_rsv {i : Nat} {p : D × Bool} {Kn : En → Prop} (h : Kn ⟨stR i p ρ, b⟩) : sto i (rsv p) ⟨ρ, b⟩ Kn := by
  obtain ⟨d, f⟩ := p
  cases f <;> exact h
theorem ownL_is {s : Option Sv} {l : List D} (h : ownL s = some l) : s = some (.ow (.lst l)) := by
  unfold ownL at h
  split at h <;> cases h
  rfl
theorem rxp_ok (h : Fits v c) {e : RX} {K : Rs → En → Prop} (q : (rxp c e ρ).post b (fun p b => K (rsv p.1) ⟨p.2, b⟩) Ex) : ev v Ex e ⟨ρ, b⟩ K := by
  unfold rxp at q
  split at q
  · rename_i j
    simp only [post_of, Option.bind_eq_some_iff, Option.map_eq_some_iff] at q
    obtain ⟨o, ⟨l, h1, d, h2, rfl⟩, q⟩ := q
    exact ⟨l, d, ownL_is h1, h2, q⟩
  · rename_i j
    simp only [post_of, Option.bind_eq_some_iff, Option.map_eq_some_iff] at q
    obtain ⟨o, ⟨l, h1, d, h2, rfl⟩, q⟩ := q
    exact ⟨l, d, ownL_is h1, h2, q⟩
  · rename_i j a
    simp only [post_bind, post_of] at q
    obtain ⟨l, h1, q⟩ := q
    refine ⟨⟨l, ownL_is h1⟩, opd_ok (a := a) (c := c) (fun b K q => rx_ok h a q) q fun r d b hr hd => ?_⟩
    obtain ⟨o, h2, q⟩ := hd
    simp only [Option.bind_eq_some_iff] at h2
    obtain ⟨k, hk, h2⟩ := h2
    split at h2
    · rename_i hz
      rw [Option.map_eq_some_iff] at h2
      obtain ⟨x, h3, rfl⟩ := h2
      cases d <;> cases hk
      obtain ⟨k', rfl⟩ := Int.eq_ofNat_of_zero_le hz.1
      exact ⟨k', l, x, hr, by omega, ownL_is h1, h3, q⟩
    · cases h2
  · rw [post_bind] at q
    exact rx_ok h e (post_imp (fun p b hp => hp) (fun _ _ h => h) q)
theorem rsA_ok (h : Fits v c) {i : Nat} {e : RX} (q : (rsA c i e ρ).post b (Ou.to K) Ex) : ex v Ex (.asg i e) K ⟨ρ, b⟩ := by
  unfold rsA at q
  rw [post_bind] at q
  exact rxp_ok h (post_imp (fun p b hp => sto_rsv hp) (fun _ _ h => h) q)
theorem rsE_ok (h : Fits v c) {e : RX} (q : (rsE c e ρ).post b (Ou.to K) Ex) : ex v Ex (.ex e) K ⟨ρ, b⟩ := by
  unfold rsE at q
  split at q
  · rename_i i a
    simp only [post_bind, post_of, post_gd, decide_eq_true_eq] at q
    obtain ⟨l, h1, q⟩ := q
    refine ⟨⟨l, ownL_is h1⟩, rxp_ok h (post_imp (fun p b hp => ?_) (fun _ _ h => h) q)⟩
    obtain ⟨l, h1, hp⟩ := hp
    exact rd_frz rd_rsv ⟨l, ownL_is h1, hp.1, hp.2⟩
  · rw [post_bind] at q
    exact rx_ok h e (post_imp (fun p b hp => hp) (fun _ _ h => h) q)
theorem rsR_ok (h : Fits v c) {e : RX} (q : (rsR c e ρ).post b (Ou.to K) Ex) : ex v Ex (.ret e) K ⟨ρ, b⟩ := by
  unfold rsR at q
  split at q
  · rename_i i
    rw [post_of] at q
    simp only [Option.map_eq_some_iff] at q
    obtain ⟨o, ⟨d, h1, rfl⟩, q⟩ := q
    show dVar i ⟨ρ, b⟩ (retK K)
    unfold dVar
    cases hs : ρ[i]? with
    | none => rw [hs] at h1; cases h1
    | some s =>
      rw [hs] at h1 q
      cases s <;> cases h1
      · exact q
      · simp only
        rw [retK_slt]
        simp only [hs]
        exact q
  · rw [post_bind] at q
    refine rx_ok h e (post_imp (fun p b hp => ?_) (fun _ _ h => h) q)
    obtain ⟨d, f⟩ := p
    cases f <;> exact hp
theorem rxsP_ok (h : Fits v c) : ∀ (e : RXs) {b : Nat} {K : List Rs → En → Prop}, (rxsP c e ρ).post b (fun ps b => K (ps.map rsv) ⟨ρ, b⟩) Ex → evr v Ex e ⟨ρ, b⟩ K
  | .nil, b, K, q => q
  | .cons a l, b, K, q => by
    simp only [rxsP, post_bind] at q
    refine rx_ok h a (post_imp (fun p b hp => ?_) (fun _ _ h => h) q)
    have go := rxsP_ok (K := fun rs n3 => K (rsv p :: rs) n3) h l hp
    obtain ⟨d, f⟩ := p
    cases f <;> exact go
theorem stP_is : ∀ {l : List Nat} {ps : List (D × Bool)} {ρ ρ' : List Sv}, stP l ps ρ = some ρ' → stoAll l (ps.map rsv) ρ = some ρ'
  | [], [], _, _, h => h
  | [], _ :: _, _, _, h => by cases h
  | _ :: _, [], _, _, h => by cases h
  | i :: l, (d, f) :: ps, ρ, ρ', h => by
    have h : stP l ps (stR i (d, f) ρ) = some ρ' := h
    have := stP_is h
    cases f <;> exact this
theorem forR_ok {g : RT} {body : RSs} (ih : ∀ (b : Nat) (ρ : List Sv) (K : Ko), (rss c body ρ).post b (Ou.to K) Ex → exs v Ex body K ⟨ρ, b⟩) : ∀ (l : List D) (b : Nat) (ρ : List Sv), (forR (fun d ρ => (Ot.of (bdT g d ρ)).bind fun ρ' => rss c body ρ') l ρ).post b (Ou.to K) Ex → forGo g (exs v Ex body) l K ⟨ρ, b⟩
  | [], b, ρ, q => q
  | d :: l, b, ρ, q => by
    unfold forR at q
    simp only [post_bind, post_of] at q
    obtain ⟨ρ', e, q⟩ := q
    refine ⟨ρ', e, ih _ ρ' _ (post_imp (fun o b ho => ?_) (fun _ _ h => h) q)⟩
    cases o with
    | nx ρ2 => exact forR_ok ih l _ ρ2 ho
    | ct ρ2 => exact forR_ok ih l _ ρ2 ho
    | bk ρ2 => exact ho
    | rt d f => exact ho
theorem whR_ok (h : Fits v c) {t : RC} {body : RSs} (ih : ∀ (b : Nat) (ρ : List Sv) (K : Ko), (rss c body ρ).post b (Ou.to K) Ex → exs v Ex body K ⟨ρ, b⟩) {k : Nat} {ρ : List Sv} (q : (whR (rc c t) (rss c body) k ρ).post b (Ou.to K) Ex) : sWhl (ec v Ex t) (exs v Ex body) K ⟨ρ, b⟩ := by
  refine ⟨fun m n => (whR (rc c t) (rss c body) m n.ρ).post n.b (Ou.to K) Ex, ⟨k, q⟩, ?_⟩
  rintro m ⟨ρ, b⟩ q
  cases m with
  | zero => exact q.elim
  | succ m =>
    unfold whR at q
    simp only [post_bind] at q
    refine rc_ok h t (post_imp (fun b1 b hp => ?_) (fun _ _ h => h) q)
    cases b1 with
    | true =>
      simp only [cond_true, post_bind] at hp
      refine ih _ ρ _ (post_imp (fun o b ho => ?_) (fun _ _ h => h) hp)
      cases o with
      | nx ρ2 => exact ⟨m, Nat.lt_succ_self m, ho⟩
      | ct ρ2 => exact ⟨m, Nat.lt_succ_self m, ho⟩
      | bk ρ2 => exact ho
      | rt d f => exact ho
    | false => exact hp
end
section
variable {v : Ev} {c : Pc}
mutual
theorem rs_ok (h : Fits v c) : ∀ (s : RS) {b : Nat} {ρ : List Sv} {Ex : Xc → Nat → Prop} {K : Ko}, (rs c s ρ).post b (Ou.to K) Ex → ex v Ex s K ⟨ρ, b⟩
  | .asg i e, b, ρ, Ex, K, q => rsA_ok h q
  | .asgT g e, b, ρ, Ex, K, q => by
    simp only [rs, post_bind, post_of] at q
    refine rx_ok h e (post_imp (fun p b hp => ?_) (fun _ _ h => h) q)
    obtain ⟨ρ', e1, hK⟩ := hp
    exact rd_frz rd_rsv ⟨ρ', e1, hK⟩
  | .par l e, b, ρ, Ex, K, q => by
    simp only [rs, post_bind, post_of] at q
    refine rxsP_ok h e (post_imp (fun ps b hp => ?_) (fun _ _ h => h) q)
    obtain ⟨ρ', e1, hK⟩ := hp
    exact ⟨ρ', stP_is e1, hK⟩
  | .aug i e, b, ρ, Ex, K, q => by
    simp only [rs, post_bind, post_of, Option.bind_eq_some_iff] at q
    obtain ⟨a, ⟨d, h1, h2⟩, q⟩ := q
    cases d <;> cases h2
    have h1 := shD_is h1
    refine ⟨⟨a, h1⟩, opd_ok (a := e) (c := c) (fun b K q => rx_ok h e q) q fun r d b hr hd => ?_⟩
    obtain ⟨a2, h3, hK⟩ := hd
    cases d <;> cases h3
    exact ⟨a, a2, h1, hr, hK⟩
  | .put i k e, b, ρ, Ex, K, q => by
    simp only [rs, post_bind, post_of] at q
    refine rx_ok h e (post_imp (fun p b hp => ?_) (fun _ _ h => h) q)
    obtain ⟨l, h1, hp⟩ := hp
    refine rd_frz rd_rsv ⟨⟨l, ownL_is h1⟩, opd_ok (a := k) (c := c) (fun b K q => rx_ok h k q) hp fun r d b hr hd => ?_⟩
    obtain ⟨o, h2, hK⟩ := hd
    simp only [Option.bind_eq_some_iff, Option.map_eq_some_iff] at h2
    obtain ⟨k2, hk, j, hj, rfl⟩ := h2
    cases d <;> cases hk
    exact ⟨l, _, j, hr, ownL_is h1, hj, hK⟩
  | .fld _ _ _, b, ρ, Ex, K, q => by simp only [rs, Ot.post] at q
  | .ex e, b, ρ, Ex, K, q => rsE_ok h q
  | .ret e, b, ρ, Ex, K, q => rsR_ok h q
  | .retN, b, ρ, Ex, K, q => q
  | .raise k l, b, ρ, Ex, K, q => by
    simp only [rs] at q
    cases hz : c.rz k with
    | none => simp only [hz] at q; exact q.elim
    | some z =>
      obtain ⟨x, n, fs⟩ := z
      simp only [ex, h.rz k _ hz]
      simp only [hz, post_bind] at q
      refine rxs_ok h l (post_imp (fun ds b hp => ?_) (fun _ _ h => h) q)
      split at hp
      · exact ⟨‹_›, hp⟩
      · exact hp.elim
  | .pass, b, ρ, Ex, K, q => q
  | .brk, b, ρ, Ex, K, q => q
  | .cnt, b, ρ, Ex, K, q => q
  | .ite t a a2, b, ρ, Ex, K, q => by
    simp only [rs, post_bind] at q
    refine rc_ok h t (post_imp (fun b1 b hp => ?_) (fun _ _ h => h) q)
    cases b1 with
    | true => exact rss_ok h a hp
    | false => exact rss_ok h a2 hp
  | .for it g body, b, ρ, Ex, K, q => by
    simp only [rs, post_bind] at q
    exact ri_ok h it (post_imp (fun l b hp => fun _ => forR_ok (fun b ρ K q => rss_ok h body q) l _ ρ hp) (fun _ _ h => h) q)
  | .whl t body, b, ρ, Ex, K, q => by
    simp only [rs] at q
    exact whR_ok h (fun b ρ K q => rss_ok h body q) q
  | .fgt l, b, ρ, Ex, K, q => q
  | .shr i, b, ρ, Ex, K, q => by
    simp only [rs, shrR] at q
    show frz ⟨ρ, b⟩ (.slt i) fun _ n1 => K.nx n1
    rw [frz_slt]
    cases hs : ρ[i]? with
    | none => simp only [hs, Ot.post] at q
    | some s => cases s <;> simp only [hs, Ot.post] at q <;> exact q
theorem rss_ok (h : Fits v c) : ∀ (s : RSs) {b : Nat} {ρ : List Sv} {Ex : Xc → Nat → Prop} {K : Ko}, (rss c s ρ).post b (Ou.to K) Ex → exs v Ex s K ⟨ρ, b⟩
  | .nil, b, ρ, Ex, K, q => q
  | .cons a l, b, ρ, Ex, K, q => by
    simp only [rss, post_bind] at q
    refine rs_ok h a (post_imp (fun o b ho => ?_) (fun _ _ h => h) q)
    cases o with
    | nx ρ2 => exact rss_ok h l ho
    | ct ρ2 => exact ho
    | bk ρ2 => exact ho
    | rt d f => exact ho
end
theorem run_does (h : Fits v c) {N : List Str} {m : Nat} {r : RSs} : Does v N m r (SOf (run c N.length m r)) := by
  intro ds b KQ KE q
  unfold SOf run at q
  split at q
  · rename_i hm
    refine ⟨hm, rss_ok h r ?_⟩
    rw [post_bind] at q
    subst hm
    refine post_imp (fun o b ho => ?_) (fun _ _ h => h) q
    cases o with
    | nx ρ => exact ho
    | rt d f => exact ho
    | bk ρ => exact ho.elim
    | ct ρ => exact ho.elim
  · exact q.elim
theorem flR_ok (h : Fits v c) {Ex : Xc → Nat → Prop} {K : Ko} : ∀ (l : List (Str × RX)) {b : Nat} {ρ : List Sv}, (flR c l ρ).post b (fun p b => ∀ ρ2 : List Sv, ρ2[0]? = some (.ow p.1) → K.nx ⟨ρ2, b⟩) Ex → exs v Ex (fldR l) K ⟨ρ, b⟩
  | [], b, ρ, q => by
    unfold flR at q
    split at q
    · rename_i k fs e
      exact q ρ e
    · exact q.elim
  | (f, e) :: l, b, ρ, q => by
    unfold flR at q
    rw [post_bind] at q
    refine rx_ok h e (post_imp (fun p b hp => ?_) (fun _ _ h => h) q)
    split at hp
    · rename_i k fs e1
      simp only [post_gd, Bool.and_eq_true, decide_eq_true_eq, List.contains_iff_mem] at hp
      obtain ⟨⟨⟨h1, h2⟩, h3⟩, hp⟩ := hp
      exact rd_frz rd_rsv ⟨k, fs, h.cs _ h1, h2, e1, h3, flR_ok h l hp⟩
    · exact hp.elim
theorem flR_ins {cl : Str} : ∀ (l : List (Str × RX)) {b : Nat} {ρ : List Sv} {fs : List (Str × D)} {Q : D × Bool → Nat → Prop} {E : Xc → Nat → Prop}, ρ[0]? = some (.ow (.ins cl fs)) → (flR c l ρ).post b Q E → (flR c l ρ).post b (fun p b => (∃ gs, p = tmp (.ins cl gs)) ∧ Q p b) E
  | [], b, ρ, fs, Q, E, h, q => by
    unfold flR at q ⊢
    simp only [h] at q ⊢
    exact ⟨⟨_, rfl⟩, q⟩
  | (f, x) :: l, b, ρ, fs, Q, E, h, q => by
    unfold flR at q ⊢
    rw [post_bind] at q ⊢
    refine post_imp (fun p b hp => ?_) (fun _ _ h => h) q
    simp only [h, post_gd] at hp ⊢
    exact ⟨hp.1, flR_ins l (List.getElem?_set_self (List.getElem?_eq_some_iff.mp h).1) hp.2⟩
theorem runI_does (h : Fits v c) {N : List Str} {m : Nat} {cl : Str} {r : RSs} {l : List (Str × RX)} : DoesI v cl N m r l (SOf (runI c cl N.length m r l)) := by
  intro ds b KQ KE q
  unfold SOf runI at q
  split at q
  · rename_i hm
    refine ⟨hm, rss_ok h r ?_⟩
    rw [post_bind] at q
    subst hm
    refine post_imp (fun o b ho => ?_) (fun _ _ h => h) q
    cases o with
    | rt d f => exact ho.elim
    | bk ρ => exact ho.elim
    | ct ρ => exact ho.elim
    | nx ρ =>
      cases ρ with
      | nil => exact ho.elim
      | cons s ρ =>
        cases s with
        | no => exact ho.elim
        | sh d => exact ho.elim
        | ow d => exact ho.elim
        | me =>
          have ho : (gd (ρ.all fun s => !isMe s) (flR c l (.ow (.ins cl []) :: ρ))).post b _ KE := ho
          simp only [post_gd, List.all_eq_true] at ho
          refine ⟨rfl, fun i hi => ?_, ?_⟩
          · cases i with
            | zero => rfl
            | succ i =>
              have := ho.1 _ (List.mem_of_getElem? hi)
              cases this
          · refine flR_ok h l (post_imp (fun p b hp ρ2 e2 => ?_) (fun _ _ h => h) (flR_ins l (cl := cl) (fs := []) rfl ho.2))
            obtain ⟨⟨gs, rfl⟩, hp⟩ := hp
            exact ⟨gs, e2, hp⟩
  · exact q.elim
end
end Sh
namespace Sh
open L2 PySem PySem.Spec PyProof.Rows

/-- one try: a closure, what is due -/
def tryOk (cc : Pc) (ld : Nat → LamD) (tab : List Clw) (d : D) : Prop := ∃ n caps due, d = .tup [.clo n caps, due] ∧ (∃ s, rpD due = some s) ∧ (ld n).m = 0 ∧ caps.length = (ld n).N.length ∧ plainL caps = true ∧ match rx cc (ld n).rx (caps.map .sh) with
  | .r _ => due = .non
  | .x e => ∃ tag fs ds, tab.lookup e.c = some (tag, fs) ∧ getsD e.fs fs = some ds ∧ due = .tup (.str tag :: ds)
  | _ => False
open Classical in
noncomputable def dueF (cc : Pc) (ld : Nat → LamD) (tab : List Clw) : List D → Ot (D × Bool)
  | [.lst l] => if l.length < Z ∧ ∀ d ∈ l, tryOk cc ld tab d then .r (val (.bl true)) else .no
  | _ => .no
theorem tryOk_due {v0 v : Ev} {cc : Pc} {ld : Nat → LamD} {tab : List Clw} (hf : Fits v0 cc) (hcl : ∀ n caps, v.cl n caps = cloS v0 (ld n) caps) {n : Nat} {caps : List D} {due : D} (h : tryOk cc ld tab (.tup [.clo n caps, due])) (b : Nat) : DueD v tab b (n, caps, due) := by
  obtain ⟨n', caps', due', e, ⟨s, hs⟩, hm, hN, hp, hx⟩ := h
  cases e
  refine ⟨?_, fun KQ hK => ⟨n, caps, rfl, ?_⟩⟩
  · obtain ⟨p, h1, h2, h3, h4, _⟩ := rpD_ok hs
    exact ⟨p, h1, h2, h3, h4⟩
  · rw [hcl]
    refine ⟨hm.symm, by rw [hN, hm]; rfl, rfl, hp, ?_⟩
    refine rx_ok hf _ ?_
    show (rx cc (ld n).rx (caps.map .sh)).post b _ _
    split at hx
    · rename_i p e
      rw [e]
      show retK _ (rsv p) _
      subst hx
      obtain ⟨d, f⟩ := p
      cases f <;> exact hK
    · rename_i x e
      rw [e]
      obtain ⟨tag, fs, ds, h1, h2, rfl⟩ := hx
      exact ⟨tag, fs, ds, h1, h2, hK⟩
    · exact hx.elim
theorem dueF_ok {v0 v : Ev} {cc : Pc} {ld : Nat → LamD} {tab : List Clw} (hf : Fits v0 cc) (hcl : ∀ n caps, v.cl n caps = cloS v0 (ld n) caps) {ds : List D} {b : Nat} {KQ : D → Bool → Nat → Prop} {KE : Xc → Nat → Prop} (h : SOf (dueF cc ld tab) ds b KQ KE) : dueS v tab ds b KQ KE := by
  unfold SOf dueF at h
  split at h
  · rename_i l
    split at h
    · rename_i hl
      obtain ⟨hz, hl⟩ := hl
      have go : ∀ l : List D, (∀ d ∈ l, tryOk cc ld tab d) → ∃ ts : List (Nat × List D × D), l = ts.map (fun t => .tup [.clo t.1 t.2.1, t.2.2]) ∧ ∀ t ∈ ts, DueD v tab b t := by
        intro l
        induction l with
        | nil => intro _; exact ⟨[], rfl, fun t ht => by cases ht⟩
        | cons d l ih =>
          intro hl
          obtain ⟨ts, e, ht⟩ := ih fun d hd => hl d (List.mem_cons_of_mem _ hd)
          have h0 := hl d List.mem_cons_self
          obtain ⟨n, caps, due, e0, _⟩ := h0
          subst e0
          refine ⟨(n, caps, due) :: ts, by rw [e]; rfl, fun t h => ?_⟩
          rcases List.mem_cons.mp h with rfl | h
          · exact tryOk_due hf hcl (hl _ List.mem_cons_self) b
          · exact ht t h
      obtain ⟨ts, rfl, ht⟩ := go l hl
      exact ⟨ts, rfl, by simpa using hz, ht, h⟩
    · exact h.elim
  · exact h.elim
/-- what the ev promises of ids -/
abbrev Fl := List (Nat × (List D → Ot (D × Bool)))
def ΦOf (Fs : Fl) : Fns := fun j => match Fs.lookup j with
  | some f => SOf f
  | none => fun _ _ _ _ => False
def FOf (Fs : Fl) : Fp := fun j ds => match Fs.lookup j with
  | some f => f ds
  | none => .no
abbrev Zl := List (Nat × Str × Nat × List (Str × Nat))
def pcOf (l : Fl) (cs : List Str) (z : Zl) : Pc := ⟨FOf l, cs, fun k => z.lookup k, fun _ _ => .no, fun _ => []⟩
/-- a class without an __init__ -/
def inst0F (c : Str) : List D → Ot (D × Bool)
  | [] => .r (tmp (.ins c []))
  | _ => .no
def gcdF : List D → Ot (D × Bool)
  | [.int i, .int j] => .r (val (.int (Nat.gcd i.natAbs j.natAbs : Nat)))
  | _ => .no
end Sh
namespace Sh
open L2 PySem PySem.Spec PyProof.Rows

/-- one lap of a loop -/
def bodR (c : Pc) (g : RT) (b : RSs) (d : D) (ρ : List Sv) : Ot Ou := (Ot.of (bdT g d ρ)).bind fun ρ' => rss c b ρ'
theorem bodR_eq {c : Pc} {g : RT} {b : RSs} {d : D} {ρ : List Sv} : bodR c g b d ρ = (Ot.of (bdT g d ρ)).bind fun ρ' => rss c b ρ' := id rfl
def shrS (i : Nat) (ρ : List Sv) (s : Option Sv) : Ot Ou := match s with
  | some (.sh _) => .r (.nx ρ)
  | some (.ow d) => .r (.nx (ρ.set i (.sh d)))
  | _ => .no
theorem rx_var {c : Pc} {ρ : List Sv} {i : _} : rx c (.var i : RX) ρ = .of ((shD ρ[i]?).map val) := id rfl
theorem rx_c {c : Pc} {ρ : List Sv} {d : _} : rx c (.c d : RX) ρ = .r (val d) := id rfl
theorem rx_b1 {c : Pc} {ρ : List Sv} {f : _} {a : _} : rx c (.b1 f a : RX) ρ = (opd a ρ (rx c a ρ)).bind fun d => .of (pB1 c.cs f d) := id rfl
theorem rx_b2 {c : Pc} {ρ : List Sv} {f : _} {a : _} {b : _} : rx c (.b2 f a b : RX) ρ = (opd a ρ (rx c a ρ)).bind fun d => (opd b ρ (rx c b ρ)).bind fun e => .of (pB2 f d e) := id rfl
theorem rx_chain {c : Pc} {ρ : List Sv} {o : _} {p : _} {a : _} {b : _} {e : _} : rx c (.chain o p a b e : RX) ρ = (opd a ρ (rx c a ρ)).bind fun x => (opd b ρ (rx c b ρ)).bind fun y => (Ot.of (pCmp o x y)).bind fun b1 => bif b1 then (opd e ρ (rx c e ρ)).bind fun z => (Ot.of (pCmp p y z)).bind fun b2 => .r (val (.bl b2)) else .r (val (.bl false)) := id rfl
theorem rx_and {c : Pc} {ρ : List Sv} {a : _} {b : _} : rx c (.and a b : RX) ρ = ((rx c a ρ).bind boolR).bind fun b1 => bif b1 then rx c b ρ else .r (val (.bl false)) := id rfl
theorem rx_or {c : Pc} {ρ : List Sv} {a : _} {b : _} : rx c (.or a b : RX) ρ = ((rx c a ρ).bind boolR).bind fun b1 => bif b1 then .r (val (.bl true)) else rx c b ρ := id rfl
theorem rx_not {c : Pc} {ρ : List Sv} {a : _} : rx c (.not a : RX) ρ = ((rx c a ρ).bind boolR).bind fun b1 => .r (val (.bl (!b1))) := id rfl
theorem rx_ite {c : Pc} {ρ : List Sv} {t : _} {a : _} {b : _} : rx c (.ite t a b : RX) ρ = (rc c t ρ).bind fun b1 => bif b1 then rx c a ρ else rx c b ρ := id rfl
theorem rx_tup {c : Pc} {ρ : List Sv} {l : _} : rx c (.tup l : RX) ρ = (rxs c l ρ).bind fun ds => gd (decide (ds.length ≤ Z)) (.r (val (.tup ds))) := id rfl
theorem rx_lst {c : Pc} {ρ : List Sv} {l : _} : rx c (.lst l : RX) ρ = (rxs c l ρ).bind fun ds => gd (decide (ds.length ≤ Z)) (.r (tmp (.lst ds))) := id rfl
theorem rx_dctN {c : Pc} {ρ : List Sv} {t : _} : rx c (.dctN t : RX) ρ = .r (tmp (.dct t [])) := id rfl
theorem rx_cut {c : Pc} {ρ : List Sv} {a : _} {lo : _} {hi : _} : rx c (.cut a lo hi : RX) ρ = (rx c a ρ).bind fun d => (ro c lo ρ).bind fun l => (ro c hi ρ).bind fun h => match d.1 with
    | .tup xs => .r (val (.tup (cutD xs l h)))
    | .lst xs => .r (tmp (.lst (cutD xs l h)))
    | _ => .no := id rfl
theorem rx_call {c : Pc} {ρ : List Sv} {k : _} {l : _} : rx c (.call k l : RX) ρ = (rxs c l ρ).bind fun ds => c.F k ds := id rfl
theorem rx_callS {c : Pc} {ρ : List Sv} {k : _} {l : _} : rx c (.callS k l : RX) ρ = (rxs c l ρ).bind fun ds => (Ot.of (snapL (fun j => cvOf ρ (c.lf j)) ds)).bind fun es => (c.FS k es).nox.bind fun p => gd p.1.plain (.r (val p.1)) := id rfl
theorem rx_lc {c : Pc} {ρ : List Sv} {it : _} {g : _} {own : _} {t : _} {e : _} : rx c (.lc it g own t e : RX) ρ = (ri c it ρ).bind fun l => gd ((own.all fun i => !isOw ρ[i]?) && (g.slots.all fun i => own.contains i) && (it.isSeq || decide (l.length ≤ Z)))
      ((lcR (fun d => (Ot.of (bdT g d (wip own ρ))).bind fun ρ' => rc c t ρ') (fun d => (Ot.of (bdT g d (wip own ρ))).bind fun ρ' => rx c e ρ') l).nox.bind fun out => .r (tmp (.lst out))) := id rfl
theorem rxs_nil {c : Pc} {ρ : List Sv}  : rxs c (.nil : RXs) ρ = .r [] := id rfl
theorem rxs_cons {c : Pc} {ρ : List Sv} {a : _} {l : _} : rxs c (.cons a l : RXs) ρ = (rx c a ρ).bind fun d => (rxs c l ρ).bind fun ds => .r (d.1 :: ds) := id rfl
theorem rc_yes {c : Pc} {ρ : List Sv}  : rc c (.yes : RC) ρ = .r true := id rfl
theorem rc_v {c : Pc} {ρ : List Sv} {a : _} : rc c (.v a : RC) ρ = (rx c a ρ).bind boolR := id rfl
theorem rc_cmp {c : Pc} {ρ : List Sv} {o : _} {a : _} {b : _} : rc c (.cmp o a b : RC) ρ = (opd a ρ (rx c a ρ)).bind fun d => (opd b ρ (rx c b ρ)).bind fun e => .of (pCmp o d e) := id rfl
theorem rc_chain {c : Pc} {ρ : List Sv} {o : _} {p : _} {a : _} {b : _} {e : _} : rc c (.chain o p a b e : RC) ρ = (opd a ρ (rx c a ρ)).bind fun x => (opd b ρ (rx c b ρ)).bind fun y => (Ot.of (pCmp o x y)).bind fun b1 => bif b1 then (opd e ρ (rx c e ρ)).bind fun z => .of (pCmp p y z) else .r false := id rfl
theorem rc_not {c : Pc} {ρ : List Sv} {a : _} : rc c (.not a : RC) ρ = (rc c a ρ).bind fun b => .r (!b) := id rfl
theorem rc_and {c : Pc} {ρ : List Sv} {a : _} {b : _} : rc c (.and a b : RC) ρ = (rc c a ρ).bind fun b1 => bif b1 then rc c b ρ else .r false := id rfl
theorem rc_or {c : Pc} {ρ : List Sv} {a : _} {b : _} : rc c (.or a b : RC) ρ = (rc c a ρ).bind fun b1 => bif b1 then .r true else rc c b ρ := id rfl
theorem ro_no {c : Pc} {ρ : List Sv}  : ro c (.no : RO) ρ = .r none := id rfl
theorem ro_so {c : Pc} {ρ : List Sv} {a : _} : ro c (.so a : RO) ρ = (opd a ρ (rx c a ρ)).bind fun d => (Ot.of (intD d)).bind fun i => .r (some i) := id rfl
theorem ri_seq {c : Pc} {ρ : List Sv} {a : _} : ri c (.seq a : RI) ρ = (rx c a ρ).bind fun d => .of (sqL d.1) := id rfl
theorem ri_rg1 {c : Pc} {ρ : List Sv} {l : _} : ri c (.rg1 l : RI) ρ = (rxs c l ρ).bind fun ds => match ds with
    | [.int b] => if InR b then .r (rgD 0 b) else .no
    | _ => .no := id rfl
theorem ri_rg2 {c : Pc} {ρ : List Sv} {l : _} : ri c (.rg2 l : RI) ρ = (rxs c l ρ).bind fun ds => match ds with
    | [.int a, .int b] => if InR a ∧ InR b then .r (rgD a b) else .no
    | _ => .no := id rfl
theorem ri_enum {c : Pc} {ρ : List Sv} {a : _} : ri c (.enum a : RI) ρ = (rx c a ρ).bind fun d => match d.1 with
    | .lst l => .r (enumD l)
    | _ => .no := id rfl
theorem ri_zip {c : Pc} {ρ : List Sv} {a : _} {b : _} : ri c (.zip a b : RI) ρ = (rx c a ρ).bind fun d => (rx c b ρ).bind fun e => match d.1, e.1 with
    | .lst l, .lst m => .r (zipD l m)
    | .tup l, .tup m => .r (zipD l m)
    | _, _ => .no := id rfl
theorem rs_asg {c : Pc} {ρ : List Sv} {i : _} {e : _} : rs c (.asg i e : RS) ρ = (rxp c e ρ).bind fun p => .r (.nx (stR i p.1 p.2)) := id rfl
theorem rs_asgT {c : Pc} {ρ : List Sv} {g : _} {e : _} : rs c (.asgT g e : RS) ρ = (rx c e ρ).bind fun p => (Ot.of (bdT g p.1 ρ)).bind fun ρ' => .r (.nx ρ') := id rfl
theorem rs_par {c : Pc} {ρ : List Sv} {l : _} {e : _} : rs c (.par l e : RS) ρ = (rxsP c e ρ).bind fun ps => (Ot.of (stP l ps ρ)).bind fun ρ' => .r (.nx ρ') := id rfl
theorem rs_aug {c : Pc} {ρ : List Sv} {i : _} {e : _} : rs c (.aug i e : RS) ρ = (Ot.of ((shD ρ[i]?).bind intD)).bind fun a => (opd e ρ (rx c e ρ)).bind fun d => (Ot.of (intD d)).bind fun b => .r (.nx (ρ.set i (.sh (.int (a + b))))) := id rfl
theorem rs_put {c : Pc} {ρ : List Sv} {i : _} {k : _} {e : _} : rs c (.put i k e : RS) ρ = (rx c e ρ).bind fun p => (Ot.of (ownL ρ[i]?)).bind fun l => (opd k ρ (rx c k ρ)).bind fun y => Ot.of ((intD y).bind fun k => (ixN l.length k).map fun j => .nx (ρ.set i (.ow (.lst (l.set j p.1))))) := id rfl
theorem rs_ex {c : Pc} {ρ : List Sv} {e : _} : rs c (.ex e : RS) ρ = rsE c e ρ := id rfl
theorem rs_ret {c : Pc} {ρ : List Sv} {e : _} : rs c (.ret e : RS) ρ = rsR c e ρ := id rfl
theorem rs_retN {c : Pc} {ρ : List Sv}  : rs c (.retN : RS) ρ = .r (.rt .non false) := id rfl
theorem rs_raise {c : Pc} {ρ : List Sv} {k : _} {l : _} : rs c (.raise k l : RS) ρ = match c.rz k with
    | some (x, n, fs) => (rxs c l ρ).bind fun ds => if ds.length = n then .x ⟨x, fldsD (.non :: ds) fs []⟩ else .no
    | none => .no := id rfl
theorem rs_pass {c : Pc} {ρ : List Sv}  : rs c (.pass : RS) ρ = .r (.nx ρ) := id rfl
theorem rs_brk {c : Pc} {ρ : List Sv}  : rs c (.brk : RS) ρ = .r (.bk ρ) := id rfl
theorem rs_cnt {c : Pc} {ρ : List Sv}  : rs c (.cnt : RS) ρ = .r (.ct ρ) := id rfl
theorem rs_ite {c : Pc} {ρ : List Sv} {t : _} {a : _} {b : _} : rs c (.ite t a b : RS) ρ = (rc c t ρ).bind fun b1 => bif b1 then rss c a ρ else rss c b ρ := id rfl
theorem rs_for {c : Pc} {ρ : List Sv} {it : _} {g : _} {b : _} : rs c (.for it g b : RS) ρ = (ri c it ρ).bind fun l => forR (bodR c g b) l ρ := id rfl
theorem rs_whl {c : Pc} {ρ : List Sv} {t : _} {b : _} : rs c (.whl t b : RS) ρ = whR (rc c t) (rss c b) Wk ρ := id rfl
theorem rs_fgt {c : Pc} {ρ : List Sv} {l : _} : rs c (.fgt l : RS) ρ = .r (.nx (wip l ρ)) := id rfl
theorem rs_shr {c : Pc} {ρ : List Sv} {i : _} : rs c (.shr i : RS) ρ = shrR i ρ := id rfl
theorem rss_nil {c : Pc} {ρ : List Sv}  : rss c (.nil : RSs) ρ = .r (.nx ρ) := id rfl
theorem rss_cons {c : Pc} {ρ : List Sv} {a : _} {l : _} : rss c (.cons a l : RSs) ρ = (rs c a ρ).bind fun o => o.go fun ρ' => rss c l ρ' := id rfl
theorem rxp_var {c : Pc} {ρ : List Sv} {i : Nat} : rxp c (.var i) ρ = (rx c (.var i) ρ).bind fun p => .r (p, ρ) := id rfl
theorem rsE_var {c : Pc} {ρ : List Sv} {i : Nat} : rsE c (.var i) ρ = (rx c (.var i) ρ).bind fun _ => .r (.nx ρ) := id rfl
theorem rxp_c {c : Pc} {ρ : List Sv} {d : D} : rxp c (.c d) ρ = (rx c (.c d) ρ).bind fun p => .r (p, ρ) := id rfl
theorem rsE_c {c : Pc} {ρ : List Sv} {d : D} : rsE c (.c d) ρ = (rx c (.c d) ρ).bind fun _ => .r (.nx ρ) := id rfl
theorem rsR_c {c : Pc} {ρ : List Sv} {d : D} : rsR c (.c d) ρ = (rx c (.c d) ρ).bind fun p => .r (.rt p.1 p.2) := id rfl
theorem opd_c {ρ : List Sv} {z : Ot (D × Bool)} {d : D} : opd (.c d) ρ z = z.bind fun p => .r p.1 := id rfl
theorem rxp_b1 {c : Pc} {ρ : List Sv} {f : B1} {a : RX} : rxp c (.b1 f a) ρ = (rx c (.b1 f a) ρ).bind fun p => .r (p, ρ) := id rfl
theorem rsE_b1 {c : Pc} {ρ : List Sv} {f : B1} {a : RX} : rsE c (.b1 f a) ρ = (rx c (.b1 f a) ρ).bind fun _ => .r (.nx ρ) := id rfl
theorem rsR_b1 {c : Pc} {ρ : List Sv} {f : B1} {a : RX} : rsR c (.b1 f a) ρ = (rx c (.b1 f a) ρ).bind fun p => .r (.rt p.1 p.2) := id rfl
theorem opd_b1 {ρ : List Sv} {z : Ot (D × Bool)} {f : B1} {a : RX} : opd (.b1 f a) ρ z = z.bind fun p => .r p.1 := id rfl
theorem rxp_b2 {c : Pc} {ρ : List Sv} {f : B2} {a b : RX} : rxp c (.b2 f a b) ρ = (rx c (.b2 f a b) ρ).bind fun p => .r (p, ρ) := id rfl
theorem rsE_b2 {c : Pc} {ρ : List Sv} {f : B2} {a b : RX} : rsE c (.b2 f a b) ρ = (rx c (.b2 f a b) ρ).bind fun _ => .r (.nx ρ) := id rfl
theorem rsR_b2 {c : Pc} {ρ : List Sv} {f : B2} {a b : RX} : rsR c (.b2 f a b) ρ = (rx c (.b2 f a b) ρ).bind fun p => .r (.rt p.1 p.2) := id rfl
theorem opd_b2 {ρ : List Sv} {z : Ot (D × Bool)} {f : B2} {a b : RX} : opd (.b2 f a b) ρ z = z.bind fun p => .r p.1 := id rfl
theorem rxp_chain {c : Pc} {ρ : List Sv} {o p : CmpOp} {a b e : RX} : rxp c (.chain o p a b e) ρ = (rx c (.chain o p a b e) ρ).bind fun p => .r (p, ρ) := id rfl
theorem rsE_chain {c : Pc} {ρ : List Sv} {o p : CmpOp} {a b e : RX} : rsE c (.chain o p a b e) ρ = (rx c (.chain o p a b e) ρ).bind fun _ => .r (.nx ρ) := id rfl
theorem rsR_chain {c : Pc} {ρ : List Sv} {o p : CmpOp} {a b e : RX} : rsR c (.chain o p a b e) ρ = (rx c (.chain o p a b e) ρ).bind fun p => .r (.rt p.1 p.2) := id rfl
theorem opd_chain {ρ : List Sv} {z : Ot (D × Bool)} {o p : CmpOp} {a b e : RX} : opd (.chain o p a b e) ρ z = z.bind fun p => .r p.1 := id rfl
theorem rxp_and {c : Pc} {ρ : List Sv} {a b : RX} : rxp c (.and a b) ρ = (rx c (.and a b) ρ).bind fun p => .r (p, ρ) := id rfl
theorem rsE_and {c : Pc} {ρ : List Sv} {a b : RX} : rsE c (.and a b) ρ = (rx c (.and a b) ρ).bind fun _ => .r (.nx ρ) := id rfl
theorem rsR_and {c : Pc} {ρ : List Sv} {a b : RX} : rsR c (.and a b) ρ = (rx c (.and a b) ρ).bind fun p => .r (.rt p.1 p.2) := id rfl
theorem opd_and {ρ : List Sv} {z : Ot (D × Bool)} {a b : RX} : opd (.and a b) ρ z = z.bind fun p => .r p.1 := id rfl
theorem rxp_or {c : Pc} {ρ : List Sv} {a b : RX} : rxp c (.or a b) ρ = (rx c (.or a b) ρ).bind fun p => .r (p, ρ) := id rfl
theorem rsE_or {c : Pc} {ρ : List Sv} {a b : RX} : rsE c (.or a b) ρ = (rx c (.or a b) ρ).bind fun _ => .r (.nx ρ) := id rfl
theorem rsR_or {c : Pc} {ρ : List Sv} {a b : RX} : rsR c (.or a b) ρ = (rx c (.or a b) ρ).bind fun p => .r (.rt p.1 p.2) := id rfl
theorem opd_or {ρ : List Sv} {z : Ot (D × Bool)} {a b : RX} : opd (.or a b) ρ z = z.bind fun p => .r p.1 := id rfl
theorem rxp_not {c : Pc} {ρ : List Sv} {a : RX} : rxp c (.not a) ρ = (rx c (.not a) ρ).bind fun p => .r (p, ρ) := id rfl
theorem rsE_not {c : Pc} {ρ : List Sv} {a : RX} : rsE c (.not a) ρ = (rx c (.not a) ρ).bind fun _ => .r (.nx ρ) := id rfl
theorem rsR_not {c : Pc} {ρ : List Sv} {a : RX} : rsR c (.not a) ρ = (rx c (.not a) ρ).bind fun p => .r (.rt p.1 p.2) := id rfl
theorem opd_not {ρ : List Sv} {z : Ot (D × Bool)} {a : RX} : opd (.not a) ρ z = z.bind fun p => .r p.1 := id rfl
theorem rxp_ite {c : Pc} {ρ : List Sv} {t : RC} {a b : RX} : rxp c (.ite t a b) ρ = (rx c (.ite t a b) ρ).bind fun p => .r (p, ρ) := id rfl
theorem rsE_ite {c : Pc} {ρ : List Sv} {t : RC} {a b : RX} : rsE c (.ite t a b) ρ = (rx c (.ite t a b) ρ).bind fun _ => .r (.nx ρ) := id rfl
theorem rsR_ite {c : Pc} {ρ : List Sv} {t : RC} {a b : RX} : rsR c (.ite t a b) ρ = (rx c (.ite t a b) ρ).bind fun p => .r (.rt p.1 p.2) := id rfl
theorem opd_ite {ρ : List Sv} {z : Ot (D × Bool)} {t : RC} {a b : RX} : opd (.ite t a b) ρ z = z.bind fun p => .r p.1 := id rfl
theorem rxp_tup {c : Pc} {ρ : List Sv} {l : RXs} : rxp c (.tup l) ρ = (rx c (.tup l) ρ).bind fun p => .r (p, ρ) := id rfl
theorem rsE_tup {c : Pc} {ρ : List Sv} {l : RXs} : rsE c (.tup l) ρ = (rx c (.tup l) ρ).bind fun _ => .r (.nx ρ) := id rfl
theorem rsR_tup {c : Pc} {ρ : List Sv} {l : RXs} : rsR c (.tup l) ρ = (rx c (.tup l) ρ).bind fun p => .r (.rt p.1 p.2) := id rfl
theorem opd_tup {ρ : List Sv} {z : Ot (D × Bool)} {l : RXs} : opd (.tup l) ρ z = z.bind fun p => .r p.1 := id rfl
theorem rxp_lst {c : Pc} {ρ : List Sv} {l : RXs} : rxp c (.lst l) ρ = (rx c (.lst l) ρ).bind fun p => .r (p, ρ) := id rfl
theorem rsE_lst {c : Pc} {ρ : List Sv} {l : RXs} : rsE c (.lst l) ρ = (rx c (.lst l) ρ).bind fun _ => .r (.nx ρ) := id rfl
theorem rsR_lst {c : Pc} {ρ : List Sv} {l : RXs} : rsR c (.lst l) ρ = (rx c (.lst l) ρ).bind fun p => .r (.rt p.1 p.2) := id rfl
theorem opd_lst {ρ : List Sv} {z : Ot (D × Bool)} {l : RXs} : opd (.lst l) ρ z = z.bind fun p => .r p.1 := id rfl
theorem rxp_dctN {c : Pc} {ρ : List Sv} {t : Bool} : rxp c (.dctN t) ρ = (rx c (.dctN t) ρ).bind fun p => .r (p, ρ) := id rfl
theorem rsE_dctN {c : Pc} {ρ : List Sv} {t : Bool} : rsE c (.dctN t) ρ = (rx c (.dctN t) ρ).bind fun _ => .r (.nx ρ) := id rfl
theorem rsR_dctN {c : Pc} {ρ : List Sv} {t : Bool} : rsR c (.dctN t) ρ = (rx c (.dctN t) ρ).bind fun p => .r (.rt p.1 p.2) := id rfl
theorem opd_dctN {ρ : List Sv} {z : Ot (D × Bool)} {t : Bool} : opd (.dctN t) ρ z = z.bind fun p => .r p.1 := id rfl
theorem rxp_cut {c : Pc} {ρ : List Sv} {a : RX} {lo hi : RO} : rxp c (.cut a lo hi) ρ = (rx c (.cut a lo hi) ρ).bind fun p => .r (p, ρ) := id rfl
theorem rsE_cut {c : Pc} {ρ : List Sv} {a : RX} {lo hi : RO} : rsE c (.cut a lo hi) ρ = (rx c (.cut a lo hi) ρ).bind fun _ => .r (.nx ρ) := id rfl
theorem rsR_cut {c : Pc} {ρ : List Sv} {a : RX} {lo hi : RO} : rsR c (.cut a lo hi) ρ = (rx c (.cut a lo hi) ρ).bind fun p => .r (.rt p.1 p.2) := id rfl
theorem opd_cut {ρ : List Sv} {z : Ot (D × Bool)} {a : RX} {lo hi : RO} : opd (.cut a lo hi) ρ z = z.bind fun p => .r p.1 := id rfl
theorem rxp_call {c : Pc} {ρ : List Sv} {k : Nat} {l : RXs} : rxp c (.call k l) ρ = (rx c (.call k l) ρ).bind fun p => .r (p, ρ) := id rfl
theorem rsE_call {c : Pc} {ρ : List Sv} {k : Nat} {l : RXs} : rsE c (.call k l) ρ = (rx c (.call k l) ρ).bind fun _ => .r (.nx ρ) := id rfl
theorem rsR_call {c : Pc} {ρ : List Sv} {k : Nat} {l : RXs} : rsR c (.call k l) ρ = (rx c (.call k l) ρ).bind fun p => .r (.rt p.1 p.2) := id rfl
theorem opd_call {ρ : List Sv} {z : Ot (D × Bool)} {k : Nat} {l : RXs} : opd (.call k l) ρ z = z.bind fun p => .r p.1 := id rfl
theorem rxp_callS {c : Pc} {ρ : List Sv} {k : Nat} {l : RXs} : rxp c (.callS k l) ρ = (rx c (.callS k l) ρ).bind fun p => .r (p, ρ) := id rfl
theorem rsE_callS {c : Pc} {ρ : List Sv} {k : Nat} {l : RXs} : rsE c (.callS k l) ρ = (rx c (.callS k l) ρ).bind fun _ => .r (.nx ρ) := id rfl
theorem rsR_callS {c : Pc} {ρ : List Sv} {k : Nat} {l : RXs} : rsR c (.callS k l) ρ = (rx c (.callS k l) ρ).bind fun p => .r (.rt p.1 p.2) := id rfl
theorem opd_callS {ρ : List Sv} {z : Ot (D × Bool)} {k : Nat} {l : RXs} : opd (.callS k l) ρ z = z.bind fun p => .r p.1 := id rfl
theorem rxp_lc {c : Pc} {ρ : List Sv} {it : RI} {g : RT} {own : List Nat} {t : RC} {e : RX} : rxp c (.lc it g own t e) ρ = (rx c (.lc it g own t e) ρ).bind fun p => .r (p, ρ) := id rfl
theorem rsE_lc {c : Pc} {ρ : List Sv} {it : RI} {g : RT} {own : List Nat} {t : RC} {e : RX} : rsE c (.lc it g own t e) ρ = (rx c (.lc it g own t e) ρ).bind fun _ => .r (.nx ρ) := id rfl
theorem rsR_lc {c : Pc} {ρ : List Sv} {it : RI} {g : RT} {own : List Nat} {t : RC} {e : RX} : rsR c (.lc it g own t e) ρ = (rx c (.lc it g own t e) ρ).bind fun p => .r (.rt p.1 p.2) := id rfl
theorem opd_lc {ρ : List Sv} {z : Ot (D × Bool)} {it : RI} {g : RT} {own : List Nat} {t : RC} {e : RX} : opd (.lc it g own t e) ρ z = z.bind fun p => .r p.1 := id rfl
theorem isSeq_seq {a : RX} : (RI.seq a).isSeq = true := id rfl
theorem isSeq_rg1 {l : RXs} : (RI.rg1 l).isSeq = false := id rfl
theorem isSeq_rg2 {l : RXs} : (RI.rg2 l).isSeq = false := id rfl
theorem isSeq_enum {a : RX} : (RI.enum a).isSeq = false := id rfl
theorem isSeq_zip {a b : RX} : (RI.zip a b).isSeq = false := id rfl
theorem opd_var {ρ : List Sv} {z : Ot (D × Bool)} {i : Nat} : opd (.var i) ρ z = .of (seeD ρ[i]?) := id rfl
theorem rsR_var {c : Pc} {ρ : List Sv} {i : Nat} : rsR c (.var i) ρ = Ot.of ((seeD ρ[i]?).map fun d => .rt d (isOw ρ[i]?)) := id rfl
theorem rsE_app {c : Pc} {ρ : List Sv} {i : Nat} {a : RX} : rsE c (.app i a) ρ = (Ot.of (ownL ρ[i]?)).bind fun _ => (rxp c a ρ).bind fun p => (Ot.of (ownL p.2[i]?)).bind fun l => gd (decide (l.length < Z)) (.r (.nx (p.2.set i (.ow (.lst (l ++ [p.1.1])))))) := id rfl
theorem rxp_pop {c : Pc} {ρ : List Sv} {j : Nat} : rxp c (.pop j) ρ = Ot.of ((ownL ρ[j]?).bind fun l => l[l.length - 1]?.map fun d => (val d, ρ.set j (.ow (.lst l.dropLast)))) := id rfl
theorem rxp_pop0 {c : Pc} {ρ : List Sv} {j : Nat} : rxp c (.pop0 j) ρ = Ot.of ((ownL ρ[j]?).bind fun l => l[0]?.map fun d => (val d, ρ.set j (.ow (.lst (l.eraseIdx 0))))) := id rfl
theorem rxp_popI {c : Pc} {ρ : List Sv} {j : Nat} {a : RX} : rxp c (.popI j a) ρ = (Ot.of (ownL ρ[j]?)).bind fun l => (opd a ρ (rx c a ρ)).bind fun k => Ot.of ((intD k).bind fun k => if 0 ≤ k ∧ k < Z then l[k.toNat]?.map fun d => (val d, ρ.set j (.ow (.lst (l.eraseIdx k.toNat)))) else none) := id rfl
theorem rxsP_nil {c : Pc} {ρ : List Sv} : rxsP c .nil ρ = .r [] := id rfl
theorem rxsP_cons {c : Pc} {ρ : List Sv} {a : RX} {l : RXs} : rxsP c (.cons a l) ρ = (rx c a ρ).bind fun d => (rxsP c l ρ).bind fun ds => .r (d :: ds) := id rfl
theorem stP_nil {ρ : List Sv} : stP [] [] ρ = some ρ := id rfl
theorem stP_cons {ρ : List Sv} {i : Nat} {l : List Nat} {p : D × Bool} {ps : List (D × Bool)} : stP (i :: l) (p :: ps) ρ = stP l ps (stR i p ρ) := id rfl
theorem stR_val {ρ : List Sv} {i : Nat} {d : D} : stR i (val d) ρ = ρ.set i (.sh d) := id rfl
theorem stR_tmp {ρ : List Sv} {i : Nat} {d : D} : stR i (tmp d) ρ = ρ.set i (.ow d) := id rfl
theorem shD_sh {d : D} : shD (some (.sh d)) = some d := id rfl
theorem seeD_sh {d : D} : seeD (some (.sh d)) = some d := id rfl
theorem seeD_ow {d : D} : seeD (some (.ow d)) = some d := id rfl
theorem isOw_sh {d : D} : isOw (some (.sh d)) = false := id rfl
theorem isOw_ow {d : D} : isOw (some (.ow d)) = true := id rfl
theorem isOw_nn : isOw (some .no) = false := id rfl
theorem isOw_none : isOw none = false := id rfl
theorem ownL_ow {l : List D} : ownL (some (.ow (.lst l))) = some l := id rfl
theorem wip_nil {ρ : List Sv} : wip [] ρ = ρ := id rfl
theorem wip_cons {i : Nat} {l : List Nat} {ρ : List Sv} : wip (i :: l) ρ = (wip l ρ).set i .no := id rfl
theorem bdT_nm {i : Nat} {d : D} {ρ : List Sv} : bdT (.nm i) d ρ = some (ρ.set i (.sh d)) := id rfl
theorem bdT_tp {l : RTs} {ds : List D} {ρ : List Sv} : bdT (.tp l) (.tup ds) ρ = bdTs l ds ρ := id rfl
theorem bdTs_nil {ρ : List Sv} : bdTs .nil [] ρ = some ρ := id rfl
theorem bdTs_cons {a : RT} {l : RTs} {d : D} {ds : List D} {ρ : List Sv} : bdTs (.cons a l) (d :: ds) ρ = (bdT a d ρ).bind fun ρ' => bdTs l ds ρ' := id rfl
theorem shrR_def {i : Nat} {ρ : List Sv} : shrR i ρ = shrS i ρ ρ[i]? := id rfl
theorem shrS_sh {i : Nat} {ρ : List Sv} {d : D} : shrS i ρ (some (.sh d)) = .r (.nx ρ) := id rfl
theorem shrS_ow {i : Nat} {ρ : List Sv} {d : D} : shrS i ρ (some (.ow d)) = .r (.nx (ρ.set i (.sh d))) := id rfl
theorem boolR_val {b : Bool} : boolR (val (.bl b)) = .r b := id rfl
theorem pB2_op {o : Operator} {x y : D} : pB2 (.op o) x y = pOp o x y := id rfl
theorem pB2_cmp {o : CmpOp} {x y : D} : pB2 (.cmp o) x y = (pCmp o x y).map fun b => val (.bl b) := id rfl
theorem pB2_ix {x y : D} : pB2 .ix x y = (sqL x).bind fun l => (intD y).bind fun i => (atI l i).map val := id rfl
theorem pB2_max {i j : Int} : pB2 .max (.int i) (.int j) = some (val (.int (if j > i then j else i))) := id rfl
theorem pB2_min {i j : Int} : pB2 .min (.int i) (.int j) = some (val (.int (if j < i then j else i))) := id rfl
theorem add_int {i j : Int} : pOp .Add (.int i) (.int j) = some (val (.int (i + j))) := id rfl
theorem sub_int {i j : Int} : pOp .Sub (.int i) (.int j) = some (val (.int (i - j))) := id rfl
theorem mul_int {i j : Int} (h : CMul i j) : pOp .Mult (.int i) (.int j) = some (val (.int (i * j))) := if_pos h
theorem mul_tup {l : List D} {k : Int} (h : l.isEmpty = false ∧ 1 ≤ k ∧ k ≤ 1000 ∧ l.length ≤ 1000) : pOp .Mult (.tup l) (.int k) = some (val (.tup (List.replicate k.toNat l).flatten)) := if_pos h
theorem mul_lst {l : List D} {k : Int} (h : 0 ≤ k ∧ k ≤ 1000 ∧ l.length ≤ 1000) : pOp .Mult (.lst l) (.int k) = some (tmp (.lst (List.replicate k.toNat l).flatten)) := if_pos h
theorem add_tup {l m : List D} : pOp .Add (.tup l) (.tup m) = if l.length + m.length ≤ Z then some (val (.tup (l ++ m))) else none := id rfl
theorem add_lst {l m : List D} : pOp .Add (.lst l) (.lst m) = if l.length + m.length ≤ Z then some (tmp (.lst (l ++ m))) else none := id rfl
theorem pc_eq {x y : D} : pCmp .Eq x y = eqD x y := id rfl
theorem pc_ne {x y : D} : pCmp .NotEq x y = (eqD x y).map (!·) := id rfl
theorem pc_in {x y : D} : pCmp .In x y = inD x y := id rfl
theorem pc_nin {x y : D} : pCmp .NotIn x y = (inD x y).map (!·) := id rfl
theorem pc_is {x y : D} : pCmp .Is x y = isD x y := id rfl
theorem pc_isn {x y : D} : pCmp .IsNot x y = (isD x y).map (!·) := id rfl
theorem pc_lt {i j : Int} : pCmp .Lt (.int i) (.int j) = some (decide (i < j)) := id rfl
theorem pc_le {i j : Int} : pCmp .LtE (.int i) (.int j) = some (decide (i ≤ j)) := id rfl
theorem pc_gt {i j : Int} : pCmp .Gt (.int i) (.int j) = some (decide (i > j)) := id rfl
theorem pc_ge {i j : Int} : pCmp .GtE (.int i) (.int j) = some (decide (i ≥ j)) := id rfl
theorem is_non : isD .non .non = some true := id rfl
theorem is_bl {a b : Bool} : isD (.bl a) (.bl b) = some (decide (a = b)) := id rfl
theorem lk_hit {β : Type} {k : Nat} {b : β} {l : List (Nat × β)} : List.lookup k ((k, b) :: l) = some b := by simp
theorem lk_miss {β : Type} {j k : Nat} {b : β} {l : List (Nat × β)} (h : (j == k) = false) : List.lookup j ((k, b) :: l) = List.lookup j l := by rw [List.lookup_cons, h]
theorem fldsD_nil {ds : List D} {acc : List (Str × D)} : fldsD ds [] acc = acc := id rfl
theorem fldsD_cons {ds : List D} {f : Str} {i : Nat} {r : List (Str × Nat)} {acc : List (Str × D)} : fldsD ds ((f, i) :: r) acc = fldsD ds r ((f, ds.getD i .non) :: acc) := id rfl
def raiseR (z : Option (Str × Nat × List (Str × Nat))) (o : Ot (List D)) : Ot Ou := match z with
  | some (x, n, fs) => o.bind fun ds => gd (ds.length == n) (.x ⟨x, fldsD (.non :: ds) fs []⟩)
  | none => .no
theorem raise_some {x : Str} {n : Nat} {fs : List (Str × Nat)} {o : Ot (List D)} : raiseR (some (x, n, fs)) o = o.bind fun ds => gd (ds.length == n) (.x ⟨x, fldsD (.non :: ds) fs []⟩) := id rfl
theorem rs_raise' {c : Pc} {ρ : List Sv} {k : Nat} {es : RXs} : rs c (.raise k es) ρ = raiseR (c.rz k) (rxs c es ρ) := by
  rw [rs_raise]
  cases c.rz k with
  | none => rfl
  | some z =>
    obtain ⟨x, n, fs⟩ := z
    show (rxs c es ρ).bind _ = _
    rw [raise_some]
    congr 1
    funext ds
    unfold gd
    by_cases e : ds.length = n
    · rw [if_pos e, beq_iff_eq.mpr e]; rfl
    · rw [if_neg e, beq_eq_false_iff_ne.mpr e]; rfl
theorem run_eq {c : Pc} {N m : Nat} {r : RSs} {ds : List D} (h : (ds.length == m) = true) : run c N m r ds = (rss c r (ds.map .sh ++ List.replicate (N - m) .no)).bind Ou.fin := by
  unfold run; rw [if_pos (beq_iff_eq.mp h)]
theorem flR_nil {c : Pc} {k : Str} {fs : List (Str × D)} {ρ : List Sv} : flR c [] (.ow (.ins k fs) :: ρ) = .r (tmp (.ins k fs)) := id rfl
theorem flR_cons {c : Pc} {f k : Str} {e : RX} {l : List (Str × RX)} {fs : List (Str × D)} {ρ : List Sv} : flR c ((f, e) :: l) (.ow (.ins k fs) :: ρ) = (rx c e (.ow (.ins k fs) :: ρ)).bind fun p => gd (c.cs.contains k && fldNs.contains f && decide (fs.length < 900)) (flR c l (.ow (.ins k (putFD f p.1 fs)) :: ρ)) := id rfl
theorem runI_eq {c : Pc} {cl : Str} {N m : Nat} {r : RSs} {l : List (Str × RX)} {ds : List D} (h : (ds.length + 1 == m) = true) : runI c cl N m r l ds = (rss c r (.me :: ds.map .sh ++ List.replicate (N - m) .no)).bind fun o => o.mine c cl l := by
  unfold runI; rw [if_pos (beq_iff_eq.mp h)]
theorem mine_nx {c : Pc} {cl : Str} {l : List (Str × RX)} {ρ : List Sv} : (Ou.nx (.me :: ρ)).mine c cl l = gd (ρ.all fun s => !isMe s) (flR c l (.ow (.ins cl []) :: ρ)) := id rfl
section
variable {α β : Type}
theorem cond_bind {b : Bool} {x y : Ot α} {k : α → Ot β} : (bif b then x else y).bind k = bif b then x.bind k else y.bind k := by cases b <;> rfl
theorem cond_nx {b : Bool} {x y : List Sv} : (bif b then Ou.nx x else Ou.nx y) = .nx (bif b then x else y) := by cases b <;> rfl
theorem cond_rt {b : Bool} {x y : D} {f : Bool} : (bif b then Ou.rt x f else Ou.rt y f) = .rt (bif b then x else y) f := by cases b <;> rfl
theorem cond_cons {b : Bool} {x y : α} {l m : List α} : (bif b then x :: l else y :: m) = (bif b then x else y) :: (bif b then l else m) := by cases b <;> rfl
theorem cond_same {b : Bool} {x : α} : (bif b then x else x) = x := by cases b <;> rfl
theorem cond_sh {b : Bool} {x y : D} : (bif b then Sv.sh x else Sv.sh y) = .sh (bif b then x else y) := by cases b <;> rfl
theorem cond_go {b : Bool} {x y : Ou} {k : List Sv → Ot Ou} : (bif b then x else y).go k = bif b then x.go k else y.go k := by cases b <;> rfl
theorem cond_lap {b : Bool} {x y : Ou} {k : List Sv → Ot Ou} : (bif b then x else y).lap k = bif b then x.lap k else y.lap k := by cases b <;> rfl
theorem cond_fin {b : Bool} {x y : Ou} : (bif b then x else y).fin = bif b then x.fin else y.fin := by cases b <;> rfl
theorem go_nx {ρ : List Sv} {k : List Sv → Ot Ou} : (Ou.nx ρ).go k = k ρ := id rfl
theorem go_rt {d : D} {f : Bool} {k : List Sv → Ot Ou} : (Ou.rt d f).go k = .r (.rt d f) := id rfl
theorem go_bk {ρ : List Sv} {k : List Sv → Ot Ou} : (Ou.bk ρ).go k = .r (.bk ρ) := id rfl
theorem go_ct {ρ : List Sv} {k : List Sv → Ot Ou} : (Ou.ct ρ).go k = .r (.ct ρ) := id rfl
theorem lap_nx {ρ : List Sv} {k : List Sv → Ot Ou} : (Ou.nx ρ).lap k = k ρ := id rfl
theorem lap_ct {ρ : List Sv} {k : List Sv → Ot Ou} : (Ou.ct ρ).lap k = k ρ := id rfl
theorem lap_bk {ρ : List Sv} {k : List Sv → Ot Ou} : (Ou.bk ρ).lap k = .r (.nx ρ) := id rfl
theorem lap_rt {d : D} {f : Bool} {k : List Sv → Ot Ou} : (Ou.rt d f).lap k = .r (.rt d f) := id rfl
theorem fin_nx {ρ : List Sv} : (Ou.nx ρ).fin = .r (val .non) := id rfl
theorem fin_rt {d : D} {f : Bool} : (Ou.rt d f).fin = .r (d, f) := id rfl
theorem val_1 {d : D} : (val d).1 = d := id rfl
theorem val_2 {d : D} : (val d).2 = false := id rfl
theorem pr_val {d : D} : (d, false) = val d := id rfl
theorem pr_tmp {d : D} : (d, true) = tmp d := id rfl
theorem tmp_1 {d : D} : (tmp d).1 = d := id rfl
theorem tmp_2 {d : D} : (tmp d).2 = true := id rfl
theorem FOf_hit {j : Nat} {f : List D → Ot (D × Bool)} {l : Fl} {ds : List D} : FOf ((j, f) :: l) j ds = f ds := by
  unfold FOf; simp
theorem FOf_miss {j k : Nat} {f : List D → Ot (D × Bool)} {l : Fl} {ds : List D} (h : (j == k) = false) : FOf ((k, f) :: l) j ds = FOf l j ds := by
  unfold FOf; rw [List.lookup_cons, h]
theorem pc_F {l : Fl} {cs : List Str} {z : Zl} : (pcOf l cs z).F = FOf l := id rfl
theorem pc_cs {l : Fl} {cs : List Str} {z : Zl} : (pcOf l cs z).cs = cs := id rfl
theorem pc_rz {l : Fl} {cs : List Str} {z : Zl} {k : Nat} : (pcOf l cs z).rz k = z.lookup k := id rfl
theorem gd_yes {b : Bool} {o : Ot α} (h : b = true) : gd b o = o := by subst h; rfl
theorem Zle {n : Nat} (h : n ≤ 1000) : decide (n ≤ Z) = true := by unfold Z; rw [decide_eq_true_eq]; omega
theorem cond_r {b : Bool} {x y : α} : (bif b then Ot.r x else Ot.r y) = .r (bif b then x else y) := by cases b <;> rfl
theorem cond_vd {b : Bool} {x y : D} : (bif b then val x else val y) = val (bif b then x else y) := by cases b <;> rfl
theorem cond_td {b : Bool} {x y : D} : (bif b then tmp x else tmp y) = tmp (bif b then x else y) := by cases b <;> rfl
theorem cond_bl {b x y : Bool} : (bif b then D.bl x else D.bl y) = .bl (bif b then x else y) := by cases b <;> rfl
theorem cond_tupI {b : Bool} {x y : List Int} : (bif b then tupI x else tupI y) = tupI (bif b then x else y) := by cases b <;> rfl
theorem cond_int {b : Bool} {x y : Int} : (bif b then D.int x else D.int y) = .int (bif b then x else y) := by cases b <;> rfl
theorem cond_and {b c : Bool} : (bif b then c else false) = (b && c) := by cases b <;> rfl
theorem cond_or {b c : Bool} : (bif b then true else c) = (b || c) := by cases b <;> rfl
theorem nox_r {a : α} : (Ot.r a).nox = .r a := id rfl
theorem lcR_nil {p : α → Ot Bool} {f : α → Ot (D × Bool)} : lcR p f [] = .r [] := id rfl
theorem lcR_map {h : β → α} {p : α → Ot Bool} {f : α → Ot (D × Bool)} : ∀ {xs : List β}, lcR p f (xs.map h) = lcR (fun x => p (h x)) (fun x => f (h x)) xs
  | [] => rfl
  | x :: xs => by
    rw [List.map_cons, lcR, lcR, lcR_map]
theorem lcR_congr {p p' : α → Ot Bool} {f f' : α → Ot (D × Bool)} {xs ys : List α} (e : xs = ys) (h1 : ∀ x ∈ ys, p x = p' x) (h2 : ∀ x ∈ ys, f x = f' x) : lcR p f xs = lcR p' f' ys := by
  subst e
  induction xs with
  | nil => rfl
  | cons x xs ih =>
    rw [lcR, lcR, h1 x List.mem_cons_self, h2 x List.mem_cons_self, ih (fun y hy => h1 y (List.mem_cons_of_mem _ hy)) fun y hy => h2 y (List.mem_cons_of_mem _ hy)]
theorem lcR_r {q : α → Bool} {g : α → D × Bool} : ∀ {xs : List α}, lcR (fun x => .r (q x)) (fun x => .r (g x)) xs = .r ((xs.filter q).map fun x => (g x).1)
  | [] => rfl
  | x :: xs => by
    rw [lcR, lcR_r, List.filter_cons]
    cases q x <;> rfl
/-- .. with what its things are known to be -/
def lcRm (xs : List α) (p : ∀ x, x ∈ xs → Ot Bool) (f : ∀ x, x ∈ xs → Ot (D × Bool)) : Ot (List D) := lcR (fun x : { x // x ∈ xs } => p x.1 x.2) (fun x => f x.1 x.2) xs.attach
theorem lcR_m {p : α → Ot Bool} {f : α → Ot (D × Bool)} {xs : List α} : lcR p f xs = lcRm xs (fun x _ => p x) (fun x _ => f x) := by
  have := lcR_map (h := Subtype.val) (p := p) (f := f) (xs := xs.attach)
  rw [List.attach_map_subtype_val] at this
  exact this
theorem lcR_mapm {h : β → α} {p : α → Ot Bool} {f : α → Ot (D × Bool)} {xs : List β} : lcR p f (xs.map h) = lcRm xs (fun x _ => p (h x)) (fun x _ => f (h x)) := by
  rw [lcR_map, lcR_m]
theorem lcRm_r {q : α → Bool} {g : α → D × Bool} {xs : List α} : lcRm xs (fun x _ => .r (q x)) (fun x _ => .r (g x)) = .r ((xs.filter q).map fun x => (g x).1) := by
  rw [← lcR_m, lcR_r]
theorem lcRm_of {p : α → Ot Bool} {f : α → Ot (D × Bool)} {xs : List α} : lcRm xs (fun x _ => p x) (fun x _ => f x) = lcR p f xs := lcR_m.symm
theorem lcRm_eq {xs : List α} {p : ∀ x, x ∈ xs → Ot Bool} {f : ∀ x, x ∈ xs → Ot (D × Bool)} {q : α → Bool} {g : α → D × Bool} (h1 : ∀ x h, p x h = .r (q x)) (h2 : ∀ x h, f x h = .r (g x)) : lcRm xs p f = .r ((xs.filter q).map fun x => (g x).1) := by
  have e1 : p = fun x _ => .r (q x) := funext fun x => funext fun h => h1 x h
  have e2 : f = fun x _ => .r (g x) := funext fun x => funext fun h => h2 x h
  rw [e1, e2, lcRm_r]
theorem filter_true {l : List α} : (l.filter fun _ => true) = l := List.filter_eq_self.mpr fun _ _ => rfl
/-- loops -/
theorem forR_map {h : β → α} {b : α → List Sv → Ot Ou} : ∀ {xs : List β} {ρ : List Sv}, forR b (xs.map h) ρ = forR (fun x => b (h x)) xs ρ
  | [], _ => rfl
  | x :: xs, ρ => by
    rw [List.map_cons, forR, forR]
    congr 1
    funext o
    congr 1
    funext ρ'
    exact forR_map
theorem forR_fold {σ : Type} {E : σ → List Sv} {b : α → List Sv → Ot Ou} {step : σ → α → σ} {I : σ → Prop} : ∀ {xs : List α} {s : σ}, I s → (∀ s x, x ∈ xs → I s → b x (E s) = .r (.nx (E (step s x))) ∧ I (step s x)) → forR b xs (E s) = .r (.nx (E (xs.foldl step s)))
  | [], _, _, _ => rfl
  | x :: xs, s, hi, h => by
    rw [forR, (h s x List.mem_cons_self hi).1, bind_r]
    exact forR_fold (h s x List.mem_cons_self hi).2 fun s y hy => h s y (List.mem_cons_of_mem _ hy)
theorem forR_pre {σ : Type} {E : σ → List Sv} {b : α → List Sv → Ot Ou} {step : σ → α → σ} {s0 : σ} {xs : List α} (h : ∀ pre x post, xs = pre ++ x :: post → b x (E (pre.foldl step s0)) = .r (.nx (E (step (pre.foldl step s0) x)))) : forR b xs (E s0) = .r (.nx (E (xs.foldl step s0))) := by
  have go : ∀ (post pre : List α), xs = pre ++ post → forR b post (E (pre.foldl step s0)) = .r (.nx (E (post.foldl step (pre.foldl step s0)))) := by
    intro post
    induction post with
    | nil => intro pre _; rfl
    | cons x post ih =>
      intro pre e
      rw [forR, h pre x post e, bind_r, lap_nx]
      have := ih (pre ++ [x]) (by rw [e, List.append_assoc]; rfl)
      rw [List.foldl_append] at this
      exact this
  exact go xs [] rfl
/-- .. until one is found -/
theorem forR_find {b : α → List Sv → Ot Ou} {ρ : List Sv} {q : α → Bool} {g : α → D × Bool} : ∀ {xs : List α}, (∀ x ∈ xs, b x ρ = .r (bif q x then .rt (g x).1 (g x).2 else .nx ρ)) → forR b xs ρ = .r (match xs.find? q with
    | some x => .rt (g x).1 (g x).2
    | none => .nx ρ)
  | [], _ => rfl
  | x :: xs, h => by
    rw [forR, h x List.mem_cons_self, List.find?_cons]
    cases q x with
    | true => rfl
    | false => exact forR_find fun y hy => h y (List.mem_cons_of_mem _ hy)
end
theorem sqL_lst {l : List D} : sqL (.lst l) = some l := id rfl
theorem sqL_tup {l : List D} : sqL (.tup l) = some l := id rfl
theorem intD_int {i : Int} : intD (.int i) = some i := id rfl
theorem boolD_bl {b : Bool} : boolD (.bl b) = some b := id rfl
theorem tupI_def {a : List Int} : tupI a = .tup (a.map .int) := id rfl
theorem sqL_tupI {a : List Int} : sqL (tupI a) = some (a.map .int) := id rfl
theorem blsL_map {α : Type} {f : α → Bool} : ∀ {l : List α}, blsL (l.map fun x => .bl (f x)) = some (l.map f)
  | [] => rfl
  | x :: l => by rw [List.map_cons, blsL, blsL_map]; rfl
theorem intsL_map {α : Type} {f : α → Int} : ∀ {l : List α}, intsL (l.map fun x => .int (f x)) = some (l.map f)
  | [] => rfl
  | x :: l => by rw [List.map_cons, intsL, intsL_map]; rfl
theorem intsL_int {l : List Int} : intsL (l.map .int) = some l := by
  have := intsL_map (f := id) (l := l)
  rw [List.map_id] at this
  exact this
theorem tupsL_tupI : ∀ {l : List (List Int)}, tupsL (l.map tupI) = some l
  | [] => rfl
  | x :: l => by
    rw [List.map_cons, tupI, tupsL, intsL_int, tupsL_tupI]; rfl
theorem intsL_tupI {a : List Int} {l : List (List Int)} : intsL ((a :: l).map tupI) = none := id rfl
theorem all_id {α : Type} {f : α → Bool} {l : List α} : ((l.map f).all id) = l.all f := by rw [List.all_map]; rfl
theorem any_id {α : Type} {f : α → Bool} {l : List α} : ((l.map f).any id) = l.any f := by rw [List.any_map]; rfl
theorem eqD_str {a b : Str} : eqD (.str a) (.str b) = some (decide (a = b)) := id rfl
theorem eqD_int {i j : Int} : eqD (.int i) (.int j) = some (decide (i = j)) := by
  show eqP _ _ = _
  unfold eqP
  simp only [D.py, Option.bind_some, shp_int, Bool.and_self, if_true, eqv_int]
theorem eqD_tupI {a b : List Int} : eqD (tupI a) (tupI b) = some (decide (a = b)) := by
  show eqP _ _ = _
  unfold eqP
  simp only [py_tupI, Option.bind_some, shp_tupI, Bool.and_self, if_true, eqv_tupI]
theorem eqD_lstI {a b : List Int} : eqD (.lst (a.map .int)) (.lst (b.map .int)) = some (decide (a = b)) := by
  have p : ∀ a : List Int, (D.lst (a.map .int)).py = some (.list (a.map .int)) := fun a => by
    show (pyL (a.map D.int)).map PyData.list = _
    rw [py_ints]; rfl
  have q : ∀ a : List Int, SeqAt.shaped (.list (a.map .int)) = true := fun a => shp_lst (lay_ints _) (by rw [dep_ints]; omega)
  have r : PyData.eqv (.list (a.map .int)) (.list (b.map .int)) = decide (a = b) := eqv_ints a b
  show eqP _ _ = _
  unfold eqP
  simp only [p, Option.bind_some, q, Bool.and_self, if_true, r]
theorem inD_int {i : Int} {a : List Int} {d : D} (h : sqL d = some (a.map .int)) : inD (.int i) d = some (decide (i ∈ a)) := by
  have e : (List.map PyData.int a).any (fun z => PyData.eqv z (.int i)) = decide (i ∈ a) := by
    rw [Bool.eq_iff_iff]
    simp [List.any_eq_true, PyData.eqv]
  unfold inD
  simp only [h, Option.bind_some, D.py, py_ints, shp_int, shp_lst (lay_ints a) (by rw [dep_ints]; omega), Bool.and_self, if_true, e]
theorem inD_intT {i : Int} {a : List Int} : inD (.int i) (tupI a) = some (decide (i ∈ a)) := inD_int rfl
theorem inD_intL {i : Int} {a : List Int} : inD (.int i) (.lst (a.map .int)) = some (decide (i ∈ a)) := inD_int rfl
theorem inD_tup {x : List Int} {ls : List (List Int)} {d : D} (h : sqL d = some (ls.map tupI)) : inD (tupI x) d = some (decide (x ∈ ls)) := by
  have e : (List.map pyI ls).any (fun z => PyData.eqv z (pyI x)) = decide (x ∈ ls) := by
    rw [Bool.eq_iff_iff, List.any_map, List.any_eq_true, decide_eq_true_eq]
    constructor
    · rintro ⟨a, ha, e⟩
      rw [Function.comp, eqv_tupI, decide_eq_true_eq] at e
      exact e ▸ ha
    · intro h
      exact ⟨x, h, by rw [Function.comp, eqv_tupI, decide_eq_true_eq]⟩
  unfold inD
  simp only [h, Option.bind_some, py_tupI, py_tups, shp_tupI, shp_lst (lay_tups ls) (by have := dep_tups ls; omega), Bool.and_self, if_true, e]
theorem inD_tupT {x : List Int} {ls : List (List Int)} : inD (tupI x) (.tup (ls.map tupI)) = some (decide (x ∈ ls)) := inD_tup rfl
theorem inD_tupL {x : List Int} {ls : List (List Int)} : inD (tupI x) (.lst (ls.map tupI)) = some (decide (x ∈ ls)) := inD_tup rfl
/-- a closure -/
def clD (n : Nat) (ls : List (List Int)) : D := .ins "Closure" [("size", .int n), ("lots", .tup (ls.map tupI))]
theorem att_size {cs : List Str} {n : Nat} {ls : List (List Int)} : pB1 cs (.att "size") (clD n ls) = some (val (.int n)) := by rfl
theorem att_lots {cs : List Str} {n : Nat} {ls : List (List Int)} : pB1 cs (.att "lots") (clD n ls) = some (val (.tup (ls.map tupI))) := by rfl
theorem rgT_n {cs : List Str} {n : Nat} (h : n ≤ 1000) : pB1 cs .rgT (.int (n : Int)) = some (val (tupI (Rg n))) := by
  show (if RgOk 0 (n : Int) then some (val (.tup (rgD 0 n))) else none) = _
  rw [if_pos (RgOk.of_le (by omega) (by omega) (by omega) (by omega)), rgD_Rg]; rfl
theorem rgL_n {cs : List Str} {n : Nat} (h : n ≤ 1000) : pB1 cs .rgL (.int (n : Int)) = some (tmp (.lst ((Rg n).map .int))) := by
  show (if RgOk 0 (n : Int) then some (tmp (.lst (rgD 0 n))) else none) = _
  rw [if_pos (RgOk.of_le (by omega) (by omega) (by omega) (by omega)), rgD_Rg]
theorem rev_tup {cs : List Str} {l : List D} : pB1 cs .rev (.tup l) = some (val (.tup l.reverse)) := id rfl
theorem rev_lst {cs : List Str} {l : List D} : pB1 cs .rev (.lst l) = some (tmp (.lst l.reverse)) := id rfl
theorem neg_int {cs : List Str} {i : Int} : pB1 cs .neg (.int i) = some (val (.int (-i))) := id rfl
theorem len_tupI {cs : List Str} {a : List Int} : pB1 cs .len (tupI a) = some (val (.int a.length)) := by
  show some (val (.int ((a.map D.int).length : Int))) = _
  rw [List.length_map]
theorem len_tup {cs : List Str} {a : List D} : pB1 cs .len (.tup a) = some (val (.int a.length)) := id rfl
theorem len_lst {cs : List Str} {a : List D} : pB1 cs .len (.lst a) = some (val (.int a.length)) := id rfl
theorem tuple_lst {cs : List Str} {a : List D} : pB1 cs .tuple (.lst a) = some (val (.tup a)) := id rfl
theorem tuple_tup {cs : List Str} {a : List D} : pB1 cs .tuple (.tup a) = some (val (.tup a)) := id rfl
theorem list_lst {cs : List Str} {a : List D} : pB1 cs .list (.lst a) = some (tmp (.lst a)) := id rfl
theorem list_tup {cs : List Str} {a : List D} : pB1 cs .list (.tup a) = some (tmp (.lst a)) := id rfl
theorem all_lst {α : Type} {cs : List Str} {f : α → Bool} {l : List α} : pB1 cs .all (.lst (l.map fun x => .bl (f x))) = some (val (.bl (l.all f))) := by
  show Option.map _ (blsL _) = _; rw [blsL_map, Option.map_some, all_id]
theorem any_lst {α : Type} {cs : List Str} {f : α → Bool} {l : List α} : pB1 cs .any (.lst (l.map fun x => .bl (f x))) = some (val (.bl (l.any f))) := by
  show Option.map _ (blsL _) = _; rw [blsL_map, Option.map_some, any_id]
theorem sum_lst {α : Type} {cs : List Str} {f : α → Int} {l : List α} : pB1 cs .sum (.lst (l.map fun x => .int (f x))) = some (val (.int (l.map f).sum)) := by
  show Option.map _ (intsL _) = _; rw [intsL_map]; rfl
theorem sorted_lots {cs : List Str} {ls : List (List Int)} {d : D} (h : sqL d = some (ls.map tupI)) : pB1 cs .sorted d = some (tmp (.lst ((srtL ls).map tupI))) := by
  show ((sqL d).bind fun l => match intsL l with
    | some ns => some (tmp (D.lst (List.map D.int (srtI ns))))
    | none => Option.map (fun ls => tmp (D.lst (List.map tupI (srtL ls)))) (tupsL l)) = _
  rw [h, Option.bind_some]
  cases ls with
  | nil =>
    have : srtL [] = [] := (srtL_perm []).eq_nil
    rw [this]
    show some (tmp (D.lst (List.map D.int (srtI [])))) = _
    rw [(srtI_perm []).eq_nil]
    rfl
  | cons a l => rw [intsL_tupI, tupsL_tupI]; rfl
theorem sorted_lotsL {cs : List Str} {ls : List (List Int)} : pB1 cs .sorted (.lst (ls.map tupI)) = some (tmp (.lst ((srtL ls).map tupI))) := sorted_lots rfl
theorem add_tupI {a c : List Int} (h : a.length + c.length ≤ 1000) : pOp .Add (tupI a) (tupI c) = some (val (tupI (a ++ c))) := by
  show (if (a.map D.int).length + (c.map D.int).length ≤ Z then some (val (D.tup (a.map .int ++ c.map .int))) else none) = _
  rw [if_pos (by rw [List.length_map, List.length_map]; unfold Z; omega), ← List.map_append]
  rfl
theorem add_tup1 {a : List Int} {x : Int} (h : a.length ≤ 999) : pOp .Add (tupI a) (.tup [.int x]) = some (val (tupI (a ++ [x]))) := add_tupI (c := [x]) (by rw [List.length_singleton]; omega)
theorem add_lots {ls ms : List (List Int)} (h : ls.length + ms.length ≤ 1000) : pOp .Add (.lst (ls.map tupI)) (.lst (ms.map tupI)) = some (tmp (.lst ((ls ++ ms).map tupI))) := by
  show (if (ls.map tupI).length + (ms.map tupI).length ≤ Z then some (tmp (D.lst (ls.map tupI ++ ms.map tupI))) else none) = _
  rw [if_pos (by rw [List.length_map, List.length_map]; unfold Z; omega), ← List.map_append]
theorem add_lotsF {α : Type} {ls : List (List Int)} {xs : List α} {f : α → List Int} (h : ls.length + xs.length ≤ 1000) : pOp .Add (.lst (ls.map tupI)) (.lst (xs.map fun x => tupI (f x))) = some (tmp (.lst ((ls ++ xs.map f).map tupI))) := by
  have := add_lots (ls := ls) (ms := xs.map f) (by rw [List.length_map]; exact h)
  rw [List.map_map] at this
  exact this
theorem sorted_ints {cs : List Str} {a : List Int} {d : D} (h : sqL d = some (a.map .int)) : pB1 cs .sorted d = some (tmp (.lst ((srtI a).map .int))) := by
  show ((sqL d).bind fun l => match intsL l with
    | some ns => some (tmp (D.lst (List.map D.int (srtI ns))))
    | none => Option.map (fun ls => tmp (D.lst (List.map tupI (srtL ls)))) (tupsL l)) = _
  rw [h, Option.bind_some, intsL_int]
theorem sorted_tupI {cs : List Str} {a : List Int} : pB1 cs .sorted (tupI a) = some (tmp (.lst ((srtI a).map .int))) := sorted_ints rfl
theorem sorted_lstI {cs : List Str} {a : List Int} : pB1 cs .sorted (.lst (a.map .int)) = some (tmp (.lst ((srtI a).map .int))) := sorted_ints rfl
theorem all_true {α : Type} {l : List α} : (l.all fun _ => true) = true := List.all_eq_true.mpr fun _ _ => rfl
theorem putFD_nil {f : Str} {d : D} : putFD f d [] = [(f, d)] := id rfl
theorem putFD_miss {f g : Str} {d e : D} {r : List (Str × D)} (h : (g == f) = false) : putFD f d ((g, e) :: r) = (g, e) :: putFD f d r := by
  show (if g = f then (g, d) :: r else (g, e) :: putFD f d r) = _
  rw [if_neg (beq_eq_false_iff_ne.mp h)]
theorem map_tupI {a : List Int} : D.tup (a.map fun x => .int x) = tupI a := id rfl
theorem ri_n {n : Nat} (h : n ≤ 1000) : InR (n : Int) := by constructor <;> omega
end Sh
open Sh  in
local macro_rules
  | `(tactic| dsimp! [$[$ls:simpLemma],*]) => `(tactic| simp (contextual := true) only [rx_var, rx_c, rx_b1, rx_b2, rx_chain, rx_and, rx_or, rx_not, rx_ite, rx_tup, rx_lst, rx_dctN, rx_cut, rx_call, rx_callS, rx_lc, rxs_nil, rxs_cons, rc_yes, rc_v, rc_cmp, rc_chain, rc_not, rc_and, rc_or, ro_no, ro_so, ri_seq, ri_rg1, ri_rg2, ri_enum, ri_zip, rs_asg, rs_asgT, rs_par, rs_aug, rs_put, rs_ex, rs_ret, rs_retN, rs_raise', rs_pass, rs_brk, rs_cnt, rs_ite, rs_for, rs_whl, rs_fgt, rs_shr, rss_nil, rss_cons, rxp_var, rsE_var, rxp_c, rsE_c, rsR_c, opd_c, rxp_b1, rsE_b1, rsR_b1, opd_b1, rxp_b2, rsE_b2, rsR_b2, opd_b2, rxp_chain, rsE_chain, rsR_chain, opd_chain, rxp_and, rsE_and, rsR_and, opd_and, rxp_or, rsE_or, rsR_or, opd_or, rxp_not, rsE_not, rsR_not, opd_not, rxp_ite, rsE_ite, rsR_ite, opd_ite, rxp_tup, rsE_tup, rsR_tup, opd_tup, rxp_lst, rsE_lst, rsR_lst, opd_lst, rxp_dctN, rsE_dctN, rsR_dctN, opd_dctN, rxp_cut, rsE_cut, rsR_cut, opd_cut, rxp_call, rsE_call, rsR_call, opd_call, rxp_callS, rsE_callS, rsR_callS, opd_callS, rxp_lc, rsE_lc, rsR_lc, opd_lc, opd_var, rsR_var, rsE_app, rxp_pop, rxp_pop0, rxp_popI, rxsP_nil, rxsP_cons, stP_nil, stP_cons, stR_val, stR_tmp, shD_sh, seeD_sh, seeD_ow, isOw_sh, isOw_ow, isOw_nn, isOw_none, ownL_ow, wip_nil, wip_cons, bdT_nm, bdT_tp, bdTs_nil, bdTs_cons, shrR_def, shrS_sh, shrS_ow, boolR_val, pB2_op, pB2_cmp, pB2_ix, pB2_max, pB2_min, add_int, sub_int, add_tup, add_lst, pc_eq, pc_ne, pc_in, pc_nin, pc_is, pc_isn, pc_lt, pc_le, pc_gt, pc_ge, is_non, is_bl, run_eq, eqD_str, neg_int, rev_tup, rev_lst, forR_map, sorted_tupI, sorted_lstI, all_true, putFD_nil, putFD_miss, eq_self, raise_some, decide_true, lk_hit, lk_miss, fldsD_nil, fldsD_cons, List.getD_cons_zero, List.getD_cons_succ, Nat.reduceLeDiff, Nat.zero_le, flR_nil, flR_cons, runI_eq, isSeq_seq, isSeq_rg1, isSeq_rg2, isSeq_enum, isSeq_zip, Bool.false_or, mine_nx, isMe, cond_bind, cond_nx, cond_rt, cond_cons, cond_same, cond_sh, cond_go, cond_lap, cond_fin, go_nx, go_rt, go_bk, go_ct, lap_nx, lap_ct, lap_bk, lap_rt, fin_nx, fin_rt, pc_F, pc_cs, pc_rz, bind_r, bind_x, bind_no, of_some, gd_true, val_1, val_2, tmp_1, tmp_2, pr_val, pr_tmp, FOf_hit, FOf_miss, nox_r, Zle, cond_true, cond_false, boolD_bl, intD_int, sqL_lst, sqL_tup, isOw_none,
  List.length_cons, List.length_nil, List.map_cons, List.map_nil, List.cons_append, List.nil_append, List.reduceReplicate, Nat.reduceSub, Nat.reduceAdd, List.getElem?_cons_zero, List.getElem?_cons_succ, List.set_cons_zero, List.set_cons_succ, Option.map_some, Option.bind_some, Nat.reduceBEq, if_true, reduceIte, Bool.and_self, Bool.and_true, Bool.true_and, Bool.not_true, Bool.not_false, List.all_cons, List.all_nil, RT.slots, RTs.slots, List.contains_cons, List.contains_nil, BEq.rfl, Bool.or_true, Bool.or_false, Bool.true_or, beq_self_eq_true, reduceCtorEq, List.length_map, lcR_nil, ↓lcR_mapm, lcR_mapm, lcRm_r, filter_true, cond_r, cond_vd, cond_td, cond_bl, cond_tupI, cond_int, cond_and, cond_or, sqL_tupI, map_tupI, eqD_int, eqD_tupI, eqD_lstI, inD_intT, inD_intL, inD_tupT, inD_tupL, att_size, att_lots, len_tupI, len_tup, len_lst, tuple_lst, tuple_tup, list_lst, list_tup, all_lst, any_lst, sum_lst, sorted_lotsL, Bool.false_eq_true, $[$ls:simpLemma],*])
namespace Sh
open L2 PySem PySem.Spec PyProof.Rows

/-- what holds behind it, kept shut -/
structure W {α : Type} (o : Ot α) (b : Nat) (Q : α → Nat → Prop) (E : Xc → Nat → Prop) : Prop where
  p : o.post b Q E
section
variable {α β : Type} {b : Nat} {E : Xc → Nat → Prop}
theorem drF_eq {m : Int} : drF [.pen, .int m] = .dr m fun i => .r (val (.int i)) := id rfl
theorem nox_dr {m : Int} {k : Int → Ot α} : (Ot.dr m k).nox = .dr m fun i => (k i).nox := id rfl
theorem post_r {a : α} {Q : α → Nat → Prop} (h : Q a b) : W (Ot.r a) b Q E := ⟨h⟩
theorem post_draw {m : Nat} {k : Int → Ot α} {Q : α → Nat → Prop} (hb : 1 ≤ b) (h0 : 0 < m) (h1 : m < 1073741824) (h : ∀ i : Nat, i < m → W (k i) (b - 1) Q E) : W (Ot.dr (m : Int) k) b Q E :=
  ⟨b - 1, by omega, by omega, by omega, fun i i0 i1 => by
    obtain ⟨n, rfl⟩ := Int.eq_ofNat_of_zero_le i0
    exact (h n (by omega)).p⟩
/-- what follows -/
theorem post_seq {o : Ot α} {k : α → Ot β} {Q : β → Nat → Prop} (h : W o b (fun a b' => W (k a) b' Q E) E) : W (o.bind k) b Q E := ⟨post_bind.mpr (post_imp (fun _ _ h => h.p) (fun _ _ h => h) h.p)⟩
theorem W.imp {o : Ot α} {Q R : α → Nat → Prop} (h : W o b Q E) (i : ∀ a b, Q a b → R a b) : W o b R E := ⟨post_imp i (fun _ _ h => h) h.p⟩
theorem bind_assoc {γ : Type} {f : α → Ot β} {g : β → Ot γ} : ∀ {o : Ot α}, (o.bind f).bind g = o.bind fun a => (f a).bind g
  | .r _ => rfl
  | .x _ => rfl
  | .no => rfl
  | .dr m k => by simp only [Ot.bind, bind_assoc (o := k _)]
theorem map_eraseI {f : α → β} : ∀ {l : List α} {i : Nat}, (l.map f).eraseIdx i = (l.eraseIdx i).map f
  | [], _ => rfl
  | _ :: _, 0 => rfl
  | x :: l, i + 1 => by
    simp only [List.map_cons, List.eraseIdx_cons_succ, map_eraseI]
/-- a loop -/
theorem forR_post {bd : α → List Sv → Ot Ou} {I : List α → List Sv → Nat → Prop} {Q : Ou → Nat → Prop} {xs : List α} {ρ : List Sv} (h0 : I [] ρ b) (hs : ∀ pre x post ρ b, xs = pre ++ x :: post → I pre ρ b → W (bd x ρ) b (fun o b' => ∃ ρ', o = .nx ρ' ∧ I (pre ++ [x]) ρ' b') E) (hQ : ∀ ρ b, I xs ρ b → Q (.nx ρ) b) : W (forR bd xs ρ) b Q E := by
  have go : ∀ (post pre : List α) (ρ : List Sv) (b : Nat), xs = pre ++ post → I pre ρ b → W (forR bd post ρ) b Q E := by
    intro post
    induction post with
    | nil =>
      intro pre ρ b e h
      rw [List.append_nil] at e
      exact ⟨hQ ρ b (e ▸ h)⟩
    | cons x post ih =>
      intro pre ρ b e h
      unfold forR
      refine post_seq ((hs pre x post ρ b e h).imp fun o b' ho => ?_)
      obtain ⟨ρ', rfl, ho⟩ := ho
      exact ih (pre ++ [x]) ρ' b' (by rw [e, List.append_assoc]; rfl) ho
  exact go xs [] ρ b rfl h0
theorem W.nox : ∀ {o : Ot α} {b : Nat} {R : α → Nat → Prop}, W o b R noX → W o.nox b R E
  | .r a, _, _, h => ⟨h.p⟩
  | .x e, _, _, h => h.p.elim
  | .no, _, _, h => h.p.elim
  | .dr m k, b, R, h => by
    obtain ⟨b', e, h0, h1, h⟩ := h.p
    exact ⟨b', e, h0, h1, fun i i0 i1 => (W.nox (o := k i) ⟨h i i0 i1⟩).p⟩
/-- a list of drawn things -/
theorem lcR_post0 {f : α → Ot (D × Bool)} {P : D → Prop} {c : Nat} {Q : List D → Nat → Prop} : ∀ {xs : List α} {b : Nat}, (∀ x ∈ xs, ∀ (b : Nat) (Q : D × Bool → Nat → Prop), c ≤ b → (∀ y b', P y.1 → b ≤ b' + c → b' ≤ b → Q y b') → W (f x) b Q noX) → c * xs.length ≤ b → (∀ out b', out.length = xs.length → (∀ d ∈ out, P d) → b ≤ b' + c * xs.length → b' ≤ b → Q out b') → W (lcR (fun _ => .r true) f xs).nox b Q E
  | [], b, _, _, hQ => ⟨hQ [] b rfl (fun _ h => by cases h) (by omega) (Nat.le_refl _)⟩
  | x :: xs, b, hf, hb, hQ => by
    rw [List.length_cons, Nat.mul_succ] at hb
    unfold lcR
    rw [bind_r, cond_true, nox_bind]
    refine post_seq (W.nox (hf x List.mem_cons_self b _ (by omega) fun y b' hy h3 h4 => ?_))
    rw [nox_bind]
    refine post_seq (lcR_post0 (fun z hz => hf z (List.mem_cons_of_mem _ hz)) (by omega) fun out b2 e1 e2 e3 e4 => ?_)
    refine ⟨hQ (y.1 :: out) b2 (by rw [List.length_cons, e1, List.length_cons]) (fun d hd => ?_) (by rw [List.length_cons, Nat.mul_succ]; omega) (by omega)⟩
    rcases List.mem_cons.mp hd with rfl | hd
    · exact hy
    · exact e2 d hd
/-- things that are kept or left out by draws -/
theorem lcR_sel0 {g : α → D × Bool} {Q : List D → Nat → Prop} {m : Nat} {c : Int → Bool} (h0 : 0 < m) (h1 : m < 1073741824) : ∀ {xs : List α} {b : Nat}, xs.length ≤ b → (∀ sub : List α, sub.Sublist xs → Q (sub.map fun x => (g x).1) (b - xs.length)) → W (lcR (fun _ => .dr (m : Int) fun i => .r (c i)) (fun x => .r (g x)) xs).nox b Q E
  | [], b, _, hQ => ⟨hQ [] (List.Sublist.refl _)⟩
  | x :: xs, b, hb, hQ => by
    rw [List.length_cons] at hb
    unfold lcR
    rw [bind_dr, nox_dr]
    refine post_draw (by omega) h0 h1 fun i hi => ?_
    rw [bind_r]
    have e : b - (x :: xs).length = b - 1 - xs.length := by rw [List.length_cons]; omega
    rw [e] at hQ
    cases c i with
    | false =>
      rw [cond_false]
      exact lcR_sel0 h0 h1 (by omega) fun sub hs => hQ sub (hs.cons _)
    | true =>
      rw [cond_true, bind_r, nox_bind]
      refine post_seq (lcR_sel0 h0 h1 (by omega) fun sub hs => ?_)
      exact ⟨hQ (x :: sub) (hs.cons_cons x)⟩
theorem lcR_post {f : α → Ot (D × Bool)} {P : D → Prop} {c : Nat} {Q : List D → Nat → Prop} {xs : List α} {b : Nat} (h : ∀ x ∈ xs, ∀ (b : Nat) (Q : D × Bool → Nat → Prop), c ≤ b → (∀ y b', P y.1 → b ≤ b' + c → b' ≤ b → Q y b') → W (f x) b Q noX) (hb : c * xs.length ≤ b) (hQ : ∀ out b', out.length = xs.length → (∀ d ∈ out, P d) → b ≤ b' + c * xs.length → b' ≤ b → Q out b') : W (lcRm xs (fun _ _ => .r true) (fun x _ => f x)).nox b Q E := by
  rw [lcRm_of (p := fun _ => Ot.r true)]
  exact lcR_post0 h hb hQ
theorem lcR_sel {g : α → D × Bool} {Q : List D → Nat → Prop} {m : Nat} {c : Int → Bool} (h0 : 0 < m) (h1 : m < 1073741824) {xs : List α} {b : Nat} (hb : xs.length ≤ b) (hQ : ∀ sub : List α, sub.Sublist xs → Q (sub.map fun x => (g x).1) (b - xs.length)) : W (lcRm xs (fun _ _ => .dr (m : Int) fun i => .r (c i)) (fun x _ => .r (g x))).nox b Q E := by
  rw [lcRm_of (p := fun _ => Ot.dr (m : Int) fun i => .r (c i)) (f := fun x => .r (g x))]
  exact lcR_sel0 h0 h1 hb hQ
end
end Sh
namespace Sh
open L2 PySem PySem.Spec PyProof.Rows

def CallsOk (v : Ev) : Fl → Prop
  | [] => True
  | (k, f) :: l => (∀ ds b KQ KE, SOf f ds b KQ KE → v.Φ k ds b KQ KE) ∧ CallsOk v l
def RzOk (v : Ev) : Zl → Prop
  | [] => True
  | (k, z) :: l => v.rz k = some z ∧ RzOk v l
theorem CallsOk.F {v : Ev} : ∀ {l : Fl}, CallsOk v l → ∀ k ds b KQ KE, SOf (FOf l k) ds b KQ KE → v.Φ k ds b KQ KE
  | [], _, k, ds, b, KQ, KE, h => h.elim
  | (j, f) :: l, ⟨h1, h2⟩, k, ds, b, KQ, KE, h => by
    cases e : k == j with
    | true =>
      obtain rfl := beq_iff_eq.mp e
      refine h1 ds b KQ KE ?_
      unfold SOf at h ⊢
      rw [FOf_hit] at h
      exact h
    | false =>
      refine h2.F k ds b KQ KE ?_
      unfold SOf at h ⊢
      rw [FOf_miss e] at h
      exact h
theorem RzOk.lk {v : Ev} : ∀ {l : Zl}, RzOk v l → ∀ k z, l.lookup k = some z → v.rz k = some z
  | [], _, k, z, h => by cases h
  | (j, y) :: l, ⟨h1, h2⟩, k, z, h => by
    rw [List.lookup_cons] at h
    cases e : k == j with
    | true =>
      rw [e] at h
      obtain rfl := beq_iff_eq.mp e
      cases h
      exact h1
    | false =>
      rw [e] at h
      exact h2.lk k z h
theorem fits_pc {v : Ev} {l : Fl} {cs : List Str} {z : Zl} (hcs : v.cs = cs) (h : CallsOk v l) (hz : RzOk v z) : Fits v (pcOf l cs z) where
  F := h.F
  cs := fun x hx => hcs ▸ hx
  rz := hz.lk
  FS := fun k ds b KQ KE h => h.elim
  lf := .inr fun _ _ => rfl
/-- a def's row in all that are done -/
theorem pick {v : Ev} {f : List D → Ot (D × Bool)} {k : Nat} (h : v.Φ k = SOf f) : ∀ ds b KQ KE, SOf f ds b KQ KE → v.Φ k ds b KQ KE := fun _ _ _ _ q => h ▸ q
theorem pickD {v : Ev} {k : Nat} (h : v.Φ k = drawS) : ∀ ds b KQ KE, SOf drF ds b KQ KE → v.Φ k ds b KQ KE := fun _ _ _ _ q => h ▸ drF_ok q
theorem gcdF_ok {ds : List D} {b : Nat} {KQ : D → Bool → Nat → Prop} {KE : Xc → Nat → Prop} (h : SOf gcdF ds b KQ KE) : gcdS ds b KQ KE := by
  unfold SOf gcdF at h
  split at h
  · exact ⟨_, _, rfl, h⟩
  · exact h.elim
theorem pickG {v : Ev} {k : Nat} (h : v.Φ k = gcdS) : ∀ ds b KQ KE, SOf gcdF ds b KQ KE → v.Φ k ds b KQ KE := fun _ _ _ _ q => h ▸ gcdF_ok q
theorem inst0F_ok {c : Str} {ds : List D} {b : Nat} {KQ : D → Bool → Nat → Prop} {KE : Xc → Nat → Prop} (h : SOf (inst0F c) ds b KQ KE) : S0 c ds b KQ KE := by
  unfold SOf inst0F at h
  split at h
  · exact ⟨rfl, h⟩
  · exact h.elim
theorem pickC {v : Ev} {k : Nat} {c : Str} (h : v.Φ k = S0 c) : ∀ ds b KQ KE, SOf (inst0F c) ds b KQ KE → v.Φ k ds b KQ KE := fun _ _ _ _ q => h ▸ inst0F_ok q
/-- the law's own frame -/
theorem law_does {v : Ev} {N : List Str} {r : RSs} {c : Pc} {ρ : List Sv} (h : Fits v c) (e : ρ = lawRho N) (w : W (rss c r ρ) (2 ^ 40) (fun o _ => o = .rt (.bl true) false) noX) : LawDoes v N r := by
  unfold LawDoes
  rw [← e]
  refine rss_ok h r (post_imp (fun o b ho => ?_) (fun _ _ h => h) w.p)
  subst ho
  exact ⟨rfl, rfl⟩
end Sh
namespace Sh
open L2 PySem PySem.Spec PyProof.Rows
/- 11 -/
def N_in_tuples : List Str := ["value", "item"]
def r_in_tuples : RSs := (.cons (.ite (.not (.v (.b1 (.isiT [.ty "tuple", .ty "list"]) (.var 0)))) (.cons (.ret (.var 0))
  .nil) .nil)
  (.cons (.ret (.b1 .tuple (.lc (.seq (.var 0)) (.nm 1) [1] .yes (.call 11 (.cons (.var 1) .nil)))))
  .nil))
def F_in_tuples_f (cs : List Str) : Nat → List D → Ot (D × Bool)
  | 0 => fun _ => .no
  | k + 1 => run (pcOf ((11, F_in_tuples_f cs k) :: []) cs []) 2 1 r_in_tuples
def F_in_tuples (cs : List Str) : List D → Ot (D × Bool) := F_in_tuples_f cs 9
/- 12 -/
def N_is_whole : List Str := ["value"]
def r_is_whole : RSs := (.cons (.ret (.and (.b1 (.isi [.ty "int"]) (.var 0)) (.not (.b1 (.isi [.ty "bool"]) (.var 0)))))
  .nil)
def F_is_whole (cs : List Str) : List D → Ot (D × Bool) := run (pcOf [] cs []) 1 1 r_is_whole
/- 13 -/
def N_is_lot : List Str := ["most", "value", "item", "k"]
def r_is_lot : RSs := (.cons (.ite (.or (.not (.v (.b1 (.isi [.ty "tuple"]) (.var 1)))) (.not (.v (.b1 .all (.lc (.seq (.var 1)) (.nm 2) [2] .yes (.and (.call 12 (.cons (.var 2) .nil)) (.chain .LtE .Lt (.c (.int 0)) (.var 2) (.var 0)))))))) (.cons (.ret (.c (.bl false)))
  .nil) .nil)
  (.cons (.ret (.b1 .all (.lc (.rg1 (.cons (.b2 (.op .Sub) (.b1 .len (.var 1)) (.c (.int 1))) .nil)) (.nm 3) [3] .yes (.b2 (.cmp .Lt) (.b2 .ix (.var 1) (.var 3)) (.b2 .ix (.var 1) (.b2 (.op .Add) (.var 3) (.c (.int 1))))))))
  .nil))
def F_is_lot (cs : List Str) : List D → Ot (D × Bool) := run (pcOf [(12, F_is_whole cs)] cs []) 4 2 r_is_lot
/- 14 -/
def N_common_of : List Str := ["one", "other", "thing"]
def r_common_of : RSs := (.cons (.ret (.b1 .tuple (.lc (.seq (.var 0)) (.nm 2) [2] (.cmp .In (.var 2) (.var 1)) (.var 2))))
  .nil)
def F_common_of (cs : List Str) : List D → Ot (D × Bool) := run (pcOf [] cs []) 3 2 r_common_of
/- 15 -/
def N_is_family : List Str := ["size", "value", "lot", "other", "one"]
def r_is_family : RSs := (.cons (.ite (.or (.not (.v (.b1 (.isi [.ty "tuple"]) (.var 1)))) (.not (.v (.b1 .all (.lc (.seq (.var 1)) (.nm 2) [2] .yes (.call 13 (.cons (.var 0) (.cons (.var 2) .nil)))))))) (.cons (.ret (.c (.bl false)))
  .nil) .nil)
  (.cons (.ite (.cmp .NotIn (.b1 .rgT (.var 0)) (.var 1)) (.cons (.ret (.c (.bl false)))
  .nil) .nil)
  (.cons (.ret (.b1 .all (.lc (.seq (.var 1)) (.nm 3) [3] .yes (.b1 .all (.lc (.seq (.var 1)) (.nm 4) [4] .yes (.b2 (.cmp .In) (.call 14 (.cons (.var 4) (.cons (.var 3) .nil))) (.var 1)))))))
  .nil)))
def F_is_family (cs : List Str) : List D → Ot (D × Bool) := run (pcOf [(14, F_common_of cs), (13, F_is_lot cs)] cs []) 5 2 r_is_family
/- 16 -/
def N_Closure : List Str := ["self", "size", "lots", "made"]
def r_Closure : RSs := (.cons (.ite (.or (.not (.v (.call 12 (.cons (.var 1) .nil)))) (.not (.chain .LtE .LtE (.c (.int 1)) (.var 1) (.c (.int 6))))) (.cons (.raise 1 (.cons (.c (.str "size")) (.cons (.var 1) .nil)))
  .nil) .nil)
  (.cons (.asg 3 (.call 11 (.cons (.var 2) .nil)))
  (.cons (.shr 3)
  (.cons (.ite (.not (.v (.call 15 (.cons (.var 1) (.cons (.var 3) .nil))))) (.cons (.raise 1 (.cons (.c (.str "lots")) (.cons (.var 2) .nil)))
  .nil) .nil)
  .nil))))
def fl_Closure : List (Str × RX) := [("size", (.var 1)), ("lots", (.b1 .tuple (.b1 .sset (.var 3))))]
def F_Closure (cs : List Str) : List D → Ot (D × Bool) := runI (pcOf [(11, F_in_tuples cs), (15, F_is_family cs), (12, F_is_whole cs)] cs [(1, "BadClosure", 2, [("what", 1), ("value", 2)])]) "Closure" 4 3 r_Closure fl_Closure
/- 17 -/
def N__law_both : List Str := ["one", "two", "thing"]
def r__law_both : RSs := (.cons (.ret (.b1 .tuple (.lc (.seq (.var 0)) (.nm 2) [2] (.cmp .In (.var 2) (.var 1)) (.var 2))))
  .nil)
def F__law_both (cs : List Str) : List D → Ot (D × Bool) := run (pcOf [] cs []) 3 2 r__law_both
/- 18 -/
def N__law_meetings : List Str := ["size", "lots", "found", "lot", "other"]
def r__law_meetings : RSs := (.cons (.asg 2 (.lst (.cons (.b1 .rgT (.var 0)) .nil)))
  (.cons (.shr 2)
  (.cons (.for (.seq (.var 1)) (.nm 3) (.cons (.asg 2 (.b2 (.op .Add) (.var 2) (.lc (.seq (.var 2)) (.nm 4) [4] (.cmp .NotIn (.call 17 (.cons (.var 3) (.cons (.var 4) .nil))) (.var 2)) (.call 17 (.cons (.var 3) (.cons (.var 4) .nil))))))
  (.cons (.shr 2)
  (.cons (.fgt [3])
  .nil))))
  (.cons (.ret (.b1 .tuple (.b1 .sset (.var 2))))
  .nil))))
def F__law_meetings (cs : List Str) : List D → Ot (D × Bool) := run (pcOf [(17, F__law_both cs)] cs []) 5 2 r__law_meetings
/- 19 -/
def N__law_ends : List Str := ["row", "k"]
def r__law_ends : RSs := (.cons (.ret (.lc (.rg1 (.cons (.b2 (.op .Add) (.b1 .len (.var 0)) (.c (.int 1))) .nil)) (.nm 1) [1] .yes (.b1 .tuple (.b1 .sorted (.cut (.var 0) .no (.so (.var 1)))))))
  .nil)
def F__law_ends (cs : List Str) : List D → Ot (D × Bool) := run (pcOf [] cs []) 2 1 r__law_ends
/- 20 -/
def N__law_shuffled : List Str := ["pen", "some", "left", "found", "lap"]
def r__law_shuffled : RSs := (.cons (.par [2, 3] (.cons (.b1 .list (.var 1)) (.cons (.lst .nil) .nil)))
  (.cons (.for (.rg1 (.cons (.b1 .len (.var 1)) .nil)) (.nm 4) (.cons (.ex (.app 3 (.popI 2 (.call 1 (.cons (.var 0) (.cons (.b1 .len (.var 2)) .nil))))))
  (.cons (.fgt [4])
  .nil)))
  (.cons (.ret (.var 3))
  .nil)))
def F__law_shuffled (cs : List Str) : List D → Ot (D × Bool) := run (pcOf [(1, drF)] cs []) 5 2 r__law_shuffled
/- 21 -/
def N__law_shed : List Str := ["pen", "most", "size", "lots", "lap"]
def r__law_shed : RSs := (.cons (.par [2, 3] (.cons (.b2 (.op .Add) (.c (.int 1)) (.call 1 (.cons (.var 0) (.cons (.var 1) .nil)))) (.cons (.lst .nil) .nil)))
  (.cons (.shr 2)
  (.cons (.shr 3)
  (.cons (.for (.rg1 (.cons (.b2 (.op .Add) (.c (.int 1)) (.call 1 (.cons (.var 0) (.cons (.c (.int 3)) .nil)))) .nil)) (.nm 4) (.cons (.asg 3 (.b2 (.op .Add) (.var 3) (.call 19 (.cons (.call 20 (.cons (.var 0) (.cons (.b1 .rgL (.var 2)) .nil))) .nil))))
  (.cons (.shr 3)
  (.cons (.fgt [4])
  .nil))))
  (.cons (.ret (.tup (.cons (.var 2) (.cons (.call 18 (.cons (.var 2) (.cons (.var 3) .nil))) .nil))))
  .nil)))))
def F__law_shed (cs : List Str) : List D → Ot (D × Bool) := run (pcOf [(1, drF), (19, F__law_ends cs), (18, F__law_meetings cs), (20, F__law_shuffled cs)] cs []) 5 2 r__law_shed
/- 22 -/
def N__law_drawn : List Str := ["pen", "most", "size", "lots", "lap", "thing"]
def r__law_drawn : RSs := (.cons (.asg 2 (.b2 (.op .Add) (.c (.int 1)) (.call 1 (.cons (.var 0) (.cons (.var 1) .nil)))))
  (.cons (.shr 2)
  (.cons (.asg 3 (.lc (.rg1 (.cons (.call 1 (.cons (.var 0) (.cons (.c (.int 6)) .nil))) .nil)) (.nm 4) [4] .yes (.b1 .tuple (.lc (.rg1 (.cons (.var 2) .nil)) (.nm 5) [5] (.cmp .Eq (.call 1 (.cons (.var 0) (.cons (.c (.int 2)) .nil))) (.c (.int 0))) (.var 5)))))
  (.cons (.shr 3)
  (.cons (.ret (.tup (.cons (.var 2) (.cons (.call 18 (.cons (.var 2) (.cons (.var 3) .nil))) .nil))))
  .nil)))))
def F__law_drawn (cs : List Str) : List D → Ot (D × Bool) := run (pcOf [(1, drF), (18, F__law_meetings cs)] cs []) 6 2 r__law_drawn
/- 23 -/
def N__law_any : List Str := ["pen", "most"]
def r__law_any : RSs := (.cons (.ret (.ite (.cmp .Eq (.call 1 (.cons (.var 0) (.cons (.c (.int 2)) .nil))) (.c (.int 0))) (.call 21 (.cons (.var 0) (.cons (.var 1) .nil))) (.call 22 (.cons (.var 0) (.cons (.var 1) .nil)))))
  .nil)
def F__law_any (cs : List Str) : List D → Ot (D × Bool) := run (pcOf [(1, drF), (22, F__law_drawn cs), (21, F__law_shed cs)] cs []) 2 2 r__law_any
/- 24 -/
def N__law_pick : List Str := ["pen", "some"]
def r__law_pick : RSs := (.cons (.ret (.b2 .ix (.var 1) (.call 1 (.cons (.var 0) (.cons (.b1 .len (.var 1)) .nil)))))
  .nil)
def F__law_pick (cs : List Str) : List D → Ot (D × Bool) := run (pcOf [(1, drF)] cs []) 2 2 r__law_pick
/- 25 -/
def N__law_odd_closure : List Str := ["pen"]
def r__law_odd_closure : RSs := (.cons (.ret (.call 24 (.cons (.var 0) (.cons (.lst (.cons (.c .non) (.cons (.c (.int 5)) (.cons (.tup (.cons (.tup .nil) (.cons (.tup (.cons (.c (.int 0)) .nil)) .nil))) (.cons (.c (.str "closure")) .nil))))) .nil))))
  .nil)
def F__law_odd_closure (cs : List Str) : List D → Ot (D × Bool) := run (pcOf [(24, F__law_pick cs)] cs []) 1 1 r__law_odd_closure
/- 26 -/
def N__law_bad_lot : List Str := ["pen"]
def r__law_bad_lot : RSs := (.cons (.ret (.call 24 (.cons (.var 0) (.cons (.lst (.cons (.c .non) (.cons (.c (.int 5)) (.cons (.tup (.cons (.c (.int 6)) .nil)) (.cons (.tup (.cons (.b1 .neg (.c (.int 1))) .nil)) (.cons (.tup (.cons (.c (.bl true)) .nil)) (.cons (.tup (.cons (.c (.int 0)) (.cons (.c (.int 0)) .nil))) (.cons (.tup (.cons (.c (.int 1)) (.cons (.c (.int 0)) .nil))) (.cons (.c (.str "0")) .nil))))))))) .nil))))
  .nil)
def F__law_bad_lot (cs : List Str) : List D → Ot (D × Bool) := run (pcOf [(24, F__law_pick cs)] cs []) 1 1 r__law_bad_lot
/- 27 -/
def N__law_lots : List Str := ["size", "found", "thing", "lot"]
def r__law_lots : RSs := (.cons (.asg 1 (.lst (.cons (.tup .nil) .nil)))
  (.cons (.shr 1)
  (.cons (.for (.rg1 (.cons (.var 0) .nil)) (.nm 2) (.cons (.asg 1 (.b2 (.op .Add) (.var 1) (.lc (.seq (.var 1)) (.nm 3) [3] .yes (.b2 (.op .Add) (.var 3) (.tup (.cons (.var 2) .nil))))))
  (.cons (.shr 1)
  (.cons (.fgt [2])
  .nil))))
  (.cons (.ret (.b1 .sorted (.var 1)))
  .nil))))
def F__law_lots (cs : List Str) : List D → Ot (D × Bool) := run (pcOf [] cs []) 4 1 r__law_lots
/- 28 -/
def N__law_in : List Str := ["one", "two", "thing"]
def r__law_in : RSs := (.cons (.ret (.b1 .all (.lc (.seq (.var 0)) (.nm 2) [2] .yes (.b2 (.cmp .In) (.var 2) (.var 1)))))
  .nil)
def F__law_in (cs : List Str) : List D → Ot (D × Bool) := run (pcOf [] cs []) 3 2 r__law_in
/- 29 -/
def N__law_closing : List Str := ["size", "lots", "lot", "best", "other"]
def r__law_closing : RSs := (.cons (.asg 3 (.b1 .rgT (.var 0)))
  (.cons (.for (.seq (.var 1)) (.nm 4) (.cons (.asg 3 (.ite (.and (.v (.call 28 (.cons (.var 2) (.cons (.var 4) .nil)))) (.cmp .Lt (.b1 .len (.var 4)) (.b1 .len (.var 3)))) (.var 4) (.var 3)))
  (.cons (.shr 3)
  (.cons (.fgt [4])
  .nil))))
  (.cons (.ret (.var 3))
  .nil)))
def F__law_closing (cs : List Str) : List D → Ot (D × Bool) := run (pcOf [(28, F__law_in cs)] cs []) 5 3 r__law_closing
/- 30 -/
def N__law_bases : List Str := ["size", "lots", "lot", "some", "one", "other"]
def r__law_bases : RSs := (.cons (.asg 3 (.lc (.seq (.call 27 (.cons (.var 0) .nil))) (.nm 4) [4] (.cmp .Eq (.call 29 (.cons (.var 0) (.cons (.var 1) (.cons (.var 4) .nil)))) (.var 2)) (.var 4)))
  (.cons (.shr 3)
  (.cons (.ret (.lc (.seq (.var 3)) (.nm 4) [4] (.not (.v (.b1 .any (.lc (.seq (.var 3)) (.nm 5) [5] .yes (.and (.b2 (.cmp .NotEq) (.var 5) (.var 4)) (.call 28 (.cons (.var 5) (.cons (.var 4) .nil)))))))) (.var 4)))
  .nil)))
def F__law_bases (cs : List Str) : List D → Ot (D × Bool) := run (pcOf [(29, F__law_closing cs), (28, F__law_in cs), (27, F__law_lots cs)] cs []) 6 3 r__law_bases
/- 31 -/
def N_need_closure : List Str := ["closure"]
def r_need_closure : RSs := (.cons (.ite (.not (.v (.b1 (.isi [.own "Closure"]) (.var 0)))) (.cons (.raise 5 (.cons (.c (.str "closure")) .nil))
  .nil) .nil)
  .nil)
def F_need_closure (cs : List Str) : List D → Ot (D × Bool) := run (pcOf [(16, F_Closure cs)] cs [(5, "Unlike", 1, [("what", 1)])]) 1 1 r_need_closure
/- 32 -/
def N_lot_from : List Str := ["most", "lot", "made"]
def r_lot_from : RSs := (.cons (.asg 2 (.call 11 (.cons (.var 1) .nil)))
  (.cons (.shr 2)
  (.cons (.ite (.not (.v (.call 13 (.cons (.var 0) (.cons (.var 2) .nil))))) (.cons (.raise 2 (.cons (.var 1) .nil))
  .nil) .nil)
  (.cons (.ret (.var 2))
  .nil))))
def F_lot_from (cs : List Str) : List D → Ot (D × Bool) := run (pcOf [(11, F_in_tuples cs), (13, F_is_lot cs)] cs [(2, "BadLot", 1, [("lot", 1)])]) 3 2 r_lot_from
/- 33 -/
def N_closed_from : List Str := ["closure", "lot", "made"]
def r_closed_from : RSs := (.cons (.asg 2 (.call 32 (.cons (.b1 (.att "size") (.var 0)) (.cons (.var 1) .nil))))
  (.cons (.shr 2)
  (.cons (.ite (.cmp .NotIn (.var 2) (.b1 (.att "lots") (.var 0))) (.cons (.raise 5 (.cons (.c (.str "closed")) .nil))
  .nil) .nil)
  (.cons (.ret (.var 2))
  .nil))))
def F_closed_from (cs : List Str) : List D → Ot (D × Bool) := run (pcOf [(32, F_lot_from cs)] cs [(5, "Unlike", 1, [("what", 1)])]) 3 2 r_closed_from
/- 34 -/
def N_is_tuple_of : List Str := ["value", "many"]
def r_is_tuple_of : RSs := (.cons (.ret (.and (.b1 (.isi [.ty "tuple"]) (.var 0)) (.b2 (.cmp .Eq) (.b1 .len (.var 0)) (.var 1))))
  .nil)
def F_is_tuple_of (cs : List Str) : List D → Ot (D × Bool) := run (pcOf [] cs []) 2 2 r_is_tuple_of
/- 35 -/
def N_order_from_row : List Str := ["size", "row", "made", "item"]
def r_order_from_row : RSs := (.cons (.asg 2 (.call 11 (.cons (.var 1) .nil)))
  (.cons (.shr 2)
  (.cons (.ite (.or (.not (.v (.call 34 (.cons (.var 2) (.cons (.var 0) .nil))))) (.or (.not (.v (.b1 .all (.lc (.seq (.var 2)) (.nm 3) [3] .yes (.call 12 (.cons (.var 3) .nil)))))) (.cmp .NotEq (.b1 .sorted (.var 2)) (.b1 .rgL (.var 0))))) (.cons (.raise 3 (.cons (.var 1) .nil))
  .nil) .nil)
  (.cons (.ret (.var 2))
  .nil))))
def F_order_from_row (cs : List Str) : List D → Ot (D × Bool) := run (pcOf [(11, F_in_tuples cs), (34, F_is_tuple_of cs), (12, F_is_whole cs)] cs [(3, "BadRow", 1, [("row", 1)])]) 4 2 r_order_from_row
/- 36 -/
def N_without : List Str := ["lot", "thing", "other"]
def r_without : RSs := (.cons (.ret (.b1 .tuple (.lc (.seq (.var 0)) (.nm 2) [2] (.cmp .NotEq (.var 2) (.var 1)) (.var 2))))
  .nil)
def F_without (cs : List Str) : List D → Ot (D × Bool) := run (pcOf [] cs []) 3 2 r_without
/- 37 -/
def N_is_within : List Str := ["one", "other", "thing"]
def r_is_within : RSs := (.cons (.ret (.b1 .all (.lc (.seq (.var 0)) (.nm 2) [2] .yes (.b2 (.cmp .In) (.var 2) (.var 1)))))
  .nil)
def F_is_within (cs : List Str) : List D → Ot (D × Bool) := run (pcOf [] cs []) 3 2 r_is_within
/- 38 -/
def N_closing_by : List Str := ["closure", "lot", "out", "other"]
def r_closing_by : RSs := (.cons (.asg 2 (.b1 .rgT (.b1 (.att "size") (.var 0))))
  (.cons (.for (.seq (.b1 (.att "lots") (.var 0))) (.nm 3) (.cons (.ite (.and (.cmp .Lt (.b1 .len (.var 3)) (.b1 .len (.var 2))) (.v (.call 37 (.cons (.var 1) (.cons (.var 3) .nil))))) (.cons (.asg 2 (.var 3))
  .nil) .nil)
  (.cons (.fgt [3])
  .nil)))
  (.cons (.ret (.var 2))
  .nil)))
def F_closing_by (cs : List Str) : List D → Ot (D × Bool) := run (pcOf [(37, F_is_within cs)] cs []) 4 2 r_closing_by
/- 39 -/
def N_base_by : List Str := ["closure", "lot", "row", "made", "order", "out", "thing"]
def r_base_by : RSs := (.cons (.ex (.call 31 (.cons (.var 0) .nil)))
  (.cons (.asg 3 (.call 33 (.cons (.var 0) (.cons (.var 1) .nil))))
  (.cons (.shr 3)
  (.cons (.par [4, 5] (.cons (.call 35 (.cons (.b1 (.att "size") (.var 0)) (.cons (.var 2) .nil))) (.cons (.var 3) .nil)))
  (.cons (.shr 4)
  (.cons (.for (.seq (.var 4)) (.nm 6) (.cons (.ite (.and (.cmp .In (.var 6) (.var 5)) (.cmp .Eq (.call 38 (.cons (.var 0) (.cons (.call 36 (.cons (.var 5) (.cons (.var 6) .nil))) .nil))) (.var 3))) (.cons (.asg 5 (.call 36 (.cons (.var 5) (.cons (.var 6) .nil))))
  (.cons (.shr 5)
  .nil)) .nil)
  (.cons (.fgt [6])
  .nil)))
  (.cons (.ret (.var 5))
  .nil)))))))
def F_base_by (cs : List Str) : List D → Ot (D × Bool) := run (pcOf [(33, F_closed_from cs), (38, F_closing_by cs), (31, F_need_closure cs), (35, F_order_from_row cs), (36, F_without cs)] cs []) 7 3 r_base_by
/- 40 -/
def N__law_lists : List Str := ["thing", "item"]
def r__law_lists : RSs := (.cons (.ret (.ite (.v (.b1 (.isi [.ty "tuple"]) (.var 0))) (.lc (.seq (.var 0)) (.nm 1) [1] .yes (.call 40 (.cons (.var 1) .nil))) (.var 0)))
  .nil)
def F__law_lists_f (cs : List Str) : Nat → List D → Ot (D × Bool)
  | 0 => fun _ => .no
  | k + 1 => run (pcOf ((40, F__law_lists_f cs k) :: []) cs []) 2 1 r__law_lists
def F__law_lists (cs : List Str) : List D → Ot (D × Bool) := F__law_lists_f cs 9
/- 41 -/
def N__law_either : List Str := ["pen", "thing"]
def r__law_either : RSs := (.cons (.ret (.ite (.cmp .Eq (.call 1 (.cons (.var 0) (.cons (.c (.int 2)) .nil))) (.c (.int 0))) (.var 1) (.call 40 (.cons (.var 1) .nil))))
  .nil)
def F__law_either (cs : List Str) : List D → Ot (D × Bool) := run (pcOf [(1, drF), (40, F__law_lists cs)] cs []) 2 2 r__law_either
/- 42 -/
def N_all_lots : List Str := ["size", "out", "thing", "lot"]
def r_all_lots : RSs := (.cons (.asg 1 (.lst (.cons (.tup .nil) .nil)))
  (.cons (.shr 1)
  (.cons (.for (.rg1 (.cons (.var 0) .nil)) (.nm 2) (.cons (.asg 1 (.b2 (.op .Add) (.var 1) (.lc (.seq (.var 1)) (.nm 3) [3] .yes (.b2 (.op .Add) (.var 3) (.tup (.cons (.var 2) .nil))))))
  (.cons (.shr 1)
  (.cons (.fgt [2])
  .nil))))
  (.cons (.ret (.b1 .sorted (.var 1)))
  .nil))))
def F_all_lots (cs : List Str) : List D → Ot (D × Bool) := run (pcOf [] cs []) 4 1 r_all_lots
/- 43 -/
def N_least_by : List Str := ["closure", "lot", "some", "base", "one", "other"]
def r_least_by : RSs := (.cons (.asg 2 (.lc (.seq (.call 42 (.cons (.b1 (.att "size") (.var 0)) .nil))) (.nm 3) [3] (.cmp .Eq (.call 38 (.cons (.var 0) (.cons (.var 3) .nil))) (.var 1)) (.var 3)))
  (.cons (.shr 2)
  (.cons (.ret (.b1 .tuple (.lc (.seq (.var 2)) (.nm 4) [4] (.not (.v (.b1 .any (.lc (.seq (.var 2)) (.nm 5) [5] .yes (.and (.b2 (.cmp .NotEq) (.var 5) (.var 4)) (.call 37 (.cons (.var 5) (.cons (.var 4) .nil)))))))) (.var 4))))
  .nil)))
def F_least_by (cs : List Str) : List D → Ot (D × Bool) := run (pcOf [(42, F_all_lots cs), (38, F_closing_by cs), (37, F_is_within cs)] cs []) 6 2 r_least_by
/- 44 -/
def N_many_bases : List Str := ["closure", "lot"]
def r_many_bases : RSs := (.cons (.ex (.call 31 (.cons (.var 0) .nil)))
  (.cons (.ret (.b1 .sum (.lc (.seq (.b1 (.att "lots") (.var 0))) (.nm 1) [1] .yes (.b1 .len (.call 43 (.cons (.var 0) (.cons (.var 1) .nil)))))))
  .nil))
def F_many_bases (cs : List Str) : List D → Ot (D × Bool) := run (pcOf [(43, F_least_by cs), (31, F_need_closure cs)] cs []) 2 1 r_many_bases
/- 45 -/
def N_least_bases : List Str := ["closure", "lot"]
def r_least_bases : RSs := (.cons (.ex (.call 31 (.cons (.var 0) .nil)))
  (.cons (.ret (.call 43 (.cons (.var 0) (.cons (.call 33 (.cons (.var 0) (.cons (.var 1) .nil))) .nil))))
  .nil))
def F_least_bases (cs : List Str) : List D → Ot (D × Bool) := run (pcOf [(33, F_closed_from cs), (43, F_least_by cs), (31, F_need_closure cs)] cs []) 2 2 r_least_bases
/- 46 -/
def N__law_without : List Str := ["lot", "thing", "other"]
def r__law_without : RSs := (.cons (.ret (.b1 .tuple (.lc (.seq (.var 0)) (.nm 2) [2] (.cmp .NotEq (.var 2) (.var 1)) (.var 2))))
  .nil)
def F__law_without (cs : List Str) : List D → Ot (D × Bool) := run (pcOf [] cs []) 3 2 r__law_without
/- 47 -/
def N__law_extreme : List Str := ["size", "lots", "lot", "thing"]
def r__law_extreme : RSs := (.cons (.ret (.b1 .tuple (.lc (.seq (.var 2)) (.nm 3) [3] (.cmp .NotIn (.var 3) (.call 29 (.cons (.var 0) (.cons (.var 1) (.cons (.call 46 (.cons (.var 2) (.cons (.var 3) .nil))) .nil))))) (.var 3))))
  .nil)
def F__law_extreme (cs : List Str) : List D → Ot (D × Bool) := run (pcOf [(29, F__law_closing cs), (46, F__law_without cs)] cs []) 4 3 r__law_extreme
/- 48 -/
def N__law_free : List Str := ["size", "lots", "lot"]
def r__law_free : RSs := (.cons (.ret (.lc (.seq (.call 27 (.cons (.var 0) .nil))) (.nm 2) [2] (.cmp .Eq (.call 47 (.cons (.var 0) (.cons (.var 1) (.cons (.var 2) .nil)))) (.var 2)) (.var 2)))
  .nil)
def F__law_free (cs : List Str) : List D → Ot (D × Bool) := run (pcOf [(47, F__law_extreme cs), (27, F__law_lots cs)] cs []) 3 2 r__law_free
/- 49 -/
def N__law_left : List Str := ["size", "lots", "lot", "order", "thing"]
def r__law_left : RSs := (.cons (.for (.seq (.var 3)) (.nm 4) (.cons (.ite (.and (.cmp .In (.var 4) (.var 2)) (.cmp .Eq (.call 29 (.cons (.var 0) (.cons (.var 1) (.cons (.call 46 (.cons (.var 2) (.cons (.var 4) .nil))) .nil)))) (.call 29 (.cons (.var 0) (.cons (.var 1) (.cons (.var 2) .nil)))))) (.cons (.asg 2 (.call 46 (.cons (.var 2) (.cons (.var 4) .nil))))
  (.cons (.shr 2)
  .nil)) .nil)
  (.cons (.fgt [4])
  .nil)))
  (.cons (.ret (.var 2))
  .nil))
def F__law_left (cs : List Str) : List D → Ot (D × Bool) := run (pcOf [(29, F__law_closing cs), (46, F__law_without cs)] cs []) 5 4 r__law_left
end Sh
namespace Sh
open L2 PySem PySem.Spec PyProof.Rows
/- 50 -/
def N_copied : List Str := ["value"]
def r_copied : RSs := (.cons (.ret (.ite (.v (.b1 (.isi [.ty "list"]) (.var 0))) (.b1 .tuple (.var 0)) (.var 0)))
  .nil)
def F_copied (cs : List Str) : List D → Ot (D × Bool) := run (pcOf [] cs []) 1 1 r_copied
/- 51 -/
def N_TwoBases : List Str := ["self", "lot", "one", "other"]
def r_TwoBases : RSs := .nil
def fl_TwoBases : List (Str × RX) := [("lot", (.call 50 (.cons (.var 1) .nil))), ("one", (.call 50 (.cons (.var 2) .nil))), ("other", (.call 50 (.cons (.var 3) .nil)))]
def F_TwoBases (cs : List Str) : List D → Ot (D × Bool) := runI (pcOf [(50, F_copied cs)] cs []) "TwoBases" 4 4 r_TwoBases fl_TwoBases
/- 52 -/
def N_two_bases : List Str := ["closure", "lot", "found"]
def r_two_bases : RSs := (.cons (.for (.seq (.b1 (.att "lots") (.var 0))) (.nm 1) (.cons (.asg 2 (.call 43 (.cons (.var 0) (.cons (.var 1) .nil))))
  (.cons (.shr 2)
  (.cons (.ite (.cmp .Gt (.b1 .len (.var 2)) (.c (.int 1))) (.cons (.ret (.call 51 (.cons (.var 1) (.cons (.b2 .ix (.var 2) (.c (.int 0))) (.cons (.b2 .ix (.var 2) (.c (.int 1))) .nil)))))
  .nil) .nil)
  (.cons (.fgt [1, 2])
  .nil)))))
  (.cons (.ret (.c .non))
  .nil))
def F_two_bases (cs : List Str) : List D → Ot (D × Bool) := run (pcOf [(51, F_TwoBases cs), (43, F_least_by cs)] cs []) 3 1 r_two_bases
/- 53 -/
def N_OneBase : List Str := ["self", "rows"]
def r_OneBase : RSs := .nil
def fl_OneBase : List (Str × RX) := [("rows", (.call 50 (.cons (.var 1) .nil)))]
def F_OneBase (cs : List Str) : List D → Ot (D × Bool) := runI (pcOf [(50, F_copied cs)] cs []) "OneBase" 2 2 r_OneBase fl_OneBase
/- 54 -/
def N_only_rows : List Str := ["closure", "lot"]
def r_only_rows : RSs := (.cons (.ret (.b1 .tuple (.lc (.seq (.b1 (.att "lots") (.var 0))) (.nm 1) [1] .yes (.b2 .ix (.call 43 (.cons (.var 0) (.cons (.var 1) .nil))) (.c (.int 0))))))
  .nil)
def F_only_rows (cs : List Str) : List D → Ot (D × Bool) := run (pcOf [(43, F_least_by cs)] cs []) 2 1 r_only_rows
/- 55 -/
def N_one_base : List Str := ["closure", "found"]
def r_one_base : RSs := (.cons (.ex (.call 31 (.cons (.var 0) .nil)))
  (.cons (.asg 1 (.call 52 (.cons (.var 0) .nil)))
  (.cons (.shr 1)
  (.cons (.ret (.ite (.cmp .Is (.var 1) (.c .non)) (.call 53 (.cons (.call 54 (.cons (.var 0) .nil)) .nil)) (.var 1)))
  .nil))))
def F_one_base (cs : List Str) : List D → Ot (D × Bool) := run (pcOf [(53, F_OneBase cs), (31, F_need_closure cs), (54, F_only_rows cs), (52, F_two_bases cs)] cs []) 2 1 r_one_base
/- 56 -/
def N__law_lot : List Str := ["things"]
def r__law_lot : RSs := (.cons (.ret (.b1 .tuple (.b1 .sset (.var 0))))
  .nil)
def F__law_lot (cs : List Str) : List D → Ot (D × Bool) := run (pcOf [] cs []) 1 1 r__law_lot
/- 57 -/
def N__law_bars : List Str := ["size", "lots", "found", "lot", "others", "thing", "x", "y"]
def r__law_bars : RSs := (.cons (.asg 2 (.lst .nil))
  (.cons (.for (.seq (.b1 .sorted (.var 1))) (.nm 3) (.cons (.asg 4 (.lc (.rg1 (.cons (.var 0) .nil)) (.nm 5) [5] (.cmp .NotIn (.var 5) (.var 3)) (.var 5)))
  (.cons (.shr 4)
  (.cons (.for (.seq (.var 4)) (.nm 6) (.cons (.for (.seq (.lc (.seq (.var 4)) (.nm 5) [5] (.cmp .Gt (.var 5) (.var 6)) (.var 5))) (.nm 7) (.cons (.ite (.and (.cmp .In (.var 7) (.call 29 (.cons (.var 0) (.cons (.var 1) (.cons (.call 56 (.cons (.b2 (.op .Add) (.var 3) (.tup (.cons (.var 6) .nil))) .nil)) .nil))))) (.cmp .In (.var 6) (.call 29 (.cons (.var 0) (.cons (.var 1) (.cons (.call 56 (.cons (.b2 (.op .Add) (.var 3) (.tup (.cons (.var 7) .nil))) .nil)) .nil)))))) (.cons (.ex (.app 2 (.tup (.cons (.var 3) (.cons (.var 6) (.cons (.var 7) .nil))))))
  .nil) .nil)
  (.cons (.fgt [7])
  .nil)))
  (.cons (.fgt [6, 7])
  .nil)))
  (.cons (.fgt [3, 4, 6, 7])
  .nil)))))
  (.cons (.ret (.var 2))
  .nil)))
def F__law_bars (cs : List Str) : List D → Ot (D × Bool) := run (pcOf [(29, F__law_closing cs), (56, F__law_lot cs)] cs []) 8 2 r__law_bars
/- 58 -/
def N__law_is_int : List Str := ["thing"]
def r__law_is_int : RSs := (.cons (.ret (.and (.b1 (.isi [.ty "int"]) (.var 0)) (.not (.b1 (.isi [.ty "bool"]) (.var 0)))))
  .nil)
def F__law_is_int (cs : List Str) : List D → Ot (D × Bool) := run (pcOf [] cs []) 1 1 r__law_is_int
/- 59 -/
def N__law_is_lot : List Str := ["size", "thing", "item", "k"]
def r__law_is_lot : RSs := (.cons (.ite (.or (.not (.v (.b1 (.isi [.ty "tuple"]) (.var 1)))) (.not (.v (.b1 .all (.lc (.seq (.var 1)) (.nm 2) [2] .yes (.and (.call 58 (.cons (.var 2) .nil)) (.chain .LtE .Lt (.c (.int 0)) (.var 2) (.var 0)))))))) (.cons (.ret (.c (.bl false)))
  .nil) .nil)
  (.cons (.ret (.b1 .all (.lc (.rg1 (.cons (.b2 (.op .Sub) (.b1 .len (.var 1)) (.c (.int 1))) .nil)) (.nm 3) [3] .yes (.b2 (.cmp .Lt) (.b2 .ix (.var 1) (.var 3)) (.b2 .ix (.var 1) (.b2 (.op .Add) (.var 3) (.c (.int 1))))))))
  .nil))
def F__law_is_lot (cs : List Str) : List D → Ot (D × Bool) := run (pcOf [(58, F__law_is_int cs)] cs []) 4 2 r__law_is_lot
/- 60 -/
def N__law_due : List Str := ["size", "lots", "shed", "value", "lot", "own"]
def r__law_due : RSs := (.cons (.ite (.v (.b1 (.isi [.own "OneBase"]) (.var 3))) (.cons (.ret (.and (.var 2) (.b2 (.cmp .Eq) (.b1 .repr (.b1 (.att "rows") (.var 3))) (.b1 .repr (.b1 .tuple (.lc (.seq (.var 1)) (.nm 4) [4] .yes (.call 47 (.cons (.var 0) (.cons (.var 1) (.cons (.var 4) .nil))))))))))
  .nil) .nil)
  (.cons (.ite (.or (.not (.v (.b1 (.isi [.own "TwoBases"]) (.var 3)))) (.not (.v (.b1 .all (.lc (.seq (.tup (.cons (.b1 (.att "lot") (.var 3)) (.cons (.b1 (.att "one") (.var 3)) (.cons (.b1 (.att "other") (.var 3)) .nil))))) (.nm 4) [4] .yes (.call 59 (.cons (.var 0) (.cons (.var 4) .nil)))))))) (.cons (.ret (.c (.bl false)))
  .nil) .nil)
  (.cons (.ite (.or (.cmp .NotIn (.b1 (.att "lot") (.var 3)) (.var 1)) (.cmp .Eq (.b1 (.att "one") (.var 3)) (.b1 (.att "other") (.var 3)))) (.cons (.ret (.c (.bl false)))
  .nil) .nil)
  (.cons (.asg 5 (.call 30 (.cons (.var 0) (.cons (.var 1) (.cons (.b1 (.att "lot") (.var 3)) .nil)))))
  (.cons (.shr 5)
  (.cons (.ret (.and (.b2 (.cmp .In) (.b1 (.att "one") (.var 3)) (.var 5)) (.b2 (.cmp .In) (.b1 (.att "other") (.var 3)) (.var 5))))
  .nil))))))
def F__law_due (cs : List Str) : List D → Ot (D × Bool) := run (pcOf [(53, F_OneBase cs), (51, F_TwoBases cs), (30, F__law_bases cs), (47, F__law_extreme cs), (59, F__law_is_lot cs)] cs []) 6 4 r__law_due
/- 61 -/
def N__law_says : List Str := ["told", "due"]
def r__law_says : RSs := (.cons (.ret (.and (.b1 (.isi [.ty "bool"]) (.var 0)) (.b2 (.cmp .Eq) (.var 0) (.var 1))))
  .nil)
def F__law_says (cs : List Str) : List D → Ot (D × Bool) := run (pcOf [] cs []) 2 2 r__law_says
/- 62 -/
def N_is_one_base : List Str := ["closure", "value", "lot", "found"]
def r_is_one_base : RSs := (.cons (.ex (.call 31 (.cons (.var 0) .nil)))
  (.cons (.ite (.v (.b1 (.isi [.own "OneBase"]) (.var 1))) (.cons (.ret (.and (.b2 (.cmp .Is) (.call 52 (.cons (.var 0) .nil)) (.c .non)) (.b2 (.cmp .Eq) (.b1 .repr (.b1 (.att "rows") (.var 1))) (.b1 .repr (.call 54 (.cons (.var 0) .nil))))))
  .nil) .nil)
  (.cons (.ite (.not (.v (.b1 (.isi [.own "TwoBases"]) (.var 1)))) (.cons (.ret (.c (.bl false)))
  .nil) .nil)
  (.cons (.ite (.not (.v (.b1 .all (.lc (.seq (.tup (.cons (.b1 (.att "lot") (.var 1)) (.cons (.b1 (.att "one") (.var 1)) (.cons (.b1 (.att "other") (.var 1)) .nil))))) (.nm 2) [2] .yes (.call 13 (.cons (.b1 (.att "size") (.var 0)) (.cons (.var 2) .nil))))))) (.cons (.ret (.c (.bl false)))
  .nil) .nil)
  (.cons (.ite (.or (.cmp .NotIn (.b1 (.att "lot") (.var 1)) (.b1 (.att "lots") (.var 0))) (.cmp .Eq (.b1 (.att "one") (.var 1)) (.b1 (.att "other") (.var 1)))) (.cons (.ret (.c (.bl false)))
  .nil) .nil)
  (.cons (.asg 3 (.call 43 (.cons (.var 0) (.cons (.b1 (.att "lot") (.var 1)) .nil))))
  (.cons (.shr 3)
  (.cons (.ret (.and (.b2 (.cmp .In) (.b1 (.att "one") (.var 1)) (.var 3)) (.b2 (.cmp .In) (.b1 (.att "other") (.var 1)) (.var 3))))
  .nil))))))))
def F_is_one_base (cs : List Str) : List D → Ot (D × Bool) := run (pcOf [(53, F_OneBase cs), (51, F_TwoBases cs), (13, F_is_lot cs), (43, F_least_by cs), (31, F_need_closure cs), (54, F_only_rows cs), (52, F_two_bases cs)] cs []) 4 2 r_is_one_base
end Sh
namespace Sh
open L2 PySem PySem.Spec PyProof.Rows
/- 63 -/
def N__law_empty : List Str := ["pen", "most", "size", "lots"]
def r__law_empty : RSs := (.cons (.asgT (.tp (.cons (.nm 2) (.cons (.nm 3) .nil))) (.call 23 (.cons (.var 0) (.cons (.var 1) .nil))))
  (.cons (.ret (.tup (.cons (.var 2) (.cons (.call 18 (.cons (.var 2) (.cons (.b2 (.op .Add) (.b1 .list (.var 3)) (.lst (.cons (.tup .nil) .nil))) .nil))) .nil))))
  .nil))
def F__law_empty (cs : List Str) : List D → Ot (D × Bool) := run (pcOf [(23, F__law_any cs), (18, F__law_meetings cs)] cs []) 4 2 r__law_empty
/- 64 -/
def N_extreme_by : List Str := ["closure", "lot", "thing"]
def r_extreme_by : RSs := (.cons (.ret (.b1 .tuple (.lc (.seq (.var 1)) (.nm 2) [2] (.cmp .NotIn (.var 2) (.call 38 (.cons (.var 0) (.cons (.call 36 (.cons (.var 1) (.cons (.var 2) .nil))) .nil)))) (.var 2))))
  .nil)
def F_extreme_by (cs : List Str) : List D → Ot (D × Bool) := run (pcOf [(38, F_closing_by cs), (36, F_without cs)] cs []) 3 2 r_extreme_by
/- 65 -/
def N_free_by : List Str := ["closure", "lot"]
def r_free_by : RSs := (.cons (.ret (.b1 .tuple (.lc (.seq (.call 42 (.cons (.b1 (.att "size") (.var 0)) .nil))) (.nm 1) [1] (.cmp .Eq (.call 64 (.cons (.var 0) (.cons (.var 1) .nil))) (.var 1)) (.var 1))))
  .nil)
def F_free_by (cs : List Str) : List D → Ot (D × Bool) := run (pcOf [(42, F_all_lots cs), (64, F_extreme_by cs)] cs []) 2 1 r_free_by
/- 66 -/
def N_free_lots : List Str := ["closure"]
def r_free_lots : RSs := (.cons (.ex (.call 31 (.cons (.var 0) .nil)))
  (.cons (.ret (.call 65 (.cons (.var 0) .nil)))
  .nil))
def F_free_lots (cs : List Str) : List D → Ot (D × Bool) := run (pcOf [(65, F_free_by cs), (31, F_need_closure cs)] cs []) 1 1 r_free_lots
/- 67 -/
def N_settled_by : List Str := ["closure", "lot"]
def r_settled_by : RSs := (.cons (.ret (.b1 .tuple (.lc (.seq (.call 65 (.cons (.var 0) .nil))) (.nm 1) [1] (.cmp .In (.var 1) (.b1 (.att "lots") (.var 0))) (.var 1))))
  .nil)
def F_settled_by (cs : List Str) : List D → Ot (D × Bool) := run (pcOf [(65, F_free_by cs)] cs []) 2 1 r_settled_by
/- 68 -/
def N_settled_lots : List Str := ["closure"]
def r_settled_lots : RSs := (.cons (.ex (.call 31 (.cons (.var 0) .nil)))
  (.cons (.ret (.call 67 (.cons (.var 0) .nil)))
  .nil))
def F_settled_lots (cs : List Str) : List D → Ot (D × Bool) := run (pcOf [(31, F_need_closure cs), (67, F_settled_by cs)] cs []) 1 1 r_settled_lots
/- 69 -/
def N_signed_lots : List Str := ["closure", "lot"]
def r_signed_lots : RSs := (.cons (.ex (.call 31 (.cons (.var 0) .nil)))
  (.cons (.ret (.b1 .sum (.lc (.seq (.call 67 (.cons (.var 0) .nil))) (.nm 1) [1] .yes (.ite (.cmp .Eq (.b2 (.op .Mult) (.b2 (.op .FloorDiv) (.b1 .len (.var 1)) (.c (.int 2))) (.c (.int 2))) (.b1 .len (.var 1))) (.c (.int 1)) (.b1 .neg (.c (.int 1)))))))
  .nil))
def F_signed_lots (cs : List Str) : List D → Ot (D × Bool) := run (pcOf [(31, F_need_closure cs), (67, F_settled_by cs)] cs []) 2 1 r_signed_lots
/- 70 -/
def N_lot_of : List Str := ["things"]
def r_lot_of : RSs := (.cons (.ret (.b1 .tuple (.b1 .sset (.var 0))))
  .nil)
def F_lot_of (cs : List Str) : List D → Ot (D × Bool) := run (pcOf [] cs []) 1 1 r_lot_of
/- 71 -/
def N_bars_by : List Str := ["closure", "out", "lot", "others", "thing", "x", "brought", "y"]
def r_bars_by : RSs := (.cons (.asg 1 (.lst .nil))
  (.cons (.for (.seq (.b1 (.att "lots") (.var 0))) (.nm 2) (.cons (.asg 3 (.lc (.rg1 (.cons (.b1 (.att "size") (.var 0)) .nil)) (.nm 4) [4] (.cmp .NotIn (.var 4) (.var 2)) (.var 4)))
  (.cons (.shr 3)
  (.cons (.for (.seq (.var 3)) (.nm 5) (.cons (.asg 6 (.call 38 (.cons (.var 0) (.cons (.call 70 (.cons (.b2 (.op .Add) (.var 2) (.tup (.cons (.var 5) .nil))) .nil)) .nil))))
  (.cons (.shr 6)
  (.cons (.for (.seq (.lc (.seq (.var 3)) (.nm 4) [4] (.and (.cmp .Gt (.var 4) (.var 5)) (.cmp .In (.var 4) (.var 6))) (.var 4))) (.nm 7) (.cons (.ite (.cmp .In (.var 5) (.call 38 (.cons (.var 0) (.cons (.call 70 (.cons (.b2 (.op .Add) (.var 2) (.tup (.cons (.var 7) .nil))) .nil)) .nil)))) (.cons (.ex (.app 1 (.tup (.cons (.var 2) (.cons (.var 5) (.cons (.var 7) .nil))))))
  .nil) .nil)
  (.cons (.fgt [7])
  .nil)))
  (.cons (.fgt [5, 6, 7])
  .nil)))))
  (.cons (.fgt [2, 3, 5, 6, 7])
  .nil)))))
  (.cons (.ret (.var 1))
  .nil)))
def F_bars_by (cs : List Str) : List D → Ot (D × Bool) := run (pcOf [(38, F_closing_by cs), (70, F_lot_of cs)] cs []) 8 1 r_bars_by
/- 72 -/
def N_Bar : List Str := ["self", "lot", "x", "y"]
def r_Bar : RSs := .nil
def fl_Bar : List (Str × RX) := [("lot", (.call 50 (.cons (.var 1) .nil))), ("x", (.call 50 (.cons (.var 2) .nil))), ("y", (.call 50 (.cons (.var 3) .nil)))]
def F_Bar (cs : List Str) : List D → Ot (D × Bool) := runI (pcOf [(50, F_copied cs)] cs []) "Bar" 4 4 r_Bar fl_Bar
/- 73 -/
def N_shed_or_bar : List Str := ["closure", "found"]
def r_shed_or_bar : RSs := (.cons (.ex (.call 31 (.cons (.var 0) .nil)))
  (.cons (.asg 1 (.call 71 (.cons (.var 0) .nil)))
  (.cons (.shr 1)
  (.cons (.ret (.ite (.cmp .Eq (.b1 .len (.var 1)) (.c (.int 0))) (.call 5000 .nil) (.call 72 (.cons (.b2 .ix (.b2 .ix (.var 1) (.c (.int 0))) (.c (.int 0))) (.cons (.b2 .ix (.b2 .ix (.var 1) (.c (.int 0))) (.c (.int 1))) (.cons (.b2 .ix (.b2 .ix (.var 1) (.c (.int 0))) (.c (.int 2))) .nil))))))
  .nil))))
def F_shed_or_bar (cs : List Str) : List D → Ot (D × Bool) := run (pcOf [(72, F_Bar cs), (5000, inst0F "Shed"), (71, F_bars_by cs), (31, F_need_closure cs)] cs []) 2 1 r_shed_or_bar
end Sh
namespace K14
open L2 PySem PySem.Spec PyProof.Rows Sh
def top (i : Nat) : Stmt := PySem.Challenge.pw_shedrows_k14_settled_lots.main.body.getD i (.Pass ⟨0, 0, 0, 0⟩)
def xs : List XIn := [⟨"BadNumber", "BadNumber.__init__", top 2, ["self", "what", "number"], [("what", 1), ("number", 2)], 0⟩,
  ⟨"BadClosure", "BadClosure.__init__", top 3, ["self", "what", "value"], [("what", 1), ("value", 2)], 1⟩,
  ⟨"BadLot", "BadLot.__init__", top 4, ["self", "lot"], [("lot", 1)], 2⟩,
  ⟨"BadRow", "BadRow.__init__", top 5, ["self", "row"], [("row", 1)], 3⟩,
  ⟨"BadTable", "BadTable.__init__", top 6, ["self", "table"], [("table", 1)], 4⟩,
  ⟨"Unlike", "Unlike.__init__", top 7, ["self", "what"], [("what", 1)], 5⟩,
  ⟨"TooMany", "TooMany.__init__", top 8, ["self", "what", "many", "limit"], [("what", 1), ("many", 2), ("limit", 3)], 6⟩]
def rn : List (Nat × Str) := [(0, "BadNumber"), (1, "BadClosure"), (2, "BadLot"), (3, "BadRow"), (4, "BadTable"), (5, "Unlike"), (6, "TooMany"), (1000006, "MOST_SIZE")]
def N_law : List Str := ["script", "pen", "lap", "size", "lots", "closure", "free", "own", "lot", "shed", "signs", "odd", "tries"]
def r_law : RSs := (.cons (.for (.rg1 (.cons (.c (.int 5)) .nil)) (.nm 2) (.cons (.asgT (.tp (.cons (.nm 3) (.cons (.nm 4) .nil))) (.ite (.cmp .Eq (.call 1 (.cons (.var 1) (.cons (.c (.int 2)) .nil))) (.c (.int 0))) (.call 63 (.cons (.var 1) (.cons (.c (.int 5)) .nil))) (.call 23 (.cons (.var 1) (.cons (.c (.int 6)) .nil)))))
  (.cons (.par [5, 6] (.cons (.call 16 (.cons (.var 3) (.cons (.var 4) .nil))) (.cons (.call 48 (.cons (.var 3) (.cons (.var 4) .nil))) .nil)))
  (.cons (.shr 5)
  (.cons (.shr 6)
  (.cons (.asg 7 (.b1 .tuple (.lc (.seq (.var 6)) (.nm 8) [8] (.cmp .In (.var 8) (.var 4)) (.var 8))))
  (.cons (.asg 9 (.b2 (.cmp .Eq) (.call 57 (.cons (.var 3) (.cons (.var 4) .nil))) (.lst .nil)))
  (.cons (.asg 10 (.b1 .sum (.lc (.seq (.var 7)) (.nm 8) [8] .yes (.ite (.cmp .Eq (.b2 (.op .Mod) (.b1 .int (.b1 .len (.var 8))) (.c (.int 2))) (.c (.int 0))) (.c (.int 1)) (.b1 .neg (.c (.int 1)))))))
  (.cons (.ite (.or (.cmp .NotEq (.b1 .repr (.call 68 (.cons (.var 5) .nil))) (.b1 .repr (.var 7))) (.or (.cmp .NotEq (.b1 .repr (.call 69 (.cons (.var 5) .nil))) (.b1 .repr (.var 10))) (.cmp .NotEq (.b1 (.isi [.own "Shed"]) (.call 73 (.cons (.var 5) .nil))) (.var 9)))) (.cons (.ret (.c (.bl false)))
  .nil) .nil)
  (.cons (.ite (.and (.v (.var 9)) (.and (.cmp .In (.tup .nil) (.var 4)) (.cmp .NotEq (.var 10) (.c (.int 0))))) (.cons (.ret (.c (.bl false)))
  .nil) .nil)
  (.cons (.ite (.or (.cmp .NotEq (.call 66 (.cons (.var 5) .nil)) (.b1 .tuple (.var 6))) (.or (.cmp .NotEq (.call 44 (.cons (.var 5) .nil)) (.b1 .len (.var 6))) (.or (.cmp .Lt (.b1 .len (.var 6)) (.b1 .len (.var 4))) (.cmp .NotEq (.b2 (.cmp .Eq) (.b1 .len (.var 6)) (.b1 .len (.var 4))) (.var 9))))) (.cons (.ret (.c (.bl false)))
  .nil) .nil)
  (.cons (.ite (.and (.v (.var 9)) (.cmp .NotEq (.b1 .sorted (.lc (.seq (.var 6)) (.nm 8) [8] .yes (.call 29 (.cons (.var 3) (.cons (.var 4) (.cons (.var 8) .nil)))))) (.b1 .sorted (.var 4)))) (.cons (.ret (.c (.bl false)))
  .nil) .nil)
  (.cons (.fgt [2, 3, 4, 5, 6, 7, 9, 10])
  .nil)))))))))))))
  (.cons (.asg 11 (.call 25 (.cons (.var 1) .nil)))
  (.cons (.shr 11)
  (.cons (.asg 12 (.lst (.cons (.tup (.cons (.c (.lam 0)) (.cons (.tup (.cons (.c (.str "unlike")) (.cons (.c (.str "closure")) .nil))) .nil))) .nil)))
  (.cons (.ex (.app 12 (.tup (.cons (.c (.lam 1)) (.cons (.tup (.cons (.c (.str "unlike")) (.cons (.c (.str "closure")) .nil))) .nil)))))
  (.cons (.shr 12)
  (.cons (.ret (.callS 4 (.cons (.var 12) .nil)))
  .nil)))))))
def bt : List Str := ["all", "any", "bool", "int", "isinstance", "len", "list", "range", "repr", "set", "sorted", "sum", "tuple"]
def gl : List Str := ["Closure", "Shed"]
def cs : List Str := ["Closure", "Shed", "Bar"]
def defs : List DefE := [⟨"_law_pick", 24, top 43, N__law_pick, 2, r__law_pick, 0, none⟩,
  ⟨"_law_odd_closure", 25, top 61, N__law_odd_closure, 1, r__law_odd_closure, 0, none⟩,
  ⟨"in_tuples", 11, top 11, N_in_tuples, 1, r_in_tuples, 9, none⟩,
  ⟨"is_whole", 12, top 10, N_is_whole, 1, r_is_whole, 0, none⟩,
  ⟨"is_lot", 13, top 16, N_is_lot, 2, r_is_lot, 0, none⟩,
  ⟨"common_of", 14, top 17, N_common_of, 2, r_common_of, 0, none⟩,
  ⟨"is_family", 15, top 18, N_is_family, 2, r_is_family, 0, none⟩,
  ⟨"Closure", 16, top 15, N_Closure, 3, r_Closure, 0, some ("Closure.__init__", 3, fl_Closure)⟩,
  ⟨"_law_both", 17, top 48, N__law_both, 2, r__law_both, 0, none⟩,
  ⟨"_law_meetings", 18, top 50, N__law_meetings, 2, r__law_meetings, 0, none⟩,
  ⟨"_law_ends", 19, top 54, N__law_ends, 1, r__law_ends, 0, none⟩,
  ⟨"_law_shuffled", 20, top 44, N__law_shuffled, 2, r__law_shuffled, 0, none⟩,
  ⟨"_law_shed", 21, top 56, N__law_shed, 2, r__law_shed, 0, none⟩,
  ⟨"_law_drawn", 22, top 55, N__law_drawn, 2, r__law_drawn, 0, none⟩,
  ⟨"_law_any", 23, top 57, N__law_any, 2, r__law_any, 0, none⟩,
  ⟨"_law_empty", 63, top 60, N__law_empty, 2, r__law_empty, 0, none⟩,
  ⟨"_law_lots", 27, top 45, N__law_lots, 1, r__law_lots, 0, none⟩,
  ⟨"_law_in", 28, top 47, N__law_in, 2, r__law_in, 0, none⟩,
  ⟨"_law_closing", 29, top 51, N__law_closing, 3, r__law_closing, 0, none⟩,
  ⟨"_law_without", 46, top 49, N__law_without, 2, r__law_without, 0, none⟩,
  ⟨"_law_extreme", 47, top 52, N__law_extreme, 3, r__law_extreme, 0, none⟩,
  ⟨"_law_free", 48, top 62, N__law_free, 2, r__law_free, 0, none⟩,
  ⟨"_law_lot", 56, top 46, N__law_lot, 1, r__law_lot, 0, none⟩,
  ⟨"_law_bars", 57, top 53, N__law_bars, 2, r__law_bars, 0, none⟩,
  ⟨"need_closure", 31, top 20, N_need_closure, 1, r_need_closure, 0, none⟩,
  ⟨"all_lots", 42, top 24, N_all_lots, 1, r_all_lots, 0, none⟩,
  ⟨"is_within", 37, top 23, N_is_within, 2, r_is_within, 0, none⟩,
  ⟨"closing_by", 38, top 25, N_closing_by, 2, r_closing_by, 0, none⟩,
  ⟨"without", 36, top 22, N_without, 2, r_without, 0, none⟩,
  ⟨"extreme_by", 64, top 26, N_extreme_by, 2, r_extreme_by, 0, none⟩,
  ⟨"free_by", 65, top 27, N_free_by, 1, r_free_by, 0, none⟩,
  ⟨"free_lots", 66, top 28, N_free_lots, 1, r_free_lots, 0, none⟩,
  ⟨"least_by", 43, top 30, N_least_by, 2, r_least_by, 0, none⟩,
  ⟨"many_bases", 44, top 31, N_many_bases, 1, r_many_bases, 0, none⟩,
  ⟨"settled_by", 67, top 32, N_settled_by, 1, r_settled_by, 0, none⟩,
  ⟨"settled_lots", 68, top 33, N_settled_lots, 1, r_settled_lots, 0, none⟩,
  ⟨"signed_lots", 69, top 34, N_signed_lots, 1, r_signed_lots, 0, none⟩,
  ⟨"lot_of", 70, top 21, N_lot_of, 1, r_lot_of, 0, none⟩,
  ⟨"bars_by", 71, top 38, N_bars_by, 1, r_bars_by, 0, none⟩,
  ⟨"copied", 50, top 12, N_copied, 1, r_copied, 0, none⟩,
  ⟨"Bar", 72, top 37, N_Bar, 4, r_Bar, 0, some ("Bar.__init__", 0, fl_Bar)⟩,
  ⟨"shed_or_bar", 73, top 39, N_shed_or_bar, 1, r_shed_or_bar, 0, none⟩]
def nm0 : List (Nat × Str) := [(1, "_law_draw"), (5000, "Shed")]
def ld : Nat → LamD := fun n => match n with
  | 0 => ⟨["odd"], 0, (.call 68 (.cons (.var 0) .nil))⟩
  | _ => ⟨["odd"], 0, (.call 69 (.cons (.var 0) .nil))⟩
def lf : Nat → List Nat := fun n => match n with
  | 0 => [11]
  | _ => [11]
theorem ck_defs : ckAll rn bt gl cs defs nm0 = true := by decide +kernel
def L : LawT := ⟨N_law, defScope (top 63), nmAll defs nm0, rn, bt, gl, cs, [(4, "_law_are_due")], ld, lf⟩
theorem ck_law : okSs L.ck r_law ((defBody (top 63)).drop 1) = true := by decide +kernel
def Fs : List (Nat × (List D → Ot (D × Bool))) := [(1, drF), (5000, inst0F "Shed"),
  (24, F__law_pick cs),
  (25, F__law_odd_closure cs),
  (11, F_in_tuples cs),
  (12, F_is_whole cs),
  (13, F_is_lot cs),
  (14, F_common_of cs),
  (15, F_is_family cs),
  (16, F_Closure cs),
  (17, F__law_both cs),
  (18, F__law_meetings cs),
  (19, F__law_ends cs),
  (20, F__law_shuffled cs),
  (21, F__law_shed cs),
  (22, F__law_drawn cs),
  (23, F__law_any cs),
  (63, F__law_empty cs),
  (27, F__law_lots cs),
  (28, F__law_in cs),
  (29, F__law_closing cs),
  (46, F__law_without cs),
  (47, F__law_extreme cs),
  (48, F__law_free cs),
  (56, F__law_lot cs),
  (57, F__law_bars cs),
  (31, F_need_closure cs),
  (42, F_all_lots cs),
  (37, F_is_within cs),
  (38, F_closing_by cs),
  (36, F_without cs),
  (64, F_extreme_by cs),
  (65, F_free_by cs),
  (66, F_free_lots cs),
  (43, F_least_by cs),
  (44, F_many_bases cs),
  (67, F_settled_by cs),
  (68, F_settled_lots cs),
  (69, F_signed_lots cs),
  (70, F_lot_of cs),
  (71, F_bars_by cs),
  (50, F_copied cs),
  (72, F_Bar cs),
  (73, F_shed_or_bar cs)]
def Φ0 : Fns := fun j => if j = 1 then drawS else if j = 2 then gcdS else if j = 5000 then S0 "Shed" else ΦOf Fs j
def Ψ : Nat → Nat → DSp := fun j n => if j = 11 then SOf (F_in_tuples_f cs n) else fun _ _ _ _ => False
def r__law_are_due : RSs := (.cons (.ret (.b1 .all (.lc (.seq (.var 0)) (.tp (.cons (.nm 1) (.cons (.nm 2) .nil))) [1, 2] .yes (.b2 (.cmp .Eq) (.b1 .repr (.call 3 (.cons (.var 1) .nil))) (.b1 .repr (.var 2))))))
  .nil)
def N__law_are_due : List Str := ["tries", "work", "due"]
def tab : List Clw := [("BadClosure", "closure", ["what", "value"]), ("BadLot", "lot", ["lot"]), ("BadNumber", "number", ["what", "number"]), ("BadRow", "row", ["row"]), ("BadTable", "table", ["table"]), ("TooMany", "many", ["what", "many", "limit"]), ("Unlike", "unlike", ["what"])]
def due : List DefE := [⟨"_law_are_due", 4, top 59, N__law_are_due, 1, r__law_are_due, 0, none⟩]
def I : LawIn := ⟨xs, "ShedError", L, [], (1, top 42), top 41, top 63, defs, tab, [(3, top 58)], due, Φ0, Ψ, r_law, [(5000, "Shed")]⟩
theorem ck_I : I.ck = true := by decide +kernel
theorem ck_due : I.ckDue = true := by decide +kernel
theorem ck_nm : I.ckNm = true := by decide +kernel
theorem due_ok (v : Ev) (tab : List Clw) (e : DefE) (j : Nat) (h1 : I.due = [e]) (h2 : I.fl.map (·.1) = [j]) (h3 : v.Φ j = faultS v tab) : Does v e.N e.m e.rs (dueS v tab) := by
  have h1 : due = [e] := h1
  have h2 : [3] = [j] := h2
  cases h1
  cases h2
  exact does_due rfl h3
theorem dd__law_pick : Does I.v0 N__law_pick 2 r__law_pick (SOf (F__law_pick cs)) := run_does (fits_pc (l := [(1, drF)]) (cs := cs) (z := []) rfl ⟨pickD rfl, trivial⟩ trivial)
theorem dd__law_odd_closure : Does I.v0 N__law_odd_closure 1 r__law_odd_closure (SOf (F__law_odd_closure cs)) := run_does (fits_pc (l := [(24, F__law_pick cs)]) (cs := cs) (z := []) rfl ⟨pick rfl, trivial⟩ trivial)
theorem dd_in_tuples (n : Nat) : Does (I.v0.at_ 11 (Ψ 11 n)) N_in_tuples 1 r_in_tuples (SOf (F_in_tuples_f cs (n + 1))) := run_does (fits_pc (l := (11, F_in_tuples_f cs n) :: []) (cs := cs) (z := []) rfl ⟨pick rfl, trivial⟩ trivial)
theorem dd_is_whole : Does I.v0 N_is_whole 1 r_is_whole (SOf (F_is_whole cs)) := run_does (fits_pc (l := []) (cs := cs) (z := []) rfl trivial trivial)
theorem dd_is_lot : Does I.v0 N_is_lot 2 r_is_lot (SOf (F_is_lot cs)) := run_does (fits_pc (l := [(12, F_is_whole cs)]) (cs := cs) (z := []) rfl ⟨pick rfl, trivial⟩ trivial)
theorem dd_common_of : Does I.v0 N_common_of 2 r_common_of (SOf (F_common_of cs)) := run_does (fits_pc (l := []) (cs := cs) (z := []) rfl trivial trivial)
theorem dd_is_family : Does I.v0 N_is_family 2 r_is_family (SOf (F_is_family cs)) := run_does (fits_pc (l := [(14, F_common_of cs), (13, F_is_lot cs)]) (cs := cs) (z := []) rfl ⟨pick rfl, pick rfl, trivial⟩ trivial)
theorem dd_Closure : DoesI I.v0 "Closure" N_Closure 3 r_Closure fl_Closure (SOf (F_Closure cs)) := runI_does (fits_pc (l := [(11, F_in_tuples cs), (15, F_is_family cs), (12, F_is_whole cs)]) (cs := cs) (z := [(1, "BadClosure", 2, [("what", 1), ("value", 2)])]) rfl ⟨pick rfl, pick rfl, pick rfl, trivial⟩ ⟨rfl, trivial⟩)
theorem dd__law_both : Does I.v0 N__law_both 2 r__law_both (SOf (F__law_both cs)) := run_does (fits_pc (l := []) (cs := cs) (z := []) rfl trivial trivial)
theorem dd__law_meetings : Does I.v0 N__law_meetings 2 r__law_meetings (SOf (F__law_meetings cs)) := run_does (fits_pc (l := [(17, F__law_both cs)]) (cs := cs) (z := []) rfl ⟨pick rfl, trivial⟩ trivial)
theorem dd__law_ends : Does I.v0 N__law_ends 1 r__law_ends (SOf (F__law_ends cs)) := run_does (fits_pc (l := []) (cs := cs) (z := []) rfl trivial trivial)
theorem dd__law_shuffled : Does I.v0 N__law_shuffled 2 r__law_shuffled (SOf (F__law_shuffled cs)) := run_does (fits_pc (l := [(1, drF)]) (cs := cs) (z := []) rfl ⟨pickD rfl, trivial⟩ trivial)
theorem dd__law_shed : Does I.v0 N__law_shed 2 r__law_shed (SOf (F__law_shed cs)) := run_does (fits_pc (l := [(1, drF), (19, F__law_ends cs), (18, F__law_meetings cs), (20, F__law_shuffled cs)]) (cs := cs) (z := []) rfl ⟨pickD rfl, pick rfl, pick rfl, pick rfl, trivial⟩ trivial)
theorem dd__law_drawn : Does I.v0 N__law_drawn 2 r__law_drawn (SOf (F__law_drawn cs)) := run_does (fits_pc (l := [(1, drF), (18, F__law_meetings cs)]) (cs := cs) (z := []) rfl ⟨pickD rfl, pick rfl, trivial⟩ trivial)
theorem dd__law_any : Does I.v0 N__law_any 2 r__law_any (SOf (F__law_any cs)) := run_does (fits_pc (l := [(1, drF), (22, F__law_drawn cs), (21, F__law_shed cs)]) (cs := cs) (z := []) rfl ⟨pickD rfl, pick rfl, pick rfl, trivial⟩ trivial)
theorem dd__law_empty : Does I.v0 N__law_empty 2 r__law_empty (SOf (F__law_empty cs)) := run_does (fits_pc (l := [(23, F__law_any cs), (18, F__law_meetings cs)]) (cs := cs) (z := []) rfl ⟨pick rfl, pick rfl, trivial⟩ trivial)
theorem dd__law_lots : Does I.v0 N__law_lots 1 r__law_lots (SOf (F__law_lots cs)) := run_does (fits_pc (l := []) (cs := cs) (z := []) rfl trivial trivial)
theorem dd__law_in : Does I.v0 N__law_in 2 r__law_in (SOf (F__law_in cs)) := run_does (fits_pc (l := []) (cs := cs) (z := []) rfl trivial trivial)
theorem dd__law_closing : Does I.v0 N__law_closing 3 r__law_closing (SOf (F__law_closing cs)) := run_does (fits_pc (l := [(28, F__law_in cs)]) (cs := cs) (z := []) rfl ⟨pick rfl, trivial⟩ trivial)
theorem dd__law_without : Does I.v0 N__law_without 2 r__law_without (SOf (F__law_without cs)) := run_does (fits_pc (l := []) (cs := cs) (z := []) rfl trivial trivial)
theorem dd__law_extreme : Does I.v0 N__law_extreme 3 r__law_extreme (SOf (F__law_extreme cs)) := run_does (fits_pc (l := [(29, F__law_closing cs), (46, F__law_without cs)]) (cs := cs) (z := []) rfl ⟨pick rfl, pick rfl, trivial⟩ trivial)
theorem dd__law_free : Does I.v0 N__law_free 2 r__law_free (SOf (F__law_free cs)) := run_does (fits_pc (l := [(47, F__law_extreme cs), (27, F__law_lots cs)]) (cs := cs) (z := []) rfl ⟨pick rfl, pick rfl, trivial⟩ trivial)
theorem dd__law_lot : Does I.v0 N__law_lot 1 r__law_lot (SOf (F__law_lot cs)) := run_does (fits_pc (l := []) (cs := cs) (z := []) rfl trivial trivial)
theorem dd__law_bars : Does I.v0 N__law_bars 2 r__law_bars (SOf (F__law_bars cs)) := run_does (fits_pc (l := [(29, F__law_closing cs), (56, F__law_lot cs)]) (cs := cs) (z := []) rfl ⟨pick rfl, pick rfl, trivial⟩ trivial)
theorem dd_need_closure : Does I.v0 N_need_closure 1 r_need_closure (SOf (F_need_closure cs)) := run_does (fits_pc (l := [(16, F_Closure cs)]) (cs := cs) (z := [(5, "Unlike", 1, [("what", 1)])]) rfl ⟨pick rfl, trivial⟩ ⟨rfl, trivial⟩)
theorem dd_all_lots : Does I.v0 N_all_lots 1 r_all_lots (SOf (F_all_lots cs)) := run_does (fits_pc (l := []) (cs := cs) (z := []) rfl trivial trivial)
theorem dd_is_within : Does I.v0 N_is_within 2 r_is_within (SOf (F_is_within cs)) := run_does (fits_pc (l := []) (cs := cs) (z := []) rfl trivial trivial)
theorem dd_closing_by : Does I.v0 N_closing_by 2 r_closing_by (SOf (F_closing_by cs)) := run_does (fits_pc (l := [(37, F_is_within cs)]) (cs := cs) (z := []) rfl ⟨pick rfl, trivial⟩ trivial)
theorem dd_without : Does I.v0 N_without 2 r_without (SOf (F_without cs)) := run_does (fits_pc (l := []) (cs := cs) (z := []) rfl trivial trivial)
theorem dd_extreme_by : Does I.v0 N_extreme_by 2 r_extreme_by (SOf (F_extreme_by cs)) := run_does (fits_pc (l := [(38, F_closing_by cs), (36, F_without cs)]) (cs := cs) (z := []) rfl ⟨pick rfl, pick rfl, trivial⟩ trivial)
theorem dd_free_by : Does I.v0 N_free_by 1 r_free_by (SOf (F_free_by cs)) := run_does (fits_pc (l := [(42, F_all_lots cs), (64, F_extreme_by cs)]) (cs := cs) (z := []) rfl ⟨pick rfl, pick rfl, trivial⟩ trivial)
theorem dd_free_lots : Does I.v0 N_free_lots 1 r_free_lots (SOf (F_free_lots cs)) := run_does (fits_pc (l := [(65, F_free_by cs), (31, F_need_closure cs)]) (cs := cs) (z := []) rfl ⟨pick rfl, pick rfl, trivial⟩ trivial)
theorem dd_least_by : Does I.v0 N_least_by 2 r_least_by (SOf (F_least_by cs)) := run_does (fits_pc (l := [(42, F_all_lots cs), (38, F_closing_by cs), (37, F_is_within cs)]) (cs := cs) (z := []) rfl ⟨pick rfl, pick rfl, pick rfl, trivial⟩ trivial)
theorem dd_many_bases : Does I.v0 N_many_bases 1 r_many_bases (SOf (F_many_bases cs)) := run_does (fits_pc (l := [(43, F_least_by cs), (31, F_need_closure cs)]) (cs := cs) (z := []) rfl ⟨pick rfl, pick rfl, trivial⟩ trivial)
theorem dd_settled_by : Does I.v0 N_settled_by 1 r_settled_by (SOf (F_settled_by cs)) := run_does (fits_pc (l := [(65, F_free_by cs)]) (cs := cs) (z := []) rfl ⟨pick rfl, trivial⟩ trivial)
theorem dd_settled_lots : Does I.v0 N_settled_lots 1 r_settled_lots (SOf (F_settled_lots cs)) := run_does (fits_pc (l := [(31, F_need_closure cs), (67, F_settled_by cs)]) (cs := cs) (z := []) rfl ⟨pick rfl, pick rfl, trivial⟩ trivial)
theorem dd_signed_lots : Does I.v0 N_signed_lots 1 r_signed_lots (SOf (F_signed_lots cs)) := run_does (fits_pc (l := [(31, F_need_closure cs), (67, F_settled_by cs)]) (cs := cs) (z := []) rfl ⟨pick rfl, pick rfl, trivial⟩ trivial)
theorem dd_lot_of : Does I.v0 N_lot_of 1 r_lot_of (SOf (F_lot_of cs)) := run_does (fits_pc (l := []) (cs := cs) (z := []) rfl trivial trivial)
theorem dd_bars_by : Does I.v0 N_bars_by 1 r_bars_by (SOf (F_bars_by cs)) := run_does (fits_pc (l := [(38, F_closing_by cs), (70, F_lot_of cs)]) (cs := cs) (z := []) rfl ⟨pick rfl, pick rfl, trivial⟩ trivial)
theorem dd_copied : Does I.v0 N_copied 1 r_copied (SOf (F_copied cs)) := run_does (fits_pc (l := []) (cs := cs) (z := []) rfl trivial trivial)
theorem dd_Bar : DoesI I.v0 "Bar" N_Bar 4 r_Bar fl_Bar (SOf (F_Bar cs)) := runI_does (fits_pc (l := [(50, F_copied cs)]) (cs := cs) (z := []) rfl ⟨pick rfl, trivial⟩ trivial)
theorem dd_shed_or_bar : Does I.v0 N_shed_or_bar 1 r_shed_or_bar (SOf (F_shed_or_bar cs)) := run_does (fits_pc (l := [(72, F_Bar cs), (5000, inst0F "Shed"), (71, F_bars_by cs), (31, F_need_closure cs)]) (cs := cs) (z := []) rfl ⟨pick rfl, pickC rfl, pick rfl, pick rfl, trivial⟩ trivial)
theorem does_all0 : DoesAll I.v0 I.Ψ I.defs := ⟨dd__law_pick, dd__law_odd_closure, ⟨fun n _ => dd_in_tuples n, fun _ _ _ _ h => h, rfl⟩, dd_is_whole, dd_is_lot, dd_common_of, dd_is_family, dd_Closure, dd__law_both, dd__law_meetings, dd__law_ends, dd__law_shuffled, dd__law_shed, dd__law_drawn, dd__law_any, dd__law_empty, dd__law_lots, dd__law_in, dd__law_closing, dd__law_without, dd__law_extreme, dd__law_free, dd__law_lot, dd__law_bars, dd_need_closure, dd_all_lots, dd_is_within, dd_closing_by, dd_without, dd_extreme_by, dd_free_by, dd_free_lots, dd_least_by, dd_many_bases, dd_settled_by, dd_settled_lots, dd_signed_lots, dd_lot_of, dd_bars_by, dd_copied, dd_Bar, dd_shed_or_bar, trivial⟩
def zs : Zl := [(0, "BadNumber", 2, [("what", 1), ("number", 2)]), (1, "BadClosure", 2, [("what", 1), ("value", 2)]), (2, "BadLot", 1, [("lot", 1)]), (3, "BadRow", 1, [("row", 1)]), (4, "BadTable", 1, [("table", 1)]), (5, "Unlike", 1, [("what", 1)]), (6, "TooMany", 3, [("what", 1), ("many", 2), ("limit", 3)])]
theorem calls0 : CallsOk I.v0 Fs := ⟨pickD rfl, pickC rfl, pick rfl, pick rfl, pick rfl, pick rfl, pick rfl, pick rfl, pick rfl, pick rfl, pick rfl, pick rfl, pick rfl, pick rfl, pick rfl, pick rfl, pick rfl, pick rfl, pick rfl, pick rfl, pick rfl, pick rfl, pick rfl, pick rfl, pick rfl, pick rfl, pick rfl, pick rfl, pick rfl, pick rfl, pick rfl, pick rfl, pick rfl, pick rfl, pick rfl, pick rfl, pick rfl, pick rfl, pick rfl, pick rfl, pick rfl, pick rfl, pick rfl, pick rfl, trivial⟩
theorem calls1 : CallsOk I.v Fs := ⟨pickD rfl, pickC rfl, pick rfl, pick rfl, pick rfl, pick rfl, pick rfl, pick rfl, pick rfl, pick rfl, pick rfl, pick rfl, pick rfl, pick rfl, pick rfl, pick rfl, pick rfl, pick rfl, pick rfl, pick rfl, pick rfl, pick rfl, pick rfl, pick rfl, pick rfl, pick rfl, pick rfl, pick rfl, pick rfl, pick rfl, pick rfl, pick rfl, pick rfl, pick rfl, pick rfl, pick rfl, pick rfl, pick rfl, pick rfl, pick rfl, pick rfl, pick rfl, pick rfl, pick rfl, trivial⟩
theorem fits0 : Fits I.v0 (pcOf Fs cs zs) := fits_pc rfl calls0 ⟨rfl, rfl, rfl, rfl, rfl, rfl, rfl, trivial⟩
noncomputable def cL : Pc := { pcOf Fs cs zs with FS := fun k => if k = 4 then dueF (pcOf Fs cs zs) ld tab else fun _ => .no, lf := lf }
theorem fitsL : Fits I.v cL where
  F := calls1.F
  cs := fun x hx => hx
  rz := fits0.rz
  FS := fun k ds b KQ KE h => by
    by_cases e : k = 4
    · subst e
      show dueS I.vc tab ds b KQ KE
      exact dueF_ok (v := I.vc) fits0 (fun n caps => rfl) (by
        have e : cL.FS 4 = dueF (pcOf Fs cs zs) ld tab := by show (if 4 = 4 then dueF (pcOf Fs cs zs) ld tab else fun _ => .no) = _; rw [if_pos rfl]
        rw [e] at h
        exact h)
    · have e2 : cL.FS k = fun _ => .no := by show (if k = 4 then dueF (pcOf Fs cs zs) ld tab else fun _ => .no) = _; rw [if_neg e]
      rw [e2] at h
      exact h.elim
  lf := .inl fun _ => rfl
theorem cL_F : cL.F = FOf Fs := id rfl
theorem cL_cs : cL.cs = cs := id rfl
theorem cL_rz : cL.rz = fun k => zs.lookup k := id rfl
theorem cL_FS {ds : List D} : cL.FS 4 ds = dueF (pcOf Fs cs zs) ld tab ds := by
  have e : cL.FS 4 = dueF (pcOf Fs cs zs) ld tab := by show (if 4 = 4 then dueF (pcOf Fs cs zs) ld tab else fun _ => .no) = _; rw [if_pos rfl]
  rw [e]
theorem cL_lf : cL.lf = lf := id rfl
theorem fF_1 {ds : List D} : FOf Fs 1 ds = drF ds := id rfl
theorem fF_5000 {ds : List D} : FOf Fs 5000 ds = inst0F "Shed" ds := id rfl
theorem fF_24 {ds : List D} : FOf Fs 24 ds = F__law_pick cs ds := id rfl
theorem fF_25 {ds : List D} : FOf Fs 25 ds = F__law_odd_closure cs ds := id rfl
theorem fF_11 {ds : List D} : FOf Fs 11 ds = F_in_tuples cs ds := id rfl
theorem fF_12 {ds : List D} : FOf Fs 12 ds = F_is_whole cs ds := id rfl
theorem fF_13 {ds : List D} : FOf Fs 13 ds = F_is_lot cs ds := id rfl
theorem fF_14 {ds : List D} : FOf Fs 14 ds = F_common_of cs ds := id rfl
theorem fF_15 {ds : List D} : FOf Fs 15 ds = F_is_family cs ds := id rfl
theorem fF_16 {ds : List D} : FOf Fs 16 ds = F_Closure cs ds := id rfl
theorem fF_17 {ds : List D} : FOf Fs 17 ds = F__law_both cs ds := id rfl
theorem fF_18 {ds : List D} : FOf Fs 18 ds = F__law_meetings cs ds := id rfl
theorem fF_19 {ds : List D} : FOf Fs 19 ds = F__law_ends cs ds := id rfl
theorem fF_20 {ds : List D} : FOf Fs 20 ds = F__law_shuffled cs ds := id rfl
theorem fF_21 {ds : List D} : FOf Fs 21 ds = F__law_shed cs ds := id rfl
theorem fF_22 {ds : List D} : FOf Fs 22 ds = F__law_drawn cs ds := id rfl
theorem fF_23 {ds : List D} : FOf Fs 23 ds = F__law_any cs ds := id rfl
theorem fF_63 {ds : List D} : FOf Fs 63 ds = F__law_empty cs ds := id rfl
theorem fF_27 {ds : List D} : FOf Fs 27 ds = F__law_lots cs ds := id rfl
theorem fF_28 {ds : List D} : FOf Fs 28 ds = F__law_in cs ds := id rfl
theorem fF_29 {ds : List D} : FOf Fs 29 ds = F__law_closing cs ds := id rfl
theorem fF_46 {ds : List D} : FOf Fs 46 ds = F__law_without cs ds := id rfl
theorem fF_47 {ds : List D} : FOf Fs 47 ds = F__law_extreme cs ds := id rfl
theorem fF_48 {ds : List D} : FOf Fs 48 ds = F__law_free cs ds := id rfl
theorem fF_56 {ds : List D} : FOf Fs 56 ds = F__law_lot cs ds := id rfl
theorem fF_57 {ds : List D} : FOf Fs 57 ds = F__law_bars cs ds := id rfl
theorem fF_31 {ds : List D} : FOf Fs 31 ds = F_need_closure cs ds := id rfl
theorem fF_42 {ds : List D} : FOf Fs 42 ds = F_all_lots cs ds := id rfl
theorem fF_37 {ds : List D} : FOf Fs 37 ds = F_is_within cs ds := id rfl
theorem fF_38 {ds : List D} : FOf Fs 38 ds = F_closing_by cs ds := id rfl
theorem fF_36 {ds : List D} : FOf Fs 36 ds = F_without cs ds := id rfl
theorem fF_64 {ds : List D} : FOf Fs 64 ds = F_extreme_by cs ds := id rfl
theorem fF_65 {ds : List D} : FOf Fs 65 ds = F_free_by cs ds := id rfl
theorem fF_66 {ds : List D} : FOf Fs 66 ds = F_free_lots cs ds := id rfl
theorem fF_43 {ds : List D} : FOf Fs 43 ds = F_least_by cs ds := id rfl
theorem fF_44 {ds : List D} : FOf Fs 44 ds = F_many_bases cs ds := id rfl
theorem fF_67 {ds : List D} : FOf Fs 67 ds = F_settled_by cs ds := id rfl
theorem fF_68 {ds : List D} : FOf Fs 68 ds = F_settled_lots cs ds := id rfl
theorem fF_69 {ds : List D} : FOf Fs 69 ds = F_signed_lots cs ds := id rfl
theorem fF_70 {ds : List D} : FOf Fs 70 ds = F_lot_of cs ds := id rfl
theorem fF_71 {ds : List D} : FOf Fs 71 ds = F_bars_by cs ds := id rfl
theorem fF_50 {ds : List D} : FOf Fs 50 ds = F_copied cs ds := id rfl
theorem fF_72 {ds : List D} : FOf Fs 72 ds = F_Bar cs ds := id rfl
theorem fF_73 {ds : List D} : FOf Fs 73 ds = F_shed_or_bar cs ds := id rfl
theorem zZ_0 : zs.lookup 0 = some (("BadNumber", 2, [("what", 1), ("number", 2)]) : Str × Nat × List (Str × Nat)) := id rfl
theorem zZ_1 : zs.lookup 1 = some (("BadClosure", 2, [("what", 1), ("value", 2)]) : Str × Nat × List (Str × Nat)) := id rfl
theorem zZ_2 : zs.lookup 2 = some (("BadLot", 1, [("lot", 1)]) : Str × Nat × List (Str × Nat)) := id rfl
theorem zZ_3 : zs.lookup 3 = some (("BadRow", 1, [("row", 1)]) : Str × Nat × List (Str × Nat)) := id rfl
theorem zZ_4 : zs.lookup 4 = some (("BadTable", 1, [("table", 1)]) : Str × Nat × List (Str × Nat)) := id rfl
theorem zZ_5 : zs.lookup 5 = some (("Unlike", 1, [("what", 1)]) : Str × Nat × List (Str × Nat)) := id rfl
theorem zZ_6 : zs.lookup 6 = some (("TooMany", 3, [("what", 1), ("many", 2), ("limit", 3)]) : Str × Nat × List (Str × Nat)) := id rfl
theorem law_of {ρ : List Sv} (e : ρ = lawRho N_law) (w : W (rss cL r_law ρ) (2 ^ 40) (fun o _ => o = .rt (.bl true) false) noX) : LawDoes I.v I.L.N I.r := law_does fitsL e w
end K14
open Sh K14 in
local macro_rules
  | `(tactic| simp! [$[$ls:simpLemma],*]) => `(tactic| dsimp! [cL_F, cL_cs, cL_FS, cL_lf, fF_1, fF_5000, fF_24, fF_25, fF_11, fF_12, fF_13, fF_14, fF_15, fF_16, fF_17, fF_18, fF_19, fF_20, fF_21, fF_22, fF_23, fF_63, fF_27, fF_28, fF_29, fF_46, fF_47, fF_48, fF_56, fF_57, fF_31, fF_42, fF_37, fF_38, fF_36, fF_64, fF_65, fF_66, fF_43, fF_44, fF_67, fF_68, fF_69, fF_70, fF_71, fF_50, fF_72, fF_73, zZ_0, zZ_1, zZ_2, zZ_3, zZ_4, zZ_5, zZ_6, $[$ls:simpLemma],*])
namespace Sh
open L2 PySem PySem.Spec PyProof.Rows

/-- what is shown -/
structure Shw (d : D) : Prop where
  ex : ∃ s, rpD d = some (.str s)
theorem Shw.of {d : D} (h : Rp d) : Shw d := by
  obtain ⟨p, h1, h2, h3, h4⟩ := h.ex
  refine ⟨p.shown, ?_⟩
  unfold rpD
  rw [h1, Option.bind_some, if_pos (by rw [Bool.and_eq_true, Bool.and_eq_true]; exact ⟨⟨h2, decide_eq_true h3⟩, decide_eq_true h4⟩)]
theorem try_x {cc : Pc} {ld : Nat → LamD} {tab : List Clw} {n : Nat} {caps ds : List D} {tag : Str} {e : Xc} {fs : List Str} (hx : rx cc (ld n).rx (caps.map .sh) = .x e) (hr : Shw (.tup (.str tag :: ds))) (hm : (ld n).m = 0) (hN : caps.length = (ld n).N.length) (hp : plainL caps = true) (ht : tab.lookup e.c = some (tag, fs)) (hg : getsD e.fs fs = some ds) : tryOk cc ld tab (.tup [.clo n caps, .tup (.str tag :: ds)]) := by
  refine ⟨n, caps, _, rfl, ⟨_, hr.ex.choose_spec⟩, hm, hN, hp, ?_⟩
  rw [hx]
  exact ⟨tag, fs, ds, ht, hg, rfl⟩
theorem dueF_yes {cc : Pc} {ld : Nat → LamD} {tab : List Clw} {l : List D} (hz : l.length ≤ 1000) (h : ∀ d ∈ l, tryOk cc ld tab d) : dueF cc ld tab [.lst l] = .r (val (.bl true)) := by
  unfold dueF
  exact if_pos ⟨by unfold Z; omega, h⟩
theorem cv0 {ρ : List Sv} : cvOf ρ [] = some [] := rfl
theorem cvS {ρ : List Sv} {i : Nat} {l : List Nat} {x : D} {r : List D} (h : ρ[i]? = some (.sh x)) (p : x.plain = true) (k : cvOf ρ l = some r) : cvOf ρ (i :: l) = some (x :: r) := by
  have e : slD ρ i = some x := by unfold slD; rw [h]; simp [p]
  unfold cvOf
  rw [e, k]; rfl
/-- a try's row, told -/
theorem snap_try {cv : Nat → Option (List D)} {n : Nat} {c : List D} {due : D} (h : cv n = some c) (p : due.plain = true) : (D.tup [.lam n, due]).snap cv = some (.tup [.clo n c, due]) := by
  simp only [D.snap, snapL, h, snap_plain p, Option.map_some, Option.bind_some]
theorem snapL_nil {cv : Nat → Option (List D)} : snapL cv [] = some [] := by simp only [snapL]
theorem snapL_cons {cv : Nat → Option (List D)} {d e : D} {r s : List D} (h : d.snap cv = some e) (k : snapL cv r = some s) : snapL cv (d :: r) = some (e :: s) := by
  simp only [snapL, h, k, Option.map_some, Option.bind_some]
theorem snap_lst {cv : Nat → Option (List D)} {r s : List D} (k : snapL cv r = some s) : snapL cv [.lst r] = some [.lst s] := by
  simp only [snapL, D.snap, k, Option.map_some, Option.bind_some]
theorem plain_ints : ∀ a : List Int, plainL (a.map D.int) = true
  | [] => rfl
  | x :: a => by rw [List.map_cons, plainL, plain_ints a]; rfl
theorem plain_tupI {a : List Int} : (tupI a).plain = true := plain_ints a
theorem plain_lots : ∀ ls : List (List Int), plainL (ls.map tupI) = true
  | [] => rfl
  | x :: a => by rw [List.map_cons, plainL, plain_tupI, plain_lots a]; rfl
theorem plain_cl {n : Nat} {ls : List (List Int)} : (clD n ls).plain = true := by
  show (true && ((plainL (ls.map tupI)) && true)) = true
  rw [plain_lots]; rfl
/-- what is still to do -/
def rest (c : Pc) (l : RSs) (ρ : List Sv) : Ot Ou := rss c l ρ
section
variable {c : Pc} {a : RS} {l : RSs} {ρ : List Sv} {b : Nat} {Q : Ou → Nat → Prop} {E : Xc → Nat → Prop}
theorem W_step (h : W (rs c a ρ) b (fun o b' => W (o.go (rest c l)) b' Q E) E) : W (rest c (.cons a l) ρ) b Q E := by
  show W (rss c (.cons a l) ρ) b Q E
  rw [rss_cons]
  exact post_seq h
theorem W_nx (h : W (rest c l ρ) b Q E) : W (Ot.r (Ou.nx ρ)) b (fun o b' => W (o.go (rest c l)) b' Q E) E := ⟨h⟩
theorem W_end (h : Q (.nx ρ) b) : W (rest c .nil ρ) b Q E := ⟨h⟩
theorem W_rt {d : D} {f : Bool} (h : Q (.rt d f) b) : W (Ot.r (Ou.rt d f)) b (fun o b' => W (o.go (rest c l)) b' Q E) E := ⟨⟨h⟩⟩
theorem W_start (h : W (rest c l ρ) b Q E) : W (rss c l ρ) b Q E := h
theorem bodR_rest {g : RT} {d : D} : bodR c g l d ρ = (Ot.of (bdT g d ρ)).bind fun ρ' => rest c l ρ' := id rfl
/-- a lap of a loop -/
theorem W_lap {g : RT} {d : D} {ρ' : List Sv} (e : bdT g d ρ = some ρ') (h : W (rest c l ρ') b Q E) : W (bodR c g l d ρ) b Q E := by
  rw [bodR_rest, e]
  exact h
/-- a loop over what is known -/
theorem W_for {g : RT} {it : RI} {ds : List D} {body : RSs} (e : ri c it ρ = .r ds) (h : W (forR (bodR c g body) ds ρ) b Q E) : W (rs c (.for it g body) ρ) b Q E := by
  rw [rs_for, e]
  exact h
end
end Sh
namespace Sh
open L2 PySem PySem.Spec PyProof.Rows
variable {cs : List Str}
def isI : D → Bool
  | .int _ => true
  | _ => false
mutual
def intup : D → D
  | .tup l => .tup (intupL l)
  | .lst l => .tup (intupL l)
  | d => d
def intupL : List D → List D
  | [] => []
  | d :: r => intup d :: intupL r
end
/-- isinstance can be asked of it -/
def kn (cs : List Str) (d : D) : Bool := match dTy d with
  | some (.own c) => cs.contains c
  | some _ => true
  | none => false
mutual
def knA (cs : List Str) : D → Bool
  | .tup l => knL cs l
  | .lst l => knL cs l
  | d => kn cs d
def knL (cs : List Str) : List D → Bool
  | [] => true
  | d :: r => knA cs d && knL cs r
end
mutual
def dep : D → Nat
  | .tup l => depL l + 1
  | .lst l => depL l + 1
  | _ => 0
def depL : List D → Nat
  | [] => 0
  | d :: r => max (dep d) (depL r)
end
theorem intupL_map : ∀ l : List D, intupL l = l.map intup
  | [] => rfl
  | d :: r => by rw [intupL, intupL_map r]; rfl
theorem knL_mem {cs : List Str} : ∀ {l : List D}, knL cs l = true → ∀ d ∈ l, knA cs d = true
  | [], _, _, h => by cases h
  | d :: r, h, e, he => by
    rw [knL, Bool.and_eq_true] at h
    rcases List.mem_cons.mp he with rfl | he
    · exact h.1
    · exact knL_mem h.2 e he
theorem depL_mem : ∀ {l : List D} {d : D}, d ∈ l → dep d ≤ depL l
  | [], _, h => by cases h
  | x :: r, d, h => by
    rw [depL]
    rcases List.mem_cons.mp h with rfl | h
    · omega
    · have := depL_mem h; omega
theorem isB_kn {ts : List TyS} {d : D} {b : Bool} (hk : kn cs d = true) (h : (match dTy d with
    | some t => ts.any (ty1 t)
    | none => false) = b) : isiD cs ts d = some (.bl b) := by
  unfold isiD
  unfold kn at hk
  cases e : dTy d with
  | none => rw [e] at hk; cases hk
  | some t =>
    rw [e] at hk h
    simp only at h
    cases t with
    | ty n => simp only [Option.bind_some, h]
    | own c => simp only at hk; simp only [Option.bind_some, hk, if_true, h]
theorem isi_eq {ts : List TyS} {d : D} : pB1 cs (.isi ts) d = (isiD cs ts d).map val := id rfl
theorem isiT_eq {ts : List TyS} {d : D} : pB1 cs (.isiT ts) d = (isiD cs ts d).map val := id rfl
def seqB : D → Bool
  | .tup _ => true
  | .lst _ => true
  | _ => false
def tupB : D → Bool
  | .tup _ => true
  | _ => false
def bolB : D → Bool
  | .bl _ => true
  | _ => false
def clsB (c : Str) : D → Bool
  | .ins k _ => k == c
  | _ => false
theorem isi_seq {d : D} (hk : kn cs d = true) : isiD cs [.ty "tuple", .ty "list"] d = some (.bl (seqB d)) := isB_kn hk (by cases d <;> first | rfl | (cases hk; done))
theorem isi_tup {d : D} (hk : kn cs d = true) : isiD cs [.ty "tuple"] d = some (.bl (tupB d)) := isB_kn hk (by cases d <;> first | rfl | (cases hk; done))
theorem isi_int {d : D} (hk : kn cs d = true) : isiD cs [.ty "int"] d = some (.bl (isI d || bolB d)) := isB_kn hk (by cases d <;> first | rfl | (cases hk; done))
theorem isi_bool {d : D} (hk : kn cs d = true) : isiD cs [.ty "bool"] d = some (.bl (bolB d)) := isB_kn hk (by cases d <;> first | rfl | (cases hk; done))
theorem isi_cls {d : D} {c : Str} (hk : kn cs d = true) : isiD cs [.own c] d = some (.bl (clsB c d)) := isB_kn hk (by cases d <;> first | rfl | (cases hk; done) | simp [dTy, ty1, clsB])
theorem kn_tupI {a : List Int} : kn cs (tupI a) = true := rfl
theorem kn_tup {a : List D} : kn cs (.tup a) = true := rfl
theorem kn_lst {a : List D} : kn cs (.lst a) = true := rfl
theorem kn_int {a : Int} : kn cs (.int a) = true := rfl
theorem kn_bl {a : Bool} : kn cs (.bl a) = true := rfl
theorem kn_cl {n : Nat} {ls : List (List Int)} (h : cs.contains "Closure" = true) : kn cs (clD n ls) = true := h
theorem kn_of {d : D} (h : knA cs d = true) : kn cs d = true := by cases d <;> first | exact h | rfl
theorem q_whole {d : D} (hk : kn cs d = true) : F_is_whole cs [d] = .r (val (.bl (isI d))) := by
  unfold F_is_whole r_is_whole
  dsimp! [run_eq, isi_eq, isi_int hk, isi_bool hk]
  cases d <;> rfl
theorem q_in_tuples_f : ∀ (k : Nat) (d : D), dep d < k → knA cs d = true → F_in_tuples_f cs k [d] = .r (val (intup d))
  | 0, _, h, _ => absurd h (Nat.not_lt_zero _)
  | k + 1, d, h, hk => by
    have sq : ∀ l : List D, depL l + 1 < k + 1 → knL cs l = true → ∀ x ∈ l, F_in_tuples_f cs k [x] = .r (val (intup x)) := fun l h1 h2 x hx => q_in_tuples_f k x (by have := depL_mem hx; omega) (knL_mem h2 x hx)
    unfold F_in_tuples_f r_in_tuples
    dsimp! [run_eq, isiT_eq, isi_seq (kn_of hk)]
    cases d <;> first | rfl | skip
    · rename_i l
      have s1 := sq l h hk
      dsimp! [lcR_m, seqB, s1, intup, intupL_map]
    · rename_i l
      have s1 := sq l h hk
      dsimp! [lcR_m, seqB, s1, intup, intupL_map]
theorem q_in_tuples {d : D} (h : dep d < 9) (hk : knA cs d = true) : F_in_tuples cs [d] = .r (val (intup d)) := q_in_tuples_f 9 d h hk
theorem intup_ints (a : List Int) : (a.map D.int).map intup = a.map .int := by
  rw [List.map_map]; rfl
theorem intup_tupI (a : List Int) : intup (tupI a) = tupI a := by
  unfold tupI
  rw [intup, intupL_map, intup_ints]
theorem intup_lots (ls : List (List Int)) : intup (.tup (ls.map tupI)) = .tup (ls.map tupI) := by
  rw [intup, intupL_map, List.map_map]
  congr 1
  exact List.map_congr_left fun a _ => intup_tupI a
theorem depL_ints : ∀ a : List Int, depL (a.map D.int) = 0
  | [] => rfl
  | x :: a => by rw [List.map_cons, depL, depL_ints a]; rfl
theorem dep_tupI (a : List Int) : dep (tupI a) = 1 := by unfold tupI; rw [dep, depL_ints]
theorem depL_lots : ∀ ls : List (List Int), depL (ls.map tupI) ≤ 1
  | [] => Nat.zero_le _
  | x :: a => by rw [List.map_cons, depL, dep_tupI]; have := depL_lots a; omega
theorem knL_ints : ∀ a : List Int, knL cs (a.map D.int) = true
  | [] => rfl
  | x :: a => by rw [List.map_cons, knL, knL_ints a]; rfl
theorem knA_tupI (a : List Int) : knA cs (tupI a) = true := knL_ints a
theorem knL_lots : ∀ a : List (List Int), knL cs (a.map tupI) = true
  | [] => rfl
  | x :: a => by rw [List.map_cons, knL, knA_tupI, knL_lots a]; rfl
theorem q_in_lot {a : List Int} : F_in_tuples cs [tupI a] = .r (val (tupI a)) := by rw [q_in_tuples (by rw [dep_tupI]; omega) (knA_tupI a), intup_tupI]
theorem q_in_lots {ls : List (List Int)} : F_in_tuples cs [.tup (ls.map tupI)] = .r (val (.tup (ls.map tupI))) := by
  rw [q_in_tuples (by rw [dep]; have := depL_lots ls; omega) (by rw [knA]; exact knL_lots ls), intup_lots]
def lotX (n : Int) : D → Bool
  | .int x => decide (0 ≤ x) && decide (x < n)
  | _ => false
def ltX : Option D → Option D → Bool
  | some (.int x), some (.int y) => decide (x < y)
  | _, _ => false
def ascX (l : List D) : Bool := (Rg (l.length - 1)).all fun k => ltX l[k.toNat]? l[k.toNat + 1]?
/-- whether any value is a lot -/
def lotB (n : Int) : D → Bool
  | .tup l => l.all (lotX n) && ascX l
  | _ => false
theorem lcR_eq {α : Type} {p : α → Ot Bool} {f : α → Ot (D × Bool)} {q : α → Bool} {g : α → D × Bool} {xs : List α} (h1 : ∀ x ∈ xs, p x = .r (q x)) (h2 : ∀ x ∈ xs, f x = .r (g x)) : lcR p f xs = .r ((xs.filter q).map fun x => (g x).1) := by
  rw [lcR_congr rfl h1 h2, lcR_r]
theorem rgD_sub (n : Nat) : rgD 0 ((n : Int) - 1) = (Rg (n - 1)).map .int := by
  cases n with
  | zero => rfl
  | succ n => rw [← rgD_Rg]; congr 1; omega
theorem InR_of {i : Int} (h : -1000000 ≤ i) (k : i ≤ 1000000) : InR i := by constructor <;> omega
theorem atI_at {α : Type} {l : List α} {x : Int} (h : 0 ≤ x) : atI l x = l[x.toNat]? := by
  obtain ⟨k, rfl⟩ := Int.eq_ofNat_of_zero_le h
  exact atI_nat l k
theorem rg_sub_ok {n : Nat} (h : n ≤ 1000) : (Rg (n - 1)).length ≤ 1000 := by rw [Rg_length]; omega
theorem q_is_lot {n : Int} {d : D} (hk : kn cs d = true) (hl : ∀ l, d = .tup l → l.length ≤ 1000 ∧ ∀ x ∈ l, kn cs x = true) : F_is_lot cs [.int n, d] = .r (val (.bl (lotB n d))) := by
  unfold F_is_lot r_is_lot
  dsimp! [run_eq, isi_eq, isi_tup hk]
  cases d <;> first | rfl | skip
  rename_i l
  obtain ⟨hz, hl⟩ := hl l rfl
  dsimp! [tupB]
  rw [lcR_eq (q := fun _ => true) (g := fun d => val (.bl (lotX n d))) (fun _ _ => rfl) (fun x hx => ?_)]
  · dsimp! []
    cases hA : l.all (lotX n) with
    | false =>
      have : lotB n (.tup l) = false := by show (l.all (lotX n) && ascX l) = false; rw [hA]; rfl
      rw [this]; rfl
    | true =>
      have e : lotB n (.tup l) = ascX l := by show (l.all (lotX n) && ascX l) = ascX l; rw [hA]; rfl
      rw [e]
      dsimp! [if_pos (InR_of (i := (l.length : Int) - 1) (by omega) (by omega)), rgD_sub, Zle (rg_sub_ok hz)]
      rw [lcRm_eq (q := fun _ => true) (g := fun k : Int => val (.bl (ltX l[k.toNat]? l[k.toNat + 1]?))) (fun _ _ => rfl) (fun x hx => ?_)]
      · dsimp! []
        rfl
      · obtain ⟨h0, h1⟩ := mem_Rg.mp hx
        have isint : ∀ k : Nat, k < l.length → ∃ y, l[k]? = some (.int y) := fun k hk => by
          have := List.all_eq_true.mp hA _ (List.getElem_mem hk)
          rw [List.getElem?_eq_getElem hk]
          cases e : l[k] <;> rw [e] at this <;> first | (cases this; done) | exact ⟨_, rfl⟩
        obtain ⟨y, e1⟩ := isint x.toNat (by omega)
        obtain ⟨z, e2⟩ := isint (x.toNat + 1) (by omega)
        have e3 : (x + 1).toNat = x.toNat + 1 := by omega
        dsimp! [atI_at h0, atI_at (show 0 ≤ x + 1 by omega), e1, e2, e3, ltX]
  · dsimp! [q_whole (hl x hx)]
    cases x <;> first | rfl | skip
    dsimp! [isI]
    rfl
theorem lotB_lot {n : Nat} {a : List Int} (h : Lot n a) : lotB n (tupI a) = true := by
  show ((a.map D.int).all (lotX n) && ascX (a.map D.int)) = true
  rw [Bool.and_eq_true, List.all_eq_true]
  refine ⟨fun d hd => ?_, ?_⟩
  · obtain ⟨x, hx, rfl⟩ := List.mem_map.mp hd
    have := h.mem x hx
    simp [lotX]; omega
  · unfold ascX
    rw [List.all_eq_true]
    intro k hk
    obtain ⟨h0, h1⟩ := mem_Rg.mp hk
    rw [List.length_map] at h1
    have i1 : k.toNat < a.length := by omega
    have i2 : k.toNat + 1 < a.length := by omega
    simp only [List.getElem?_map, List.getElem?_eq_getElem i1, List.getElem?_eq_getElem i2, Option.map_some, ltX, decide_eq_true_eq]
    exact List.pairwise_iff_getElem.mp h.pw _ _ i1 i2 (by omega)
theorem Lot.short {n : Nat} {a : List Int} (h : Lot n a) (hn : n ≤ 6) : a.length ≤ 1000 := by have := h.len; omega
theorem kn_ints {a : List Int} : ∀ x ∈ a.map D.int, kn cs x = true := fun x hx => by
  obtain ⟨i, _, rfl⟩ := List.mem_map.mp hx
  rfl
theorem q_lot {n : Nat} {a : List Int} (hn : n ≤ 6) (h : Lot n a) : F_is_lot cs [.int n, tupI a] = .r (val (.bl true)) := by
  rw [q_is_lot kn_tupI fun l e => ?_, lotB_lot h]
  cases e
  exact ⟨by rw [List.length_map]; exact h.short hn, kn_ints⟩
theorem q_within {a c : List Int} : F_is_within cs [tupI a, tupI c] = .r (val (.bl (inL a c))) := by
  unfold F_is_within r_is_within inL
  dsimp! [run_eq]
theorem q_wo {a : List Int} {x : Int} : F_without cs [tupI a, .int x] = .r (val (tupI (wo a x))) := by
  unfold F_without r_without wo
  dsimp! [run_eq]
theorem q_common {a c : List Int} : F_common_of cs [tupI a, tupI c] = .r (val (tupI (both a c))) := by
  unfold F_common_of r_common_of both
  dsimp! [run_eq]
theorem q_closing_by {n : Nat} {ls : List (List Int)} {a : List Int} (hn : n ≤ 6) : F_closing_by cs [clD n ls, tupI a] = .r (val (tupI (clos n ls a))) := by
  unfold F_closing_by r_closing_by
  dsimp! [run_eq, rgT_n (show n ≤ 1000 by omega), forR_map]
  rw [forR_fold (E := fun b => [.sh (clD n ls), .sh (tupI a), .sh (tupI b), .no]) (I := fun _ => True) (step := fun best o => if inL a o = true ∧ o.length < best.length then o else best) trivial fun b x hx _ => ⟨?_, trivial⟩]
  · dsimp! []
    rfl
  · dsimp! [bodR_eq, q_within]
    have : (bif decide ((x.length : Int) < b.length) && inL a x then x else b) = if inL a x = true ∧ x.length < b.length then x else b := by
      rw [Bool.cond_eq_ite]
      congr 1
      rw [Bool.and_eq_true, decide_eq_true_eq, Int.ofNat_lt, and_comm]
    rw [this]
theorem allP {pre : List Int} : ((pre.foldl (fun out x => out ++ out.map (· ++ [x])) [[]]).length = 2 ^ pre.length) ∧ ∀ l ∈ pre.foldl (fun out x => out ++ out.map (· ++ [x])) [[]], l.length ≤ pre.length := by
  have : ∀ (pre : List Int) (o : List (List Int)) (k : Nat), (∀ l ∈ o, l.length ≤ k) → (pre.foldl (fun out x => out ++ out.map (· ++ [x])) o).length = o.length * 2 ^ pre.length ∧ ∀ l ∈ pre.foldl (fun out x => out ++ out.map (· ++ [x])) o, l.length ≤ k + pre.length := by
    intro pre
    induction pre with
    | nil => exact fun o k h => ⟨by simp, h⟩
    | cons x pre ih =>
      intro o k h
      obtain ⟨h1, h2⟩ := ih (o ++ o.map (· ++ [x])) (k + 1) fun l hl => by
        rcases List.mem_append.mp hl with hl | hl
        · have := h l hl; omega
        · obtain ⟨m, hm, rfl⟩ := List.mem_map.mp hl
          have := h m hm
          rw [List.length_append, List.length_singleton]; omega
      refine ⟨?_, fun l hl => ?_⟩
      · rw [List.foldl_cons, h1, List.length_append, List.length_map, List.length_cons, Nat.pow_succ, Nat.mul_comm (2 ^ pre.length) 2, ← Nat.mul_assoc]; congr 1; omega
      · have := h2 l hl
        rw [List.length_cons]; omega
  obtain ⟨h1, h2⟩ := this pre [[]] 0 (fun l hl => by rw [List.mem_singleton.mp hl]; exact Nat.zero_le _)
  exact ⟨by rw [h1]; simp, fun l hl => by have := h2 l hl; omega⟩
theorem lots_body {n : Nat} (hn : n ≤ 6) {pre post : List Int} {x : Int} (e : Rg n = pre ++ x :: post) : (∀ l ∈ pre.foldl (fun out x => out ++ out.map (· ++ [x])) [[]], l.length ≤ 999) ∧ (pre.foldl (fun out x => out ++ out.map (· ++ [x])) [[]]).length + (pre.foldl (fun out x => out ++ out.map (· ++ [x])) [[]]).length ≤ 1000 := by
  have hp : pre.length < 6 := by
    have := congrArg List.length e
    rw [Rg_length, List.length_append, List.length_cons] at this
    omega
  obtain ⟨h1, h2⟩ := allP (pre := pre)
  have hp2 : 2 ^ pre.length ≤ 2 ^ 6 := Nat.pow_le_pow_right (by decide) (by omega)
  exact ⟨fun l hl => by have := h2 l hl; omega, by omega⟩
theorem q_all_lots {n : Nat} (hn : n ≤ 6) : F_all_lots cs [.int n] = .r (tmp (.lst ((lots n).map tupI))) := by
  unfold F_all_lots r_all_lots
  dsimp! [run_eq, if_pos (ri_n (show n ≤ 1000 by omega)), rgD_Rg, forR_map]
  rw [show ([D.tup []] : List D) = ([[]] : List (List Int)).map tupI from rfl, forR_pre (E := fun out : List (List Int) => [.sh (.int n), .sh (.lst (out.map tupI)), .no, .no]) (s0 := [[]]) (step := fun out x => out ++ out.map (· ++ [x])) fun pre x post e => ?_]
  · dsimp! []
    rfl
  · obtain ⟨h1, h2⟩ := lots_body hn e
    generalize pre.foldl (fun out x => out ++ out.map (· ++ [x])) [[]] = out at h1 h2 ⊢
    dsimp! [bodR_eq, add_tup1, h1, add_lotsF h2]
theorem q_least_by {n : Nat} {ls : List (List Int)} {a : List Int} (hn : n ≤ 6) : F_least_by cs [clD n ls, tupI a] = .r (val (.tup ((bases n ls a).map tupI))) := by
  unfold F_least_by r_least_by bases
  dsimp! [run_eq, q_all_lots hn, q_closing_by hn, q_within]
theorem q_need {n : Nat} {ls : List (List Int)} (hc : cs.contains "Closure" = true) : F_need_closure cs [clD n ls] = .r (val .non) := by
  have : clsB "Closure" (clD n ls) = true := by simp [clsB, clD]
  unfold F_need_closure r_need_closure
  dsimp! [run_eq, isi_eq, isi_cls (kn_cl hc), this]
theorem q_need_no {d : D} (hk : kn cs d = true) (hd : clsB "Closure" d = false) : F_need_closure cs [d] = .x ⟨"Unlike", [("what", .str "closure")]⟩ := by
  unfold F_need_closure r_need_closure
  dsimp! [run_eq, isi_eq, isi_cls hk, hd]
/-- what is passed for a value: with lists in the place of tuples, perhaps -/
structure Psd (cs : List Str) (d e : D) : Prop where
  kn : knA cs d = true
  dp : dep d < 9
  tu : intup d = e
theorem psd_lot {a : List Int} : Psd cs (tupI a) (tupI a) := ⟨knA_tupI a, by rw [dep_tupI]; omega, intup_tupI a⟩
theorem q_psd {d e : D} (h : Psd cs d e) : F_in_tuples cs [d] = .r (val e) := by rw [q_in_tuples h.dp h.kn, h.tu]
theorem lot_dep {d : D} {m : Nat} (h : dep d ≤ m) (hm : m < 9) : dep d < 9 := by omega
theorem q_lot_from {n : Nat} {d : D} (hk : knA cs d = true) (hd : dep d < 9) (hl : ∀ l, intup d = .tup l → l.length ≤ 1000 ∧ ∀ x ∈ l, kn cs x = true) (hk2 : kn cs (intup d) = true) : F_lot_from cs [.int n, d] = bif lotB n (intup d) then .r (val (intup d)) else .x ⟨"BadLot", [("lot", d)]⟩ := by
  unfold F_lot_from r_lot_from
  dsimp! [run_eq, q_in_tuples hd hk, q_is_lot hk2 hl]
  cases lotB n (intup d) <;> rfl
theorem q_lot_from_yes {n : Nat} {a : List Int} {d : D} (p : Psd cs d (tupI a)) (hn : n ≤ 6) (h : Lot n a) : F_lot_from cs [.int n, d] = .r (val (tupI a)) := by
  unfold F_lot_from r_lot_from
  dsimp! [run_eq, q_psd p, q_lot hn h]
theorem q_closed_from {n : Nat} {ls : List (List Int)} {a : List Int} {d : D} (p : Psd cs d (tupI a)) (hn : n ≤ 6) (h : Lot n a) (hm : a ∈ ls) : F_closed_from cs [clD n ls, d] = .r (val (tupI a)) := by
  unfold F_closed_from r_closed_from
  dsimp! [run_eq, q_lot_from_yes p hn h, hm]
theorem q_closed_from_no {n : Nat} {ls : List (List Int)} {a : List Int} {d : D} (p : Psd cs d (tupI a)) (hn : n ≤ 6) (h : Lot n a) (hm : a ∉ ls) : F_closed_from cs [clD n ls, d] = .x ⟨"Unlike", [("what", .str "closed")]⟩ := by
  have hm : decide (a ∈ ls) = false := decide_eq_false hm
  unfold F_closed_from r_closed_from
  dsimp! [run_eq, q_lot_from_yes p hn h, hm]
theorem q_closed_from_odd {n : Nat} {ls : List (List Int)} {d : D} {e : Xc} (h : F_lot_from cs [.int n, d] = .x e) : F_closed_from cs [clD n ls, d] = .x e := by
  unfold F_closed_from r_closed_from
  dsimp! [run_eq, h]
theorem q_least_bases {n : Nat} {ls : List (List Int)} {a : List Int} {d : D} (p : Psd cs d (tupI a)) (hc : cs.contains "Closure" = true) (hn : n ≤ 6) (h : Lot n a) (hm : a ∈ ls) : F_least_bases cs [clD n ls, d] = .r (val (.tup ((bases n ls a).map tupI))) := by
  unfold F_least_bases r_least_bases
  dsimp! [run_eq, q_need hc, q_closed_from p hn h hm, q_least_by hn]
theorem q_many_bases {n : Nat} {ls : List (List Int)} (hc : cs.contains "Closure" = true) (hn : n ≤ 6) : F_many_bases cs [clD n ls] = .r (val (.int (ls.map fun a => ((bases n ls a).length : Int)).sum)) := by
  unfold F_many_bases r_many_bases
  dsimp! [run_eq, q_need hc, q_least_by hn]
theorem q_family {n : Nat} {ls : List (List Int)} (hn : n ≤ 6) (h : Fam n ls) : F_is_family cs [.int n, .tup (ls.map tupI)] = .r (val (.bl true)) := by
  have h1 : ∀ a ∈ ls, F_is_lot cs [.int n, tupI a] = .r (val (.bl true)) := fun a ha => q_lot hn (h.lot a ha)
  have h2 : decide (Rg n ∈ ls) = true := decide_eq_true h.top
  have h3 : ∀ a ∈ ls, ∀ b ∈ ls, decide (both a b ∈ ls) = true := fun a ha b hb => decide_eq_true (h.meet a ha b hb)
  have h4 : (ls.all fun _ => true) = true := List.all_eq_true.mpr fun _ _ => rfl
  unfold F_is_family r_is_family
  dsimp! [run_eq, isi_eq, isi_tup kn_tup, tupB, h1, rgT_n (show n ≤ 1000 by omega), h2, q_common, h3, h4]
theorem Fam.of {n : Nat} {ls : List (List Int)} (h : FamS n ls) : Fam n ls := h.toFam
/-- sorted lots are a set already -/
theorem setL_of {ls : List (List Int)} (h : ls.Pairwise fun a b => HT.lexLt a b = true) : setL ls = ls := lex_set (fun a => mem_setL) (setL_pw ls) h
theorem ded_len {ls : List (List Int)} {n : Nat} (hn : n ≤ 5) (h : ∀ a ∈ ls, Lot n a) : (ded ls).length + 1 < 64 := by
  have := nodup_len (ded ls) (allL n) (ded_nodup ls) fun a ha => mem_allL.mpr (h a (mem_ded.mp ha))
  rw [allL_length] at this
  have : 2 ^ n ≤ 2 ^ 5 := Nat.pow_le_pow_right (by decide) hn
  omega
theorem sset_lots {ls : List (List Int)} {d : D} (hd : sqL d = some (ls.map tupI)) (h : (ded ls).length + 1 < 64) : pB1 cs .sset d = some (tmp (.lst ((setL ls).map tupI))) := by
  show ((sqL d).bind fun l => match intsL l with
    | some ns => if ns.length < 64 then some (tmp (.lst ((setI ns).map .int))) else none
    | none => (tupsL l).bind fun ls => if (ded ls).length + 1 < 64 then some (tmp (.lst ((setL ls).map tupI))) else none) = _
  rw [hd, Option.bind_some]
  cases ls with
  | nil =>
    have e1 : setL [] = [] := (srtL_perm []).eq_nil
    have e2 : setI [] = [] := (srtI_perm []).eq_nil
    show (if ([] : List Int).length < 64 then some (tmp (D.lst ((setI []).map .int))) else none) = _
    rw [if_pos (by decide), e1, e2]
    rfl
  | cons a ls =>
    rw [intsL_tupI]
    show ((tupsL _).bind _) = _
    rw [tupsL_tupI, Option.bind_some, if_pos h]
theorem sset_ints {a : List Int} {d : D} (hd : sqL d = some (a.map .int)) (h : a.length < 64) : pB1 cs .sset d = some (tmp (.lst ((setI a).map .int))) := by
  show ((sqL d).bind fun l => match intsL l with
    | some ns => if ns.length < 64 then some (tmp (.lst ((setI ns).map .int))) else none
    | none => (tupsL l).bind fun ls => if (ded ls).length + 1 < 64 then some (tmp (.lst ((setL ls).map tupI))) else none) = _
  rw [hd, Option.bind_some, intsL_int]
  show (if a.length < 64 then _ else _) = _
  rw [if_pos h]
theorem tupB_tupI {a : List Int} : tupB (tupI a) = true := id rfl
theorem tupB_tup {a : List D} : tupB (.tup a) = true := id rfl
theorem srtI_Rg {n : Nat} {a : List Int} (h : a.Perm (Rg n)) : srtI a = Rg n := srt_uniq (r := (· ≤ ·)) (fun a b h1 h2 => Int.le_antisymm h1 h2) ((srtI_perm a).trans h) (srtI_pw a) ((Rg_pw n).imp fun h => by omega)
theorem q_Closure {n : Nat} {ls : List (List Int)} (hc : cs.contains "Closure" = true) (h1 : 1 ≤ n) (hn : n ≤ 5) (h : Fam n ls) : F_Closure cs [.int n, .tup (ls.map tupI)] = .r (tmp (clD n (setL ls))) := by
  have e1 : decide ((1 : Int) ≤ (n : Int)) = true := decide_eq_true (by omega)
  have e2 : decide ((n : Int) ≤ 6) = true := decide_eq_true (by omega)
  have f1 : fldNs.contains ("size" : Str) = true := by decide +kernel
  have f2 : fldNs.contains ("lots" : Str) = true := by decide +kernel
  have f3 : (("size" : Str) == ("lots" : Str)) = false := by decide +kernel
  have f4 := sset_lots (cs := cs) (d := .tup (ls.map tupI)) (ls := ls) rfl (ded_len hn h.lot)
  unfold F_Closure r_Closure fl_Closure
  dsimp! [q_whole kn_int, isI, e1, e2, q_in_lots, q_family (show n ≤ 6 by omega) h, hc, f1, f2, f4, f3]
  rfl
theorem q_order {n : Nat} {a : List Int} {d : D} (p : Psd cs d (tupI a)) (hn : n ≤ 6) (h : a.Perm (Rg n)) : F_order_from_row cs [.int n, d] = .r (val (tupI a)) := by
  have e2 : a.length = n := by rw [h.length_eq, Rg_length]
  unfold F_order_from_row r_order_from_row F_is_tuple_of r_is_tuple_of
  dsimp! [q_psd p, isi_eq, isi_tup kn_tupI, tupB_tupI, q_whole kn_int, isI, rgL_n (show n ≤ 1000 by omega), e2, srtI_Rg h]
/-- what is left of a lot, gone through in an order -/
def baseR (n : Nat) (ls : List (List Int)) (a : List Int) (o : List Int) : List Int := o.foldl (fun b x => bif decide (x ∈ b) && decide (clos n ls (wo b x) = a) then wo b x else b) a
theorem q_base_by {n : Nat} {ls : List (List Int)} {a o : List Int} {d e : D} (p : Psd cs d (tupI a)) (p2 : Psd cs e (tupI o)) (hc : cs.contains "Closure" = true) (hn : n ≤ 6) (h : Lot n a) (hm : a ∈ ls) (ho : o.Perm (Rg n)) : F_base_by cs [clD n ls, d, e] = .r (val (tupI (baseR n ls a o))) := by
  unfold F_base_by r_base_by baseR
  dsimp! [q_need hc, q_closed_from p hn h hm, q_order p2 hn ho]
  rw [forR_fold (E := fun b => [.sh (clD n ls), .sh d, .sh e, .sh (tupI a), .sh (tupI o), .sh (tupI b), .no]) (I := fun _ => True) (step := fun b x => bif decide (x ∈ b) && decide (clos n ls (wo b x) = a) then wo b x else b) trivial fun b x hx _ => ⟨?_, trivial⟩]
  · dsimp! []
  · dsimp! [bodR_eq, q_wo, q_closing_by hn]
theorem q_lboth {a c : List Int} : F__law_both cs [tupI a, tupI c] = .r (val (tupI (both a c))) := by
  unfold F__law_both r__law_both both
  dsimp! []
theorem q_lin {a c : List Int} : F__law_in cs [tupI a, tupI c] = .r (val (.bl (inL a c))) := by
  unfold F__law_in r__law_in inL
  dsimp! []
theorem q_lwo {a : List Int} {x : Int} : F__law_without cs [tupI a, .int x] = .r (val (tupI (wo a x))) := by
  unfold F__law_without r__law_without wo
  dsimp! []
theorem q_llots {n : Nat} (hn : n ≤ 6) : F__law_lots cs [.int n] = .r (tmp (.lst ((lots n).map tupI))) := by
  unfold F__law_lots r__law_lots
  dsimp! [if_pos (ri_n (show n ≤ 1000 by omega)), rgD_Rg]
  rw [show ([D.tup []] : List D) = ([[]] : List (List Int)).map tupI from rfl, forR_pre (E := fun out : List (List Int) => [.sh (.int n), .sh (.lst (out.map tupI)), .no, .no]) (s0 := [[]]) (step := fun out x => out ++ out.map (· ++ [x])) fun pre x post e => ?_]
  · dsimp! []
    rfl
  · obtain ⟨h1, h2⟩ := lots_body hn e
    generalize pre.foldl (fun out x => out ++ out.map (· ++ [x])) [[]] = out at h1 h2 ⊢
    dsimp! [bodR_eq, add_tup1, h1, add_lotsF h2]
theorem clos_cond {n : Nat} {a b x : List Int} : (bif inL a x && decide ((x.length : Int) < b.length) then x else b) = if inL a x = true ∧ x.length < b.length then x else b := by
  rw [Bool.cond_eq_ite]
  congr 1
  rw [Bool.and_eq_true, decide_eq_true_eq, Int.ofNat_lt]
theorem q_lclos {n : Nat} {ls : List (List Int)} {a : List Int} (hn : n ≤ 6) : F__law_closing cs [.int n, .tup (ls.map tupI), tupI a] = .r (val (tupI (clos n ls a))) := by
  unfold F__law_closing r__law_closing
  dsimp! [rgT_n (show n ≤ 1000 by omega)]
  rw [forR_fold (E := fun b => [.sh (.int n), .sh (.tup (ls.map tupI)), .sh (tupI a), .sh (tupI b), .no]) (I := fun _ => True) (step := fun best o => if inL a o = true ∧ o.length < best.length then o else best) trivial fun b x hx _ => ⟨?_, trivial⟩]
  · dsimp! []
    rfl
  · dsimp! [bodR_eq, q_lin, @clos_cond n]
theorem q_lextr {n : Nat} {ls : List (List Int)} {a : List Int} (hn : n ≤ 6) : F__law_extreme cs [.int n, .tup (ls.map tupI), tupI a] = .r (val (tupI (extr n ls a))) := by
  unfold F__law_extreme r__law_extreme extr
  dsimp! [q_lwo, q_lclos hn]
theorem q_lfree {n : Nat} {ls : List (List Int)} (hn : n ≤ 6) : F__law_free cs [.int n, .tup (ls.map tupI)] = .r (tmp (.lst ((free n ls).map tupI))) := by
  unfold F__law_free r__law_free free
  dsimp! [q_llots hn, q_lextr hn]
theorem q_lbases {n : Nat} {ls : List (List Int)} {a : List Int} (hn : n ≤ 6) : F__law_bases cs [.int n, .tup (ls.map tupI), tupI a] = .r (tmp (.lst ((bases n ls a).map tupI))) := by
  unfold F__law_bases r__law_bases bases
  dsimp! [q_llots hn, q_lclos hn, q_lin]
theorem q_lleft {n : Nat} {ls : List (List Int)} {a o : List Int} (hn : n ≤ 6) : F__law_left cs [.int n, .tup (ls.map tupI), tupI a, tupI o] = .r (val (tupI (left n ls a o))) := by
  unfold F__law_left r__law_left left
  dsimp! []
  rw [forR_fold (E := fun b => [.sh (.int n), .sh (.tup (ls.map tupI)), .sh (tupI b), .sh (tupI o), .no]) (I := fun _ => True) (step := fun o x => if x ∈ o ∧ clos n ls (wo o x) = clos n ls o then wo o x else o) trivial fun b x hx _ => ⟨?_, trivial⟩]
  · dsimp! []
  · have e : (bif decide (x ∈ b) && decide (clos n ls (wo b x) = clos n ls b) then wo b x else b) = if x ∈ b ∧ clos n ls (wo b x) = clos n ls b then wo b x else b := by
      rw [Bool.cond_eq_ite]
      congr 1
      rw [Bool.and_eq_true, decide_eq_true_eq, decide_eq_true_eq]
    dsimp! [bodR_eq, q_lwo, q_lclos hn, e]
end Sh
namespace Sh
open L2 PySem PySem.Spec PyProof.Rows
variable {cs : List Str}
def meetStep (f : List (List Int)) (l : List Int) : List (List Int) := f ++ (f.filter fun o => !decide (both l o ∈ f)).map (both l)
def meets (n : Nat) (ls : List (List Int)) : List (List Int) := setL (ls.foldl meetStep [Rg n])
theorem mem_meetStep {f : List (List Int)} {l a : List Int} : a ∈ meetStep f l ↔ a ∈ f ∨ ∃ o ∈ f, a = both l o := by
  unfold meetStep
  rw [List.mem_append, List.mem_map]
  constructor
  · rintro (h | ⟨o, ho, rfl⟩)
    · exact .inl h
    · exact .inr ⟨o, (List.mem_filter.mp ho).1, rfl⟩
  · rintro (h | ⟨o, ho, rfl⟩)
    · exact .inl h
    · by_cases h : both l o ∈ f
      · exact .inl h
      · exact .inr ⟨o, List.mem_filter.mpr ⟨ho, by simpa using h⟩, rfl⟩
theorem both_ext {n : Nat} {a b c : List Int} (ha : Lot n a) (hb : Lot n b) (h : ∀ x, x ∈ a ↔ x ∈ b ∧ x ∈ c) : a = both b c := Lot.ext ha (hb.both c) fun x => by rw [h, mem_both]
theorem Fam.step {n : Nat} {f : List (List Int)} {l : List Int} (h : Fam n f) (hl : Lot n l) : Fam n (meetStep f l) := by
  have lt : ∀ a ∈ meetStep f l, Lot n a := fun a ha => by
    rcases mem_meetStep.mp ha with ha | ⟨o, ho, rfl⟩
    · exact h.lot a ha
    · exact hl.both o
  refine ⟨lt, mem_meetStep.mpr (.inl h.top), fun a ha b hb => ?_⟩
  have la := lt a ha
  rcases mem_meetStep.mp ha with ha | ⟨o, ho, rfl⟩
  · rcases mem_meetStep.mp hb with hb | ⟨p, hp, rfl⟩
    · exact mem_meetStep.mpr (.inl (h.meet a ha b hb))
    · refine mem_meetStep.mpr (.inr ⟨both a p, h.meet a ha p hp, both_ext (la.both _) hl fun x => ?_⟩)
      simp only [mem_both]
      exact ⟨fun ⟨h1, h2, h3⟩ => ⟨h2, h1, h3⟩, fun ⟨h1, h2, h3⟩ => ⟨h2, h1, h3⟩⟩
  · rcases mem_meetStep.mp hb with hb | ⟨p, hp, rfl⟩
    · refine mem_meetStep.mpr (.inr ⟨both o b, h.meet o ho b hb, both_ext (la.both _) hl fun x => ?_⟩)
      simp only [mem_both, and_assoc]
    · refine mem_meetStep.mpr (.inr ⟨both o p, h.meet o ho p hp, both_ext (la.both _) hl fun x => ?_⟩)
      simp only [mem_both]
      exact ⟨fun ⟨⟨h1, h2⟩, _, h4⟩ => ⟨h1, h2, h4⟩, fun ⟨h1, h2, h4⟩ => ⟨⟨h1, h2⟩, h1, h4⟩⟩
theorem both_self {n : Nat} {a : List Int} (h : Lot n a) : both a a = a := (both_ext h h fun x => ⟨fun h => ⟨h, h⟩, fun h => h.1⟩).symm
theorem Fam.steps {n : Nat} : ∀ {ls f : List (List Int)}, Fam n f → (∀ a ∈ ls, Lot n a) → Fam n (ls.foldl meetStep f)
  | [], _, h, _ => h
  | l :: ls, f, h, hl => Fam.steps (ls := ls) (h.step (hl l List.mem_cons_self)) fun a ha => hl a (List.mem_cons_of_mem _ ha)
theorem Fam.one (n : Nat) : Fam n [Rg n] := ⟨fun a ha => by rw [List.mem_singleton.mp ha]; exact Lot.rg n, List.mem_singleton.mpr rfl, fun a ha b hb => by rw [List.mem_singleton.mp ha, List.mem_singleton.mp hb, both_self (Lot.rg n)]; exact List.mem_singleton.mpr rfl⟩
theorem Fam.set {n : Nat} {f : List (List Int)} (h : Fam n f) : FamS n (setL f) := ⟨⟨fun a ha => h.lot a (mem_setL.mp ha), mem_setL.mpr h.top, fun a ha b hb => mem_setL.mpr (h.meet a (mem_setL.mp ha) b (mem_setL.mp hb))⟩, setL_pw f⟩
theorem meets_fam {n : Nat} {ls : List (List Int)} (h : ∀ a ∈ ls, Lot n a) : FamS n (meets n ls) := ((Fam.one n).steps h).set
theorem meet_len : ∀ (ls f : List (List Int)), (ls.foldl meetStep f).length ≤ f.length * 2 ^ ls.length
  | [], f => by simp
  | l :: ls, f => by
    rw [List.foldl_cons]
    have h1 := meet_len ls (meetStep f l)
    have h2 : (meetStep f l).length ≤ f.length * 2 := by
      unfold meetStep
      rw [List.length_append, List.length_map]
      have := List.length_filter_le (fun o => !decide (both l o ∈ f)) f
      omega
    refine Nat.le_trans h1 ?_
    rw [List.length_cons, Nat.pow_succ, Nat.mul_comm (2 ^ ls.length) 2, ← Nat.mul_assoc]
    exact Nat.mul_le_mul_right _ h2
theorem Fam.few {n : Nat} {f : List (List Int)} (hn : n ≤ 5) (h : Fam n f) : (ded f).length + 1 < 64 := ded_len hn h.lot
theorem add_lotsZ {α : Type} {ls : List (List Int)} {xs : List α} {f : α → List Int} (h : ls.length + xs.length ≤ Z) : pOp .Add (.lst (ls.map tupI)) (.lst (xs.map fun x => tupI (f x))) = some (tmp (.lst ((ls ++ xs.map f).map tupI))) := by
  show (if (ls.map tupI).length + (xs.map fun x => tupI (f x)).length ≤ Z then some (tmp (D.lst (ls.map tupI ++ xs.map fun x => tupI (f x)))) else none) = _
  rw [if_pos (by rw [List.length_map, List.length_map]; exact h), List.map_append, List.map_map]
  rfl
theorem q_lmeetsG {n : Nat} {ls : List (List Int)} {d : D} (hd : sqL d = some (ls.map tupI)) (hn : n ≤ 6) (hfew : (ded (ls.foldl meetStep [Rg n])).length + 1 < 64) (hz : ∀ pre x post, ls = pre ++ x :: post → 2 * (pre.foldl meetStep [Rg n]).length ≤ Z) : F__law_meetings cs [.int n, d] = .r (val (.tup ((meets n ls).map tupI))) := by
  have f4 := sset_lots (cs := cs) (d := .lst ((ls.foldl meetStep [Rg n]).map tupI)) (ls := ls.foldl meetStep [Rg n]) rfl hfew
  unfold F__law_meetings r__law_meetings
  dsimp! [rgT_n (show n ≤ 1000 by omega), hd]
  rw [show ([tupI (Rg n)] : List D) = ([Rg n] : List (List Int)).map tupI from rfl, forR_pre (E := fun f : List (List Int) => [.sh (.int n), .sh d, .sh (.lst (f.map tupI)), .no, .no]) (s0 := [Rg n]) (step := meetStep) fun pre x post e => ?_]
  · dsimp! [f4]
    rfl
  · have h1 := hz pre x post e
    generalize pre.foldl meetStep [Rg n] = f at h1 ⊢
    have hf := List.length_filter_le (fun o => !decide (both x o ∈ f)) f
    have hz2 : f.length + (f.filter fun o => !decide (both x o ∈ f)).length ≤ Z := by omega
    dsimp! [bodR_eq, q_lboth, add_lotsZ hz2]
    rfl
theorem q_lmeets {n : Nat} {ls : List (List Int)} {d : D} (hd : sqL d = some (ls.map tupI)) (hn : n ≤ 5) (hz : ls.length ≤ 20) (h : ∀ a ∈ ls, Lot n a) : F__law_meetings cs [.int n, d] = .r (val (.tup ((meets n ls).map tupI))) := by
  refine q_lmeetsG hd (by omega) (((Fam.one n).steps h).few hn) fun pre x post e => ?_
  have hp : pre.length ≤ 20 := by
    have := congrArg List.length e
    rw [List.length_append] at this
    omega
  have h1 := meet_len pre [Rg n]
  have hp2 : 2 ^ pre.length ≤ 2 ^ 20 := Nat.pow_le_pow_right (by decide) hp
  unfold Z
  rw [List.length_singleton] at h1
  omega
theorem cut_to {l : List D} {k : Nat} : cutD l none (some (k : Int)) = l.take k := by
  have : HT.sIx l.length 0 none = 0 := rfl
  have e : HT.sIx l.length l.length (some (k : Int)) = min k l.length := by
    simp only [HT.sIx]
    rw [if_neg (by omega)]
    rfl
  unfold cutD
  rw [this, e]
  show (l.drop 0).take (min k l.length - 0) = l.take k
  rw [List.drop_zero, Nat.sub_zero]
  by_cases h : k ≤ l.length
  · rw [Nat.min_eq_left h]
  · rw [Nat.min_eq_right (by omega), List.take_of_length_le (Nat.le_refl _), List.take_of_length_le (by omega)]
def ends (row : List Int) : List (List Int) := (Rg (row.length + 1)).map fun k => srtI (row.take k.toNat)
theorem srtI_lot {n : Nat} {a : List Int} (h : a.Nodup) (hm : ∀ x ∈ a, 0 ≤ x ∧ x < n) : Lot n (srtI a) := by
  refine ⟨?_, fun x hx => hm x ((srtI_perm a).mem_iff.mp hx)⟩
  have h1 := srtI_pw a
  have h2 : (srtI a).Nodup := (srtI_perm a).nodup_iff.mpr h
  exact (h1.and (List.nodup_iff_pairwise_ne.mp h2)).imp fun ⟨a, b⟩ => by omega
theorem perm_rg {n : Nat} {a : List Int} (h : a.Perm (Rg n)) : a.Nodup ∧ ∀ x ∈ a, 0 ≤ x ∧ x < n := ⟨h.nodup_iff.mpr ((Rg_pw n).imp fun h => by omega), fun x hx => mem_Rg.mp (h.mem_iff.mp hx)⟩
theorem ends_lot {n : Nat} {a : List Int} (h : a.Perm (Rg n)) : ∀ e ∈ ends a, Lot n e := fun e he => by
  obtain ⟨k, _, rfl⟩ := List.mem_map.mp he
  obtain ⟨h1, h2⟩ := perm_rg h
  exact srtI_lot (h1.sublist (List.take_sublist _ _)) fun x hx => h2 x (List.mem_of_mem_take hx)
theorem ends_len (a : List Int) : (ends a).length = a.length + 1 := by unfold ends; rw [List.length_map, Rg_length]
theorem q_lends {a : List Int} (hz : a.length ≤ 900) : F__law_ends cs [.lst (a.map .int)] = .r (tmp (.lst ((ends a).map tupI))) := by
  have e1 : InR ((a.length : Int) + 1) := InR_of (by omega) (by omega)
  have e2 : rgD 0 ((a.length : Int) + 1) = (Rg (a.length + 1)).map .int := by rw [← rgD_Rg]; rfl
  have e3 : ∀ k ∈ Rg (a.length + 1), cutD (a.map D.int) none (some k) = (a.take k.toNat).map .int := fun k hk => by
    obtain ⟨h0, h1⟩ := mem_Rg.mp hk
    obtain ⟨k, rfl⟩ := Int.eq_ofNat_of_zero_le h0
    rw [cut_to, ← List.map_take]
    rfl
  have e4 : (Rg (a.length + 1)).length ≤ 1000 := by rw [Rg_length]; omega
  unfold F__law_ends r__law_ends ends
  dsimp! [if_pos e1, e2, e3, Zle e4]
  rw [List.map_map]
  rfl
theorem perm_erase {a : List Int} {i : Nat} (h : i < a.length) : (a[i] :: a.eraseIdx i).Perm a := by
  induction a generalizing i with
  | nil => simp at h
  | cons x a ih =>
    cases i with
    | zero => simp
    | succ i =>
      simp only [List.getElem_cons_succ, List.eraseIdx_cons_succ]
      exact (List.Perm.swap _ _ _).trans ((ih (by simpa using h)).cons x)
theorem w_shuffled {a : List Int} {d : D} {b : Nat} {Q : D × Bool → Nat → Prop} {E : Xc → Nat → Prop} (hd : sqL d = some (a.map .int)) (hz : a.length ≤ 900) (hb : a.length ≤ b) (hQ : ∀ p : List Int, p.Perm a → Q (tmp (.lst (p.map .int))) (b - a.length)) : W (F__law_shuffled cs [.pen, d]) b Q E := by
  have e0 : ∀ cs, pB1 cs .list d = some (tmp (.lst (a.map .int))) := fun cs => by show (sqL d).map _ = _; rw [hd]; rfl
  have e1 : ∀ cs, pB1 cs .len d = some (val (.int a.length)) := fun cs => by
    cases d <;> cases hd <;> simp only [len_tup, len_lst, List.length_map]
  unfold F__law_shuffled r__law_shuffled
  dsimp! [e0, e1, if_pos (ri_n (show a.length ≤ 1000 by omega)), rgD_Rg]
  ((try simp only [bind_assoc]); refine post_seq ?_)
  refine forR_post (I := fun pre ρ b' => ∃ left found : List Int, ρ = [.sh .pen, .sh d, .ow (.lst (left.map .int)), .ow (.lst (found.map .int)), .no] ∧ (found ++ left).Perm a ∧ left.length + pre.length = a.length ∧ b' = b - pre.length) ⟨a, [], rfl, by simp, by simp, rfl⟩ (fun pre x post ρ b' e hI => ?_) fun ρ b' hI => ?_
  · obtain ⟨left, found, rfl, hp, hl, rfl⟩ := hI
    have hx := congrArg List.length e
    rw [Rg_length, List.length_append, List.length_cons] at hx
    have h0 : 0 < left.length := by omega
    have hf : found.length ≤ 1000 := by
      have := hp.length_eq
      rw [List.length_append] at this
      omega
    have hz3 : decide (found.length < Z) = true := decide_eq_true (by unfold Z; omega)
    dsimp! [bodR_eq, drF_eq, bind_dr]
    refine post_draw (by omega) h0 (by omega) fun i hi => ?_
    have hk : (0 : Int) ≤ (i : Int) ∧ (i : Int) < Z := by unfold Z; omega
    have hg : (left.map D.int)[((i : Int)).toNat]? = some (.int left[i]) := by
      rw [show ((i : Int)).toNat = i by omega, List.getElem?_map, List.getElem?_eq_getElem hi]; rfl
    have he : (left.map D.int).eraseIdx ((i : Int)).toNat = (left.eraseIdx i).map .int := by
      rw [show ((i : Int)).toNat = i by omega, map_eraseI]
    dsimp! [if_pos hk, hg, he, hz3]
    refine post_r ⟨_, rfl, left.eraseIdx i, found ++ [left[i]], ?_, ?_, ?_, ?_⟩
    · rw [List.map_append]; rfl
    · refine List.Perm.trans ?_ hp
      rw [List.append_assoc]
      exact (perm_erase hi).append_left found
    · rw [List.length_eraseIdx_of_lt hi, List.length_append, List.length_singleton]; omega
    · rw [List.length_append, List.length_singleton]; omega
  · obtain ⟨left, found, rfl, hp, hl, rfl⟩ := hI
    rw [Rg_length] at hl
    have : left = [] := List.eq_nil_of_length_eq_zero (by omega)
    subst this
    rw [List.append_nil] at hp
    dsimp! []
    rw [Rg_length]
    exact post_r (hQ found hp)
theorem nat_add1 (n : Nat) : (1 : Int) + (n : Int) = ((n + 1 : Nat) : Int) := by omega
theorem w_drawn {m b : Nat} {Q : D × Bool → Nat → Prop} {E : Xc → Nat → Prop} (hm : 1 ≤ m) (hm5 : m ≤ 5) (hb : 40 ≤ b) (hQ : ∀ n ls b', 1 ≤ n → n ≤ m → FamS n ls → b ≤ b' + 40 → b' ≤ b → Q (val (.tup [.int (n : Nat), .tup (ls.map tupI)])) b') : W (F__law_drawn cs [.pen, .int (m : Nat)]) b Q E := by
  unfold F__law_drawn r__law_drawn
  dsimp! [drF_eq, bind_dr, nox_dr]
  refine post_draw (by omega) (by omega) (by omega) fun i hi => ?_
  dsimp! [nat_add1]
  refine post_draw (m := 6) (by omega) (by omega) (by omega) fun j hj => ?_
  dsimp! [if_pos (ri_n (show j ≤ 1000 by omega)), rgD_Rg, Zle (show (Rg j).length ≤ 1000 by rw [Rg_length]; omega), if_pos (ri_n (show i + 1 ≤ 1000 by omega)), Zle (show (Rg (i + 1)).length ≤ 1000 by rw [Rg_length]; omega)]
  ((try simp only [bind_assoc]); refine post_seq ?_)
  refine lcR_post (P := fun d => ∃ a, d = tupI a ∧ Lot (i + 1) a) (c := i + 1) (fun x hx b Q hb hQ => ?_) (by rw [Rg_length]; have := Nat.mul_le_mul (show i + 1 ≤ 5 by omega) (show j ≤ 5 by omega); omega) fun out b' e1 e2 e3 e4 => ?_
  · ((try simp only [bind_assoc]); refine post_seq ?_)
    refine lcR_sel (m := 2) (c := fun i => decide (i = 0)) (g := fun x => val (.int x)) (by omega) (by omega) (by rw [Rg_length]; omega) fun sub hs => ?_
    dsimp! []
    refine post_r (hQ _ _ ⟨sub, rfl, (Rg_pw _).sublist hs, fun x hx => mem_Rg.mp (hs.subset hx)⟩ ?_ (by omega))
    rw [Rg_length]; omega
  · have e5 : ∃ ls : List (List Int), out = ls.map tupI ∧ ∀ a ∈ ls, Lot (i + 1) a := by
      clear e1
      induction out with
      | nil => exact ⟨[], rfl, fun a h => by cases h⟩
      | cons d out ih =>
        obtain ⟨a, rfl, ha⟩ := e2 d List.mem_cons_self
        obtain ⟨ls, rfl, hl⟩ := ih fun d hd => e2 d (List.mem_cons_of_mem _ hd)
        exact ⟨a :: ls, rfl, fun c hc => (List.mem_cons.mp hc).elim (fun e => e ▸ ha) (hl c)⟩
    obtain ⟨ls, rfl, hl⟩ := e5
    rw [List.length_map, Rg_length] at e1
    rw [Rg_length] at e3
    have := Nat.mul_le_mul (show i + 1 ≤ 5 by omega) (show j ≤ 5 by omega)
    dsimp! [q_lmeets (n := i + 1) (ls := ls) (d := .lst (ls.map tupI)) rfl (by omega) (by omega) hl]
    exact post_r (hQ _ _ _ (by omega) (by omega) (meets_fam hl) (by omega) (by omega))
theorem w_shed {m b : Nat} {Q : D × Bool → Nat → Prop} {E : Xc → Nat → Prop} (hm : 1 ≤ m) (hm5 : m ≤ 5) (hb : 40 ≤ b) (hQ : ∀ n rows b', 1 ≤ n → n ≤ m → (∀ r ∈ rows, r.Perm (Rg n)) → rows ≠ [] → rows.length ≤ 3 → b ≤ b' + 40 → b' ≤ b → Q (val (.tup [.int (n : Nat), .tup ((meets n (rows.flatMap ends)).map tupI)])) b') : W (F__law_shed cs [.pen, .int (m : Nat)]) b Q E := by
  unfold F__law_shed r__law_shed
  dsimp! [drF_eq, bind_dr, nox_dr]
  refine post_draw (by omega) (by omega) (by omega) fun i hi => ?_
  dsimp! [nat_add1]
  refine post_draw (m := 3) (by omega) (by omega) (by omega) fun j hj => ?_
  dsimp! [nat_add1, if_pos (ri_n (show j + 1 ≤ 1000 by omega)), rgD_Rg]
  ((try simp only [bind_assoc]); refine post_seq ?_)
  have zl : ∀ x : Int, x ∈ Rg (i + 1) → True := fun _ _ => trivial
  refine forR_post (I := fun pre ρ b' => ∃ rows : List (List Int), ρ = [.sh .pen, .sh (.int (m : Nat)), .sh (.int (i + 1 : Nat)), .sh (.lst ((rows.flatMap ends).map tupI)), .no] ∧ (∀ r ∈ rows, r.Perm (Rg (i + 1))) ∧ rows.length = pre.length ∧ b' + 5 * pre.length + 2 ≥ b ∧ b' ≤ b) ⟨[], rfl, (fun r h => by cases h), rfl, (by show _ ≥ _; omega), by omega⟩ (fun pre x post ρ b' e hI => ?_) fun ρ b' hI => ?_
  · obtain ⟨rows, rfl, hr, hl, h1, h2⟩ := hI
    have hx := congrArg List.length e
    rw [Rg_length, List.length_append, List.length_cons] at hx
    dsimp! [bodR_eq, rgL_n (show i + 1 ≤ 1000 by omega)]
    ((try simp only [bind_assoc]); refine post_seq ?_)
    refine w_shuffled (a := Rg (i + 1)) rfl (by rw [Rg_length]; omega) (by rw [Rg_length]; omega) fun p hp => ?_
    have pl : p.length = i + 1 := by rw [hp.length_eq, Rg_length]
    have fl1 : ∀ rows : List (List Int), (∀ r ∈ rows, r.Perm (Rg (i + 1))) → (rows.flatMap ends).length = (i + 2) * rows.length := by
      intro rows
      induction rows with
      | nil => intro _; rfl
      | cons r rows ih =>
        intro h
        rw [List.flatMap_cons, List.length_append, ih fun r hr => h r (List.mem_cons_of_mem _ hr), ends_len, (h r List.mem_cons_self).length_eq, Rg_length, List.length_cons, Nat.mul_succ]
        omega
    have hz : (rows.flatMap ends).length + (ends p).length ≤ 1000 := by
      rw [fl1 rows hr, ends_len, pl]
      have := Nat.mul_le_mul (show i + 2 ≤ 6 by omega) (show rows.length ≤ 3 by omega)
      omega
    dsimp! [q_lends (a := p) (by omega), add_lots hz]
    rw [Rg_length]
    refine post_r ⟨_, rfl, rows ++ [p], ?_, fun r h => ?_, by rw [List.length_append, List.length_append, hl]; rfl, ?_, by omega⟩
    · rw [List.flatMap_append, List.flatMap_singleton]
    · rcases List.mem_append.mp h with h | h
      · exact hr r h
      · rw [List.mem_singleton.mp h]; exact hp
    · rw [List.length_append, List.length_singleton]; omega
  · obtain ⟨rows, rfl, hr, hl, h1, h2⟩ := hI
    rw [Rg_length] at hl h1
    have hlt : ∀ a ∈ rows.flatMap ends, Lot (i + 1) a := fun a ha => by
      obtain ⟨r, h1, h2⟩ := List.mem_flatMap.mp ha
      exact ends_lot (hr r h1) a h2
    have hln : (rows.flatMap ends).length ≤ 20 := by
      have : ∀ rows : List (List Int), (∀ r ∈ rows, r.Perm (Rg (i + 1))) → (rows.flatMap ends).length = (i + 2) * rows.length := by
        intro rows
        induction rows with
        | nil => intro _; rfl
        | cons r rows ih =>
          intro h
          rw [List.flatMap_cons, List.length_append, ih fun r hr => h r (List.mem_cons_of_mem _ hr), ends_len, (h r List.mem_cons_self).length_eq, Rg_length, List.length_cons, Nat.mul_succ]
          omega
      rw [this rows hr]
      have := Nat.mul_le_mul (show i + 2 ≤ 6 by omega) (show rows.length ≤ 3 by omega)
      omega
    dsimp! [q_lmeets (n := i + 1) (ls := rows.flatMap ends) (d := .lst ((rows.flatMap ends).map tupI)) rfl (by omega) hln hlt]
    exact post_r (hQ _ _ _ (by omega) (by omega) hr (by rintro rfl; simp at hl) (by omega) (by omega) (by omega))
theorem w_any {m b : Nat} {Q : D × Bool → Nat → Prop} {E : Xc → Nat → Prop} (hm : 1 ≤ m) (hm5 : m ≤ 5) (hb : 50 ≤ b) (hQ : ∀ n ls b', 1 ≤ n → n ≤ m → FamS n ls → b ≤ b' + 50 → b' ≤ b → Q (val (.tup [.int (n : Nat), .tup (ls.map tupI)])) b') : W (F__law_any cs [.pen, .int (m : Nat)]) b Q E := by
  unfold F__law_any r__law_any
  dsimp! [drF_eq, bind_dr, nox_dr]
  refine post_draw (m := 2) (by omega) (by omega) (by omega) fun i hi => ?_
  cases decide ((i : Int) = 0) with
  | true =>
    dsimp! []
    ((try simp only [bind_assoc]); refine post_seq ?_)
    refine w_shed hm hm5 (by omega) fun n rows b' h1 h2 h3 h4 h5 h6 h7 => ?_
    dsimp! []
    refine post_r (hQ _ _ _ h1 h2 (meets_fam fun a ha => ?_) (by omega) (by omega))
    obtain ⟨r, h1, h2⟩ := List.mem_flatMap.mp ha
    exact ends_lot (h3 r h1) a h2
  | false =>
    dsimp! []
    ((try simp only [bind_assoc]); refine post_seq ?_)
    refine w_drawn hm hm5 (by omega) fun n ls b' h1 h2 h3 h4 h5 => ?_
    dsimp! []
    exact post_r (hQ _ _ _ h1 h2 h3 (by omega) (by omega))
theorem w_pick {l : List D} {d : D} {b : Nat} {Q : D × Bool → Nat → Prop} {E : Xc → Nat → Prop} (hd : sqL d = some l) (h0 : 0 < l.length) (h1 : l.length < 1000000) (hb : 1 ≤ b) (hQ : ∀ x ∈ l, Q (val x) (b - 1)) : W (F__law_pick cs [.pen, d]) b Q E := by
  have e1 : ∀ cs, pB1 cs .len d = some (val (.int l.length)) := fun cs => by
    cases d <;> cases hd <;> rfl
  unfold F__law_pick r__law_pick
  dsimp! [e1, hd, drF_eq, bind_dr]
  refine post_draw hb h0 (by omega) fun i hi => ?_
  have e2 : l[i]? = some l[i] := List.getElem?_eq_getElem hi
  dsimp! [atI_nat, e2]
  exact post_r (hQ _ (List.getElem_mem hi))
def odds : List D := [.non, .int 5, .tup [.tup [], .tup [.int 0]], .str "closure"]
def badLots : List D := [.non, .int 5, .tup [.int 6], .tup [.int (-1)], .tup [.bl true], .tup [.int 0, .int 0], .tup [.int 1, .int 0], .str "0"]
theorem w_odd {b : Nat} {Q : D × Bool → Nat → Prop} {E : Xc → Nat → Prop} (hb : 1 ≤ b) (hQ : ∀ x ∈ odds, Q (val x) (b - 1)) : W (F__law_odd_closure cs [.pen]) b Q E := by
  unfold F__law_odd_closure r__law_odd_closure
  dsimp! []
  ((try simp only [bind_assoc]); refine post_seq ?_)
  refine w_pick (l := odds) rfl (by decide) (by decide) hb fun x hx => ?_
  dsimp! []
  exact post_r (hQ x hx)
theorem w_bad_lot {b : Nat} {Q : D × Bool → Nat → Prop} {E : Xc → Nat → Prop} (hb : 1 ≤ b) (hQ : ∀ x ∈ badLots, Q (val x) (b - 1)) : W (F__law_bad_lot cs [.pen]) b Q E := by
  unfold F__law_bad_lot r__law_bad_lot
  dsimp! []
  ((try simp only [bind_assoc]); refine post_seq ?_)
  refine w_pick (l := badLots) rfl (by decide) (by decide) hb fun x hx => ?_
  dsimp! []
  exact post_r (hQ x hx)
mutual
def lsts : D → D
  | .tup l => .lst (lstsL l)
  | d => d
def lstsL : List D → List D
  | [] => []
  | d :: r => lsts d :: lstsL r
end
theorem lstsL_map : ∀ l : List D, lstsL l = l.map lsts
  | [] => rfl
  | d :: r => by rw [lstsL, lstsL_map r]; rfl
mutual
theorem lsts_psd : ∀ d : D, intup (lsts d) = intup d ∧ knA cs (lsts d) = knA cs d ∧ dep (lsts d) = dep d
  | .tup l => by
    obtain ⟨h1, h2, h3⟩ := lstsL_psd l
    exact ⟨by rw [lsts, intup, intup, h1], by rw [lsts, knA, knA, h2], by rw [lsts, dep, dep, h3]⟩
  | .lst _ => ⟨rfl, rfl, rfl⟩
  | .non => ⟨rfl, rfl, rfl⟩
  | .bl _ => ⟨rfl, rfl, rfl⟩
  | .int _ => ⟨rfl, rfl, rfl⟩
  | .str _ => ⟨rfl, rfl, rfl⟩
  | .ty _ => ⟨rfl, rfl, rfl⟩
  | .glo _ => ⟨rfl, rfl, rfl⟩
  | .pen => ⟨rfl, rfl, rfl⟩
  | .dct _ _ => ⟨rfl, rfl, rfl⟩
  | .ins _ _ => ⟨rfl, rfl, rfl⟩
  | .clo _ _ => ⟨rfl, rfl, rfl⟩
  | .lam _ => ⟨rfl, rfl, rfl⟩
theorem lstsL_psd : ∀ l : List D, intupL (lstsL l) = intupL l ∧ knL cs (lstsL l) = knL cs l ∧ depL (lstsL l) = depL l
  | [] => ⟨rfl, rfl, rfl⟩
  | d :: r => by
    obtain ⟨h1, h2, h3⟩ := lsts_psd d
    obtain ⟨k1, k2, k3⟩ := lstsL_psd r
    exact ⟨by rw [lstsL, intupL, intupL, h1, k1], by rw [lstsL, knL, knL, h2, k2], by rw [lstsL, depL, depL, h3, k3]⟩
end
theorem q_llists_f : ∀ (k : Nat) (d : D), dep d < k → knA cs d = true → F__law_lists_f cs k [d] = .r (lsts d, tupB d)
  | 0, _, h, _ => absurd h (Nat.not_lt_zero _)
  | k + 1, d, h, hk => by
    have sq : ∀ l : List D, depL l + 1 < k + 1 → knL cs l = true → ∀ x ∈ l, F__law_lists_f cs k [x] = .r (lsts x, tupB x) := fun l h1 h2 x hx => q_llists_f k x (by have := depL_mem hx; omega) (knL_mem h2 x hx)
    unfold F__law_lists_f r__law_lists
    dsimp! [isi_eq, isi_tup (kn_of hk)]
    cases d <;> first | rfl | skip
    rename_i l
    have s1 := sq l h hk
    dsimp! [tupB_tup]
    dsimp! [lcR_m, s1, lsts, lstsL_map]
theorem w_either {d e : D} {b : Nat} {Q : D × Bool → Nat → Prop} {E : Xc → Nat → Prop} (h : Psd cs d e) (hb : 1 ≤ b) (hQ : ∀ x f, Psd cs x e → Q (x, f) (b - 1)) : W (F__law_either cs [.pen, d]) b Q E := by
  have h1 := lsts_psd (cs := cs) d
  have h2 : F__law_lists cs [d] = .r (lsts d, tupB d) := q_llists_f 9 d h.dp h.kn
  unfold F__law_either r__law_either
  dsimp! [drF_eq, bind_dr, h2]
  refine post_draw (m := 2) hb (by omega) (by omega) fun i hi => ?_
  cases decide ((i : Int) = 0) with
  | true =>
    dsimp! []
    exact post_r (hQ _ _ h)
  | false =>
    dsimp! []
    exact post_r (hQ _ _ ⟨h1.2.1.trans h.kn, by rw [h1.2.2]; exact h.dp, h1.1.trans h.tu⟩)
/-- what is shown -/
def rpS (d : D) : D := (rpD d).getD .non
theorem repr_eq {d : D} (h : Shw d) : pB1 cs .repr d = some (val (rpS d)) := by
  obtain ⟨s, h⟩ := h.ex
  show (rpD d).map val = _
  unfold rpS
  rw [h]; rfl
theorem eqD_rp {d : D} (h : Shw d) : eqD (rpS d) (rpS d) = some true := by
  obtain ⟨s, h⟩ := h.ex
  have e : rpS d = .str s := by unfold rpS; rw [h]; rfl
  rw [e, eqD_str, decide_eq_true rfl]
theorem shw_ints : ∀ {a : List Int}, (∀ x ∈ a, x.natAbs < 10 ^ 12) → shwL (a.map D.int)
  | [], _ => trivial
  | x :: a, h => by
    rw [List.map_cons, shwL]
    exact ⟨by have := h x List.mem_cons_self; simpa only [D.shw] using this, shw_ints fun y hy => h y (List.mem_cons_of_mem _ hy)⟩
theorem siz_ints : ∀ a : List Int, sizL (a.map D.int) = a.length
  | [] => rfl
  | x :: a => by
    have e : (D.int x).siz = 0 := rfl
    rw [List.map_cons, sizL, siz_ints a, e, List.length_cons]; omega
theorem dpt_ints : ∀ a : List Int, dptL (a.map D.int) = 0
  | [] => rfl
  | x :: a => by rw [List.map_cons, dptL, dpt_ints a]; rfl
theorem Lot.small {n : Nat} {a : List Int} (h : Lot n a) (hn : n ≤ 6) : ∀ x ∈ a, x.natAbs < 10 ^ 12 := fun x hx => by
  have := h.mem x hx
  omega
theorem rp_tupI {a : List Int} (h : ∀ x ∈ a, x.natAbs < 10 ^ 12) (hz : a.length ≤ 1000) : Rp (tupI a) := by
  refine ⟨?_, ?_, ?_⟩
  · unfold tupI; rw [D.shw]; exact shw_ints h
  · unfold tupI; rw [D.dpt, dpt_ints]; omega
  · unfold tupI; rw [D.siz, siz_ints]; omega
theorem shwL_lots : ∀ {ls : List (List Int)}, (∀ a ∈ ls, ∀ x ∈ a, x.natAbs < 10 ^ 12) → shwL (ls.map tupI)
  | [], _ => trivial
  | a :: ls, h => by
    rw [List.map_cons, shwL]
    exact ⟨by unfold tupI; rw [D.shw]; exact shw_ints (h a List.mem_cons_self), shwL_lots fun y hy => h y (List.mem_cons_of_mem _ hy)⟩
theorem dptL_lots : ∀ ls : List (List Int), dptL (ls.map tupI) ≤ 1
  | [] => Nat.zero_le _
  | a :: ls => by
    have h1 : (tupI a).dpt = 1 := by unfold tupI; rw [D.dpt, dpt_ints]
    have := dptL_lots ls
    rw [List.map_cons, dptL, h1]; omega
theorem sizL_lots : ∀ {ls : List (List Int)}, (∀ a ∈ ls, a.length ≤ 100) → sizL (ls.map tupI) ≤ 101 * ls.length
  | [], _ => Nat.zero_le _
  | a :: ls, h => by
    have h1 : (tupI a).siz = a.length := by unfold tupI; rw [D.siz, siz_ints]
    have := sizL_lots (ls := ls) fun y hy => h y (List.mem_cons_of_mem _ hy)
    have := h a List.mem_cons_self
    rw [List.map_cons, sizL, h1, List.length_cons]; omega
theorem rp_lots {n : Nat} {ls : List (List Int)} (hn : n ≤ 6) (h : ∀ a ∈ ls, Lot n a) (hz : ls.length ≤ 1000) : Rp (.tup (ls.map tupI)) := by
  refine ⟨?_, ?_, ?_⟩
  · rw [D.shw]; exact shwL_lots fun a ha => (h a ha).small hn
  · have := dptL_lots ls
    rw [D.dpt]; omega
  · have := sizL_lots (ls := ls) fun a ha => by have := (h a ha).len; omega
    rw [D.siz]; omega
theorem few_lots {n : Nat} {ls : List (List Int)} (hn : n ≤ 6) (nd : ls.Nodup) (h : ∀ a ∈ ls, Lot n a) : ls.length ≤ 64 := by
  have := nodup_len ls (allL n) nd fun a ha => mem_allL.mpr (h a ha)
  rw [allL_length] at this
  have : 2 ^ n ≤ 2 ^ 6 := Nat.pow_le_pow_right (by decide) hn
  omega
theorem shw_w {t : Str} {d : D} (ht : (t.cps.toList.all fun c => decide (c < 16 ^ 8)) = true) (hs : t.cps.size ≤ 100) (h : d.shw) (h1 : d.dpt ≤ 10) (h2 : d.siz ≤ 1000) : Shw (.tup [.str t, d]) := by
  refine .of ⟨?_, ?_, ?_⟩
  · simp only [D.shw, shwL, and_true]
    exact ⟨ht, h⟩
  · simp [D.dpt, dptL]; omega
  · simp only [D.siz, sizL]; omega
/-- a bad lot for few things -/
structure BadL (cs : List Str) (n : Nat) (d : D) : Prop where
  kn : knA cs d = true
  dp : dep d < 9
  hl : ∀ l, intup d = .tup l → l.length ≤ 1000 ∧ ∀ x ∈ l, Sh.kn cs x = true
  kn2 : Sh.kn cs (intup d) = true
  lb : lotB n (intup d) = false
  pl : d.plain = true
  sh : d.shw
  dd : d.dpt ≤ 10
  sz : d.siz ≤ 1000
theorem bad_lots {n : Nat} (hn : n ≤ 6) : ∀ d ∈ badLots, BadL cs n d := by
  intro d hd
  simp only [badLots, List.mem_cons, List.not_mem_nil, or_false] at hd
  have s0 : ("0" : Str).cps.size = 1 := by decide +kernel
  have a1 : ∀ x y : Int, y ≤ x → ascX [.int x, .int y] = false := fun x y h => by
    have : ascX [.int x, .int y] = (decide (x < y) && true) := rfl
    rw [this, decide_eq_false (by omega)]; rfl
  rcases hd with rfl | rfl | rfl | rfl | rfl | rfl | rfl | rfl <;> refine ⟨?_, ?_, ?_, ?_, ?_, ?_, ?_, ?_, ?_⟩ <;>
    simp [knA, knL, kn, dTy, dep, depL, intup, intupL, lotB, lotX, a1, D.plain, plainL, D.shw, shwL, D.dpt, dptL, D.siz, sizL, s0] <;> first | omega | decide +kernel
theorem q_lot_bad {n : Nat} {d : D} (h : BadL cs n d) : F_lot_from cs [.int n, d] = .x ⟨"BadLot", [("lot", d)]⟩ := by
  rw [q_lot_from h.kn h.dp h.hl h.kn2, h.lb]; rfl
/-- what is no closure -/
structure OddC (cs : List Str) (d : D) : Prop where
  kn : Sh.kn cs d = true
  no : clsB "Closure" d = false
  pl : d.plain = true
theorem odd_cls : ∀ d ∈ odds, OddC cs d := by
  intro d hd
  simp only [odds, List.mem_cons, List.not_mem_nil, or_false] at hd
  rcases hd with rfl | rfl | rfl | rfl <;> exact ⟨rfl, rfl, rfl⟩
theorem q_need_odd {d : D} (h : OddC cs d) : F_need_closure cs [d] = .x ⟨"Unlike", [("what", .str "closure")]⟩ := q_need_no h.kn h.no
end Sh
namespace Sh
open L2 PySem PySem.Spec PyProof.Rows
variable {cs : List Str}
abbrev xClo : Xc := ⟨"Unlike", [("what", .str "closure")]⟩
abbrev xOpen : Xc := ⟨"Unlike", [("what", .str "closed")]⟩
theorem q_lb_odd {d e : D} (h : OddC cs d) : F_least_bases cs [d, e] = .x xClo := by
  unfold F_least_bases r_least_bases
  dsimp! [q_need_odd h]
theorem q_lb_bad {n : Nat} {ls : List (List Int)} {d : D} (hc : cs.contains "Closure" = true) (h : BadL cs n d) : F_least_bases cs [clD n ls, d] = .x ⟨"BadLot", [("lot", d)]⟩ := by
  unfold F_least_bases r_least_bases
  dsimp! [q_need hc, q_closed_from_odd (q_lot_bad h)]
theorem q_lb_open {n : Nat} {ls : List (List Int)} {a : List Int} {d : D} (p : Psd cs d (tupI a)) (hc : cs.contains "Closure" = true) (hn : n ≤ 6) (h : Lot n a) (hm : a ∉ ls) : F_least_bases cs [clD n ls, d] = .x xOpen := by
  unfold F_least_bases r_least_bases
  dsimp! [q_need hc, q_closed_from_no p hn h hm]
theorem q_bb_odd {d e f : D} (h : OddC cs d) : F_base_by cs [d, e, f] = .x xClo := by
  unfold F_base_by r_base_by
  dsimp! [q_need_odd h]
theorem q_bb_bad {n : Nat} {ls : List (List Int)} {d f : D} (hc : cs.contains "Closure" = true) (h : BadL cs n d) : F_base_by cs [clD n ls, d, f] = .x ⟨"BadLot", [("lot", d)]⟩ := by
  unfold F_base_by r_base_by
  dsimp! [q_need hc, q_closed_from_odd (q_lot_bad h)]
theorem q_bb_open {n : Nat} {ls : List (List Int)} {a : List Int} {d f : D} (p : Psd cs d (tupI a)) (hc : cs.contains "Closure" = true) (hn : n ≤ 6) (h : Lot n a) (hm : a ∉ ls) : F_base_by cs [clD n ls, d, f] = .x xOpen := by
  unfold F_base_by r_base_by
  dsimp! [q_need hc, q_closed_from_no p hn h hm]
/-- a bad order for n things -/
structure BadO (cs : List Str) (n : Nat) (d : D) : Prop where
  kn : knA cs d = true
  dp : dep d < 9
  kn2 : Sh.kn cs (intup d) = true
  no : tupB (intup d) = false ∨ ∃ l, intup d = .tup l ∧ (l.length ≠ n ∨ (l.all isI = false ∧ ∀ x ∈ l, Sh.kn cs x = true))
  pl : d.plain = true
  sh : d.shw
  dd : d.dpt ≤ 10
  sz : d.siz ≤ 1000
theorem q_order_bad {n : Nat} {d : D} (h : BadO cs n d) : F_order_from_row cs [.int n, d] = .x ⟨"BadRow", [("row", d)]⟩ := by
  have e0 := q_in_tuples h.dp h.kn
  unfold F_order_from_row r_order_from_row F_is_tuple_of r_is_tuple_of
  rcases h.no with h1 | ⟨l, hl, h1 | ⟨h1, h2⟩⟩
  · dsimp! [e0, isi_eq, isi_tup h.kn2, h1]
  · rw [hl] at e0
    have e1 : decide ((l.length : Int) = (n : Int)) = false := decide_eq_false (by omega)
    dsimp! [e0, isi_eq, isi_tup kn_tup, tupB_tup, e1]
  · rw [hl] at e0
    have e2 : ∀ x ∈ l, F_is_whole cs [x] = .r (val (.bl (isI x))) := fun x hx => q_whole (h2 x hx)
    have e3 : (l.all fun x => isI x) = false := h1
    cases hd : decide ((l.length : Int) = (n : Int)) with
    | false => dsimp! [e0, isi_eq, isi_tup kn_tup, tupB_tup, hd]
    | true => dsimp! [lcR_m, e0, isi_eq, isi_tup kn_tup, tupB_tup, hd, e2, e3]
theorem q_bb_order {n : Nat} {ls : List (List Int)} {a : List Int} {d f : D} (p : Psd cs d (tupI a)) (hc : cs.contains "Closure" = true) (hn : n ≤ 6) (h : Lot n a) (hm : a ∈ ls) (ho : BadO cs n f) : F_base_by cs [clD n ls, d, f] = .x ⟨"BadRow", [("row", f)]⟩ := by
  unfold F_base_by r_base_by
  dsimp! [q_need hc, q_closed_from p hn h hm, q_order_bad ho]
theorem q_mb_odd {d : D} (h : OddC cs d) : F_many_bases cs [d] = .x xClo := by
  unfold F_many_bases r_many_bases
  dsimp! [q_need_odd h]
theorem flat_rep (n : Nat) (x : D) : (List.replicate n [x]).flatten = List.replicate n x := by
  induction n with
  | zero => rfl
  | succ n ih => rw [List.replicate_succ, List.flatten_cons, ih, List.replicate_succ]; rfl
theorem badO_of {n : Nat} {l : List D} (h : (l.length ≠ n ∨ (l.all isI = false ∧ ∀ x ∈ l, Sh.kn cs x = true))) (h1 : ∀ x ∈ l, x = .int 0 ∨ x = .bl true) (hz : l.length ≤ 100) : BadO cs n (.tup l) := by
  have key : knL cs l = true ∧ depL l = 0 ∧ intupL l = l ∧ plainL l = true ∧ shwL l ∧ dptL l = 0 ∧ sizL l = l.length := by
    clear h hz
    induction l with
    | nil => exact ⟨rfl, rfl, rfl, rfl, trivial, rfl, rfl⟩
    | cons x l ih =>
      obtain ⟨h2, h3, h4, h5, h6, h7, h8⟩ := ih fun y hy => h1 y (List.mem_cons_of_mem _ hy)
      rcases h1 x List.mem_cons_self with rfl | rfl
      · refine ⟨by simp [knL, knA, kn, dTy, h2], by simp [depL, dep, h3], by simp [intupL, intup, h4], by simp [plainL, D.plain, h5], by simp [shwL, D.shw, h6], by simp [dptL, D.dpt, h7], by simp [sizL, D.siz, h8]; omega⟩
      · refine ⟨by simp [knL, knA, kn, dTy, h2], by simp [depL, dep, h3], by simp [intupL, intup, h4], by simp [plainL, D.plain, h5], by simp [shwL, D.shw, h6], by simp [dptL, D.dpt, h7], by simp [sizL, D.siz, h8]; omega⟩
  obtain ⟨h2, h3, h4, h5, h6, h7, h8⟩ := key
  have e : intup (.tup l) = .tup l := by rw [intup, h4]
  exact ⟨by rw [knA]; exact h2, by rw [dep]; omega, by rw [e]; rfl, .inr ⟨l, e, h⟩, by rw [D.plain]; exact h5, by simp only [D.shw]; exact h6, by simp only [D.dpt]; omega, by simp only [D.siz]; omega⟩
/-- orders that are none, as they are drawn -/
def fars (n : Nat) : List D := [.non, .int 5, .tup (List.replicate 7 [D.int 0]).flatten, tupI (Rg 7), .str "0", .tup (List.replicate n [D.bl true]).flatten, .tup (List.replicate (n + 1) [D.int 0]).flatten]
theorem bad_fars {n : Nat} (h1 : 1 ≤ n) (hn : n ≤ 6) : ∀ d ∈ fars n, BadO cs n d := by
  intro d hd
  simp only [fars, List.mem_cons, List.not_mem_nil, or_false, flat_rep] at hd
  have s0 : ("0" : Str).cps.size = 1 := by decide +kernel
  rcases hd with rfl | rfl | rfl | rfl | rfl | rfl | rfl
  · exact ⟨rfl, by decide, rfl, .inl rfl, rfl, trivial, by decide, by decide⟩
  · refine ⟨rfl, by decide, rfl, .inl rfl, rfl, ?_, by decide, by decide⟩
    simp [D.shw]
  · exact badO_of (.inl (by rw [List.length_replicate]; omega)) (fun x hx => .inl (List.eq_of_mem_replicate hx)) (by simp)
  · have hr := rp_tupI (a := Rg 7) (fun x hx => by have := mem_Rg.mp hx; omega) (by rw [Rg_length]; omega)
    exact ⟨knA_tupI _, by rw [dep_tupI]; omega, by rw [intup_tupI]; rfl, .inr ⟨_, intup_tupI _, .inl (by rw [List.length_map, Rg_length]; omega)⟩, plain_tupI, hr.1, by decide +kernel, by decide +kernel⟩
  · refine ⟨rfl, by decide, rfl, .inl rfl, rfl, ?_, by decide, ?_⟩
    · simp only [D.shw]; decide +kernel
    · simp only [D.siz]; omega
  · refine badO_of (.inr ⟨?_, fun x hx => ?_⟩) (fun x hx => .inr (List.eq_of_mem_replicate hx)) (by simp; omega)
    · obtain ⟨m, rfl⟩ : ∃ m, n = m + 1 := ⟨n - 1, by omega⟩
      rw [List.replicate_succ]; rfl
    · rw [List.eq_of_mem_replicate hx]; rfl
  · exact badO_of (.inl (by rw [List.length_replicate]; omega)) (fun x hx => .inl (List.eq_of_mem_replicate hx)) (by simp; omega)
end Sh
namespace Sh
open L2 PySem PySem.Spec PyProof.Rows

/-- one lot within another -/
abbrev Wi (a b : List Int) : Prop := ∀ x ∈ a, x ∈ b
theorem len_of_wi {n m : Nat} {a b : List Int} (ha : Lot n a) (h : Wi a b) : a.length ≤ b.length := nodup_len a b ha.nodup h
theorem eq_of_wi {n m : Nat} {a b : List Int} (ha : Lot n a) (hb : Lot m b) (h : Wi a b) (hl : b.length ≤ a.length) : a = b := by
  refine Lot.ext ha hb fun x => ⟨h x, fun hx => ?_⟩
  by_cases hxa : x ∈ a
  · exact hxa
  · have : (x :: a).length ≤ b.length := nodup_len (x :: a) b (List.nodup_cons.mpr ⟨hxa, ha.nodup⟩) fun y hy => by
      rcases List.mem_cons.mp hy with rfl | hy
      · exact hx
      · exact h y hy
    rw [List.length_cons] at this
    omega
/-- the closing: closed, with the lot, within all others -/
structure IsClos (n : Nat) (ls : List (List Int)) (a c : List Int) : Prop where
  mem : c ∈ ls
  sup : Wi a c
  min : ∀ d ∈ ls, Wi a d → Wi c d
theorem IsClos.uniq {n : Nat} {ls : List (List Int)} {a c d : List Int} (f : Fam n ls) (h : IsClos n ls a c) (k : IsClos n ls a d) : c = d := Lot.ext (f.lot c h.mem) (f.lot d k.mem) fun x => ⟨fun hx => h.min d k.mem k.sup x hx, fun hx => k.min c h.mem h.sup x hx⟩
theorem clos_is {n : Nat} {ls : List (List Int)} {a : List Int} (f : Fam n ls) (ha : ∀ x ∈ a, 0 ≤ x ∧ x < n) : IsClos n ls a (clos n ls a) := by
  have key : ∀ (os : List (List Int)) (best : List Int), (∀ o ∈ os, o ∈ ls) → best ∈ ls → Wi a best →
      let r := os.foldl (fun best o => if inL a o = true ∧ o.length < best.length then o else best) best
      r ∈ ls ∧ Wi a r ∧ r.length ≤ best.length ∧ ∀ o ∈ os, Wi a o → r.length ≤ o.length := by
    intro os
    induction os with
    | nil => intro best _ h1 h2; exact ⟨h1, h2, Nat.le_refl _, fun o h => by cases h⟩
    | cons o os ih =>
      intro best hos h1 h2
      rw [List.foldl_cons]
      by_cases h : inL a o = true ∧ o.length < best.length
      · rw [if_pos h]
        obtain ⟨k1, k2, k3, k4⟩ := ih o (fun p hp => hos p (List.mem_cons_of_mem _ hp)) (hos o List.mem_cons_self) (inL_iff.mp h.1)
        refine ⟨k1, k2, by omega, fun p hp hw => ?_⟩
        rcases List.mem_cons.mp hp with rfl | hp
        · exact k3
        · exact k4 p hp hw
      · rw [if_neg h]
        obtain ⟨k1, k2, k3, k4⟩ := ih best (fun p hp => hos p (List.mem_cons_of_mem _ hp)) h1 h2
        refine ⟨k1, k2, k3, fun p hp hw => ?_⟩
        rcases List.mem_cons.mp hp with rfl | hp
        · have : ¬ p.length < best.length := fun hl => h ⟨inL_iff.mpr hw, hl⟩
          omega
        · exact k4 p hp hw
  obtain ⟨h1, h2, _, h4⟩ := key ls (Rg n) (fun _ h => h) f.top fun x hx => mem_Rg.mpr (ha x hx)
  refine ⟨h1, h2, fun d hd hw x hx => ?_⟩
  have hb : both (clos n ls a) d ∈ ls := f.meet _ h1 d hd
  have hl := h4 _ hb fun y hy => mem_both.mpr ⟨h2 y hy, hw y hy⟩
  have e := eq_of_wi (f.lot _ hb) (f.lot _ h1) (fun y hy => (mem_both.mp hy).1) hl
  have e : both (clos n ls a) d = clos n ls a := e
  rw [← e] at hx
  exact (mem_both.mp hx).2
section
variable {n : Nat} {ls : List (List Int)} {a b c : List Int} (f : Fam n ls)
include f
theorem clos_mem (ha : Lot n a) : clos n ls a ∈ ls := (clos_is f ha.mem).mem
theorem clos_lot (ha : Lot n a) : Lot n (clos n ls a) := f.lot _ (clos_mem f ha)
theorem clos_sup (ha : Lot n a) : Wi a (clos n ls a) := (clos_is f ha.mem).sup
theorem clos_min (ha : Lot n a) (hc : c ∈ ls) (h : Wi a c) : Wi (clos n ls a) c := (clos_is f ha.mem).min c hc h
theorem clos_mono (ha : Lot n a) (hb : Lot n b) (h : Wi a b) : Wi (clos n ls a) (clos n ls b) := clos_min f ha (clos_mem f hb) fun x hx => clos_sup f hb x (h x hx)
theorem clos_eq (ha : Lot n a) (hc : c ∈ ls) (h1 : Wi a c) (h2 : Wi c (clos n ls a)) : clos n ls a = c := (clos_is f ha.mem).uniq f ⟨hc, h1, fun d hd hw x hx => clos_min f ha hd hw x (h2 x hx)⟩
theorem clos_closed (hc : c ∈ ls) : clos n ls c = c := clos_eq f (f.lot c hc) hc (fun _ h => h) (clos_sup f (f.lot c hc))
theorem clos_idem (ha : Lot n a) : clos n ls (clos n ls a) = clos n ls a := clos_closed f (clos_mem f ha)
theorem closed_iff (ha : Lot n a) : a ∈ ls ↔ clos n ls a = a := ⟨clos_closed f, fun h => h ▸ clos_mem f ha⟩
/-- what lies between -/
theorem clos_btw (ha : Lot n a) (hb : Lot n b) (h1 : Wi a b) (h2 : Wi b (clos n ls a)) : clos n ls b = clos n ls a := clos_eq f hb (clos_mem f ha) h2 fun x hx => clos_mono f ha hb h1 x hx
/-- a thing that the others bring may go -/
theorem clos_wo {x : Int} (ha : Lot n a) (hx : x ∈ clos n ls (wo a x)) : clos n ls (wo a x) = clos n ls a := by
  refine (clos_btw f (ha.wo x) ha (fun y hy => (mem_wo.mp hy).1) fun y hy => ?_).symm
  by_cases e : y = x
  · exact e ▸ hx
  · exact clos_sup f (ha.wo x) y (mem_wo.mpr ⟨hy, e⟩)
theorem clos_wo_iff {x : Int} (ha : Lot n a) (hx : x ∈ a) : clos n ls (wo a x) = clos n ls a ↔ x ∈ clos n ls (wo a x) := ⟨fun h => h ▸ clos_sup f ha x hx, clos_wo f ha⟩
end
theorem wo_wi {a : List Int} {x : Int} : Wi (wo a x) a := fun y hy => (mem_wo.mp hy).1
theorem mem_bases {n : Nat} {ls : List (List Int)} {a b : List Int} : b ∈ bases n ls a ↔ Lot n b ∧ clos n ls b = a ∧ ∀ o, Lot n o → clos n ls o = a → Wi o b → o = b := by
  unfold bases
  simp only [List.mem_filter, mem_lots, decide_eq_true_eq, Bool.not_eq_true', List.any_eq_false, Bool.and_eq_true, decide_eq_false_iff_not, not_and, and_imp, inL_iff]
  constructor
  · rintro ⟨⟨h1, h2⟩, h3⟩
    exact ⟨h1, h2, fun o ho hc hw => Classical.byContradiction fun e => h3 o ho hc e hw⟩
  · rintro ⟨h1, h2, h3⟩
    exact ⟨⟨h1, h2⟩, fun o ho hc e hw => e (h3 o ho hc hw)⟩
theorem mem_extr {n : Nat} {ls : List (List Int)} {a : List Int} {x : Int} : x ∈ extr n ls a ↔ x ∈ a ∧ x ∉ clos n ls (wo a x) := by simp [extr]
theorem mem_free {n : Nat} {ls : List (List Int)} {a : List Int} : a ∈ free n ls ↔ Lot n a ∧ ∀ x ∈ a, x ∉ clos n ls (wo a x) := by
  unfold free
  rw [List.mem_filter, mem_lots, decide_eq_true_eq]
  constructor
  · rintro ⟨h1, h2⟩
    exact ⟨h1, fun x hx => (mem_extr.mp (by rw [h2]; exact hx)).2⟩
  · rintro ⟨h1, h2⟩
    refine ⟨h1, ?_⟩
    unfold extr
    exact List.filter_eq_self.mpr fun x hx => by simpa using h2 x hx
/-- a free lot is a least base of its closing -/
theorem free_base {n : Nat} {ls : List (List Int)} {b : List Int} (f : Fam n ls) : b ∈ free n ls ↔ b ∈ bases n ls (clos n ls b) := by
  rw [mem_free, mem_bases]
  constructor
  · rintro ⟨h1, h2⟩
    refine ⟨h1, rfl, fun o ho hc hw => Lot.ext ho h1 fun x => ⟨hw x, fun hx => Classical.byContradiction fun hn => h2 x hx ?_⟩⟩
    have : Wi o (wo b x) := fun y hy => mem_wo.mpr ⟨hw y hy, fun e => hn (e ▸ hy)⟩
    have := clos_mono f ho (h1.wo x) this
    rw [hc] at this
    exact this x (clos_sup f h1 x hx)
  · rintro ⟨h1, _, h3⟩
    refine ⟨h1, fun x hx hc => ?_⟩
    have := h3 (wo b x) (h1.wo x) (clos_wo f h1 hc) wo_wi
    have hx2 : x ∈ wo b x := by rw [this]; exact hx
    exact (mem_wo.mp hx2).2 rfl
theorem bases_free {n : Nat} {ls : List (List Int)} {a b : List Int} (f : Fam n ls) (h : b ∈ bases n ls a) : b ∈ free n ls := (free_base f).mpr (by rw [(mem_bases.mp h).2.1]; exact h)
theorem bases_nodup {n : Nat} {ls : List (List Int)} {a : List Int} : (bases n ls a).Nodup := ((lots_nodup n).filter _).filter _
/-- as many bases as free lots -/
theorem bases_count {n : Nat} {ls : List (List Int)} (f : Fam n ls) (nd : ls.Nodup) : (ls.map fun a => (bases n ls a).length).sum = (free n ls).length := by
  have e1 : (ls.map fun a => (bases n ls a).length).sum = (ls.flatMap fun a => bases n ls a).length := by rw [List.length_flatMap]
  have h1 : (ls.flatMap fun a => bases n ls a).Nodup := by
    have : ∀ l : List (List Int), l.Nodup → (l.flatMap fun a => bases n ls a).Nodup := by
      intro l
      induction l with
      | nil => intro _; exact List.nodup_nil
      | cons a l ih =>
        intro h
        obtain ⟨h1, h2⟩ := List.nodup_cons.mp h
        rw [List.flatMap_cons, List.nodup_append]
        refine ⟨bases_nodup, ih h2, fun x hx y hy e => h1 ?_⟩
        obtain ⟨c, hc, hy⟩ := List.mem_flatMap.mp hy
        subst e
        rw [← (mem_bases.mp hx).2.1, (mem_bases.mp hy).2.1]
        exact hc
    exact this ls nd
  have h2 : (free n ls).Nodup := (lots_nodup n).filter _
  rw [e1]
  refine Nat.le_antisymm (nodup_len _ _ h1 fun b hb => ?_) (nodup_len _ _ h2 fun b hb => ?_)
  · obtain ⟨a, ha, hb⟩ := List.mem_flatMap.mp hb
    exact bases_free f hb
  · exact List.mem_flatMap.mpr ⟨_, clos_mem f (mem_free.mp hb).1, (free_base f).mp hb⟩
/-- what is left -/
theorem left_ok {n : Nat} {ls : List (List Int)} {c : List Int} (f : Fam n ls) : ∀ (o a : List Int), Lot n a → clos n ls a = c → Lot n (left n ls a o) ∧ clos n ls (left n ls a o) = c ∧ Wi (left n ls a o) a ∧ ∀ x ∈ o, x ∈ left n ls a o → clos n ls (wo (left n ls a o) x) ≠ c
  | [], a, ha, hc => ⟨ha, hc, fun _ h => h, fun x h => by cases h⟩
  | x :: o, a, ha, hc => by
    have e : left n ls a (x :: o) = left n ls (if x ∈ a ∧ clos n ls (wo a x) = clos n ls a then wo a x else a) o := rfl
    rw [e]
    by_cases h : x ∈ a ∧ clos n ls (wo a x) = clos n ls a
    · rw [if_pos h]
      obtain ⟨h1, h2, h3, h4⟩ := left_ok f o (wo a x) (ha.wo x) (h.2.trans hc)
      refine ⟨h1, h2, fun y hy => wo_wi y (h3 y hy), fun y hy hm => ?_⟩
      rcases List.mem_cons.mp hy with rfl | hy
      · exact absurd rfl (mem_wo.mp (h3 _ hm)).2
      · exact h4 y hy hm
    · rw [if_neg h]
      obtain ⟨h1, h2, h3, h4⟩ := left_ok f o a ha hc
      refine ⟨h1, h2, h3, fun y hy hm he => ?_⟩
      rcases List.mem_cons.mp hy with rfl | hy
      · refine h ⟨h3 _ hm, ?_⟩
        rw [hc]
        have := clos_mono f (h1.wo y) (ha.wo y) fun z hz => mem_wo.mpr ⟨h3 z (mem_wo.mp hz).1, (mem_wo.mp hz).2⟩
        rw [he] at this
        exact Lot.ext (clos_lot f (ha.wo y)) (by rw [← hc]; exact clos_lot f ha) fun z => ⟨fun hz => by rw [← hc]; exact clos_mono f (ha.wo y) ha wo_wi z hz, fun hz => this z hz⟩
      · exact h4 y hy hm he
theorem left_base {n : Nat} {ls : List (List Int)} {a o : List Int} (f : Fam n ls) (ha : a ∈ ls) (ho : ∀ x ∈ Rg n, x ∈ o) : left n ls a o ∈ bases n ls a := by
  obtain ⟨h1, h2, h3, h4⟩ := left_ok f o a (f.lot a ha) (clos_closed f ha)
  refine mem_bases.mpr ⟨h1, h2, fun b hb hc hw => Lot.ext hb h1 fun x => ⟨hw x, fun hx => Classical.byContradiction fun hn => h4 x (ho x (mem_Rg.mpr (h1.mem x hx))) hx ?_⟩⟩
  have w1 : Wi b (wo (left n ls a o) x) := fun y hy => mem_wo.mpr ⟨hw y hy, fun e => hn (e ▸ hy)⟩
  have w2 := clos_mono f hb (h1.wo x) w1
  rw [hc] at w2
  have w3 := clos_mono f (h1.wo x) h1 wo_wi
  rw [h2] at w3
  exact Lot.ext (clos_lot f (h1.wo x)) (f.lot a ha) fun z => ⟨fun hz => w3 z hz, fun hz => w2 z hz⟩
/-- things outside of a base first, then the base: it is left -/
theorem left_go {n : Nat} {ls : List (List Int)} {a b : List Int} (f : Fam n ls) (hb : b ∈ bases n ls a) {c : List Int} (hc : Lot n c) (h1 : Wi b c) (h2 : Wi c a) : ∀ o : List Int, (∀ x ∈ o, x ∉ b) → (∀ x ∈ c, x ∈ b ∨ x ∈ o) → left n ls c o = b := by
  intro o
  obtain ⟨lb, cb, mb⟩ := mem_bases.mp hb
  induction o generalizing c with
  | nil =>
    intro _ h
    exact Lot.ext hc lb fun x => ⟨fun hx => (h x hx).elim id (fun h => nomatch h), h1 x⟩
  | cons x o ih =>
    intro ho h
    have e : left n ls c (x :: o) = left n ls (if x ∈ c ∧ clos n ls (wo c x) = clos n ls c then wo c x else c) o := rfl
    have hx : x ∉ b := ho x List.mem_cons_self
    have cl : ∀ d, Lot n d → Wi b d → Wi d a → clos n ls d = a := fun d hd w1 w2 => by
      rw [← cb]
      exact clos_btw f lb hd w1 (by rw [cb]; exact w2)
    rw [e]
    by_cases hm : x ∈ c
    · have w1 : Wi b (wo c x) := fun y hy => mem_wo.mpr ⟨h1 y hy, fun e => hx (e ▸ hy)⟩
      have w2 : Wi (wo c x) a := fun y hy => h2 y (wo_wi y hy)
      rw [if_pos ⟨hm, by rw [cl _ (hc.wo x) w1 w2, cl _ hc h1 h2]⟩]
      refine ih (hc.wo x) w1 w2 (fun y hy => ho y (List.mem_cons_of_mem _ hy)) fun y hy => ?_
      obtain ⟨hy1, hy2⟩ := mem_wo.mp hy
      rcases h y hy1 with hb | hb
      · exact .inl hb
      · exact .inr ((List.mem_cons.mp hb).resolve_left hy2)
    · rw [if_neg fun h => hm h.1]
      refine ih hc h1 h2 (fun y hy => ho y (List.mem_cons_of_mem _ hy)) fun y hy => ?_
      rcases h y hy with hb | hb
      · exact .inl hb
      · exact .inr ((List.mem_cons.mp hb).resolve_left fun e => hm (e ▸ hy))
/-- .. and nothing of it goes -/
theorem left_stay {n : Nat} {ls : List (List Int)} {a b : List Int} (f : Fam n ls) (hb : b ∈ bases n ls a) : ∀ o : List Int, left n ls b o = b
  | [] => rfl
  | x :: o => by
    have e : left n ls b (x :: o) = left n ls (if x ∈ b ∧ clos n ls (wo b x) = clos n ls b then wo b x else b) o := rfl
    have := (mem_free.mp (bases_free f hb)).2
    rw [e, if_neg, left_stay f hb o]
    rintro ⟨h1, h2⟩
    exact this x h1 (h2 ▸ clos_sup f (mem_bases.mp hb).1 x h1)
theorem left_append {n : Nat} {ls : List (List Int)} {a o p : List Int} : left n ls a (o ++ p) = left n ls (left n ls a o) p := by unfold left; rw [List.foldl_append]
theorem baseR_left {n : Nat} {ls : List (List Int)} {a : List Int} (f : Fam n ls) : ∀ (o b : List Int), Lot n b → clos n ls b = a → o.foldl (fun b x => bif decide (x ∈ b) && decide (clos n ls (wo b x) = a) then wo b x else b) b = left n ls b o
  | [], _, _, _ => rfl
  | x :: o, b, hb, hc => by
    have e : left n ls b (x :: o) = left n ls (if x ∈ b ∧ clos n ls (wo b x) = clos n ls b then wo b x else b) o := rfl
    rw [List.foldl_cons, e]
    by_cases h : x ∈ b ∧ clos n ls (wo b x) = clos n ls b
    · have h2 : (decide (x ∈ b) && decide (clos n ls (wo b x) = a)) = true := by simp [h.1, h.2, hc]
      rw [if_pos h, h2, cond_true]
      exact baseR_left f o _ (hb.wo x) (h.2.trans hc)
    · have h2 : (decide (x ∈ b) && decide (clos n ls (wo b x) = a)) = false := by
        cases q : (decide (x ∈ b) && decide (clos n ls (wo b x) = a)) with
        | false => rfl
        | true =>
          simp only [Bool.and_eq_true, decide_eq_true_eq] at q
          exact absurd ⟨q.1, q.2.trans hc.symm⟩ h
      rw [if_neg h, h2, cond_false]
      exact baseR_left f o b hb hc
/-- things outside, then a base: all things once -/
theorem rest_perm {n : Nat} {b : List Int} (hb : Lot n b) : ((Rg n).filter (fun k => !decide (k ∈ b)) ++ b).Perm (Rg n) := by
  have nd : ((Rg n).filter (fun k => !decide (k ∈ b)) ++ b).Nodup := by
    rw [List.nodup_append]
    refine ⟨(Lot.rg n).nodup.filter _, hb.nodup, fun x hx y hy e => ?_⟩
    subst e
    have := (List.mem_filter.mp hx).2
    simp [hy] at this
  refine (List.perm_ext_iff_of_nodup nd (Lot.rg n).nodup).mpr fun x => ?_
  rw [List.mem_append, List.mem_filter]
  constructor
  · rintro (h | h)
    · exact h.1
    · exact mem_Rg.mpr (hb.mem x h)
  · intro h
    by_cases hx : x ∈ b
    · exact .inr hx
    · exact .inl ⟨h, by simpa using hx⟩
theorem left_rest {n : Nat} {ls : List (List Int)} {a b : List Int} (f : Fam n ls) (ha : a ∈ ls) (hb : b ∈ bases n ls a) : left n ls a ((Rg n).filter (fun k => !decide (k ∈ b)) ++ b) = b := by
  have la := f.lot a ha
  obtain ⟨lb, cb, _⟩ := mem_bases.mp hb
  rw [left_append, left_go f hb la (by rw [← cb]; exact clos_sup f lb) (fun _ h => h), left_stay f hb]
  · intro x hx
    simpa using (List.mem_filter.mp hx).2
  · intro x hx
    by_cases h : x ∈ b
    · exact .inl h
    · exact .inr (List.mem_filter.mpr ⟨mem_Rg.mpr (la.mem x hx), by simpa using h⟩)
theorem sum_cast {α : Type} (f : α → Nat) : ∀ l : List α, (l.map fun a => (f a : Int)).sum = (((l.map f).sum : Nat) : Int)
  | [] => rfl
  | a :: l => by
    simp only [List.map_cons, List.sum_cons, sum_cast f l]
    omega
end Sh
namespace Sh
open L2 PySem PySem.Spec PyProof.Rows
/-- a lot with one thing more -/
def ins (a : List Int) (x : Int) : List Int := setI (a ++ [x])
theorem mem_ins {a : List Int} {x y : Int} : y ∈ ins a x ↔ y ∈ a ∨ y = x := by
  unfold ins
  rw [mem_setI, List.mem_append, List.mem_singleton]
theorem Lot.ins {n : Nat} {a : List Int} {x : Int} (h : Lot n a) (h0 : 0 ≤ x) (h1 : x < n) : Lot n (ins a x) := by
  refine ⟨setI_pw _, fun y hy => ?_⟩
  rcases mem_ins.mp hy with hy | rfl
  · exact h.mem y hy
  · exact ⟨h0, h1⟩
def outs (n : Nat) (a : List Int) : List Int := (Rg n).filter fun x => !decide (x ∈ a)
theorem mem_outs {n : Nat} {a : List Int} {x : Int} : x ∈ outs n a ↔ (0 ≤ x ∧ x < n) ∧ x ∉ a := by
  unfold outs
  rw [List.mem_filter, mem_Rg]
  simp
def barB (n : Nat) (ls : List (List Int)) (a : List Int) (x y : Int) : Bool := decide (y ∈ clos n ls (ins a x)) && decide (x ∈ clos n ls (ins a y))
def bars (n : Nat) (ls : List (List Int)) : List (List Int × Int × Int) := ls.flatMap fun a => (outs n a).flatMap fun x => (((outs n a).filter fun y => decide (x < y)).filter fun y => barB n ls a x y).map fun y => (a, x, y)
structure Bar (n : Nat) (ls : List (List Int)) (a : List Int) (x y : Int) : Prop where
  mem : a ∈ ls
  x0 : 0 ≤ x
  x1 : x < n
  y0 : 0 ≤ y
  y1 : y < n
  xa : x ∉ a
  ya : y ∉ a
  ne : x ≠ y
  xy : y ∈ clos n ls (ins a x)
  yx : x ∈ clos n ls (ins a y)
theorem Bar.symm {n : Nat} {ls : List (List Int)} {a : List Int} {x y : Int} (h : Bar n ls a x y) : Bar n ls a y x := ⟨h.mem, h.y0, h.y1, h.x0, h.x1, h.ya, h.xa, h.ne.symm, h.yx, h.xy⟩
theorem mem_bars {n : Nat} {ls : List (List Int)} {a : List Int} {x y : Int} : (a, x, y) ∈ bars n ls ↔ Bar n ls a x y ∧ x < y := by
  unfold bars barB
  simp only [List.mem_flatMap, List.mem_map, List.mem_filter, mem_outs, Prod.mk.injEq, decide_eq_true_eq, Bool.and_eq_true]
  constructor
  · rintro ⟨b, hb, z, ⟨⟨z0, z1⟩, z2⟩, w, ⟨⟨⟨⟨w0, w1⟩, w2⟩, w3⟩, w4, w5⟩, rfl, rfl, rfl⟩
    exact ⟨⟨hb, z0, z1, w0, w1, z2, w2, by omega, w4, w5⟩, w3⟩
  · rintro ⟨h, hl⟩
    exact ⟨a, h.mem, x, ⟨⟨h.x0, h.x1⟩, h.xa⟩, y, ⟨⟨⟨⟨h.y0, h.y1⟩, h.ya⟩, hl⟩, h.xy, h.yx⟩, rfl, rfl, rfl⟩
theorem bars_nil {n : Nat} {ls : List (List Int)} : bars n ls = [] ↔ ∀ a x y, ¬ Bar n ls a x y := by
  constructor
  · intro h a x y hb
    rcases Int.lt_or_gt_of_ne hb.ne with l | l
    · have := mem_bars.mpr ⟨hb, l⟩
      rw [h] at this; cases this
    · have := mem_bars.mpr ⟨hb.symm, l⟩
      rw [h] at this; cases this
  · intro h
    cases e : bars n ls with
    | nil => rfl
    | cons b r =>
      obtain ⟨a, x, y⟩ := b
      exact absurd (mem_bars.mp (by rw [e]; exact List.mem_cons_self)).1 (h a x y)
theorem Lot.extr {n : Nat} {ls : List (List Int)} {a : List Int} (h : Lot n a) : Lot n (extr n ls a) := by
  refine ⟨?_, fun x hx => h.mem x (mem_extr.mp hx).1⟩
  unfold Sh.extr
  exact h.pw.filter _
/-- one of greatest length -/
theorem longest : ∀ (l : List (List Int)), l ≠ [] → ∃ c ∈ l, ∀ d ∈ l, d.length ≤ c.length
  | [], h => absurd rfl h
  | [c], _ => ⟨c, List.mem_cons_self, fun d hd => by rw [List.mem_singleton.mp hd]; exact Nat.le_refl _⟩
  | a :: b :: l, _ => by
    obtain ⟨c, hc, h⟩ := longest (b :: l) (by simp)
    by_cases k : a.length ≤ c.length
    · exact ⟨c, List.mem_cons_of_mem _ hc, fun d hd => (List.mem_cons.mp hd).elim (fun e => e ▸ k) (h d)⟩
    · exact ⟨a, List.mem_cons_self, fun d hd => (List.mem_cons.mp hd).elim (fun e => e ▸ Nat.le_refl _) fun hd => by have := h d hd; omega⟩
section
variable {n : Nat} {ls : List (List Int)} {a : List Int} (f : Fam n ls)
include f
theorem extr_span (nb : ∀ a x y, ¬ Bar n ls a x y) (ha : a ∈ ls) : clos n ls (extr n ls a) = a := by
  have la := f.lot a ha
  have le := la.extr (ls := ls)
  refine clos_eq f le ha (fun x hx => (mem_extr.mp hx).1) fun x hx => Classical.byContradiction fun hn => ?_
  -- closed lots between, not all of it
  obtain ⟨c, hc, hmax⟩ := longest (ls.filter fun c => inL (extr n ls a) c && inL c a && !inL a c) (by
    intro e
    have : clos n ls (extr n ls a) ∈ ls.filter fun c => inL (extr n ls a) c && inL c a && !inL a c := by
      rw [List.mem_filter]
      refine ⟨clos_mem f le, ?_⟩
      rw [Bool.and_eq_true, Bool.and_eq_true, Bool.not_eq_true']
      refine ⟨⟨inL_iff.mpr (clos_sup f le), inL_iff.mpr (clos_min f le ha fun y hy => (mem_extr.mp hy).1)⟩, ?_⟩
      cases q : inL a (clos n ls (extr n ls a)) with
      | false => rfl
      | true => exact absurd (inL_iff.mp q x hx) hn
    rw [e] at this
    cases this)
  rw [List.mem_filter, Bool.and_eq_true, Bool.and_eq_true, Bool.not_eq_true'] at hc
  obtain ⟨hc, ⟨h1, h2⟩, h3⟩ := hc
  have h1 := inL_iff.mp h1
  have h2 := inL_iff.mp h2
  have lc := f.lot c hc
  have all : ∀ z ∈ a, z ∉ c → Wi a (clos n ls (ins c z)) := fun z hz hzc => by
    have hzm := la.mem z hz
    have li := lc.ins hzm.1 hzm.2
    cases q : inL a (clos n ls (ins c z)) with
    | true => exact inL_iff.mp q
    | false =>
      have hw : Wi c (clos n ls (ins c z)) := fun y hy => clos_sup f li y (mem_ins.mpr (.inl hy))
      have := hmax (clos n ls (ins c z)) (by
        rw [List.mem_filter, Bool.and_eq_true, Bool.and_eq_true, Bool.not_eq_true']
        refine ⟨clos_mem f li, ⟨inL_iff.mpr fun y hy => hw y (h1 y hy), inL_iff.mpr (clos_min f li ha fun y hy => ?_)⟩, q⟩
        rcases mem_ins.mp hy with hy | rfl
        · exact h2 y hy
        · exact hz)
      have e := eq_of_wi lc (clos_lot f li) hw this
      exact absurd (by rw [e]; exact clos_sup f li z (mem_ins.mpr (.inr rfl))) hzc
  have ⟨z, hz, hzc⟩ : ∃ z ∈ a, z ∉ c := Classical.byContradiction fun h => by
    have : inL a c = true := inL_iff.mpr fun y hy => Classical.byContradiction fun hn => h ⟨y, hy, hn⟩
    rw [this] at h3; cases h3
  have hzm := la.mem z hz
  by_cases h : ∃ y ∈ a, y ∉ c ∧ y ≠ z
  · obtain ⟨y, hy, hyc, hne⟩ := h
    have hym := la.mem y hy
    exact nb c z y ⟨hc, hzm.1, hzm.2, hym.1, hym.2, hzc, hyc, hne.symm, all z hz hzc y hy, all y hy hyc z hz⟩
  · have e : clos n ls (wo a z) = c := by
      refine clos_eq f (la.wo z) hc (fun y hy => ?_) fun y hy => clos_sup f (la.wo z) y (mem_wo.mpr ⟨h2 y hy, fun e => hzc (e ▸ hy)⟩)
      obtain ⟨y1, y2⟩ := mem_wo.mp hy
      exact Classical.byContradiction fun hn => h ⟨y, y1, hn, y2⟩
    exact hzc (h1 z (mem_extr.mpr ⟨hz, by rw [e]; exact hzc⟩))
theorem extr_in {o : List Int} (ha : a ∈ ls) (ho : Lot n o) (hc : clos n ls o = a) : Wi (extr n ls a) o := fun x hx => Classical.byContradiction fun hn => by
  obtain ⟨h1, h2⟩ := mem_extr.mp hx
  have w : Wi o (wo a x) := fun y hy => mem_wo.mpr ⟨by rw [← hc]; exact clos_sup f ho y hy, fun e => hn (e ▸ hy)⟩
  have := clos_mono f ho ((f.lot a ha).wo x) w
  rw [hc] at this
  exact h2 (this x h1)
theorem one_of_span (ha : a ∈ ls) (h : clos n ls (extr n ls a) = a) : bases n ls a = [extr n ls a] := by
  have le := (f.lot a ha).extr (ls := ls)
  have all : ∀ b ∈ bases n ls a, b = extr n ls a := fun b hb => by
    obtain ⟨h1, h2, h3⟩ := mem_bases.mp hb
    exact (h3 _ le h (extr_in f ha h1 h2)).symm
  have me : extr n ls a ∈ bases n ls a := mem_bases.mpr ⟨le, h, fun o ho hc hw => Lot.ext ho le fun x => ⟨hw x, extr_in f ha ho hc x⟩⟩
  have nd := bases_nodup (n := n) (ls := ls) (a := a)
  cases e : bases n ls a with
  | nil => rw [e] at me; cases me
  | cons b r =>
    rw [e] at all nd
    have hb := all b List.mem_cons_self
    cases r with
    | nil => rw [hb]
    | cons c r =>
      have hc := all c (by simp)
      rw [hb, hc] at nd
      simp at nd
theorem base_in {o : List Int} (ho : Lot n o) (hc : clos n ls o = a) : ∃ b ∈ bases n ls a, Wi b o := by
  obtain ⟨h1, h2, h3, h4⟩ := left_ok f (Rg n) o ho hc
  refine ⟨left n ls o (Rg n), mem_bases.mpr ⟨h1, h2, fun b hb hb2 hw => Lot.ext hb h1 fun x => ⟨hw x, fun hx => Classical.byContradiction fun hn => h4 x (mem_Rg.mpr (h1.mem x hx)) hx ?_⟩⟩, h3⟩
  have w1 : Wi b (wo (left n ls o (Rg n)) x) := fun y hy => mem_wo.mpr ⟨hw y hy, fun e => hn (e ▸ hy)⟩
  have w2 := clos_mono f hb (h1.wo x) w1
  have w3 := clos_mono f (h1.wo x) h1 wo_wi
  rw [h2] at w3
  rw [hb2] at w2
  exact Lot.ext (clos_lot f (h1.wo x)) (by rw [← hc]; exact clos_lot f ho) fun z => ⟨fun hz => w3 z hz, fun hz => w2 z hz⟩
theorem Bar.two {x y : Int} (h : Bar n ls a x y) : ∃ c ∈ ls, 1 < (bases n ls c).length := by
  have la := f.lot a h.mem
  have lx := la.ins h.x0 h.x1
  have ly := la.ins h.y0 h.y1
  have e : clos n ls (ins a y) = clos n ls (ins a x) := by
    refine clos_eq f ly (clos_mem f lx) (fun z hz => ?_) (clos_min f lx (clos_mem f ly) fun z hz => ?_)
    · rcases mem_ins.mp hz with hz | rfl
      · exact clos_sup f lx z (mem_ins.mpr (.inl hz))
      · exact h.xy
    · rcases mem_ins.mp hz with hz | rfl
      · exact clos_sup f ly z (mem_ins.mpr (.inl hz))
      · exact h.yx
  obtain ⟨b, hb, wb⟩ := base_in f lx rfl
  obtain ⟨d, hd, wd⟩ := base_in f ly e
  refine ⟨_, clos_mem f lx, ?_⟩
  have hxb : x ∈ b := Classical.byContradiction fun hn => by
    obtain ⟨l1, l2, _⟩ := mem_bases.mp hb
    have : Wi (clos n ls b) a := clos_min f l1 h.mem fun z hz => (mem_ins.mp (wb z hz)).elim id fun e => absurd hz (e ▸ hn)
    rw [l2] at this
    exact h.xa (this x (clos_sup f lx x (mem_ins.mpr (.inr rfl))))
  have hxd : x ∉ d := fun hx => (mem_ins.mp (wd x hx)).elim h.xa h.ne
  have ne : b ≠ d := fun e => hxd (e ▸ hxb)
  cases q : bases n ls (clos n ls (ins a x)) with
  | nil => rw [q] at hb; cases hb
  | cons u r =>
    cases r with
    | nil =>
      rw [q, List.mem_singleton] at hb hd
      exact absurd (hb.trans hd.symm) ne
    | cons v r => simp
theorem bases_ne (ha : a ∈ ls) : bases n ls a ≠ [] := by
  obtain ⟨b, hb, _⟩ := base_in f (f.lot a ha) (clos_closed f ha)
  intro e; rw [e] at hb; cases hb
/-- it sheds: each closed lot has one base -/
theorem shed_bases (h : bars n ls = []) (ha : a ∈ ls) : bases n ls a = [extr n ls a] := one_of_span f ha (extr_span f (bars_nil.mp h) ha)
theorem shed_iff : bars n ls = [] ↔ ls.find? (fun a => decide (1 < (bases n ls a).length)) = none := by
  rw [List.find?_eq_none]
  constructor
  · intro h a ha
    rw [shed_bases f h ha]
    simp
  · intro h
    rw [bars_nil]
    intro a x y hb
    obtain ⟨c, hc, hl⟩ := hb.two f
    exact h c hc (decide_eq_true hl)
end
end Sh
namespace Sh
open L2 PySem PySem.Spec PyProof.Rows
variable {cs : List Str}
def lstB : D → Bool
  | .lst _ => true
  | _ => false
theorem isi_lst {d : D} (hk : kn cs d = true) : isiD cs [.ty "list"] d = some (.bl (lstB d)) := isB_kn hk (by cases d <;> first | rfl | (cases hk; done))
def cpy : D → D
  | .lst l => .tup l
  | d => d
theorem q_copied {d : D} (hk : kn cs d = true) : F_copied cs [d] = .r (val (cpy d)) := by
  unfold F_copied r_copied
  dsimp! [run_eq, isi_eq, isi_lst hk]
  cases d <;> rfl
def oneD (r : D) : D := .ins "OneBase" [("rows", r)]
def twoD (l o p : D) : D := .ins "TwoBases" [("lot", l), ("one", o), ("other", p)]
theorem att_rows {d : D} : pB1 cs (.att "rows") (oneD d) = some (val d) := by rfl
theorem att_lot {l o p : D} : pB1 cs (.att "lot") (twoD l o p) = some (val l) := by rfl
theorem att_one {l o p : D} : pB1 cs (.att "one") (twoD l o p) = some (val o) := by rfl
theorem att_other {l o p : D} : pB1 cs (.att "other") (twoD l o p) = some (val p) := by rfl
theorem cls_1 : (("OneBase" : Str) == ("OneBase" : Str)) = true := by decide +kernel
theorem cls_2 : (("TwoBases" : Str) == ("TwoBases" : Str)) = true := by decide +kernel
theorem cls_12 : (("OneBase" : Str) == ("TwoBases" : Str)) = false := by decide +kernel
theorem cls_21 : (("TwoBases" : Str) == ("OneBase" : Str)) = false := by decide +kernel
theorem one_1 {d : D} : clsB "OneBase" (oneD d) = true := cls_1
theorem one_2 {d : D} : clsB "TwoBases" (oneD d) = false := cls_12
theorem two_1 {l o p : D} : clsB "OneBase" (twoD l o p) = false := cls_21
theorem two_2 {l o p : D} : clsB "TwoBases" (twoD l o p) = true := cls_2
theorem q_One {d : D} (hc : cs.contains "OneBase" = true) (hk : kn cs d = true) : F_OneBase cs [d] = .r (tmp (oneD (cpy d))) := by
  have f1 : fldNs.contains ("rows" : Str) = true := by decide +kernel
  unfold F_OneBase r_OneBase fl_OneBase
  dsimp! [q_copied hk, hc, f1]
  rfl
theorem q_Two {l o p : D} (hc : cs.contains "TwoBases" = true) (h1 : kn cs l = true) (h2 : kn cs o = true) (h3 : kn cs p = true) : F_TwoBases cs [l, o, p] = .r (tmp (twoD (cpy l) (cpy o) (cpy p))) := by
  have f1 : fldNs.contains ("lot" : Str) = true := by decide +kernel
  have f2 : fldNs.contains ("one" : Str) = true := by decide +kernel
  have f3 : fldNs.contains ("other" : Str) = true := by decide +kernel
  have e1 : (("lot" : Str) == ("one" : Str)) = false := by decide +kernel
  have e2 : (("lot" : Str) == ("other" : Str)) = false := by decide +kernel
  have e3 : (("one" : Str) == ("other" : Str)) = false := by decide +kernel
  unfold F_TwoBases r_TwoBases fl_TwoBases
  dsimp! [q_copied h1, q_copied h2, q_copied h3, hc, f1, f2, f3, e1, e2, e3]
  rfl
theorem q_llot {a : List Int} (h : a.length < 64) : F__law_lot cs [tupI a] = .r (val (tupI (setI a))) := by
  unfold F__law_lot r__law_lot
  dsimp! [sset_ints (d := tupI a) rfl h]
def barD (b : List Int × Int × Int) : D := .tup [tupI b.1, .int b.2.1, .int b.2.2]
def stepY (n : Nat) (ls : List (List Int)) (a : List Int) (x : Int) (f : List (List Int × Int × Int)) (y : Int) : List (List Int × Int × Int) := bif barB n ls a x y then f ++ [(a, x, y)] else f
def stepX (n : Nat) (ls : List (List Int)) (a : List Int) (f : List (List Int × Int × Int)) (x : Int) : List (List Int × Int × Int) := ((outs n a).filter fun y => decide (x < y)).foldl (stepY n ls a x) f
def stepA (n : Nat) (ls : List (List Int)) (f : List (List Int × Int × Int)) (a : List Int) : List (List Int × Int × Int) := (outs n a).foldl (stepX n ls a) f
theorem foldY {n : Nat} {ls : List (List Int)} {a : List Int} {x : Int} : ∀ (l : List Int) (f : List (List Int × Int × Int)), l.foldl (stepY n ls a x) f = f ++ (l.filter fun y => barB n ls a x y).map fun y => (a, x, y)
  | [], f => by simp
  | y :: l, f => by
    rw [List.foldl_cons, foldY l, stepY, List.filter_cons]
    cases barB n ls a x y <;> simp
theorem foldX {n : Nat} {ls : List (List Int)} {a : List Int} : ∀ (l : List Int) (f : List (List Int × Int × Int)), l.foldl (stepX n ls a) f = f ++ l.flatMap fun x => (((outs n a).filter fun y => decide (x < y)).filter fun y => barB n ls a x y).map fun y => (a, x, y)
  | [], f => by simp
  | y :: l, f => by rw [List.foldl_cons, foldX l, stepX, foldY, List.flatMap_cons, List.append_assoc]
theorem foldA {n : Nat} {ls : List (List Int)} : ∀ (l : List (List Int)) (f : List (List Int × Int × Int)), l.foldl (stepA n ls) f = f ++ l.flatMap fun a => (outs n a).flatMap fun x => (((outs n a).filter fun y => decide (x < y)).filter fun y => barB n ls a x y).map fun y => (a, x, y)
  | [], f => by simp
  | y :: l, f => by rw [List.foldl_cons, foldA l, stepA, foldX, List.flatMap_cons, List.append_assoc]
theorem outs_len (n : Nat) (a : List Int) : (outs n a).length ≤ n := by
  have := List.length_filter_le (fun x => !decide (x ∈ a)) (Rg n)
  rw [Rg_length] at this
  exact this
theorem lenY {n : Nat} {ls : List (List Int)} {a : List Int} {x : Int} : ∀ (l : List Int) (f : List (List Int × Int × Int)), (l.foldl (stepY n ls a x) f).length ≤ f.length + l.length
  | [], f => by simp
  | y :: l, f => by
    rw [List.foldl_cons]
    have h1 := lenY (n := n) (ls := ls) (a := a) (x := x) l (stepY n ls a x f y)
    have h2 : (stepY n ls a x f y).length ≤ f.length + 1 := by
      unfold stepY
      cases barB n ls a x y <;> simp
    rw [List.length_cons]; omega
theorem lenX {n : Nat} {ls : List (List Int)} {a : List Int} (hn : n ≤ 6) : ∀ (l : List Int) (f : List (List Int × Int × Int)), (l.foldl (stepX n ls a) f).length ≤ f.length + 6 * l.length
  | [], f => by simp
  | y :: l, f => by
    rw [List.foldl_cons]
    have h1 := lenX (n := n) (ls := ls) (a := a) hn l (stepX n ls a f y)
    have h2 := lenY (n := n) (ls := ls) (a := a) (x := y) ((outs n a).filter fun z => decide (y < z)) f
    have h3 := List.length_filter_le (fun z => decide (y < z)) (outs n a)
    have h4 := outs_len n a
    have h5 : (stepX n ls a f y).length ≤ f.length + 6 := by unfold stepX; omega
    rw [List.length_cons]; omega
theorem lenA {n : Nat} {ls : List (List Int)} (hn : n ≤ 6) : ∀ (l : List (List Int)) (f : List (List Int × Int × Int)), (l.foldl (stepA n ls) f).length ≤ f.length + 36 * l.length
  | [], f => by simp
  | y :: l, f => by
    rw [List.foldl_cons]
    have h1 := lenA (n := n) (ls := ls) hn l (stepA n ls f y)
    have h2 := lenX (n := n) (ls := ls) (a := y) hn (outs n y) f
    have h4 := outs_len n y
    have h5 : (stepA n ls f y).length ≤ f.length + 36 := by unfold stepA; omega
    rw [List.length_cons]; omega
theorem q_lbars {n : Nat} {ls : List (List Int)} (hn : n ≤ 6) (hs : srtL ls = ls) (hl : ∀ a ∈ ls, Lot n a) (hz : ls.length ≤ 64) : F__law_bars cs [.int n, .tup (ls.map tupI)] = .r (tmp (.lst ((bars n ls).map barD))) := by
  have e0 : bars n ls = ls.foldl (stepA n ls) [] := by rw [foldA]; rfl
  have s0 : pB1 cs .sorted (.tup (ls.map tupI)) = some (tmp (.lst (ls.map tupI))) := by rw [sorted_lots (ls := ls) rfl, hs]
  unfold F__law_bars r__law_bars
  dsimp! [s0]
  rw [show ([] : List D) = ([] : List (List Int × Int × Int)).map barD from rfl, forR_pre (E := fun f : List (List Int × Int × Int) => [.sh (.int n), .sh (.tup (ls.map tupI)), .ow (.lst (f.map barD)), .no, .no, .no, .no, .no]) (s0 := []) (step := stepA n ls) fun pre a post e => ?_]
  · rw [e0]
    dsimp! []
  · have la := hl a (by rw [e]; simp)
    have b1 := lenA (n := n) (ls := ls) hn pre []
    have hx := congrArg List.length e
    rw [List.length_append, List.length_cons] at hx
    generalize pre.foldl (stepA n ls) [] = f at b1 ⊢
    rw [List.length_nil] at b1
    have la6 := la.len
    dsimp! [bodR_eq, if_pos (ri_n (show n ≤ 1000 by omega)), rgD_Rg, Zle (show (Rg n).length ≤ 1000 by rw [Rg_length]; omega)]
    rw [show (List.filter (fun x => !decide (x ∈ a)) (Rg n)) = outs n a from rfl, forR_pre (E := fun f : List (List Int × Int × Int) => [.sh (.int n), .sh (.tup (ls.map tupI)), .ow (.lst (f.map barD)), .sh (tupI a), .sh (.lst ((outs n a).map fun x => .int x)), .no, .no, .no]) (s0 := f) (step := stepX n ls a) fun pre2 x post2 e2 => ?_]
    · dsimp! [stepA]
    · have b2 := lenX (n := n) (ls := ls) (a := a) hn pre2 f
      have hx2 := congrArg List.length e2
      have ol := outs_len n a
      have mx := mem_outs.mp (show x ∈ outs n a by rw [e2]; simp)
      rw [List.length_append, List.length_cons] at hx2
      generalize pre2.foldl (stepX n ls a) f = f2 at b2 ⊢
      dsimp! [bodR_eq]
      rw [show (List.filter (fun y => decide (y > x)) (outs n a)) = (outs n a).filter (fun y => decide (x < y)) from rfl, forR_pre (E := fun f : List (List Int × Int × Int) => [.sh (.int n), .sh (.tup (ls.map tupI)), .ow (.lst (f.map barD)), .sh (tupI a), .sh (.lst ((outs n a).map fun x => .int x)), .no, .sh (.int x), .no]) (s0 := f2) (step := stepY n ls a x) fun pre3 y post3 e3 => ?_]
      · dsimp! [stepX]
      · have b3 := lenY (n := n) (ls := ls) (a := a) (x := x) pre3 f2
        have hx3 := congrArg List.length e3
        have fl := List.length_filter_le (fun z => decide (x < z)) (outs n a)
        rw [List.length_append, List.length_cons] at hx3
        generalize pre3.foldl (stepY n ls a x) f2 = f3 at b3 ⊢
        have z3 : decide (f3.length < Z) = true := decide_eq_true (by unfold Z; omega)
        have l1 : ∀ z : Int, (a ++ [z]).length < 64 := fun z => by rw [List.length_append, List.length_singleton]; omega
        have k1 : ∀ z : Int, F__law_lot cs [tupI (a ++ [z])] = .r (val (tupI (ins a z))) := fun z => q_llot (l1 z)
        dsimp! [bodR_eq, add_tup1 (show a.length ≤ 999 by omega), k1, q_lclos hn, stepY, barB]
        cases decide (y ∈ clos n ls (ins a x)) && decide (x ∈ clos n ls (ins a y)) with
        | false => rfl
        | true =>
          dsimp! [z3]
          rw [List.map_append]
          rfl
theorem py_bars : ∀ l : List (List Int × Int × Int), pyL (l.map barD) = some (l.map fun b => PyData.tuple [pyI b.1, .int b.2.1, .int b.2.2])
  | [] => rfl
  | b :: l => by
    have : (barD b).py = some (PyData.tuple [pyI b.1, .int b.2.1, .int b.2.2]) := by
      show (pyL [tupI b.1, .int b.2.1, .int b.2.2]).map PyData.tuple = _
      simp only [pyL, py_tupI, D.py, Option.bind_some, Option.map_some]
    rw [List.map_cons, pyL, py_bars l, this]; rfl
theorem lay_bars : ∀ l : List (List Int × Int × Int), PyData.canLayAll0 (l.map fun b => PyData.tuple [pyI b.1, .int b.2.1, .int b.2.2]) = true ∧ PyData.depthAll (l.map fun b => PyData.tuple [pyI b.1, .int b.2.1, .int b.2.2]) ≤ 2
  | [] => ⟨rfl, by decide⟩
  | b :: l => by
    obtain ⟨h1, h2⟩ := lay_bars l
    have e1 : PyData.depth (pyI b.1) = 1 := by show PyData.depthAll (b.1.map .int) + 1 = 1; rw [dep_ints]
    refine ⟨?_, ?_⟩
    · rw [List.map_cons, PyData.canLayAll0, h1, Bool.and_true]
      show PyData.canLayAll0 [pyI b.1, .int b.2.1, .int b.2.2] = true
      rw [PyData.canLayAll0]
      show (PyData.canLayAll0 (b.1.map .int) && _) = true
      rw [lay_ints]; rfl
    · rw [List.map_cons, PyData.depthAll]
      have : PyData.depth (PyData.tuple [pyI b.1, .int b.2.1, .int b.2.2]) = 2 := by
        show PyData.depthAll [pyI b.1, .int b.2.1, .int b.2.2] + 1 = 2
        simp only [PyData.depthAll, PyData.depth, dep_ints]
        rfl
      omega
theorem eqD_bars {l : List (List Int × Int × Int)} : eqD (.lst (l.map barD)) (.lst []) = some l.isEmpty := by
  obtain ⟨h1, h2⟩ := lay_bars l
  have p : (D.lst (l.map barD)).py = some (.list (l.map fun b => PyData.tuple [pyI b.1, .int b.2.1, .int b.2.2])) := by
    show (pyL (l.map barD)).map PyData.list = _
    rw [py_bars]; rfl
  have q : (D.lst []).py = some (.list []) := rfl
  show eqP _ _ = _
  unfold eqP
  rw [p, q, Option.bind_some, Option.bind_some, shp_lst h1 (by omega), shp_lst rfl (by decide)]
  cases l <;> rfl
def two (n : Nat) (ls : List (List Int)) (a : List Int) : Bool := decide (1 < (bases n ls a).length)
def twoT (n : Nat) (ls : List (List Int)) (a : List Int) : D := twoD (tupI a) (tupI ((bases n ls a).getD 0 [])) (tupI ((bases n ls a).getD 1 []))
theorem getD_at {l : List (List Int)} {k : Nat} (h : k < l.length) : (l.map tupI)[k]? = some (tupI (l.getD k [])) := by
  rw [List.getElem?_map, List.getD_eq_getElem?_getD, List.getElem?_eq_getElem h]; rfl
theorem q_two_bases {n : Nat} {ls : List (List Int)} (hc : cs.contains "TwoBases" = true) (hn : n ≤ 6) : F_two_bases cs [clD n ls] = .r (match ls.find? (two n ls) with
    | some a => tmp (twoT n ls a)
    | none => val .non) := by
  unfold F_two_bases r_two_bases
  dsimp! []
  rw [forR_find (q := two n ls) (g := fun a => tmp (twoT n ls a)) fun a ha => ?_]
  · cases ls.find? (two n ls) <;> rfl
  · have q2 : ∀ o p : List Int, F_TwoBases cs [tupI a, tupI o, tupI p] = .r (tmp (twoD (tupI a) (tupI o) (tupI p))) := fun o p => q_Two hc kn_tupI kn_tupI kn_tupI
    dsimp! [bodR_eq, q_least_by hn]
    cases h : two n ls a with
    | false =>
      have : decide (((bases n ls a).length : Int) > 1) = false := decide_eq_false (by have := of_decide_eq_false h; omega)
      dsimp! [this]
    | true =>
      have hl := of_decide_eq_true h
      have : decide (((bases n ls a).length : Int) > 1) = true := decide_eq_true (by omega)
      have e0 : atI ((bases n ls a).map tupI) 0 = some (tupI ((bases n ls a).getD 0 [])) := by rw [atI_0, getD_at (by omega)]
      have e1 : atI ((bases n ls a).map tupI) 1 = some (tupI ((bases n ls a).getD 1 [])) := by rw [atI_at (by decide)]; exact getD_at hl
      dsimp! [this, e0, e1, q2]
      rfl
def extrs (n : Nat) (ls : List (List Int)) : List (List Int) := ls.map (extr n ls)
theorem q_only_rows {n : Nat} {ls : List (List Int)} (hn : n ≤ 6) (h : ∀ a ∈ ls, bases n ls a = [extr n ls a]) : F_only_rows cs [clD n ls] = .r (val (.tup ((extrs n ls).map tupI))) := by
  have h1 : ∀ a ∈ ls, F_least_by cs [clD n ls, tupI a] = .r (val (.tup [tupI (extr n ls a)])) := fun a ha => by rw [q_least_by hn, h a ha]; rfl
  unfold F_only_rows r_only_rows extrs
  dsimp! [h1, atI_0]
  rw [List.map_map]
  rfl
theorem q_one_base {n : Nat} {ls : List (List Int)} (hc : cs.contains "Closure" = true) (h1 : cs.contains "OneBase" = true) (h2 : cs.contains "TwoBases" = true) (hn : n ≤ 6) (h : ls.find? (two n ls) = none → ∀ a ∈ ls, bases n ls a = [extr n ls a]) : F_one_base cs [clD n ls] = .r (match ls.find? (two n ls) with
    | some a => val (twoT n ls a)
    | none => tmp (oneD (.tup ((extrs n ls).map tupI)))) := by
  unfold F_one_base r_one_base
  dsimp! [q_need hc, q_two_bases h2 hn]
  cases e : ls.find? (two n ls) with
  | none =>
    have o1 : F_OneBase cs [.tup ((extrs n ls).map tupI)] = .r (tmp (oneD (.tup ((extrs n ls).map tupI)))) := q_One h1 kn_tup
    dsimp! [q_only_rows hn (h e), o1]
  | some a =>
    have i1 : (match some a with
      | some a => tmp (twoT n ls a)
      | none => val .non) = tmp (twoT n ls a) := rfl
    dsimp! [i1]
    rfl
theorem q_lisint {d : D} (hk : kn cs d = true) : F__law_is_int cs [d] = .r (val (.bl (isI d))) := by
  unfold F__law_is_int r__law_is_int
  dsimp! [run_eq, isi_eq, isi_int hk, isi_bool hk]
  cases d <;> rfl
theorem q_lislot {n : Int} {d : D} (hk : kn cs d = true) (hl : ∀ l, d = .tup l → l.length ≤ 1000 ∧ ∀ x ∈ l, kn cs x = true) : F__law_is_lot cs [.int n, d] = .r (val (.bl (lotB n d))) := by
  unfold F__law_is_lot r__law_is_lot
  dsimp! [run_eq, isi_eq, isi_tup hk]
  cases d <;> first | rfl | skip
  rename_i l
  obtain ⟨hz, hl⟩ := hl l rfl
  dsimp! [tupB]
  rw [lcR_eq (q := fun _ => true) (g := fun d => val (.bl (lotX n d))) (fun _ _ => rfl) (fun x hx => ?_)]
  · dsimp! []
    cases hA : l.all (lotX n) with
    | false =>
      have : lotB n (.tup l) = false := by show (l.all (lotX n) && ascX l) = false; rw [hA]; rfl
      rw [this]; rfl
    | true =>
      have e : lotB n (.tup l) = ascX l := by show (l.all (lotX n) && ascX l) = ascX l; rw [hA]; rfl
      rw [e]
      dsimp! [if_pos (InR_of (i := (l.length : Int) - 1) (by omega) (by omega)), rgD_sub, Zle (rg_sub_ok hz)]
      rw [lcRm_eq (q := fun _ => true) (g := fun k : Int => val (.bl (ltX l[k.toNat]? l[k.toNat + 1]?))) (fun _ _ => rfl) (fun x hx => ?_)]
      · dsimp! []
        rfl
      · obtain ⟨h0, h1⟩ := mem_Rg.mp hx
        have isint : ∀ k : Nat, k < l.length → ∃ y, l[k]? = some (.int y) := fun k hk => by
          have := List.all_eq_true.mp hA _ (List.getElem_mem hk)
          rw [List.getElem?_eq_getElem hk]
          cases e : l[k] <;> rw [e] at this <;> first | (cases this; done) | exact ⟨_, rfl⟩
        obtain ⟨y, e1⟩ := isint x.toNat (by omega)
        obtain ⟨z, e2⟩ := isint (x.toNat + 1) (by omega)
        have e3 : (x + 1).toNat = x.toNat + 1 := by omega
        dsimp! [atI_at h0, atI_at (show 0 ≤ x + 1 by omega), e1, e2, e3, ltX]
  · dsimp! [q_lisint (hl x hx)]
    cases x <;> first | rfl | skip
    dsimp! [isI]
    rfl
theorem adj_pw {a : List Int} (h : ∀ k (hk : k + 1 < a.length), a[k] < a[k + 1]) : a.Pairwise (· < ·) := by
  rw [List.pairwise_iff_getElem]
  intro i j hi hj hij
  obtain ⟨d, rfl⟩ : ∃ d, j = i + 1 + d := ⟨j - i - 1, by omega⟩
  induction d with
  | zero => exact h i hj
  | succ d ih =>
    have h1 := ih (by omega) (by omega)
    have h2 := h (i + 1 + d) (by omega)
    exact Int.lt_trans h1 h2
theorem lotB_inv {n : Nat} {d : D} (h : lotB n d = true) : ∃ a, d = tupI a ∧ Lot n a := by
  cases d <;> first | (cases h; done) | skip
  rename_i l
  have h : (l.all (lotX n) && ascX l) = true := h
  rw [Bool.and_eq_true] at h
  have key : ∀ l : List D, l.all (lotX n) = true → ∃ a : List Int, l = a.map .int ∧ ∀ x ∈ a, 0 ≤ x ∧ x < n := by
    intro l
    induction l with
    | nil => exact fun _ => ⟨[], rfl, fun x hx => by cases hx⟩
    | cons d l ih =>
      intro h
      rw [List.all_cons, Bool.and_eq_true] at h
      obtain ⟨a, rfl, ha⟩ := ih h.2
      have h1 := h.1
      cases d <;> first | (cases h1; done) | skip
      rename_i x
      have h1 : (decide (0 ≤ x) && decide (x < (n : Int))) = true := h1
      rw [Bool.and_eq_true, decide_eq_true_eq, decide_eq_true_eq] at h1
      exact ⟨x :: a, rfl, fun y hy => (List.mem_cons.mp hy).elim (fun e => e ▸ h1) (ha y)⟩
  obtain ⟨a, rfl, ha⟩ := key l h.1
  refine ⟨a, rfl, adj_pw fun k hk => ?_, ha⟩
  have h2 : ascX (a.map .int) = true := h.2
  unfold ascX at h2
  rw [List.all_eq_true] at h2
  have := h2 (k : Int) (mem_Rg.mpr ⟨by omega, by rw [List.length_map]; omega⟩)
  simp only [Int.toNat_natCast, List.getElem?_map, List.getElem?_eq_getElem (show k < a.length by omega), List.getElem?_eq_getElem hk, Option.map_some, ltX, decide_eq_true_eq] at this
  exact this
/-- a field that may be looked at -/
structure Fd (cs : List Str) (d : D) : Prop where
  kn : Sh.kn cs d = true
  hl : ∀ l, d = .tup l → l.length ≤ 1000 ∧ ∀ x ∈ l, Sh.kn cs x = true
inductive Vl (cs : List Str) : D → Prop
  | one {r : D} : Shw r → Vl cs (oneD r)
  | two {l o p : D} : Fd cs l → Fd cs o → Fd cs p → Vl cs (twoD l o p)
  | oth {d : D} : kn cs d = true → clsB "OneBase" d = false → clsB "TwoBases" d = false → Vl cs d
theorem all3 {a b c : Bool} : pB1 cs .all (.lst [.bl a, .bl b, .bl c]) = some (val (.bl (a && (b && (c && true))))) := id rfl
theorem eqD_rp2 {a b : D} (ha : Shw a) (hb : Shw b) : ∃ j, eqD (rpS a) (rpS b) = some j := by
  obtain ⟨s, h⟩ := ha.ex
  obtain ⟨t, k⟩ := hb.ex
  have e1 : rpS a = .str s := by unfold rpS; rw [h]; rfl
  have e2 : rpS b = .str t := by unfold rpS; rw [k]; rfl
  rw [e1, e2]
  exact ⟨_, eqD_str⟩
theorem kn_one {d : D} (h : cs.contains "OneBase" = true) : kn cs (oneD d) = true := h
theorem kn_two {l o p : D} (h : cs.contains "TwoBases" = true) : kn cs (twoD l o p) = true := h
theorem shw_extrs {n : Nat} {ls : List (List Int)} (hn : n ≤ 6) (hl : ∀ a ∈ ls, Lot n a) (hz : ls.length ≤ 64) : Shw (.tup ((extrs n ls).map tupI)) := .of (rp_lots hn (fun a ha => by
  obtain ⟨b, hb, rfl⟩ := List.mem_map.mp ha
  exact (hl b hb).extr) (by unfold extrs; rw [List.length_map]; omega))
theorem is_twoT {n : Nat} {ls : List (List Int)} {a : List Int} : isD (twoT n ls a) .non = some false := id rfl
theorem lc3 {f : D → Ot (D × Bool)} {g : D → Bool} {l o p : D} (h : ∀ x ∈ [l, o, p], f x = .r (val (.bl (g x)))) : lcR (fun _ => .r true) f [l, o, p] = .r [.bl (g l), .bl (g o), .bl (g p)] := by
  rw [lcR_eq (q := fun _ => true) (g := fun x => val (.bl (g x))) (fun _ _ => rfl) h]
  rfl
theorem judged {n : Nat} {ls : List (List Int)} {v : D} (hc : cs.contains "Closure" = true) (h1 : cs.contains "OneBase" = true) (h2 : cs.contains "TwoBases" = true) (hn : n ≤ 6) (hf : FamS n ls) (hz : ls.length ≤ 64) (hv : Vl cs v) :
    ∃ j : Bool, F_is_one_base cs [clD n ls, v] = .r (val (.bl j)) ∧ F__law_due cs [.int n, .tup (ls.map tupI), .bl (bars n ls).isEmpty, v] = .r (val (.bl j)) := by
  have sb : ls.find? (two n ls) = none → ∀ a ∈ ls, bases n ls a = [extr n ls a] := fun h a ha => shed_bases hf.toFam ((shed_iff hf.toFam).mpr h) ha
  have e5 : D.tup (ls.map fun x => tupI (extr n ls x)) = .tup ((extrs n ls).map tupI) := by unfold extrs; rw [List.map_map]; rfl
  have so := shw_extrs hn hf.lot hz
  cases hv with
  | oth hk k1 k2 =>
    refine ⟨false, ?_, ?_⟩
    · unfold F_is_one_base r_is_one_base
      dsimp! [q_need hc, isi_eq, isi_cls hk, k1, k2]
    · unfold F__law_due r__law_due
      dsimp! [isi_eq, isi_cls hk, k1, k2]
  | @one r hr =>
    obtain ⟨j, hj⟩ := eqD_rp2 hr so
    cases hb : ls.find? (two n ls) with
    | none =>
      have e0 : (bars n ls).isEmpty = true := by rw [(shed_iff hf.toFam).mpr hb]; rfl
      have t0 := q_two_bases (cs := cs) (ls := ls) h2 hn
      rw [hb] at t0
      refine ⟨j, ?_, ?_⟩
      · unfold F_is_one_base r_is_one_base
        dsimp! [q_need hc, isi_eq, isi_cls (kn_one h1), one_1, t0, att_rows, q_only_rows hn (sb hb), repr_eq hr, repr_eq so, hj]
      · unfold F__law_due r__law_due
        dsimp! [isi_eq, isi_cls (kn_one h1), one_1, e0, att_rows, q_lextr hn, e5, repr_eq hr, repr_eq so, hj]
    | some a =>
      have e0 : (bars n ls).isEmpty = false := by
        cases q : bars n ls with
        | nil => exact absurd ((shed_iff hf.toFam).mp q) (by show ls.find? (two n ls) ≠ none; rw [hb]; simp)
        | cons b r => rfl
      have t0 := q_two_bases (cs := cs) (ls := ls) h2 hn
      rw [hb] at t0
      refine ⟨false, ?_, ?_⟩
      · unfold F_is_one_base r_is_one_base
        dsimp! [q_need hc, isi_eq, isi_cls (kn_one h1), one_1, t0, att_rows, is_twoT]
      · unfold F__law_due r__law_due
        dsimp! [isi_eq, isi_cls (kn_one h1), one_1, e0, att_rows]
  | @two l o p hl ho hp =>
    have a1 : ∀ x ∈ [l, o, p], F_is_lot cs [.int n, x] = .r (val (.bl (lotB n x))) := fun x hx => by
      simp only [List.mem_cons, List.not_mem_nil, or_false] at hx
      rcases hx with rfl | rfl | rfl
      · exact q_is_lot hl.kn hl.hl
      · exact q_is_lot ho.kn ho.hl
      · exact q_is_lot hp.kn hp.hl
    have a2 : ∀ x ∈ [l, o, p], F__law_is_lot cs [.int n, x] = .r (val (.bl (lotB n x))) := fun x hx => by
      simp only [List.mem_cons, List.not_mem_nil, or_false] at hx
      rcases hx with rfl | rfl | rfl
      · exact q_lislot hl.kn hl.hl
      · exact q_lislot ho.kn ho.hl
      · exact q_lislot hp.kn hp.hl
    have c1 := lc3 (f := fun x => F_is_lot cs [.int n, x]) (g := lotB n) a1
    have c2 := lc3 (f := fun x => F__law_is_lot cs [.int n, x]) (g := lotB n) a2
    cases hA : lotB n l && (lotB n o && lotB n p) with
    | false =>
      refine ⟨false, ?_, ?_⟩
      · unfold F_is_one_base r_is_one_base
        dsimp! [q_need hc, isi_eq, isi_cls (kn_two h2), two_1, two_2, att_lot, att_one, att_other, c1, all3, hA]
      · unfold F__law_due r__law_due
        dsimp! [isi_eq, isi_cls (kn_two h2), two_1, two_2, att_lot, att_one, att_other, c2, all3, hA]
    | true =>
      have hB := hA
      simp only [Bool.and_eq_true] at hB
      obtain ⟨a, rfl, la⟩ := lotB_inv hB.1
      obtain ⟨b, rfl, lb⟩ := lotB_inv hB.2.1
      obtain ⟨d, rfl, ld⟩ := lotB_inv hB.2.2
      refine ⟨bif decide (a ∈ ls) && !decide (b = d) then decide (b ∈ bases n ls a) && decide (d ∈ bases n ls a) else false, ?_, ?_⟩
      · unfold F_is_one_base r_is_one_base
        dsimp! [q_need hc, isi_eq, isi_cls (kn_two h2), two_1, two_2, att_lot, att_one, att_other, c1, all3, hA, q_least_by hn]
        cases decide (a ∈ ls) <;> cases decide (b = d) <;> cases decide (b ∈ bases n ls a) <;> rfl
      · unfold F__law_due r__law_due
        dsimp! [isi_eq, isi_cls (kn_two h2), two_1, two_2, att_lot, att_one, att_other, c2, all3, hA, q_lbases hn]
        cases decide (a ∈ ls) <;> cases decide (b = d) <;> cases decide (b ∈ bases n ls a) <;> rfl
theorem cpy_tup {l : List D} : cpy (.tup l) = .tup l := rfl
theorem cpy_lst {l : List D} : cpy (.lst l) = .tup l := rfl
theorem cpy_non : cpy .non = .non := rfl
theorem cpy_tupI {a : List Int} : cpy (tupI a) = tupI a := rfl
theorem cpy_lstI {a : List Int} : cpy (.lst (a.map .int)) = tupI a := rfl
theorem rev_tupI {a : List Int} : pB1 cs .rev (tupI a) = some (val (tupI a.reverse)) := by
  show some (val (.tup (a.map D.int).reverse)) = _
  rw [← List.map_reverse]; rfl
theorem list_tupI {a : List Int} : pB1 cs .list (tupI a) = some (tmp (.lst (a.map .int))) := id rfl
theorem eqD_bl {a b : Bool} : eqD (.bl a) (.bl b) = some (a == b) := by cases a <;> cases b <;> rfl
theorem q_says {b : Bool} : F__law_says cs [.bl b, .bl b] = .r (val (.bl true)) := by
  have e : eqD (.bl b) (.bl b) = some true := by rw [eqD_bl]; cases b <;> rfl
  unfold F__law_says r__law_says
  dsimp! [isi_eq, isi_bool kn_bl, e, bolB]
def RowE (d : D) : Prop := ∃ a : List Int, (d = tupI a ∨ d = .lst (a.map .int)) ∧ (∀ x ∈ a, x.natAbs < 10 ^ 12) ∧ a.length ≤ 100
theorem rowE_all : ∀ {l : List D}, (∀ d ∈ l, RowE d) → shwL l ∧ dptL l ≤ 1 ∧ sizL l ≤ 101 * l.length
  | [], _ => ⟨trivial, Nat.zero_le _, Nat.zero_le _⟩
  | d :: l, h => by
    obtain ⟨h1, h2, h3⟩ := rowE_all fun e he => h e (List.mem_cons_of_mem _ he)
    obtain ⟨a, hd, ha, hz⟩ := h d List.mem_cons_self
    have k : d.shw ∧ d.dpt = 1 ∧ d.siz = a.length := by
      rcases hd with rfl | rfl
      · exact ⟨by unfold tupI; rw [D.shw]; exact shw_ints ha, by unfold tupI; rw [D.dpt, dpt_ints], by unfold tupI; rw [D.siz, siz_ints]⟩
      · exact ⟨by rw [D.shw]; exact shw_ints ha, by rw [D.dpt, dpt_ints], by rw [D.siz, siz_ints]⟩
    refine ⟨⟨k.1, h1⟩, ?_, ?_⟩
    · rw [dptL, k.2.1]; omega
    · rw [sizL, k.2.2, List.length_cons]; omega
theorem shw_rows {l : List D} (h : ∀ d ∈ l, RowE d) (hz : l.length ≤ 1000) : Shw (.tup l) := by
  obtain ⟨h1, h2, h3⟩ := rowE_all h
  refine .of ⟨?_, ?_, ?_⟩
  · rw [D.shw]; exact h1
  · rw [D.dpt]; omega
  · rw [D.siz]; omega
theorem mem_cut {l : List D} {i j : Option Int} {d : D} (h : d ∈ cutD l i j) : d ∈ l := List.mem_of_mem_drop (List.mem_of_mem_take h)
theorem cut_len {l : List D} {i j : Option Int} : (cutD l i j).length ≤ l.length := by
  unfold cutD
  rw [List.length_take, List.length_drop]
  omega
theorem fd_tupI {a : List Int} (h : a.length ≤ 1000) : Fd cs (tupI a) := ⟨kn_tupI, fun l e => by cases e; exact ⟨by rw [List.length_map]; exact h, kn_ints⟩⟩
theorem fd_non : Fd cs .non := ⟨rfl, fun l e => by cases e⟩
theorem fd_tt : Fd cs (.tup [.bl true]) := ⟨rfl, fun l e => by cases e; exact ⟨by decide, fun x hx => by rw [List.mem_singleton.mp hx]; rfl⟩⟩
theorem extrs_row {n : Nat} {ls : List (List Int)} (hn : n ≤ 6) (hl : ∀ a ∈ ls, Lot n a) : ∀ d ∈ (extrs n ls).map tupI, RowE d := fun d hd => by
  obtain ⟨b, hb, rfl⟩ := List.mem_map.mp hd
  obtain ⟨a, ha, rfl⟩ := List.mem_map.mp hb
  have le := (hl a ha).extr (ls := ls)
  exact ⟨_, .inl rfl, le.small hn, by have := le.len; omega⟩
theorem find_two {n : Nat} {ls : List (List Int)} {a : List Int} (h : ls.find? (two n ls) = some a) : a ∈ ls ∧ 1 < (bases n ls a).length := ⟨List.mem_of_find?_eq_some h, of_decide_eq_true (List.find?_some (p := two n ls) h)⟩
theorem getD_mem {l : List (List Int)} {k : Nat} (h : k < l.length) : l.getD k [] ∈ l := by
  rw [List.getD_eq_getElem?_getD, List.getElem?_eq_getElem h]
  exact List.getElem_mem h
theorem getD_ne {l : List (List Int)} (nd : l.Nodup) (h : 1 < l.length) : l.getD 0 [] ≠ l.getD 1 [] := by
  rw [List.getD_eq_getElem?_getD, List.getD_eq_getElem?_getD, List.getElem?_eq_getElem h, List.getElem?_eq_getElem (show 0 < l.length by omega)]
  intro e
  have := (List.nodup_iff_pairwise_ne.mp nd)
  rw [List.pairwise_iff_getElem] at this
  exact this 0 1 (by omega) h (by omega) e
/-- what is told -/
def told (n : Nat) (ls : List (List Int)) : D := match ls.find? (two n ls) with
  | some a => twoT n ls a
  | none => oneD (.tup ((extrs n ls).map tupI))
theorem base_small {n : Nat} {ls : List (List Int)} {a b : List Int} (hn : n ≤ 6) (h : b ∈ bases n ls a) : b.length ≤ 1000 := by
  have := (mem_bases.mp h).1.len
  omega
section
variable {n : Nat} {ls : List (List Int)} (hc : cs.contains "Closure" = true) (h1 : cs.contains "OneBase" = true) (h2 : cs.contains "TwoBases" = true) (hn : n ≤ 6) (hf : FamS n ls) (hz : ls.length ≤ 64)
include hf hn hz
theorem told_vl : Vl cs (told n ls) := by
  unfold told
  cases e : ls.find? (two n ls) with
  | none => exact .one (shw_extrs hn hf.lot hz)
  | some a =>
    obtain ⟨ha, hl⟩ := find_two e
    exact .two (fd_tupI (by have := (hf.lot a ha).len; omega)) (fd_tupI (base_small hn (getD_mem (show 0 < _ by omega)))) (fd_tupI (base_small hn (getD_mem hl)))
include hc h1 h2
theorem q_told : ∃ f, F_one_base cs [clD n ls] = .r (told n ls, f) := by
  have sb : ls.find? (two n ls) = none → ∀ a ∈ ls, bases n ls a = [extr n ls a] := fun h a ha => shed_bases hf.toFam ((shed_iff hf.toFam).mpr h) ha
  rw [q_one_base hc h1 h2 hn sb]
  unfold told
  cases ls.find? (two n ls) <;> exact ⟨_, rfl⟩
theorem told_is : isiD cs [.own "OneBase"] (told n ls) = some (.bl (bars n ls).isEmpty) := by
  unfold told
  cases e : ls.find? (two n ls) with
  | none =>
    have e0 : (bars n ls).isEmpty = true := by rw [(shed_iff hf.toFam).mpr e]; rfl
    rw [e0]
    show isiD cs _ (oneD _) = _
    rw [isi_cls (kn_one h1), one_1]
  | some a =>
    have e0 : (bars n ls).isEmpty = false := by
      cases q : bars n ls with
      | nil => exact absurd ((shed_iff hf.toFam).mp q) (by show ls.find? (two n ls) ≠ none; rw [e]; simp)
      | cons b r => rfl
    rw [e0]
    show isiD cs _ (twoD _ _ _) = _
    rw [isi_cls (kn_two h2), two_1]
theorem told_due : F__law_due cs [.int n, .tup (ls.map tupI), .bl (bars n ls).isEmpty, told n ls] = .r (val (.bl true)) := by
  have e5 : D.tup (ls.map fun x => tupI (extr n ls x)) = .tup ((extrs n ls).map tupI) := by unfold extrs; rw [List.map_map]; rfl
  have so := shw_extrs hn hf.lot hz
  cases e : ls.find? (two n ls) with
  | none =>
    have e0 : (bars n ls).isEmpty = true := by rw [(shed_iff hf.toFam).mpr e]; rfl
    have e1 : told n ls = oneD (.tup ((extrs n ls).map tupI)) := by unfold told; rw [e]
    rw [e1]
    unfold F__law_due r__law_due
    dsimp! [isi_eq, isi_cls (kn_one h1), one_1, e0, att_rows, q_lextr hn, e5, repr_eq so, eqD_rp so]
  | some a =>
    obtain ⟨ha, hl⟩ := find_two e
    have e1 : told n ls = twoD (tupI a) (tupI ((bases n ls a).getD 0 [])) (tupI ((bases n ls a).getD 1 [])) := by unfold told; rw [e]; rfl
    have m0 := getD_mem (show 0 < (bases n ls a).length by omega)
    have m1 := getD_mem hl
    have ne := getD_ne bases_nodup hl
    rw [e1]
    generalize (bases n ls a).getD 0 [] = b at m0 ne ⊢
    generalize (bases n ls a).getD 1 [] = d at m1 ne ⊢
    have l0 := (mem_bases.mp m0).1
    have l1 := (mem_bases.mp m1).1
    have a2 : ∀ x ∈ [tupI a, tupI b, tupI d], F__law_is_lot cs [.int n, x] = .r (val (.bl (lotB n x))) := fun x hx => by
      simp only [List.mem_cons, List.not_mem_nil, or_false] at hx
      rcases hx with rfl | rfl | rfl
      · exact q_lislot kn_tupI (fd_tupI (cs := cs) (by have := (hf.lot a ha).len; omega)).hl
      · exact q_lislot kn_tupI (fd_tupI (cs := cs) (by have := l0.len; omega)).hl
      · exact q_lislot kn_tupI (fd_tupI (cs := cs) (by have := l1.len; omega)).hl
    have c2 := lc3 (f := fun x => F__law_is_lot cs [.int n, x]) (g := lotB n) a2
    have d1 : decide (b = d) = false := decide_eq_false ne
    have d2 : decide (a ∈ ls) = true := decide_eq_true ha
    have d3 : decide (b ∈ bases n ls a) = true := decide_eq_true m0
    have d4 : decide (d ∈ bases n ls a) = true := decide_eq_true m1
    unfold F__law_due r__law_due
    dsimp! [isi_eq, isi_cls (kn_two h2), two_1, two_2, att_lot, att_one, att_other, c2, all3, lotB_lot (hf.lot a ha), lotB_lot l0, lotB_lot l1, q_lbases hn, d1, d2, d3, d4]
end
theorem q_ob_odd {d : D} (h : OddC cs d) : F_one_base cs [d] = .x xClo := by
  unfold F_one_base r_one_base
  dsimp! [q_need_odd h]
theorem q_iob_odd {d e : D} (h : OddC cs d) : F_is_one_base cs [d, e] = .x xClo := by
  unfold F_is_one_base r_is_one_base
  dsimp! [q_need_odd h]
end Sh
namespace Sh
open L2 PySem PySem.Spec PyProof.Rows
variable {cs : List Str}
def binB : Nat → Nat → Nat
  | 0, _ => 1
  | _ + 1, 0 => 1
  | s + 1, r + 1 => binB (s + 1) r + binB s r
theorem binB_0 (s : Nat) : binB s 0 = 1 := by cases s <;> rfl
theorem binB_z (r : Nat) : binB 0 r = 1 := by cases r <;> rfl
theorem binB_r (s r : Nat) : binB s r ≤ binB s (r + 1) := by
  cases s with
  | zero => rw [binB_z, binB_z]; exact Nat.le_refl _
  | succ s => show binB (s + 1) r ≤ binB (s + 1) r + binB s r; omega
theorem binB_s : ∀ (r s : Nat), binB s r ≤ binB (s + 1) r
  | 0, s => by rw [binB_0, binB_0]; exact Nat.le_refl _
  | r + 1, 0 => by
    have := binB_s r 0
    have e : binB 0 (r + 1) = 1 := rfl
    have e2 : binB 0 r = 1 := by cases r <;> rfl
    show binB 0 (r + 1) ≤ binB 1 r + binB 0 r
    omega
  | r + 1, s + 1 => by
    have h1 := binB_s r (s + 1)
    have h2 := binB_s r s
    show binB (s + 1) r + binB s r ≤ binB (s + 1 + 1) r + binB (s + 1) r
    omega
theorem binB_mono {s t : Nat} (r : Nat) (h : s ≤ t) : binB s r ≤ binB t r := by
  induction h with
  | refl => exact Nat.le_refl _
  | step _ ih => exact Nat.le_trans ih (binB_s r _)
theorem sum_le {α : Type} {f g : α → Nat} : ∀ {l : List α}, (∀ x ∈ l, f x ≤ g x) → (l.map f).sum ≤ (l.map g).sum
  | [], _ => Nat.le_refl _
  | x :: l, h => by
    rw [List.map_cons, List.map_cons, List.sum_cons, List.sum_cons]
    have := h x List.mem_cons_self
    have := sum_le (l := l) fun y hy => h y (List.mem_cons_of_mem _ hy)
    omega
theorem sum_filter {α : Type} {p : α → Bool} {g : α → Nat} {f : α → Nat} : ∀ {l : List α}, (l.map f).sum + ((l.filter p).map g).sum = (l.map fun x => f x + if p x = true then g x else 0).sum
  | [] => rfl
  | x :: l => by
    have ih := sum_filter (p := p) (g := g) (f := f) (l := l)
    rw [List.filter_cons]
    cases h : p x with
    | false =>
      simp only [Bool.false_eq_true, if_false, List.map_cons, List.sum_cons, h]
      omega
    | true =>
      simp only [if_true, List.map_cons, List.sum_cons, h]
      omega
theorem fold_B {n : Nat} : ∀ (ls f : List (List Int)), (∀ a ∈ ls, Lot n a) → (∀ a ∈ f, Lot n a) → (ls.foldl meetStep f).length ≤ (f.map fun o => binB o.length ls.length).sum
  | [], f, _, hf => by
    clear hf
    have : (f.map fun o => binB o.length ([] : List (List Int)).length) = f.map fun _ => 1 := List.map_congr_left fun o _ => binB_0 _
    rw [this]
    clear this
    show f.length ≤ _
    induction f with
    | nil => exact Nat.le_refl _
    | cons x f ih =>
      rw [List.map_cons, List.sum_cons, List.length_cons]
      omega
  | l :: ls, f, hl, hf => by
    have ll := hl l List.mem_cons_self
    rw [List.foldl_cons]
    refine Nat.le_trans (fold_B ls (meetStep f l) (fun a ha => hl a (List.mem_cons_of_mem _ ha)) fun a ha => ?_) ?_
    · rcases mem_meetStep.mp ha with ha | ⟨o, ho, rfl⟩
      · exact hf a ha
      · exact ll.both o
    · unfold meetStep
      rw [List.map_append, List.sum_append, List.map_map, sum_filter]
      refine sum_le fun o ho => ?_
      rw [List.length_cons]
      cases h : decide (both l o ∈ f) with
      | true =>
        simp only [Bool.not_true, Bool.false_eq_true, if_false, Nat.add_zero]
        exact binB_r _ _
      | false =>
        have lo := hf o ho
        have ne : both l o ≠ o := fun e => of_decide_eq_false h (by rw [e]; exact ho)
        have lt : (both l o).length < o.length := by
          refine Nat.lt_of_not_le fun hle => ne ?_
          exact eq_of_wi (ll.both o) lo (fun x hx => (mem_both.mp hx).2) hle
        simp only [Bool.not_false, if_true, Function.comp]
        obtain ⟨s, hs⟩ : ∃ s, o.length = s + 1 := ⟨o.length - 1, by omega⟩
        have h2 := binB_mono (s := (both l o).length) (t := s) ls.length (by omega)
        rw [hs]
        show binB (s + 1) ls.length + binB (both l o).length ls.length ≤ binB (s + 1) ls.length + binB s ls.length
        omega
theorem binB_rm {r t : Nat} (s : Nat) (h : r ≤ t) : binB s r ≤ binB s t := by
  induction h with
  | refl => exact Nat.le_refl _
  | step _ ih => exact Nat.le_trans ih (binB_r s _)
theorem b533 : binB 5 33 ≤ 400000 := by decide +kernel
theorem meet_short {n : Nat} {ls : List (List Int)} (hn : n ≤ 5) (hl : ∀ a ∈ ls, Lot n a) (hz : ls.length ≤ 33) : (ls.foldl meetStep [Rg n]).length ≤ 400000 := by
  have h1 := fold_B ls [Rg n] hl fun a ha => by rw [List.mem_singleton.mp ha]; exact Lot.rg n
  simp only [List.map_cons, List.map_nil, List.sum_cons, List.sum_nil, Rg_length, Nat.add_zero] at h1
  have h2 := binB_mono ls.length hn
  have h3 := binB_rm 5 hz
  have := b533
  omega
theorem q_lmeets33 {n : Nat} {ls : List (List Int)} {d : D} (hd : sqL d = some (ls.map tupI)) (hn : n ≤ 5) (hz : ls.length ≤ 33) (h : ∀ a ∈ ls, Lot n a) : F__law_meetings cs [.int n, d] = .r (val (.tup ((meets n ls).map tupI))) := by
  refine q_lmeetsG hd (by omega) (((Fam.one n).steps h).few hn) fun pre x post e => ?_
  have := meet_short (n := n) (ls := pre) hn (fun a ha => h a (by rw [e]; simp [ha])) (by have := congrArg List.length e; rw [List.length_append] at this; omega)
  unfold Z
  omega
theorem ded_len_le (l : List (List Int)) : (ded l).length ≤ l.length := nodup_len _ _ (ded_nodup l) fun a ha => mem_ded.mp ha
theorem meets_len {n : Nat} {ls : List (List Int)} : (meets n ls).length = (ded (ls.foldl meetStep [Rg n])).length := (srtL_perm _).length_eq
theorem meet_22 {n : Nat} {ls pre post : List (List Int)} {x : List Int} (hz : ls.length ≤ 22) (e : ls = pre ++ x :: post) : 2 * (pre.foldl meetStep [Rg n]).length ≤ Z := by
  have h1 := meet_len pre [Rg n]
  have hl := congrArg List.length e
  rw [List.length_append, List.length_cons] at hl
  have hp2 : 2 ^ pre.length ≤ 2 ^ 22 := Nat.pow_le_pow_right (by decide) (by omega)
  unfold Z
  rw [List.length_singleton] at h1
  omega
theorem fold_in {n : Nat} {L : List (List Int)} : ∀ (ls f : List (List Int)), (∀ l ∈ ls, l ∈ L) → (∀ l ∈ L, Lot n l) → (∀ a ∈ f, Lot n a ∧ (a = Rg n ∨ ∃ l ∈ L, l ≠ Rg n ∧ Wi a l)) → ∀ a ∈ ls.foldl meetStep f, a = Rg n ∨ ∃ l ∈ L, l ≠ Rg n ∧ Wi a l
  | [], f, _, _, hf, a, ha => (hf a ha).2
  | l :: ls, f, hl, hL, hf, a, ha => by
    refine fold_in ls (meetStep f l) (fun x hx => hl x (List.mem_cons_of_mem _ hx)) hL (fun c hc => ?_) a ha
    have lL := hl l List.mem_cons_self
    rcases mem_meetStep.mp hc with hc | ⟨o, ho, rfl⟩
    · exact hf c hc
    · refine ⟨(hL l lL).both o, ?_⟩
      by_cases e : l = Rg n
      · obtain ⟨lo, ho⟩ := hf o ho
        have eb : both l o = o := by
          rw [e]
          exact ((both_ext lo (Lot.rg n) fun x => ⟨fun h => ⟨mem_Rg.mpr (lo.mem x h), h⟩, fun h => h.2⟩)).symm
        rw [eb]
        exact ho
      · exact .inr ⟨l, lL, e, fun x hx => (mem_both.mp hx).1⟩
def coat : List (List Int) := (Rg 6).map (wo (Rg 6))
theorem coat_ok : ∀ a ∈ coat, a.length = 5 := by decide +kernel
theorem coat_rest : ((allL 6).filter fun a => !decide (a ∈ coat)).length = 58 := by decide +kernel
theorem few_shed {n : Nat} {rows : List (List Int)} (hn : n ≤ 6) (hr : ∀ r ∈ rows, r.Perm (Rg n)) (hz : rows.length ≤ 3) : (ded ((rows.flatMap ends).foldl meetStep [Rg n])).length ≤ 61 := by
  have hlt : ∀ a ∈ rows.flatMap ends, Lot n a := fun a ha => by
    obtain ⟨r, h1, h2⟩ := List.mem_flatMap.mp ha
    exact ends_lot (hr r h1) a h2
  have fam := (Fam.one n).steps hlt
  by_cases h5 : n ≤ 5
  · have := nodup_len (ded ((rows.flatMap ends).foldl meetStep [Rg n])) (allL n) (ded_nodup _) fun a ha => mem_allL.mpr (fam.lot a (mem_ded.mp ha))
    rw [allL_length] at this
    have : 2 ^ n ≤ 2 ^ 5 := Nat.pow_le_pow_right (by decide) h5
    omega
  · obtain rfl : n = 6 := by omega
    have key : ∀ a ∈ (rows.flatMap ends).foldl meetStep [Rg 6], a ∈ coat → a ∈ rows.map fun r => srtI (r.take 5) := fun a ha hc => by
      have a5 := coat_ok a hc
      have la := fam.lot a ha
      rcases fold_in (n := 6) (rows.flatMap ends) [Rg 6] (fun l h => h) hlt (fun c hc => by rw [List.mem_singleton.mp hc]; exact ⟨Lot.rg 6, .inl rfl⟩) a ha with h | ⟨l, hl, hne, hw⟩
      · have := congrArg List.length h
        rw [Rg_length] at this
        omega
      · have ll := hlt l hl
        have l6 := ll.len
        have l5 : l.length ≤ 5 := by
          refine Nat.le_of_not_lt fun h => hne ?_
          exact eq_of_wi ll (Lot.rg 6) (fun x hx => mem_Rg.mpr (ll.mem x hx)) (by rw [Rg_length]; omega)
        have e := eq_of_wi la ll hw (by omega)
        subst e
        obtain ⟨r, hr1, hr2⟩ := List.mem_flatMap.mp hl
        unfold ends at hr2
        obtain ⟨k, hk, hk2⟩ := List.mem_map.mp hr2
        have lr : r.length = 6 := by rw [(hr r hr1).length_eq, Rg_length]
        have hlen := congrArg List.length hk2
        rw [(srtI_perm _).length_eq, List.length_take, lr, a5] at hlen
        have hk5 : k.toNat = 5 := by omega
        rw [hk5] at hk2
        exact List.mem_map.mpr ⟨r, hr1, hk2⟩
    have := nodup_len (ded ((rows.flatMap ends).foldl meetStep [Rg 6])) (((allL 6).filter fun a => !decide (a ∈ coat)) ++ rows.map fun r => srtI (r.take 5)) (ded_nodup _) fun a ha => by
      have ha := mem_ded.mp ha
      rw [List.mem_append]
      by_cases hc : a ∈ coat
      · exact .inr (key a ha hc)
      · exact .inl (List.mem_filter.mpr ⟨mem_allL.mpr (fam.lot a ha), by simpa using hc⟩)
    rw [List.length_append, List.length_map, coat_rest] at this
    omega
theorem w_drawn6 {m b : Nat} {Q : D × Bool → Nat → Prop} {E : Xc → Nat → Prop} (hm : 1 ≤ m) (hm5 : m ≤ 6) (hb : 40 ≤ b) (hQ : ∀ n ls b', 1 ≤ n → n ≤ m → FamS n ls → ls.length ≤ 61 → b ≤ b' + 40 → b' ≤ b → Q (val (.tup [.int (n : Nat), .tup (ls.map tupI)])) b') : W (F__law_drawn cs [.pen, .int (m : Nat)]) b Q E := by
  unfold F__law_drawn r__law_drawn
  dsimp! [drF_eq, bind_dr, nox_dr]
  refine post_draw (by omega) (by omega) (by omega) fun i hi => ?_
  dsimp! [nat_add1]
  refine post_draw (m := 6) (by omega) (by omega) (by omega) fun j hj => ?_
  dsimp! [if_pos (ri_n (show j ≤ 1000 by omega)), rgD_Rg, Zle (show (Rg j).length ≤ 1000 by rw [Rg_length]; omega), if_pos (ri_n (show i + 1 ≤ 1000 by omega)), Zle (show (Rg (i + 1)).length ≤ 1000 by rw [Rg_length]; omega)]
  ((try simp only [bind_assoc]); refine post_seq ?_)
  refine lcR_post (P := fun d => ∃ a, d = tupI a ∧ Lot (i + 1) a) (c := i + 1) (fun x hx b Q hb hQ => ?_) (by rw [Rg_length]; have := Nat.mul_le_mul (show i + 1 ≤ 6 by omega) (show j ≤ 5 by omega); omega) fun out b' e1 e2 e3 e4 => ?_
  · ((try simp only [bind_assoc]); refine post_seq ?_)
    refine lcR_sel (m := 2) (c := fun i => decide (i = 0)) (g := fun x => val (.int x)) (by omega) (by omega) (by rw [Rg_length]; omega) fun sub hs => ?_
    dsimp! []
    refine post_r (hQ _ _ ⟨sub, rfl, (Rg_pw _).sublist hs, fun x hx => mem_Rg.mp (hs.subset hx)⟩ ?_ (by omega))
    rw [Rg_length]; omega
  · have e5 : ∃ ls : List (List Int), out = ls.map tupI ∧ ∀ a ∈ ls, Lot (i + 1) a := by
      clear e1
      induction out with
      | nil => exact ⟨[], rfl, fun a h => by cases h⟩
      | cons d out ih =>
        obtain ⟨a, rfl, ha⟩ := e2 d List.mem_cons_self
        obtain ⟨ls, rfl, hl⟩ := ih fun d hd => e2 d (List.mem_cons_of_mem _ hd)
        exact ⟨a :: ls, rfl, fun c hc => (List.mem_cons.mp hc).elim (fun e => e ▸ ha) (hl c)⟩
    obtain ⟨ls, rfl, hl⟩ := e5
    rw [List.length_map, Rg_length] at e1
    rw [Rg_length] at e3
    have := Nat.mul_le_mul (show i + 1 ≤ 6 by omega) (show j ≤ 5 by omega)
    have fl := meet_len ls [Rg (i + 1)]
    have p2 : 2 ^ ls.length ≤ 2 ^ 5 := Nat.pow_le_pow_right (by decide) (by omega)
    rw [List.length_singleton] at fl
    have dl := ded_len_le (ls.foldl meetStep [Rg (i + 1)])
    dsimp! [q_lmeetsG (n := i + 1) (ls := ls) (d := .lst (ls.map tupI)) rfl (by omega) (by omega) fun pre x post e => meet_22 (ls := ls) (by omega) e]
    exact post_r (hQ _ _ _ (by omega) (by omega) (meets_fam hl) (by rw [meets_len]; omega) (by omega) (by omega))
theorem w_shed6 {m b : Nat} {Q : D × Bool → Nat → Prop} {E : Xc → Nat → Prop} (hm : 1 ≤ m) (hm5 : m ≤ 6) (hb : 40 ≤ b) (hQ : ∀ n rows b', 1 ≤ n → n ≤ m → (∀ r ∈ rows, r.Perm (Rg n)) → rows ≠ [] → rows.length ≤ 3 → b ≤ b' + 40 → b' ≤ b → Q (val (.tup [.int (n : Nat), .tup ((meets n (rows.flatMap ends)).map tupI)])) b') : W (F__law_shed cs [.pen, .int (m : Nat)]) b Q E := by
  unfold F__law_shed r__law_shed
  dsimp! [drF_eq, bind_dr, nox_dr]
  refine post_draw (by omega) (by omega) (by omega) fun i hi => ?_
  dsimp! [nat_add1]
  refine post_draw (m := 3) (by omega) (by omega) (by omega) fun j hj => ?_
  dsimp! [nat_add1, if_pos (ri_n (show j + 1 ≤ 1000 by omega)), rgD_Rg]
  ((try simp only [bind_assoc]); refine post_seq ?_)
  have zl : ∀ x : Int, x ∈ Rg (i + 1) → True := fun _ _ => trivial
  refine forR_post (I := fun pre ρ b' => ∃ rows : List (List Int), ρ = [.sh .pen, .sh (.int (m : Nat)), .sh (.int (i + 1 : Nat)), .sh (.lst ((rows.flatMap ends).map tupI)), .no] ∧ (∀ r ∈ rows, r.Perm (Rg (i + 1))) ∧ rows.length = pre.length ∧ b' + 6 * pre.length + 2 ≥ b ∧ b' ≤ b) ⟨[], rfl, (fun r h => by cases h), rfl, (by show _ ≥ _; omega), by omega⟩ (fun pre x post ρ b' e hI => ?_) fun ρ b' hI => ?_
  · obtain ⟨rows, rfl, hr, hl, h1, h2⟩ := hI
    have hx := congrArg List.length e
    rw [Rg_length, List.length_append, List.length_cons] at hx
    dsimp! [bodR_eq, rgL_n (show i + 1 ≤ 1000 by omega)]
    ((try simp only [bind_assoc]); refine post_seq ?_)
    refine w_shuffled (a := Rg (i + 1)) rfl (by rw [Rg_length]; omega) (by rw [Rg_length]; omega) fun p hp => ?_
    have pl : p.length = i + 1 := by rw [hp.length_eq, Rg_length]
    have fl1 : ∀ rows : List (List Int), (∀ r ∈ rows, r.Perm (Rg (i + 1))) → (rows.flatMap ends).length = (i + 2) * rows.length := by
      intro rows
      induction rows with
      | nil => intro _; rfl
      | cons r rows ih =>
        intro h
        rw [List.flatMap_cons, List.length_append, ih fun r hr => h r (List.mem_cons_of_mem _ hr), ends_len, (h r List.mem_cons_self).length_eq, Rg_length, List.length_cons, Nat.mul_succ]
        omega
    have hz : (rows.flatMap ends).length + (ends p).length ≤ 1000 := by
      rw [fl1 rows hr, ends_len, pl]
      have := Nat.mul_le_mul (show i + 2 ≤ 7 by omega) (show rows.length ≤ 3 by omega)
      omega
    dsimp! [q_lends (a := p) (by omega), add_lots hz]
    rw [Rg_length]
    refine post_r ⟨_, rfl, rows ++ [p], ?_, fun r h => ?_, by rw [List.length_append, List.length_append, hl]; rfl, ?_, by omega⟩
    · rw [List.flatMap_append, List.flatMap_singleton]
    · rcases List.mem_append.mp h with h | h
      · exact hr r h
      · rw [List.mem_singleton.mp h]; exact hp
    · rw [List.length_append, List.length_singleton]; omega
  · obtain ⟨rows, rfl, hr, hl, h1, h2⟩ := hI
    rw [Rg_length] at hl h1
    have hlt : ∀ a ∈ rows.flatMap ends, Lot (i + 1) a := fun a ha => by
      obtain ⟨r, h1, h2⟩ := List.mem_flatMap.mp ha
      exact ends_lot (hr r h1) a h2
    have hln : (rows.flatMap ends).length ≤ 21 := by
      have : ∀ rows : List (List Int), (∀ r ∈ rows, r.Perm (Rg (i + 1))) → (rows.flatMap ends).length = (i + 2) * rows.length := by
        intro rows
        induction rows with
        | nil => intro _; rfl
        | cons r rows ih =>
          intro h
          rw [List.flatMap_cons, List.length_append, ih fun r hr => h r (List.mem_cons_of_mem _ hr), ends_len, (h r List.mem_cons_self).length_eq, Rg_length, List.length_cons, Nat.mul_succ]
          omega
      rw [this rows hr]
      have := Nat.mul_le_mul (show i + 2 ≤ 7 by omega) (show rows.length ≤ 3 by omega)
      omega
    have fs := few_shed (n := i + 1) (rows := rows) (by omega) hr (by omega)
    dsimp! [q_lmeetsG (n := i + 1) (ls := rows.flatMap ends) (d := .lst ((rows.flatMap ends).map tupI)) rfl (by omega) (by omega) fun pre x post e => meet_22 (by omega) e]
    exact post_r (hQ _ _ _ (by omega) (by omega) hr (by rintro rfl; simp at hl) (by omega) (by omega) (by omega))
theorem w_any6 {m b : Nat} {Q : D × Bool → Nat → Prop} {E : Xc → Nat → Prop} (hm : 1 ≤ m) (hm5 : m ≤ 6) (hb : 50 ≤ b) (hQ : ∀ n ls b', 1 ≤ n → n ≤ m → FamS n ls → ls.length ≤ 61 → b ≤ b' + 50 → b' ≤ b → Q (val (.tup [.int (n : Nat), .tup (ls.map tupI)])) b') : W (F__law_any cs [.pen, .int (m : Nat)]) b Q E := by
  unfold F__law_any r__law_any
  dsimp! [drF_eq, bind_dr, nox_dr]
  refine post_draw (m := 2) (by omega) (by omega) (by omega) fun i hi => ?_
  cases decide ((i : Int) = 0) with
  | true =>
    dsimp! []
    ((try simp only [bind_assoc]); refine post_seq ?_)
    refine w_shed6 hm hm5 (by omega) fun n rows b' h1 h2 h3 h4 h5 h6 h7 => ?_
    dsimp! []
    refine post_r (hQ _ _ _ h1 h2 (meets_fam fun a ha => ?_) (by rw [meets_len]; exact few_shed (by omega) h3 h5) (by omega) (by omega))
    obtain ⟨r, h1, h2⟩ := List.mem_flatMap.mp ha
    exact ends_lot (h3 r h1) a h2
  | false =>
    dsimp! []
    ((try simp only [bind_assoc]); refine post_seq ?_)
    refine w_drawn6 hm hm5 (by omega) fun n ls b' h1 h2 h3 h6 h4 h5 => ?_
    dsimp! []
    exact post_r (hQ _ _ _ h1 h2 h3 h6 (by omega) (by omega))
end Sh
namespace Sh
open L2 PySem PySem.Spec PyProof.Rows
def sg (a : List Int) : Int := if a.length % 2 = 0 then 1 else -1
def fl (z : Int) (b : List Int) : List Int := if z ∈ b then wo b z else ins b z
theorem Lot.fl {n : Nat} {z : Int} {b : List Int} (h : Lot n b) (h0 : 0 ≤ z) (h1 : z < n) : Lot n (fl z b) := by
  unfold Sh.fl
  by_cases e : z ∈ b
  · rw [if_pos e]; exact h.wo z
  · rw [if_neg e]; exact h.ins h0 h1
theorem mem_fl {z x : Int} {b : List Int} : x ∈ fl z b ↔ (x ≠ z ∧ x ∈ b) ∨ (x = z ∧ z ∉ b) := by
  unfold fl
  by_cases e : z ∈ b
  · rw [if_pos e, mem_wo]
    constructor
    · rintro ⟨h1, h2⟩; exact .inl ⟨h2, h1⟩
    · rintro (⟨h1, h2⟩ | ⟨_, h⟩)
      · exact ⟨h2, h1⟩
      · exact absurd e h
  · rw [if_neg e, mem_ins]
    constructor
    · rintro (h | rfl)
      · exact .inl ⟨fun q => e (q ▸ h), h⟩
      · exact .inr ⟨rfl, e⟩
    · rintro (⟨_, h⟩ | ⟨rfl, _⟩)
      · exact .inl h
      · exact .inr rfl
theorem fl_fl {n : Nat} {z : Int} {b : List Int} (h : Lot n b) (h0 : 0 ≤ z) (h1 : z < n) : fl z (fl z b) = b := by
  refine Lot.ext ((h.fl h0 h1).fl h0 h1) h fun x => ?_
  rw [mem_fl, mem_fl, mem_fl]
  by_cases e : x = z
  · subst e
    by_cases hb : x ∈ b <;> simp [hb]
  · simp [e]
theorem fl_sg {n : Nat} {z : Int} {b : List Int} (h : Lot n b) (h0 : 0 ≤ z) (h1 : z < n) : sg (fl z b) = - sg b := by
  have key : ∀ {c d : List Int}, c.length = d.length + 1 → sg c = - sg d := fun {c d} e => by
    unfold sg
    rw [e]
    by_cases q : d.length % 2 = 0
    · rw [if_pos q, if_neg (by omega)]
    · rw [if_neg q, if_pos (by omega)]; rfl
  unfold fl
  by_cases e : z ∈ b
  · rw [if_pos e]
    have p : (z :: wo b z).Perm b := (List.perm_ext_iff_of_nodup (List.nodup_cons.mpr ⟨fun q => (mem_wo.mp q).2 rfl, (h.wo z).nodup⟩) h.nodup).mpr fun x => by
      rw [List.mem_cons, mem_wo]
      constructor
      · rintro (rfl | q)
        · exact e
        · exact q.1
      · intro q
        by_cases r : x = z
        · exact .inl r
        · exact .inr ⟨q, r⟩
    have := key (c := b) (d := wo b z) (by rw [← p.length_eq, List.length_cons])
    omega
  · rw [if_neg e]
    have p : (z :: b).Perm (ins b z) := (List.perm_ext_iff_of_nodup (List.nodup_cons.mpr ⟨e, h.nodup⟩) (h.ins h0 h1).nodup).mpr fun x => by
      rw [List.mem_cons, mem_ins]
      exact or_comm
    exact key (by rw [← p.length_eq, List.length_cons])
theorem perm_sum {l m : List Int} (p : l.Perm m) : l.sum = m.sum := by
  induction p with
  | nil => rfl
  | cons x _ ih => rw [List.sum_cons, List.sum_cons, ih]
  | swap x y l => rw [List.sum_cons, List.sum_cons, List.sum_cons, List.sum_cons]; omega
  | trans _ _ h1 h2 => rw [h1, h2]
/-- a turn that takes signs along -/
theorem sum_turn {l : List (List Int)} {φ : List Int → List Int} (nd : l.Nodup) (h1 : ∀ b ∈ l, φ b ∈ l) (h2 : ∀ b ∈ l, φ (φ b) = b) (h3 : ∀ b ∈ l, sg (φ b) = - sg b) : (l.map sg).sum = 0 := by
  have nm : (l.map φ).Nodup := List.pairwise_map.mpr (List.Pairwise.imp_of_mem (fun {a b} ha hb hne e => hne (by rw [← h2 a ha, ← h2 b hb, e])) nd)
  have p : (l.map φ).Perm l := (List.perm_ext_iff_of_nodup nm nd).mpr fun x => ⟨fun hx => by
    obtain ⟨b, hb, rfl⟩ := List.mem_map.mp hx
    exact h1 b hb, fun hx => List.mem_map.mpr ⟨φ x, h1 x hx, h2 x hx⟩⟩
  have e1 : ((l.map φ).map sg).sum = (l.map sg).sum := perm_sum (p.map sg)
  have e2 : ((l.map φ).map sg).sum = - (l.map sg).sum := by
    rw [List.map_map]
    clear e1 p nm nd h1 h2
    induction l with
    | nil => rfl
    | cons x l ih =>
      rw [List.map_cons, List.map_cons, List.sum_cons, List.sum_cons, ih fun b hb => h3 b (List.mem_cons_of_mem _ hb)]
      have := h3 x List.mem_cons_self
      simp only [Function.comp, this]
      omega
  omega
/-- sums by parts -/
theorem sum_parts {f : List Int → Int} {c : List Int → List Int} {ls : List (List Int)} (nd : ls.Nodup) : ∀ l : List (List Int), (∀ b ∈ l, c b ∈ ls) → (l.map f).sum = (ls.map fun a => ((l.filter fun b => decide (c b = a)).map f).sum).sum
  | [], _ => by
    have : ∀ l : List (List Int), (l.map fun a => ((([] : List (List Int)).filter fun b => decide (c b = a)).map f).sum).sum = 0 := by
      intro l
      induction l with
      | nil => rfl
      | cons x l ih => rw [List.map_cons, List.sum_cons, ih]; rfl
    rw [this]; rfl
  | b :: l, h => by
    have ih := sum_parts (f := f) (c := c) nd l fun x hx => h x (List.mem_cons_of_mem _ hx)
    rw [List.map_cons, List.sum_cons, ih]
    have key : ∀ ms : List (List Int), ms.Nodup → (ms.map fun a => (((b :: l).filter fun b => decide (c b = a)).map f).sum).sum = (if c b ∈ ms then f b else 0) + (ms.map fun a => ((l.filter fun b => decide (c b = a)).map f).sum).sum := by
      intro ms
      induction ms with
      | nil => intro _; simp
      | cons a ms ihm =>
        intro hn
        obtain ⟨n1, n2⟩ := List.nodup_cons.mp hn
        rw [List.map_cons, List.map_cons, List.sum_cons, List.sum_cons, ihm n2, List.filter_cons]
        by_cases e : c b = a
        · have e1 : decide (c b = a) = true := decide_eq_true e
          have q1 : c b ∈ a :: ms := by rw [e]; exact List.mem_cons_self
          have q2 : ¬ c b ∈ ms := by rw [e]; exact n1
          rw [if_pos e1, if_neg q2, if_pos q1, List.map_cons, List.sum_cons]
          omega
        · have e1 : ¬ decide (c b = a) = true := by simpa using e
          rw [if_neg e1]
          by_cases q : c b ∈ ms
          · rw [if_pos q, if_pos (List.mem_cons_of_mem _ q)]; omega
          · rw [if_neg q, if_neg (fun h => (List.mem_cons.mp h).elim e q)]; omega
    rw [key ls nd, if_pos (h b List.mem_cons_self)]
def settled (n : Nat) (ls : List (List Int)) : List (List Int) := (free n ls).filter fun a => decide (a ∈ ls)
section
variable {n : Nat} {ls : List (List Int)} (f : Fam n ls) (nd : ls.Nodup)
include f nd
theorem signs_zero (hn : 1 ≤ n) (hs : bars n ls = []) : ((settled n ls).map sg).sum = 0 := by
  have span : ∀ a ∈ ls, clos n ls (extr n ls a) = a := fun a ha => extr_span f (bars_nil.mp hs) ha
  have t0 : ((lots n).map sg).sum = 0 := sum_turn (φ := fl 0) (lots_nodup n) (fun b hb => mem_lots.mpr ((mem_lots.mp hb).fl (by omega) (by omega))) (fun b hb => fl_fl (mem_lots.mp hb) (by omega) (by omega)) fun b hb => fl_sg (mem_lots.mp hb) (by omega) (by omega)
  rw [sum_parts (c := clos n ls) nd (lots n) fun b hb => clos_mem f (mem_lots.mp hb)] at t0
  have part : ∀ a ∈ ls, (((lots n).filter fun b => decide (clos n ls b = a)).map sg).sum = if extr n ls a = a then sg a else 0 := fun a ha => by
    have la := f.lot a ha
    by_cases e : extr n ls a = a
    · rw [if_pos e]
      have one : ((lots n).filter fun b => decide (clos n ls b = a)) = [a] := by
        have me : a ∈ (lots n).filter fun b => decide (clos n ls b = a) := List.mem_filter.mpr ⟨mem_lots.mpr la, decide_eq_true (clos_closed f ha)⟩
        have all : ∀ b ∈ (lots n).filter fun b => decide (clos n ls b = a), b = a := fun b hb => by
          obtain ⟨h1, h2⟩ := List.mem_filter.mp hb
          have lb := mem_lots.mp h1
          have h2 := of_decide_eq_true h2
          refine Lot.ext lb la fun x => ⟨fun hx => by rw [← h2]; exact clos_sup f lb x hx, fun hx => ?_⟩
          rw [← e] at hx
          exact extr_in f ha lb h2 x hx
        have ndf := (lots_nodup n).filter fun b => decide (clos n ls b = a)
        generalize ((lots n).filter fun b => decide (clos n ls b = a)) = l at me all ndf
        cases l with
        | nil => cases me
        | cons b r =>
          have hb := all b List.mem_cons_self
          cases r with
          | nil => rw [hb]
          | cons c r =>
            have hc := all c (by simp)
            rw [hb, hc] at ndf
            simp at ndf
      rw [one]
      simp
    · rw [if_neg e]
      have ⟨z, hz, hze⟩ : ∃ z ∈ a, z ∉ extr n ls a := Classical.byContradiction fun h => e (Lot.ext (la.extr (ls := ls)) la fun x => ⟨fun hx => (mem_extr.mp hx).1, fun hx => Classical.byContradiction fun q => h ⟨x, hx, q⟩⟩)
      have hzm := la.mem z hz
      refine sum_turn (φ := fl z) ((lots_nodup n).filter _) (fun b hb => ?_) (fun b hb => fl_fl (mem_lots.mp (List.mem_filter.mp hb).1) hzm.1 hzm.2) fun b hb => fl_sg (mem_lots.mp (List.mem_filter.mp hb).1) hzm.1 hzm.2
      obtain ⟨h1, h2⟩ := List.mem_filter.mp hb
      have lb := mem_lots.mp h1
      have h2 := of_decide_eq_true h2
      have lf := lb.fl hzm.1 hzm.2
      refine List.mem_filter.mpr ⟨mem_lots.mpr lf, decide_eq_true ?_⟩
      rw [← span a ha]
      refine clos_btw f (la.extr (ls := ls)) lf (fun x hx => ?_) fun x hx => ?_
      · exact mem_fl.mpr (.inl ⟨fun q => hze (q ▸ hx), extr_in f ha lb h2 x hx⟩)
      · rw [span a ha]
        rcases mem_fl.mp hx with ⟨_, h⟩ | ⟨rfl, _⟩
        · rw [← h2]; exact clos_sup f lb x h
        · exact hz
  have e1 : (ls.map fun a => (((lots n).filter fun b => decide (clos n ls b = a)).map sg).sum) = ls.map fun a => if extr n ls a = a then sg a else 0 := List.map_congr_left part
  rw [e1] at t0
  have e2 : ∀ l : List (List Int), (l.map fun a => if extr n ls a = a then sg a else 0).sum = ((l.filter fun a => decide (extr n ls a = a)).map sg).sum := by
    intro l
    induction l with
    | nil => rfl
    | cons x l ih =>
      rw [List.map_cons, List.sum_cons, ih, List.filter_cons]
      by_cases e : extr n ls x = x
      · rw [if_pos e, if_pos (decide_eq_true e), List.map_cons, List.sum_cons]
      · rw [if_neg e, if_neg (by simpa using e)]; omega
  rw [e2] at t0
  have p : (settled n ls).Perm (ls.filter fun a => decide (extr n ls a = a)) := (List.perm_ext_iff_of_nodup (((lots_nodup n).filter _).filter _) (nd.filter _)).mpr fun x => by
    simp only [List.mem_filter, decide_eq_true_eq, mem_lots]
    exact ⟨fun h => ⟨h.2, h.1.2⟩, fun h => ⟨⟨f.lot x h.1, h.2⟩, h.1⟩⟩
  rw [perm_sum (p.map sg)]
  exact t0
theorem free_ge : ls.length ≤ (free n ls).length := by
  rw [← bases_count f nd]
  have : ∀ l : List (List Int), (∀ a ∈ l, a ∈ ls) → l.length ≤ (l.map fun a => (bases n ls a).length).sum := by
    intro l
    induction l with
    | nil => intro _; exact Nat.zero_le _
    | cons a l ih =>
      intro h
      have h1 := ih fun b hb => h b (List.mem_cons_of_mem _ hb)
      have h2 : 0 < (bases n ls a).length := List.length_pos_iff.mpr (bases_ne f (h a List.mem_cons_self))
      rw [List.map_cons, List.sum_cons, List.length_cons]
      omega
  exact this ls fun _ h => h
theorem free_eq : (free n ls).length = ls.length ↔ bars n ls = [] := by
  rw [← bases_count f nd, shed_iff f, List.find?_eq_none]
  have : ∀ l : List (List Int), (∀ a ∈ l, a ∈ ls) → l.length ≤ (l.map fun a => (bases n ls a).length).sum ∧ ((l.map fun a => (bases n ls a).length).sum = l.length ↔ ∀ a ∈ l, ¬ decide (1 < (bases n ls a).length) = true) := by
    intro l
    induction l with
    | nil => intro _; exact ⟨Nat.zero_le _, ⟨(fun _ a h => by cases h), fun _ => rfl⟩⟩
    | cons a l ih =>
      intro h
      obtain ⟨h1, h2⟩ := ih fun b hb => h b (List.mem_cons_of_mem _ hb)
      have h3 : 0 < (bases n ls a).length := List.length_pos_iff.mpr (bases_ne f (h a List.mem_cons_self))
      rw [List.map_cons, List.sum_cons, List.length_cons]
      refine ⟨by omega, ⟨fun e b hb => ?_, fun q => ?_⟩⟩
      · rcases List.mem_cons.mp hb with rfl | hb
        · rw [decide_eq_true_eq]; omega
        · exact h2.mp (by omega) b hb
      · have h4 := h2.mpr fun b hb => q b (List.mem_cons_of_mem _ hb)
        have h5 := q a List.mem_cons_self
        rw [decide_eq_true_eq] at h5
        omega
  exact (this ls fun _ h => h).2
theorem srtL_of_perm {l m : List (List Int)} (p : l.Perm m) : srtL l = srtL m := srt_uniq (r := fun a b => HT.lexLt b a = false) (fun a b h k => lex_anti a b h k) (((srtL_perm l).trans p).trans (srtL_perm m).symm) (srtL_pw l) (srtL_pw m)
theorem closings_all (hs : bars n ls = []) : srtL ((free n ls).map (clos n ls)) = srtL ls := by
  refine srtL_of_perm f nd ?_
  have sb : ∀ b ∈ free n ls, b = extr n ls (clos n ls b) := fun b hb => by
    have h := (free_base f).mp hb
    rw [shed_bases f hs (clos_mem f (mem_free.mp hb).1)] at h
    exact List.mem_singleton.mp h
  refine (List.perm_ext_iff_of_nodup ?_ nd).mpr fun x => ⟨fun hx => ?_, fun hx => ?_⟩
  · exact List.pairwise_map.mpr (List.Pairwise.imp_of_mem (fun {a b} ha hb hne e => hne (by rw [sb a ha, sb b hb, e])) ((lots_nodup n).filter _))
  · obtain ⟨b, hb, rfl⟩ := List.mem_map.mp hx
    exact clos_mem f (mem_free.mp hb).1
  · have h : extr n ls x ∈ bases n ls x := by rw [shed_bases f hs hx]; exact List.mem_singleton.mpr rfl
    exact List.mem_map.mpr ⟨_, bases_free f h, (mem_bases.mp h).2.1⟩
end
end Sh
namespace Sh
open L2 PySem PySem.Spec PyProof.Rows
variable {cs : List Str}
theorem q_Closure6 {n : Nat} {ls : List (List Int)} (hc : cs.contains "Closure" = true) (h1 : 1 ≤ n) (hn : n ≤ 6) (h : Fam n ls) (hfew : (ded ls).length + 1 < 64) : F_Closure cs [.int n, .tup (ls.map tupI)] = .r (tmp (clD n (setL ls))) := by
  have e1 : decide ((1 : Int) ≤ (n : Int)) = true := decide_eq_true (by omega)
  have e2 : decide ((n : Int) ≤ 6) = true := decide_eq_true (by omega)
  have f1 : fldNs.contains ("size" : Str) = true := by decide +kernel
  have f2 : fldNs.contains ("lots" : Str) = true := by decide +kernel
  have f3 : (("size" : Str) == ("lots" : Str)) = false := by decide +kernel
  have f4 := sset_lots (cs := cs) (d := .tup (ls.map tupI)) (ls := ls) rfl hfew
  unfold F_Closure r_Closure fl_Closure
  dsimp! [q_whole kn_int, isI, e1, e2, q_in_lots, q_family hn h, hc, f1, f2, f4, f3]
  rfl
theorem q_extr_by {n : Nat} {ls : List (List Int)} {a : List Int} (hn : n ≤ 6) : F_extreme_by cs [clD n ls, tupI a] = .r (val (tupI (extr n ls a))) := by
  unfold F_extreme_by r_extreme_by extr
  dsimp! [q_wo, q_closing_by hn]
theorem q_free_by {n : Nat} {ls : List (List Int)} (hn : n ≤ 6) : F_free_by cs [clD n ls] = .r (val (.tup ((free n ls).map tupI))) := by
  unfold F_free_by r_free_by free
  dsimp! [q_all_lots hn, q_extr_by hn]
theorem q_free_lots {n : Nat} {ls : List (List Int)} (hc : cs.contains "Closure" = true) (hn : n ≤ 6) : F_free_lots cs [clD n ls] = .r (val (.tup ((free n ls).map tupI))) := by
  unfold F_free_lots r_free_lots
  dsimp! [q_need hc, q_free_by hn]
theorem q_settled_by {n : Nat} {ls : List (List Int)} (hn : n ≤ 6) : F_settled_by cs [clD n ls] = .r (val (.tup ((settled n ls).map tupI))) := by
  unfold F_settled_by r_settled_by settled
  dsimp! [q_free_by hn]
theorem q_settled_lots {n : Nat} {ls : List (List Int)} (hc : cs.contains "Closure" = true) (hn : n ≤ 6) : F_settled_lots cs [clD n ls] = .r (val (.tup ((settled n ls).map tupI))) := by
  unfold F_settled_lots r_settled_lots
  dsimp! [q_need hc, q_settled_by hn]
theorem sg_div {a : List Int} : (bif decide ((a.length : Int).fdiv 2 * 2 = (a.length : Int)) then (1 : Int) else -1) = sg a := by
  unfold sg
  have e : ((a.length : Int).fdiv 2 * 2 = (a.length : Int)) ↔ a.length % 2 = 0 := by
    rw [Int.fdiv_eq_ediv_of_nonneg _ (by decide)]
    omega
  by_cases h : a.length % 2 = 0
  · rw [decide_eq_true (e.mpr h), if_pos h]; rfl
  · rw [decide_eq_false (fun q => h (e.mp q)), if_neg h]; rfl
theorem sg_mod {a : List Int} : (bif decide ((a.length : Int) % 2 = 0) then (1 : Int) else -1) = sg a := by
  unfold sg
  have e : ((a.length : Int) % 2 = 0) ↔ a.length % 2 = 0 := by
    omega
  by_cases h : a.length % 2 = 0
  · rw [decide_eq_true (e.mpr h), if_pos h]; rfl
  · rw [decide_eq_false (fun q => h (e.mp q)), if_neg h]; rfl
theorem q_signed {n : Nat} {ls : List (List Int)} (hc : cs.contains "Closure" = true) (hn : n ≤ 6) : F_signed_lots cs [clD n ls] = .r (val (.int ((settled n ls).map sg).sum)) := by
  unfold F_signed_lots r_signed_lots
  have m1 : ∀ k : Nat, pOp .FloorDiv (.int (k : Int)) (.int 2) = some (val (.int ((k : Int).fdiv 2))) := fun k => by
    simp [pOp]
    exact ⟨by decide, by decide⟩
  have m2 : ∀ i : Int, pOp .Mult (.int i) (.int 2) = some (val (.int (i * 2))) := fun i => by
    show (if CMul _ _ then _ else _) = _
    rw [if_pos (.inr ⟨by decide, by decide⟩)]
  dsimp! [q_need hc, q_settled_by hn, m1, m2, sg_div]
def stepZ (n : Nat) (ls : List (List Int)) (a : List Int) (x : Int) (f : List (List Int × Int × Int)) (y : Int) : List (List Int × Int × Int) := bif decide (x ∈ clos n ls (ins a y)) then f ++ [(a, x, y)] else f
theorem foldZ {n : Nat} {ls : List (List Int)} {a : List Int} {x : Int} : ∀ (l : List Int) (f : List (List Int × Int × Int)), l.foldl (stepZ n ls a x) f = f ++ (l.filter fun y => decide (x ∈ clos n ls (ins a y))).map fun y => (a, x, y)
  | [], f => by simp
  | y :: l, f => by
    rw [List.foldl_cons, foldZ l, stepZ, List.filter_cons]
    cases decide (x ∈ clos n ls (ins a y)) <;> simp
theorem lenZ {n : Nat} {ls : List (List Int)} {a : List Int} {x : Int} : ∀ (l : List Int) (f : List (List Int × Int × Int)), (l.foldl (stepZ n ls a x) f).length ≤ f.length + l.length := fun l f => by
  have := List.length_filter_le (fun y => decide (x ∈ clos n ls (ins a y))) l
  rw [foldZ, List.length_append, List.length_map]
  omega
theorem foldZX {n : Nat} {ls : List (List Int)} {a : List Int} {x : Int} {f : List (List Int × Int × Int)} : ((outs n a).filter fun y => decide (y > x) && decide (y ∈ clos n ls (ins a x))).foldl (stepZ n ls a x) f = stepX n ls a f x := by
  have e : (fun y => decide (x ∈ clos n ls (ins a y)) && (decide (y > x) && decide (y ∈ clos n ls (ins a x)))) = fun y => barB n ls a x y && decide (x < y) := by
    funext y
    unfold barB
    cases decide (x ∈ clos n ls (ins a y)) <;> cases decide (y ∈ clos n ls (ins a x)) <;> simp
  rw [foldZ, stepX, foldY, List.filter_filter, List.filter_filter, e]
theorem q_lot_of {a : List Int} (h : a.length < 64) : F_lot_of cs [tupI a] = .r (val (tupI (setI a))) := by
  unfold F_lot_of r_lot_of
  dsimp! [sset_ints (d := tupI a) rfl h]
theorem q_bars_by {n : Nat} {ls : List (List Int)} (hn : n ≤ 6) (hl : ∀ a ∈ ls, Lot n a) (hz : ls.length ≤ 64) : F_bars_by cs [clD n ls] = .r (tmp (.lst ((bars n ls).map barD))) := by
  have e0 : bars n ls = ls.foldl (stepA n ls) [] := by rw [foldA]; rfl
  unfold F_bars_by r_bars_by
  dsimp! []
  rw [show ([] : List D) = ([] : List (List Int × Int × Int)).map barD from rfl, forR_pre (E := fun f : List (List Int × Int × Int) => [.sh (clD n ls), .ow (.lst (f.map barD)), .no, .no, .no, .no, .no, .no]) (s0 := []) (step := stepA n ls) fun pre a post e => ?_]
  · rw [e0]
    dsimp! []
  · have la := hl a (by rw [e]; simp)
    have b1 := lenA (n := n) (ls := ls) hn pre []
    have hx := congrArg List.length e
    rw [List.length_append, List.length_cons] at hx
    generalize pre.foldl (stepA n ls) [] = f at b1 ⊢
    rw [List.length_nil] at b1
    have la6 := la.len
    dsimp! [bodR_eq, if_pos (ri_n (show n ≤ 1000 by omega)), rgD_Rg, Zle (show (Rg n).length ≤ 1000 by rw [Rg_length]; omega)]
    rw [show (List.filter (fun x => !decide (x ∈ a)) (Rg n)) = outs n a from rfl, forR_pre (E := fun f : List (List Int × Int × Int) => [.sh (clD n ls), .ow (.lst (f.map barD)), .sh (tupI a), .sh (.lst ((outs n a).map fun x => .int x)), .no, .no, .no, .no]) (s0 := f) (step := stepX n ls a) fun pre2 x post2 e2 => ?_]
    · dsimp! [stepA]
    · have b2 := lenX (n := n) (ls := ls) (a := a) hn pre2 f
      have hx2 := congrArg List.length e2
      have ol := outs_len n a
      have mx := mem_outs.mp (show x ∈ outs n a by rw [e2]; simp)
      rw [List.length_append, List.length_cons] at hx2
      generalize pre2.foldl (stepX n ls a) f = f2 at b2 ⊢
      have l1 : ∀ z : Int, (a ++ [z]).length < 64 := fun z => by rw [List.length_append, List.length_singleton]; omega
      have k1 : ∀ z : Int, F_lot_of cs [tupI (a ++ [z])] = .r (val (tupI (ins a z))) := fun z => q_lot_of (l1 z)
      dsimp! [bodR_eq, add_tup1 (show a.length ≤ 999 by omega), k1, q_closing_by hn]
      rw [forR_pre (E := fun f : List (List Int × Int × Int) => [.sh (clD n ls), .ow (.lst (f.map barD)), .sh (tupI a), .sh (.lst ((outs n a).map fun x => .int x)), .no, .sh (.int x), .sh (tupI (clos n ls (ins a x))), .no]) (s0 := f2) (step := stepZ n ls a x) fun pre3 y post3 e3 => ?_]
      · dsimp! [foldZX]
      · have b3 := lenZ (n := n) (ls := ls) (a := a) (x := x) pre3 f2
        have hx3 := congrArg List.length e3
        have fl := List.length_filter_le (fun z => decide (z > x) && decide (z ∈ clos n ls (ins a x))) (outs n a)
        rw [List.length_append, List.length_cons] at hx3
        generalize pre3.foldl (stepZ n ls a x) f2 = f3 at b3 ⊢
        have z3 : decide (f3.length < Z) = true := decide_eq_true (by unfold Z; omega)
        dsimp! [bodR_eq, add_tup1 (show a.length ≤ 999 by omega), k1, q_closing_by hn, stepZ]
        cases decide (x ∈ clos n ls (ins a y)) with
        | false => rfl
        | true =>
          dsimp! [z3]
          rw [List.map_append]
          rfl
def Bq (l x y : D) : D := .ins "Bar" [("lot", l), ("x", x), ("y", y)]
theorem q_Bar {a : List Int} {x y : Int} (hc : cs.contains "Bar" = true) : F_Bar cs [tupI a, .int x, .int y] = .r (tmp (Bq (tupI a) (.int x) (.int y))) := by
  have f1 : fldNs.contains ("lot" : Str) = true := by decide +kernel
  have f2 : fldNs.contains ("x" : Str) = true := by decide +kernel
  have f3 : fldNs.contains ("y" : Str) = true := by decide +kernel
  have e1 : (("lot" : Str) == ("x" : Str)) = false := by decide +kernel
  have e2 : (("lot" : Str) == ("y" : Str)) = false := by decide +kernel
  have e3 : (("x" : Str) == ("y" : Str)) = false := by decide +kernel
  have c1 : ∀ i : Int, cpy (.int i) = .int i := fun _ => rfl
  unfold F_Bar r_Bar fl_Bar
  dsimp! [q_copied kn_tupI, q_copied kn_int, cpy_tupI, c1, hc, f1, f2, f3, e1, e2, e3]
  rfl
/-- shed or bar -/
def sobD (n : Nat) (ls : List (List Int)) : D := match bars n ls with
  | [] => .ins "Shed" []
  | b :: _ => Bq (tupI b.1) (.int b.2.1) (.int b.2.2)
theorem q_sob {n : Nat} {ls : List (List Int)} (hc : cs.contains "Closure" = true) (hb : cs.contains "Bar" = true) (hn : n ≤ 6) (hl : ∀ a ∈ ls, Lot n a) (hz : ls.length ≤ 64) : F_shed_or_bar cs [clD n ls] = .r (tmp (sobD n ls)) := by
  unfold F_shed_or_bar r_shed_or_bar
  dsimp! [q_need hc, q_bars_by hn hl hz]
  unfold sobD
  cases bars n ls with
  | nil => rfl
  | cons b r =>
    have d0 : decide (((r.length + 1 : Nat) : Int) = 0) = false := decide_eq_false (by omega)
    have a0 : atI (barD b :: List.map barD r) 0 = some (.tup [tupI b.1, .int b.2.1, .int b.2.2]) := by rw [atI_0]; rfl
    have g0 : atI [tupI b.1, .int b.2.1, .int b.2.2] 0 = some (tupI b.1) := rfl
    have g1 : atI [tupI b.1, .int b.2.1, .int b.2.2] 1 = some (.int b.2.1) := rfl
    have g2 : atI [tupI b.1, .int b.2.1, .int b.2.2] 2 = some (.int b.2.2) := rfl
    dsimp! [d0, a0, g0, g1, g2, q_Bar hb]
theorem sob_is {n : Nat} {ls : List (List Int)} (hb : cs.contains "Bar" = true) (hs : cs.contains "Shed" = true) : isiD cs [.own "Shed"] (sobD n ls) = some (.bl (bars n ls).isEmpty) := by
  have e1 : clsB "Shed" (.ins "Shed" []) = true := by decide +kernel
  have e2 : ∀ l x y, clsB "Shed" (Bq l x y) = false := fun l x y => (by decide +kernel : (("Bar" : Str) == ("Shed" : Str)) = false)
  unfold sobD
  cases bars n ls with
  | nil => rw [isi_cls (show kn cs (.ins "Shed" []) = true from hs), e1]; rfl
  | cons b r => rw [isi_cls (show kn cs (Bq _ _ _) = true from hb), e2]; rfl
theorem q_sl_odd {d : D} (h : OddC cs d) : F_settled_lots cs [d] = .x xClo := by
  unfold F_settled_lots r_settled_lots
  dsimp! [q_need_odd h]
theorem q_sg_odd {d : D} (h : OddC cs d) : F_signed_lots cs [d] = .x xClo := by
  unfold F_signed_lots r_signed_lots
  dsimp! [q_need_odd h]
/-- closures in which () is closed -/
theorem w_empty {b : Nat} {Q : D × Bool → Nat → Prop} {E : Xc → Nat → Prop} (hb : 60 ≤ b) (hQ : ∀ n ls b', 1 ≤ n → n ≤ 5 → FamS n ls → ls.length ≤ 61 → b ≤ b' + 60 → b' ≤ b → Q (val (.tup [.int (n : Nat), .tup (ls.map tupI)])) b') : W (F__law_empty cs [.pen, .int 5]) b Q E := by
  unfold F__law_empty r__law_empty
  dsimp! []
  ((try simp only [bind_assoc]); refine post_seq ?_)
  refine w_any (m := 5) (by omega) (by omega) (by omega) fun n ls b1 h1 h2 hf h3 h4 => ?_
  have nd : ls.Nodup := hf.srt.imp fun h e => by subst e; exact absurd (lex_le h) (by rw [h]; simp)
  have hfew := nodup_len ls (allL n) nd fun a ha => mem_allL.mpr (hf.lot a ha)
  rw [allL_length] at hfew
  have p2 : 2 ^ n ≤ 2 ^ 5 := Nat.pow_le_pow_right (by decide) h2
  have hl : ∀ a ∈ ls ++ [[]], Lot n a := fun a ha => by
    rcases List.mem_append.mp ha with ha | ha
    · exact hf.lot a ha
    · rw [List.mem_singleton.mp ha]; exact ⟨List.Pairwise.nil, fun x hx => by cases hx⟩
  have ad : pOp .Add (.lst (ls.map tupI)) (.lst [.tup []]) = some (tmp (.lst ((ls ++ [[]]).map tupI))) := add_lots (ms := [[]]) (by rw [List.length_singleton]; omega)
  have fam := meets_fam hl
  have nd2 : (meets n (ls ++ [[]])).Nodup := fam.srt.imp fun h e => by subst e; exact absurd (lex_le h) (by rw [h]; simp)
  have f2 := nodup_len (meets n (ls ++ [[]])) (allL n) nd2 fun a ha => mem_allL.mpr (fam.lot a ha)
  rw [allL_length] at f2
  dsimp! [ad, q_lmeets33 (ls := ls ++ [[]]) (d := .lst ((ls ++ [[]]).map tupI)) rfl h2 (by rw [List.length_append, List.length_singleton]; omega) hl]
  exact post_r (hQ _ _ _ h1 h2 fam (by omega) (by omega) (by omega))
theorem eqv_lots : ∀ a b : List (List Int), PyData.eqvAll (a.map pyI) (b.map pyI) = decide (a = b)
  | [], [] => rfl
  | [], _ :: _ => rfl
  | _ :: _, [] => rfl
  | x :: a, y :: b => by
    rw [List.map_cons, List.map_cons, PyData.eqvAll, eqv_lots a b, eqv_tupI, Bool.eq_iff_iff]
    simp
theorem eqD_lotsT {a b : List (List Int)} : eqD (.tup (a.map tupI)) (.tup (b.map tupI)) = some (decide (a = b)) := by
  have p : ∀ a : List (List Int), (D.tup (a.map tupI)).py = some (.tuple (a.map pyI)) := fun a => by
    show (pyL (a.map tupI)).map PyData.tuple = _
    rw [py_tups]; rfl
  have q : ∀ a : List (List Int), SeqAt.shaped (.tuple (a.map pyI)) = true := fun a => shp_tup (lay_tups a) (by have := dep_tups a; omega)
  have r : PyData.eqv (.tuple (a.map pyI)) (.tuple (b.map pyI)) = decide (a = b) := eqv_lots a b
  show eqP _ _ = _
  unfold eqP
  simp only [p, Option.bind_some, q, Bool.and_self, if_true, r]
theorem eqD_lotsL {a b : List (List Int)} : eqD (.lst (a.map tupI)) (.lst (b.map tupI)) = some (decide (a = b)) := by
  have p : ∀ a : List (List Int), (D.lst (a.map tupI)).py = some (.list (a.map pyI)) := fun a => by
    show (pyL (a.map tupI)).map PyData.list = _
    rw [py_tups]; rfl
  have q : ∀ a : List (List Int), SeqAt.shaped (.list (a.map pyI)) = true := fun a => shp_lst (lay_tups a) (by have := dep_tups a; omega)
  have r : PyData.eqv (.list (a.map pyI)) (.list (b.map pyI)) = decide (a = b) := eqv_lots a b
  show eqP _ _ = _
  unfold eqP
  simp only [p, Option.bind_some, q, Bool.and_self, if_true, r]
theorem sortedF {xs : List (List Int)} {g : List Int → List Int} : pB1 cs .sorted (.lst (xs.map fun x => tupI (g x))) = some (tmp (.lst ((srtL (xs.map g)).map tupI))) := by
  have e : (xs.map fun x => tupI (g x)) = (xs.map g).map tupI := by rw [List.map_map]; rfl
  rw [e]
  exact sorted_lotsL
theorem sorted_lotsT {ls : List (List Int)} : pB1 cs .sorted (.tup (ls.map tupI)) = some (tmp (.lst ((srtL ls).map tupI))) := sorted_lots rfl
theorem inD_nil {ls : List (List Int)} : inD (.tup []) (.tup (ls.map tupI)) = some (decide ([] ∈ ls)) := inD_tupT (x := [])
end Sh
set_option maxHeartbeats  4000000
namespace K14
open L2 PySem PySem.Spec PyProof.Rows Sh
theorem hc : cs.contains "Closure" = true := by decide +kernel
theorem hcS : cs.contains "Shed" = true := by decide +kernel
theorem hcB : cs.contains "Bar" = true := by decide +kernel
/-- the slots between laps -/
def E0 : List Sv := [.no, .sh .pen, .no, .no, .no, .no, .no, .no, .no, .no, .no, .no, .no]
theorem abs_sg : ∀ l : List (List Int), (l.map sg).sum.natAbs ≤ l.length
  | [] => Nat.le_refl _
  | a :: l => by
    have h := abs_sg l
    have h1 : sg a = 1 ∨ sg a = -1 := by unfold sg; by_cases q : a.length % 2 = 0 <;> simp [q]
    rw [List.map_cons, List.sum_cons, List.length_cons]
    omega
theorem lap2 {n : Nat} {ls : List (List Int)} {x : Int} {b1 : Nat} (h1 : 1 ≤ n) (hn : n ≤ 6) (hf : FamS n ls) (hz : ls.length ≤ 61) : W (rest cL (match r_law with
  | .cons (.for _ _ (.cons _ l)) _ => l
  | _ => .nil) [.no, .sh .pen, .sh (.int x), .sh (.int (n : Nat)), .sh (.tup (ls.map tupI)), .no, .no, .no, .no, .no, .no, .no, .no]) b1 (fun o b' => o = .nx E0 ∧ b1 ≤ b') noX := by
  have nd : ls.Nodup := hf.srt.imp fun h e => by subst e; exact absurd (lex_le h) (by rw [h]; simp)
  have ss : srtL ls = ls := srt_uniq (r := fun a b => HT.lexLt b a = false) (fun a b h k => lex_anti a b h k) (srtL_perm ls) (srtL_pw ls) (hf.srt.imp lex_le)
  have dl := ded_len_le ls
  have fn : (free n ls).Nodup := (lots_nodup n).filter _
  have fl : ∀ a ∈ free n ls, Lot n a := fun a ha => (mem_free.mp ha).1
  have sl : ∀ a ∈ settled n ls, Lot n a := fun a ha => fl a (List.mem_filter.mp ha).1
  have f64 := few_lots hn fn fl
  have s64 := few_lots hn (fn.filter _) sl
  have s1 : Shw (.tup ((settled n ls).map tupI)) := .of (rp_lots hn sl (by show (List.filter _ _).length ≤ _; omega))
  unfold r_law
  refine W_step ?_
  simp! [q_Closure6 hc h1 hn hf.toFam (by omega), setL_of hf.srt, q_lfree hn]
  refine W_nx (W_step ?_)
  simp! []
  refine W_nx (W_step ?_)
  simp! []
  refine W_nx (W_step ?_)
  simp! [show (List.filter (fun a => decide (a ∈ ls)) (free n ls)) = settled n ls from rfl]
  refine W_nx (W_step ?_)
  simp! [q_lbars hn ss hf.lot (by omega), eqD_bars]
  refine W_nx (W_step ?_)
  have m3 : ∀ i : Int, pOp .Mod (.int i) (.int 2) = some (val (.int (i % 2))) := fun i => by simp [pOp]
  have i3 : ∀ i : Int, pB1 cs .int (.int i) = some (val (.int i)) := fun _ => rfl
  simp! [m3, i3, sg_mod]
  have sS : Shw (.int ((settled n ls).map sg).sum) := .of ⟨by have := abs_sg (settled n ls); have s65 : (settled n ls).length ≤ 64 := s64; show Int.natAbs _ < 10 ^ 12; omega, Nat.zero_le _, Nat.zero_le _⟩
  have z0 : (bars n ls).isEmpty = true → ((settled n ls).map sg).sum = 0 := fun h => signs_zero hf.toFam nd h1 (List.isEmpty_iff.mp h)
  have fe := free_eq hf.toFam nd
  have fg := free_ge hf.toFam nd
  have ca : (bars n ls).isEmpty = true → srtL ((free n ls).map (clos n ls)) = srtL ls := fun h => closings_all hf.toFam nd (List.isEmpty_iff.mp h)
  have mb : ((ls.map fun a => ((bases n ls a).length : Int)).sum) = ((free n ls).length : Int) := by rw [sum_cast, bases_count hf.toFam nd]
  have fz : decide (((free n ls).length : Int) = (ls.length : Int)) = (bars n ls).isEmpty := by
    cases h : (bars n ls).isEmpty with
    | true =>
      have := fe.mpr (List.isEmpty_iff.mp h)
      exact decide_eq_true (by omega)
    | false =>
      refine decide_eq_false fun q => ?_
      have := fe.mp (by omega)
      rw [this] at h
      cases h
  refine W_nx (W_step ?_)
  simp! [q_settled_lots hc hn, repr_eq s1, eqD_rp s1, q_signed hc hn, repr_eq sS, eqD_rp sS, q_sob hc hcB hn hf.lot (show ls.length ≤ 64 by omega), isi_eq, sob_is hcB hcS, eqD_bl]
  have lt : decide (((free n ls).length : Int) < (ls.length : Int)) = false := decide_eq_false (by omega)
  refine W_nx (W_step ?_)
  cases hE : (bars n ls).isEmpty with
  | true =>
    rw [hE] at fz
    have z := z0 hE
    simp! [z, inD_nil, cond_same]
    refine W_nx (W_step ?_)
    simp! [q_free_lots hc hn, eqD_lotsT, q_many_bases hc hn, mb, lt, fz, eqD_bl]
    refine W_nx (W_step ?_)
    simp! [q_lclos hn, sortedF, sorted_lotsT, ca hE, eqD_lotsL]
    refine W_nx (W_step ?_)
    simp! []
    exact W_nx (W_end ⟨rfl, Nat.le_refl _⟩)
  | false =>
    rw [hE] at fz
    simp! []
    refine W_nx (W_step ?_)
    simp! [q_free_lots hc hn, eqD_lotsT, q_many_bases hc hn, mb, lt, fz, eqD_bl]
    refine W_nx (W_step ?_)
    simp! []
    refine W_nx (W_step ?_)
    simp! []
    exact W_nx (W_end ⟨rfl, Nat.le_refl _⟩)
/-- a lap -/
theorem lap_ok {x : Int} {b : Nat} (hb : 1000 ≤ b) : W (bodR cL (.nm 2) (match r_law with
  | .cons (.for _ _ l) _ => l
  | _ => .nil) (.int x) E0) b (fun o b' => o = .nx E0 ∧ b ≤ b' + 1000) noX := by
  unfold E0 r_law
  refine W_lap rfl (W_step ?_)
  simp! [drF_eq, bind_dr]
  refine post_draw (m := 2) (by omega) (by omega) (by omega) fun i hi => ?_
  cases decide ((i : Int) = 0) with
  | true =>
    simp! []
    ((try simp only [bind_assoc]); refine post_seq ?_)
    refine w_empty (by omega) fun n ls b1 h1 h2 hf hz h3 h4 => ?_
    have H := (lap2 (x := x) (b1 := b1) h1 (show n ≤ 6 by omega) hf hz).imp (R := fun o b' => o = .nx E0 ∧ b ≤ b' + 1000) fun o b' h => ⟨h.1, by have := h.2; omega⟩
    simp! []
    exact W_nx H
  | false =>
    simp! []
    ((try simp only [bind_assoc]); refine post_seq ?_)
    refine w_any6 (m := 6) (by omega) (by omega) (by omega) fun n ls b1 h1 h2 hf hz h3 h4 => ?_
    have H := (lap2 (x := x) (b1 := b1) h1 h2 hf hz).imp (R := fun o b' => o = .nx E0 ∧ b ≤ b' + 1000) fun o b' h => ⟨h.1, by have := h.2; omega⟩
    simp! []
    exact W_nx H
theorem shw_clo : Shw (.tup [.str "unlike", .str "closure"]) := shw_w (by decide +kernel) (by decide +kernel) (by simp only [D.shw]; decide +kernel) (by decide) (by simp only [D.siz]; decide +kernel)
theorem lk_un : tab.lookup ("Unlike" : Str) = some (("unlike", ["what"]) : Str × List Str) := by decide +kernel
theorem tries_ok {odd : D} (ho : OddC cs odd) : ∀ d ∈ [D.tup [.clo 0 [odd], .tup [.str "unlike", .str "closure"]], .tup [.clo 1 [odd], .tup [.str "unlike", .str "closure"]]], tryOk (pcOf Fs cs zs) ld tab d := by
  have po := ho.pl
  intro d hd
  simp only [List.mem_cons, List.not_mem_nil, or_false] at hd
  rcases hd with rfl | rfl
  · refine try_x (e := xClo) ?_ shw_clo rfl rfl (by simp [plainL, po]) lk_un rfl
    show rx _ (.call 68 (.cons (.var 0) .nil)) [.sh odd] = _
    simp! [q_sl_odd ho]
  · refine try_x (e := xClo) ?_ shw_clo rfl rfl (by simp [plainL, po]) lk_un rfl
    show rx _ (.call 69 (.cons (.var 0) .nil)) [.sh odd] = _
    simp! [q_sg_odd ho]
theorem law_ok : W (rss cL r_law E0) (2 ^ 40) (fun o _ => o = .rt (.bl true) false) noX := by
  have i5 : InR 5 := ⟨by decide, by decide⟩
  have r5 : rgD 0 5 = (Rg 5).map .int := rgD_Rg 5
  unfold E0 r_law
  refine W_start (W_step (W_for (ds := (Rg 5).map .int) (by simp! [if_pos i5, r5]) ?_))
  rw [forR_map]
  refine forR_post (I := fun pre ρ b => ρ = E0 ∧ 2 ^ 40 ≤ b + 1000 * pre.length) ⟨rfl, by simp⟩ (fun pre x post ρ b e hI => ?_) fun ρ b hI => ?_
  · obtain ⟨rfl, hb⟩ := hI
    have hx := congrArg List.length e
    rw [Rg_length, List.length_append, List.length_cons] at hx
    refine (lap_ok (by omega)).imp fun o b' ho => ?_
    exact ⟨_, ho.1, rfl, by have := ho.2; rw [List.length_append, List.length_singleton]; omega⟩
  · obtain ⟨rfl, hb⟩ := hI
    rw [Rg_length] at hb
    unfold E0
    refine W_start (W_step ?_)
    simp! []
    ((try simp only [bind_assoc]); refine post_seq ?_)
    refine w_odd (by omega) fun odd ho => ?_
    have ho := odd_cls (cs := cs) odd ho
    simp! []
    refine W_nx (W_step ?_)
    simp! []
    refine W_nx (W_step ?_)
    simp! []
    refine W_nx (W_step ?_)
    simp! []
    refine W_nx (W_step ?_)
    simp! []
    refine W_nx (W_step ?_)
    have pw : ∀ (t : Str) (d : D), d.plain = true → (D.tup [.str t, d]).plain = true := fun t d h => by simp [D.plain, plainL, h]
    have sn := snap_lst (snapL_cons (snap_try (cv := fun j => cvOf [Sv.no, Sv.sh D.pen, Sv.no, Sv.no, Sv.no, Sv.no, Sv.no, Sv.no, Sv.no, Sv.no, Sv.no, Sv.sh odd,
          Sv.sh
            (D.lst
              [D.tup [D.lam 0, D.tup [D.str "unlike", D.str "closure"]],
                D.tup [D.lam 1, D.tup [D.str "unlike", D.str "closure"]]])] (lf j)) (n := 0) (cvS rfl ho.pl cv0) (pw "unlike" (.str "closure") rfl))
      (snapL_cons (snap_try (n := 1) (cvS rfl ho.pl cv0) (pw "unlike" (.str "closure") rfl)) snapL_nil))
    have dd := dueF_yes (l := _) (by simp) (tries_ok ho)
    have pt : (D.bl true).plain = true := rfl
    simp! [sn, dd, pt]
    exact W_rt rfl
theorem does_law : LawDoes I.v I.L.N I.r := law_of rfl law_ok
end K14
set_option maxHeartbeats  0
namespace K14
open L2 PySem PySem.Spec PyProof.Rows Sh
def loose0 : List Str := ["ShedError", "BadNumber", "BadClosure", "BadLot", "BadRow", "BadTable", "Unlike", "TooMany", "is_whole", "in_tuples", "copied", "MOST_SIZE", "Closure", "is_lot", "common_of", "is_family", "closure_key", "need_closure", "lot_of", "without", "is_within", "all_lots", "closing_by", "extreme_by", "free_by", "free_lots", "least_by", "many_bases", "settled_by", "settled_lots"]
def loose1 : List Str := ["signed_lots", "Shed", "Bar", "bars_by", "shed_or_bar", "_law_pen", "_law_draw", "_law_pick", "_law_shuffled", "_law_lots", "_law_lot", "_law_in", "_law_both", "_law_without", "_law_meetings", "_law_closing", "_law_extreme", "_law_bars", "_law_ends", "_law_drawn", "_law_shed", "_law_any", "_law_fault", "_law_are_due", "_law_empty", "_law_odd_closure", "_law_free"]
abbrev R : PySem.W.OpenRow := PySem.W.OpenLaw.row PySem.Challenge.rw_shedrows_k14_settled_lots
abbrev hk : PySem.W.Hook := hookM 5 I.fa I.fn [("law", none)] I.ex
def ob (s : PySem.W.SharedT) : He.AlD × Bool := obM 5 I.fa I.fn [("law", none)] I.ex (HandSHeadRun.getT s)
theorem ob_eq (s : PySem.W.SharedT) : ob s = hk.obs s.abs := obM_eq (HandSHeadRun.getT_eq s)
theorem run (w : World) : HandSHeadRun.RunEq R (PySem.W.view R.prog [63]) hk ob 6000 (K14.loose0 ++ K14.loose1) w := by
  intro os
  kernel_rfl
end K14
open PyProof.Rows PySem PySem.W PySem.Calls
theorem PySem.Challenge.cw_shedrows_k14_settled_lots_holds : PySem.Challenge.rw_shedrows_k14_settled_lots.Holds := by
  w_on; o_law
  refine HandSHeadRun.head_any (r := OpenLaw.row PySem.Challenge.rw_shedrows_k14_settled_lots) (q := view (OpenLaw.row PySem.Challenge.rw_shedrows_k14_settled_lots).prog [63]) (H := K14.hk) (ob := K14.ob) (M := 6000) (loose := K14.loose0 ++ K14.loose1) (d := HandSHeadRun.topDef (OpenLaw.row PySem.Challenge.rw_shedrows_k14_settled_lots).prog 63) (kwd := []) K14.ob_eq
    (by kernel_rfl) (fun s => by kernel_rfl) K14.run (by kernel_rfl) (by kernel_rfl) (by kernel_rfl) (by rfl) (by first | assumption | decide +kernel) (by decide +kernel) ⟨rfl, rfl, rfl, rfl, rfl, by decide +kernel⟩ ?hw ?hc
  case hw => w_witness2
  case hc => exact Sh.walkG (l := PySem.Challenge.rw_shedrows_k14_settled_lots) (n := 63) (k := 6 + Sh.lvAll K14.I.defs) (x := "script") rfl (by decide) (by kernel_rfl) ⟨rfl, by decide +kernel, by decide +kernel⟩ (Sh.law_rowF (by kernel_rfl) K14.ck_I K14.ck_due rfl rfl rfl (fun j hj => by cases hj) (fun p hp => by obtain rfl := List.mem_singleton.mp hp; rfl) K14.ck_nm K14.due_ok (fun X o => Sh.draw_ok o) (fun X o => Sh.pen_ok o) K14.does_all0 K14.does_law)
