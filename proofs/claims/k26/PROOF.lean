import PyProof.Rows.All
import Wide.All
import OpenK.AllK
import Wide.FinOn
import KE.KStateDown
import HandS.ForMost
import HandS.Exc
import HandS.Wide
import HandS.TupAny
import HandS.Deep
import HandS.Style
import HandS.SortInts
import HandS.ExcOwn
import HandS.Zip
import HandS.IsInst
import HandS.Iter
import KE.GoesMore
import HandS.Words
import HandS.Defaults
import HandS.Head0
import HandS.Head1
import HandS.Head2
import HandS.HeadEnd
import HandS.HeadHook1
import HandS.HeadHook2
import PySem.Challenge.RW_stintwise_k26_whole_runs_have_long_stint
set_option Elab.async false
set_option linter.all false
set_option maxRecDepth 100000
set_option maxHeartbeats 8000000
namespace F
open PySem PySem.Spec L2

/-- a value: frozen data (never changed again), or a cell (a list, dict or object that may change) -/
inductive D where
  | non | bl (b : Bool) | int (i : Int) | str (x : Str) | ty (n : String) | ref (a : Addr)
  | tup (xs : List D) | lst (xs : List D) | scr (xs : List D) | dct (ks vs : List D) | obj (k : Nat) (fs : List D)
  | cell (n : Nat)
  deriving Inhabited

/-- what a cell holds -/
inductive Cont where
  | lst (xs : List D) | dct (ks vs : List D) | obj (k : Nat) (fs : List D)
  deriving Inhabited

/-- own classes: their places, their fields' names -/
structure GI where
  K : PySem.W.Frag
  mg : Str → Option Value
  cls : Nat → Addr
  flds : Nat → List Str
  exc : Nat → Addr
  exf : Nat → List Str

/-- a world: the abstract heap, the cells' places, what is frozen -/
structure Wd where
  H : Hp
  as : List Addr
  Fz : Addr → Prop

/-- a list of the written part -/
def KList (K : PySem.W.Frag) (a : Addr) (xs : List V) : Prop :=
  ∃ (o : Obj) (its : Array Value) (n : Nat), K.lookup a = some o ∧ o.cls = .type "list" ∧ o.dict = none ∧ o.data = .seq its n ∧ its.size ≤ sizeLine ∧ Vals xs its.toList
def KTup (K : PySem.W.Frag) (a : Addr) (xs : List V) : Prop :=
  ∃ (o : Obj) (its : Array Value) (n : Nat), K.lookup a = some o ∧ o.cls = .type "tuple" ∧ o.data = .seq its n ∧ its.size ≤ sizeLine ∧ Vals xs its.toList
def FzL (W : Wd) (a : Addr) (xs : List V) : Prop := W.Fz a ∧ W.H a = some (.lst xs)
/-- the script -/
def ScL (K : PySem.W.Frag) (W : Wd) (a : Addr) (xs : List V) : Prop := (W.Fz a ∧ ∃ o, W.H a = some (.frz o (.lst xs))) ∨ KList K a xs
def TupAt (K : PySem.W.Frag) (W : Wd) (a : Addr) (xs : List V) : Prop := W.H a = some (.tup xs) ∨ KTup K a xs
theorem FzL.seq {K : PySem.W.Frag} {W : Wd} {a : Addr} {xs : List V} (h : FzL W a xs) : SqL K W.H a xs := .inl (.inl h.2)
theorem ScL.seq {K : PySem.W.Frag} {W : Wd} {a : Addr} {xs : List V} (h : ScL K W a xs) : SqL K W.H a xs := by
  rcases h with ⟨_, o, h⟩ | h
  · exact .inl (.inr ⟨o, h⟩)
  · exact .inr h
theorem TupAt.seq {K : PySem.W.Frag} {W : Wd} {a : Addr} {xs : List V} (h : TupAt K W a xs) : SqT K W.H a xs := by
  rcases h with h | h
  · exact .inl (.inl h)
  · exact .inr h

/-- the dict objects: keys ints (dK) -/
def intKeys : List (Key × V) → List V := fun kvs => kvs.map fun p => kV p.1

mutual
/-- the value v stands for d -/
inductive Den (G : GI) (W : Wd) : V → D → Prop
  | non : Den G W .non .non
  | bl {b} : Den G W (.bl b) (.bl b)
  | int {i} : Den G W (.int i) (.int i)
  | str {x} : Den G W (.str x) (.str x)
  | ty {n} : Den G W (.ty n) (.ty n)
  | ref {a} : Den G W (.ref a) (.ref a)
  | tup {a vs ds} : TupAt G.K W a vs → DenL G W vs ds → Den G W (.ref a) (.tup ds)
  | lst {a vs ds} : FzL W a vs → DenL G W vs ds → Den G W (.ref a) (.lst ds)
  | scr {a vs ds} : ScL G.K W a vs → DenL G W vs ds → Den G W (.ref a) (.scr ds)
  | dctK {a kvs ks ds} : W.Fz a → W.H a = some (.dK kvs) → DenL G W (kvs.map fun p => kV p.1) ks → DenL G W (kvs.map (·.2)) ds → Den G W (.ref a) (.dct ks ds)
  | obj {a k dx gs fs} : W.Fz a → W.H a = some (.ins (G.cls k) dx gs) → gs.map (·.1) = G.flds k → DenL G W (gs.map (·.2)) fs → Den G W (.ref a) (.obj k fs)
  | cell {a n} : W.as[n]? = some a → Den G W (.ref a) (.cell n)
inductive DenL (G : GI) (W : Wd) : List V → List D → Prop
  | nil : DenL G W [] []
  | cons {v d vs ds} : Den G W v d → DenL G W vs ds → DenL G W (v :: vs) (d :: ds)
end

def CellAt (G : GI) (W : Wd) (a : Addr) : Cont → Prop
  | .lst ds => ∃ vs, W.H a = some (.lst vs) ∧ DenL G W vs ds
  | .dct ks ds => ∃ kvs, W.H a = some (.dK kvs) ∧ DenL G W (kvs.map fun p => kV p.1) ks ∧ DenL G W (kvs.map (·.2)) ds
  | .obj k fs => ∃ dx gs, W.H a = some (.ins (G.cls k) dx gs) ∧ gs.map (·.1) = (G.flds k).take fs.length ∧ DenL G W (gs.map (·.2)) fs

structure Ok (G : GI) (W : Wd) (c : List Cont) : Prop where
  len : W.as.length = c.length
  nd : W.as.Nodup
  fz : ∀ b, W.Fz b → b ∉ W.as
  fzt : ∀ b, W.Fz b → ∃ o, W.H b = some o
  cell : ∀ (n : Nat) (a : Addr) (x : Cont), W.as[n]? = some a → c[n]? = some x → CellAt G W a x

/-- from one world to a later one -/
structure Fr (W W' : Wd) : Prop where
  tup : ∀ b xs, W.H b = some (.tup xs) → W'.H b = some (.tup xs)
  keep : ∀ b o, W.H b = some o → b ∉ W.as → W'.H b = some o
  fz : ∀ b, W.Fz b → W'.Fz b
  trk : ∀ b, W'.H b = none → W.H b = none
  new : ∀ b, b ∈ W'.as → b ∈ W.as ∨ W.H b = none
  fzn : ∀ b, W'.Fz b → W.Fz b ∨ W.H b = none ∨ b ∈ W.as
/-- .. where the cells stay, in their places -/
structure Ext (W W' : Wd) : Prop extends Fr W W' where
  as : W.as <+: W'.as

theorem Fr.refl (W : Wd) : Fr W W := ⟨fun _ _ h => h, fun _ _ h _ => h, fun _ h => h, fun _ h => h, fun _ h => .inl h, fun _ h => .inl h⟩
theorem Fr.trans {W W' W'' : Wd} (x : Fr W W') (y : Fr W' W'') : Fr W W'' where
  tup := fun b xs h => y.tup b xs (x.tup b xs h)
  keep := fun b o h hb => y.keep b o (x.keep b o h hb) fun h' => by
    rcases x.new b h' with z | z
    · exact hb z
    · rw [h] at z; cases z
  fz := fun b h => y.fz b (x.fz b h)
  trk := fun b h => x.trk b (y.trk b h)
  new := fun b h => by
    rcases y.new b h with z | z
    · exact x.new b z
    · exact .inr (x.trk b z)
  fzn := fun b h => by
    rcases y.fzn b h with z | z | z
    · exact x.fzn b z
    · exact .inr (.inl (x.trk b z))
    · rcases x.new b z with q | q
      · exact .inr (.inr q)
      · exact .inr (.inl q)
theorem Ext.refl (W : Wd) : Ext W W := ⟨Fr.refl W, List.prefix_refl _⟩
theorem Ext.trans {W W' W'' : Wd} (x : Ext W W') (y : Ext W' W'') : Ext W W'' := ⟨x.toFr.trans y.toFr, x.as.trans y.as⟩
theorem Ext.get {W W' : Wd} (x : Ext W W') {n : Nat} {a : Addr} (h : W.as[n]? = some a) : W'.as[n]? = some a := by
  obtain ⟨t, e⟩ := x.as
  rw [← e, List.getElem?_append_left (List.getElem?_eq_some_iff.mp h).1]
  exact h

section
variable {G : GI} {W W' : Wd} {c c' : List Cont}

theorem DenL.length : ∀ {vs : List V} {ds : List D}, DenL G W vs ds → vs.length = ds.length
  | _, _, .nil => rfl
  | _, _, .cons _ t => by rw [List.length_cons, List.length_cons, DenL.length t]
theorem DenL.get : ∀ {vs : List V} {ds : List D} {i : Nat} {d : D}, DenL G W vs ds → ds[i]? = some d → ∃ v, vs[i]? = some v ∧ Den G W v d
  | _, _, _, _, .nil, e => by simp at e
  | _, _, 0, _, .cons r _, e => by simp at e; subst e; exact ⟨_, rfl, r⟩
  | _, _, i + 1, d, .cons _ t, e => by
    obtain ⟨v, h1, h2⟩ := DenL.get (i := i) (d := d) t (by simpa using e)
    exact ⟨v, by simpa using h1, h2⟩
theorem DenL.getV : ∀ {vs : List V} {ds : List D} {i : Nat} {v : V}, DenL G W vs ds → vs[i]? = some v → ∃ d, ds[i]? = some d ∧ Den G W v d
  | _, _, _, _, .nil, e => by simp at e
  | _, _, 0, _, .cons r _, e => by simp at e; subst e; exact ⟨_, rfl, r⟩
  | _, _, i + 1, d, .cons _ t, e => by
    obtain ⟨v, h1, h2⟩ := DenL.getV (i := i) t (by simpa using e)
    exact ⟨v, by simpa using h1, h2⟩
theorem DenL.append : ∀ {vs ws : List V} {ds es : List D}, DenL G W vs ds → DenL G W ws es → DenL G W (vs ++ ws) (ds ++ es)
  | _, _, _, _, .nil, s => s
  | _, _, _, _, .cons r t, s => .cons r (DenL.append t s)
theorem DenL.take : ∀ {vs : List V} {ds : List D} (n : Nat), DenL G W vs ds → DenL G W (vs.take n) (ds.take n)
  | _, _, 0, _ => by simp; exact .nil
  | _, _, _ + 1, .nil => .nil
  | _, _, n + 1, .cons r t => .cons r (DenL.take n t)
theorem DenL.drop : ∀ {vs : List V} {ds : List D} (n : Nat), DenL G W vs ds → DenL G W (vs.drop n) (ds.drop n)
  | _, _, 0, r => r
  | _, _, _ + 1, .nil => .nil
  | _, _, n + 1, .cons _ t => DenL.drop n t
theorem DenL.set {v : V} {d : D} (r : Den G W v d) : ∀ {vs : List V} {ds : List D} (i : Nat), DenL G W vs ds → DenL G W (vs.set i v) (ds.set i d)
  | _, _, _, .nil => .nil
  | _, _, 0, .cons _ t => .cons r t
  | _, _, i + 1, .cons q t => .cons q (DenL.set r i t)
theorem DenL.reverse : ∀ {vs : List V} {ds : List D}, DenL G W vs ds → DenL G W vs.reverse ds.reverse
  | _, _, .nil => .nil
  | _, _, .cons r t => by
    rw [List.reverse_cons, List.reverse_cons]
    exact (DenL.reverse t).append (.cons r .nil)
theorem DenL.ints {vs : List V} {ns : List Int} (h : DenL G W vs (ns.map D.int)) : vs = ns.map V.int := by
  induction ns generalizing vs with
  | nil => cases h; rfl
  | cons n r ih =>
    cases h with
    | cons x t => cases x; rw [ih t]; rfl
theorem DenL.of_ints : ∀ {ns : List Int}, DenL G W (ns.map V.int) (ns.map D.int)
  | [] => .nil
  | _ :: _ => .cons .int DenL.of_ints

/-- what frozen data leans on stays -/
structure Mv (W W' : Wd) : Prop where
  tup : ∀ b xs, W.H b = some (.tup xs) → W'.H b = some (.tup xs)
  fzk : ∀ b o, W.Fz b → W.H b = some o → W'.H b = some o
  fz : ∀ b, W.Fz b → W'.Fz b
theorem Fr.mv (x : Fr W W') (fzk : ∀ b, W.Fz b → b ∉ W.as) : Mv W W' := ⟨x.tup, fun b o f h => x.keep b o h (fzk b f), x.fz⟩
theorem FzL.mono {a : Addr} {xs : List V} (x : Mv W W') (h : FzL W a xs) : FzL W' a xs := ⟨x.fz a h.1, x.fzk a _ h.1 h.2⟩
theorem ScL.mono {a : Addr} {xs : List V} (x : Mv W W') (h : ScL G.K W a xs) : ScL G.K W' a xs := by
  rcases h with ⟨f, o, h⟩ | h
  · exact .inl ⟨x.fz a f, o, x.fzk a _ f h⟩
  · exact .inr h
theorem TupAt.mono {a : Addr} {xs : List V} (x : Mv W W') (h : TupAt G.K W a xs) : TupAt G.K W' a xs := by
  rcases h with h | h
  · exact .inl (x.tup a xs h)
  · exact .inr h
mutual
/-- the cells replaced -/
def D.sub (ρ : Nat → D) : D → D
  | .tup xs => .tup (D.subL ρ xs)
  | .lst xs => .lst (D.subL ρ xs)
  | .scr xs => .scr (D.subL ρ xs)
  | .dct ks vs => .dct (D.subL ρ ks) (D.subL ρ vs)
  | .obj k fs => .obj k (D.subL ρ fs)
  | .cell n => ρ n
  | .non => .non
  | .bl b => .bl b
  | .int i => .int i
  | .str x => .str x
  | .ty n => .ty n
  | .ref a => .ref a
def D.subL (ρ : Nat → D) : List D → List D
  | [] => []
  | d :: ds => D.sub ρ d :: D.subL ρ ds
end
mutual
/-- no cell within -/
def D.nc : D → Bool
  | .tup xs => D.ncL xs
  | .lst xs => D.ncL xs
  | .scr xs => D.ncL xs
  | .dct ks vs => D.ncL ks && D.ncL vs
  | .obj _ fs => D.ncL fs
  | .cell _ => false
  | .non => true
  | .bl _ => true
  | .int _ => true
  | .str _ => true
  | .ty _ => true
  | .ref _ => true
def D.ncL : List D → Bool
  | [] => true
  | d :: ds => D.nc d && D.ncL ds
end
mutual
/-- every cell within holds p -/
def D.all (p : Nat → Bool) : D → Bool
  | .tup xs => D.allL p xs
  | .lst xs => D.allL p xs
  | .scr xs => D.allL p xs
  | .dct ks vs => D.allL p ks && D.allL p vs
  | .obj _ fs => D.allL p fs
  | .cell n => p n
  | .non => true
  | .bl _ => true
  | .int _ => true
  | .str _ => true
  | .ty _ => true
  | .ref _ => true
def D.allL (p : Nat → Bool) : List D → Bool
  | [] => true
  | d :: ds => D.all p d && D.allL p ds
end
mutual
theorem D.all_of_nc {p : Nat → Bool} : ∀ {d : D}, d.nc = true → d.all p = true
  | .non, _ | .bl _, _ | .int _, _ | .str _, _ | .ty _, _ | .ref _, _ => rfl
  | .tup _, h => D.allL_of_nc (by simpa [D.nc] using h)
  | .lst _, h => D.allL_of_nc (by simpa [D.nc] using h)
  | .scr _, h => D.allL_of_nc (by simpa [D.nc] using h)
  | .dct ks vs, h => by
    simp only [D.nc, Bool.and_eq_true] at h
    simp only [D.all, Bool.and_eq_true]
    exact ⟨D.allL_of_nc h.1, D.allL_of_nc h.2⟩
  | .obj _ _, h => D.allL_of_nc (by simpa [D.nc] using h)
  | .cell _, h => by simp [D.nc] at h
theorem D.allL_of_nc {p : Nat → Bool} : ∀ {ds : List D}, D.ncL ds = true → D.allL p ds = true
  | [], _ => rfl
  | d :: ds, h => by
    simp only [D.ncL, Bool.and_eq_true] at h
    simp only [D.allL, Bool.and_eq_true]
    exact ⟨D.all_of_nc h.1, D.allL_of_nc h.2⟩
end
mutual
theorem D.sub_nc {ρ : Nat → D} : ∀ {d : D}, d.nc = true → d.sub ρ = d
  | .non, _ | .bl _, _ | .int _, _ | .str _, _ | .ty _, _ | .ref _, _ => rfl
  | .tup _, h => by simp only [D.sub]; rw [D.subL_nc (by simpa [D.nc] using h)]
  | .lst _, h => by simp only [D.sub]; rw [D.subL_nc (by simpa [D.nc] using h)]
  | .scr _, h => by simp only [D.sub]; rw [D.subL_nc (by simpa [D.nc] using h)]
  | .dct ks vs, h => by
    simp only [D.nc, Bool.and_eq_true] at h
    simp only [D.sub]; rw [D.subL_nc h.1, D.subL_nc h.2]
  | .obj _ _, h => by simp only [D.sub]; rw [D.subL_nc (by simpa [D.nc] using h)]
  | .cell _, h => by simp [D.nc] at h
theorem D.subL_nc {ρ : Nat → D} : ∀ {ds : List D}, D.ncL ds = true → D.subL ρ ds = ds
  | [], _ => rfl
  | d :: ds, h => by
    simp only [D.ncL, Bool.and_eq_true] at h
    simp only [D.subL]; rw [D.sub_nc h.1, D.subL_nc h.2]
end
theorem D.subL_eq {ρ : Nat → D} : ∀ {ds : List D}, D.subL ρ ds = ds.map (D.sub ρ)
  | [] => rfl
  | d :: ds => by simp only [D.subL, List.map_cons]; rw [D.subL_eq]
theorem D.ncL_eq : ∀ {ds : List D}, D.ncL ds = ds.all D.nc
  | [] => rfl
  | d :: ds => by simp only [D.ncL, List.all_cons]; rw [D.ncL_eq]
theorem D.ncL_map {α : Type} {f : α → D} (h : ∀ x, (f x).nc = true) : ∀ {xs : List α}, D.ncL (xs.map f) = true
  | [] => rfl
  | x :: xs => by simp only [List.map_cons, D.ncL, h x, Bool.true_and]; exact D.ncL_map h
theorem D.ncL_append : ∀ {xs ys : List D}, D.ncL (xs ++ ys) = (D.ncL xs && D.ncL ys)
  | [], ys => by simp [D.ncL]
  | x :: xs, ys => by simp only [List.cons_append, D.ncL]; rw [D.ncL_append, Bool.and_assoc]
theorem D.subL_append {ρ : Nat → D} {xs ys : List D} : D.subL ρ (xs ++ ys) = D.subL ρ xs ++ D.subL ρ ys := by
  rw [D.subL_eq, D.subL_eq, D.subL_eq, List.map_append]

mutual
theorem Den.sub {ρ : Nat → D} {p : Nat → Bool} (x : Mv W W') (has : ∀ (n : Nat) (a : Addr), p n = true → W.as[n]? = some a → Den G W' (.ref a) (ρ n)) : ∀ {v : V} {d : D}, d.all p = true → Den G W v d → Den G W' v (d.sub ρ)
  | _, _, _, .non => .non
  | _, _, _, .bl => .bl
  | _, _, _, .int => .int
  | _, _, _, .str => .str
  | _, _, _, .ty => .ty
  | _, _, _, .ref => .ref
  | _, _, q, .tup h t => by simp only [D.all] at q; simp only [D.sub]; exact .tup (h.mono x) (DenL.sub x has q t)
  | _, _, q, .lst h t => by simp only [D.all] at q; simp only [D.sub]; exact .lst (h.mono x) (DenL.sub x has q t)
  | _, _, q, .scr h t => by simp only [D.all] at q; simp only [D.sub]; exact .scr (h.mono x) (DenL.sub x has q t)
  | _, _, q, .dctK f h t u => by
    simp only [D.all, Bool.and_eq_true] at q; simp only [D.sub]
    exact .dctK (x.fz _ f) (x.fzk _ _ f h) (DenL.sub x has q.1 t) (DenL.sub x has q.2 u)
  | _, _, q, .obj f h e t => by simp only [D.all] at q; simp only [D.sub]; exact .obj (x.fz _ f) (x.fzk _ _ f h) e (DenL.sub x has q t)
  | _, _, q, .cell h => by simp only [D.all] at q; exact has _ _ q h
theorem DenL.sub {ρ : Nat → D} {p : Nat → Bool} (x : Mv W W') (has : ∀ (n : Nat) (a : Addr), p n = true → W.as[n]? = some a → Den G W' (.ref a) (ρ n)) : ∀ {vs : List V} {ds : List D}, D.allL p ds = true → DenL G W vs ds → DenL G W' vs (D.subL ρ ds)
  | _, _, _, .nil => .nil
  | _, _, q, .cons r t => by
    simp only [D.allL, Bool.and_eq_true] at q
    simp only [D.subL]
    exact .cons (Den.sub x has q.1 r) (DenL.sub x has q.2 t)
end
mutual
theorem D.all_true : ∀ {d : D}, d.all (fun _ => true) = true
  | .non | .bl _ | .int _ | .str _ | .ty _ | .ref _ | .cell _ => rfl
  | .tup _ | .lst _ | .scr _ | .obj _ _ => by simp only [D.all]; exact D.allL_true
  | .dct _ _ => by simp only [D.all, Bool.and_eq_true]; exact ⟨D.allL_true, D.allL_true⟩
theorem D.allL_true : ∀ {ds : List D}, D.allL (fun _ => true) ds = true
  | [] => rfl
  | d :: ds => by simp only [D.allL, Bool.and_eq_true]; exact ⟨D.all_true, D.allL_true⟩
end
mutual
theorem D.all_imp {p q : Nat → Bool} (h : ∀ j, p j = true → q j = true) : ∀ {d : D}, d.all p = true → d.all q = true
  | .non, _ | .bl _, _ | .int _, _ | .str _, _ | .ty _, _ | .ref _, _ => rfl
  | .cell n, x => h n x
  | .tup _, x => by simp only [D.all] at x ⊢; exact D.allL_imp h x
  | .lst _, x => by simp only [D.all] at x ⊢; exact D.allL_imp h x
  | .scr _, x => by simp only [D.all] at x ⊢; exact D.allL_imp h x
  | .obj _ _, x => by simp only [D.all] at x ⊢; exact D.allL_imp h x
  | .dct _ _, x => by simp only [D.all, Bool.and_eq_true] at x ⊢; exact ⟨D.allL_imp h x.1, D.allL_imp h x.2⟩
theorem D.allL_imp {p q : Nat → Bool} (h : ∀ j, p j = true → q j = true) : ∀ {ds : List D}, D.allL p ds = true → D.allL q ds = true
  | [], _ => rfl
  | _ :: _, x => by simp only [D.allL, Bool.and_eq_true] at x ⊢; exact ⟨D.all_imp h x.1, D.allL_imp h x.2⟩
end
mutual
theorem Den.mono0 (x : Mv W W') (has : ∀ (n : Nat) (a : Addr), W.as[n]? = some a → W'.as[n]? = some a) : ∀ {v : V} {d : D}, Den G W v d → Den G W' v d
  | _, _, .non => .non
  | _, _, .bl => .bl
  | _, _, .int => .int
  | _, _, .str => .str
  | _, _, .ty => .ty
  | _, _, .ref => .ref
  | _, _, .tup h t => .tup (h.mono x) (DenL.mono0 x has t)
  | _, _, .lst h t => .lst (h.mono x) (DenL.mono0 x has t)
  | _, _, .scr h t => .scr (h.mono x) (DenL.mono0 x has t)
  | _, _, .dctK f h t u => .dctK (x.fz _ f) (x.fzk _ _ f h) (DenL.mono0 x has t) (DenL.mono0 x has u)
  | _, _, .obj f h e t => .obj (x.fz _ f) (x.fzk _ _ f h) e (DenL.mono0 x has t)
  | _, _, .cell h => .cell (has _ _ h)
theorem DenL.mono0 (x : Mv W W') (has : ∀ (n : Nat) (a : Addr), W.as[n]? = some a → W'.as[n]? = some a) : ∀ {vs : List V} {ds : List D}, DenL G W vs ds → DenL G W' vs ds
  | _, _, .nil => .nil
  | _, _, .cons r t => .cons (Den.mono0 x has r) (DenL.mono0 x has t)
end
theorem Den.mono (ok : Ok G W c) (x : Ext W W') {v : V} {d : D} (h : Den G W v d) : Den G W' v d := Den.mono0 (x.toFr.mv ok.fz) (fun _ _ e => x.get e) h
theorem DenL.mono (ok : Ok G W c) (x : Ext W W') {vs : List V} {ds : List D} (h : DenL G W vs ds) : DenL G W' vs ds := DenL.mono0 (x.toFr.mv ok.fz) (fun _ _ e => x.get e) h
end
end F

namespace F
open PySem PySem.Spec L2

abbrev Cs := List Cont
abbrev QE := D → Cs → Prop
/-- an exception's wish: its class, its fields -/
abbrev QX := Nat → List D → Cs → Prop
abbrev En := List (Option D)
/-- a promise: the arguments, the cells handed in, what is wanted behind -/
abbrev Phi := List D → Cs → QE → QX → Prop

inductive Lt where | int (i : Int) | bl (b : Bool) | non | str (x : Str)
def Lt.d : Lt → D
  | .int i => .int i
  | .bl b => .bl b
  | .non => .non
  | .str x => .str x
inductive B2 where | add | sub | mul | fdiv | mod | pow | lt | le | gt | ge | eq | ne | is | isn | inn | nin | idx
  deriving DecidableEq
inductive U1 where | neg | not
  deriving DecidableEq
/-- built-in functions called by name -/
inductive Bi where | len | abs | max | min | sum | all | any | int | list | tuple | sorted | str
  deriving DecidableEq
/-- built-in methods -/
inductive Mt where | append | extend | pop | popAt | clear | insert
  deriving DecidableEq
/-- what isinstance asks for -/
inductive Ty where | bt (x : String) | cls (k : Nat)
  deriving DecidableEq

mutual
inductive FE where
  | var (i : Nat) | lit (l : Lt) | con (k : Nat)
  | un (o : U1) (a : FE) | bin (o : B2) (m : Bool) (a b : FE)
  | bop (isAnd : Bool) (es : FA)
  | chain (o p : B2) (a b c : FE)
  | ife (c : FC) (a b : FE)
  | tup (es : FA) | lst (m : Bool) (es : FA)
  | slc (m : Bool) (a : FE) (lo hi : FA)
  | attr (a : FE) (k j : Nat)
  | call (f : Nat) (es : FA)
  | meth (f : Nat) (a : FE) (es : FA)
  | make (k f : Nat) (es : FA)
  | bi (o : Bi) (m : Bool) (es : FA)
  | mt (o : Mt) (a : FE) (es : FA)
  | isi (a : FE) (ts : List Ty) (tupled : Bool)
  | comp (m keep : Bool) (t : FT) (it : FI) (cond : FCs) (e : FE) (vs : List (Str × Nat))
  | frz (a : FE) | dead | rev (m : Bool) (a : FE)
  | dct0 (m : Bool) | dct1 (m : Bool) (k v : FE)
inductive FA where | nil | cons (e : FE) (es : FA)
/-- tests -/
inductive FC where | val (e : FE) | not (c : FC) | bop (isAnd : Bool) (cs : FCs)
inductive FCs where | nil | cons (c : FC) (cs : FCs)
/-- what is walked -/
inductive FI where | ex (e : FE) | rng1 (a : FE) | rng2 (a b : FE) | rng3 (a b c : FE) | enum (a : FE) | zip (a b : FE)
/-- targets -/
inductive FT where | nm (i : Nat) | tp (ts : FTs)
inductive FTs where | nil | cons (t : FT) (ts : FTs)
end

mutual
inductive FS where
  | expr (e : FE) | set (t : FT) (e : FE) | setC (i : Nat) (e : FE)
  | par (i j : Nat) (a b : FE)
  | aug (i : Nat) (o : B2) (m : Bool) (e : FE)
  | setI (o i v : FE) | augI (o : B2) (a i v : FE)
  | setA (a : FE) (k j : Nat) (v : FE)
  | augA (a : FE) (k j : Nat) (o : B2) (v : FE)
  | ifs (c : FC) (a b : FSs) | for_ (keep : Bool) (t : FT) (it : FI) (b : FSs) | while_ (c : FC) (b : FSs)
  | ret (e : FE) | retN | brk | cnt | pass
  | rais (k f : Nat) (es : FA)
  | frz (i : Nat) | forget (i : Nat) | dead
inductive FSs where | nil | cons (s : FS) (ss : FSs)
end

/-- how a def is called: by its name, as a method of class k, as the maker of class k -/
inductive FK where | fn (x : Str) | mth (k : Nat) (x : Str) | ini (k : Nat) (x : Str)
/-- what a def's check and walk know of the others -/
structure CI where
  kind : Nat → FK
  np : Nat → Nat
  phi : Nat → Phi
  /-- module constants (ints) -/
  nc : Nat
  cname : Nat → Str
  cval : Nat → Int
  /-- own classes, their names, fields -/
  nk : Nat
  kname : Nat → Str
  flds : Nat → List Str
  /-- exceptions -/
  ne : Nat
  ename : Nat → Str
def objIs (c : List Cont) (k : FK) : D → Bool
  | .obj k' _ => match k with
    | .mth j _ => k' == j
    | _ => false
  | .cell n => match c[n]? with
    | some (.obj k' _) => match k with
      | .mth j _ => k' == j
      | _ => false
    | _ => false
  | _ => false

def getL (c : Cs) : D → Option (List D)
  | .lst xs => some xs
  | .cell n => match c[n]? with
    | some (.lst xs) => some xs
    | _ => none
  | _ => none
def getR (c : Cs) : D → Option (List D)
  | .scr xs => some xs
  | d => getL c d
def getS (c : Cs) : D → Option (List D)
  | .tup xs => some xs
  | .scr xs => some xs
  | d => getL c d
mutual
def toP : D → Option PyData
  | .non => some .none
  | .bl b => some (.bool b)
  | .int i => some (.int i)
  | .str x => some (.str x)
  | .tup xs => (toPL xs).map .tuple
  | .lst xs => (toPL xs).map .list
  | _ => none
def toPL : List D → Option (List PyData)
  | [] => some []
  | d :: ds => match toP d, toPL ds with
    | some p, some ps => some (p :: ps)
    | _, _ => none
end
def toPc (c : Cs) : D → Option PyData
  | .cell n => match c[n]? with
    | some (.lst xs) => (toPL xs).map .list
    | _ => none
  | d => toP d

def newL (m : Bool) (xs : List D) (c : Cs) (Q : QE) : Prop := match m with
  | true => Q (.cell c.length) (c ++ [.lst xs])
  | false => Q (.lst xs) c
/-- an if that whnf leaves alone where its test is open -/
def sIf (b : Bool) (A B : Prop) : Prop := match b with
  | true => A
  | false => B
/-- a product that the model lets by: one factor below 2^64, or both below 2^400000 -/
def mulOk (i j : Int) : Prop := (-(2 ^ 64) < i ∧ i < 2 ^ 64) ∨ (-(2 ^ 64) < j ∧ j < 2 ^ 64) ∨ (i.natAbs < 2 ^ 400 ∧ j.natAbs < 2 ^ 400)

def addD (m : Bool) (c : Cs) (Q : QE) : D → D → Prop
  | .int i, .int j => Q (.int (i + j)) c
  | .str x, .str y => x.length + y.length ≤ 16777216 ∧ Q (.str (x ++ y)) c
  | .tup xs, .tup ys => xs.length + ys.length ≤ 16777216 ∧ Q (.tup (xs ++ ys)) c
  | a, b => match getL c a with
    | some xs => match getL c b with
      | some ys => xs.length + ys.length ≤ 16777216 ∧ newL m (xs ++ ys) c Q
      | none => False
    | none => False
def repL (m : Bool) (c : Cs) (Q : QE) (k : Int) : Option (List D) → Prop
  | some xs => (-(2 ^ 63) ≤ k ∧ k < 2 ^ 63 ∧ xs.length * k.toNat ≤ 16777216) ∧ newL m (List.replicate k.toNat xs).flatten c Q
  | none => False
def mulD (m : Bool) (c : Cs) (Q : QE) : D → D → Prop
  | .int i, .int j => mulOk i j ∧ Q (.int (i * j)) c
  | a, .int k => repL m c Q k (getL c a)
  | _, _ => False
def int2 (P : Int → Int → Prop) : D → D → Prop
  | .int i, .int j => P i j
  | _, _ => False
def eqG (c : Cs) (f : Bool → Bool) (Q : QE) : Option PyData → Option PyData → Prop
  | some d, some e => SeqAt.shaped d = true ∧ SeqAt.shaped e = true ∧ Q (.bl (f (PyData.eqv d e))) c
  | _, _ => False
def eqD (c : Cs) (f : Bool → Bool) (Q : QE) : D → D → Prop
  | .int i, .int j => Q (.bl (f (decide (i = j)))) c
  | .bl i, .bl j => Q (.bl (f (decide (i = j)))) c
  | .str i, .str j => Q (.bl (f (decide (i = j)))) c
  | a, b => eqG c f Q (toPc c a) (toPc c b)
def isNon : D → Bool
  | .non => true
  | _ => false
def isD (c : Cs) (f : Bool → Bool) (Q : QE) : D → D → Prop
  | a, .non => Q (.bl (f (isNon a))) c
  | .bl i, .bl j => Q (.bl (f (decide (i = j)))) c
  | _, _ => False
def idxS (c : Cs) (Q : QE) (i : Int) : Option (List D) → Prop
  | some xs => match atI xs i with
    | some d => Q d c
    | none => False
  | none => False
def inD (c : Cs) (f : Bool → Bool) (Q : QE) (x : D) : Option (List D) → Prop
  | some ys => match toP x, toPL ys with
    | some d, some es => SeqAt.shaped d = true ∧ SeqAt.shaped (.list es) = true ∧ Q (.bl (f (es.any fun z => PyData.eqv z d))) c
    | _, _ => False
  | none => False
def wpB (o : B2) (m : Bool) (a b : D) (c : Cs) (Q : QE) : Prop := match o with
  | .add => addD m c Q a b
  | .sub => int2 (fun i j => Q (.int (i - j)) c) a b
  | .mul => mulD m c Q a b
  | .fdiv => int2 (fun i j => (0 < j ∧ j.natAbs < 2 ^ 9000) ∧ Q (.int (i / j)) c) a b
  | .mod => int2 (fun i j => 0 < j ∧ Q (.int (i % j)) c) a b
  | .pow => int2 (fun i j => (0 ≤ j ∧ j ≤ 1000000 ∧ i.natAbs < 2 ^ 64) ∧ Q (.int (i ^ j.toNat)) c) a b
  | .lt => int2 (fun i j => Q (.bl (decide (i < j))) c) a b
  | .le => int2 (fun i j => Q (.bl (decide (i ≤ j))) c) a b
  | .gt => int2 (fun i j => Q (.bl (decide (j < i))) c) a b
  | .ge => int2 (fun i j => Q (.bl (decide (j ≤ i))) c) a b
  | .eq => eqD c (fun b => b) Q a b
  | .ne => eqD c (fun b => !b) Q a b
  | .is => isD c (fun b => b) Q a b
  | .isn => isD c (fun b => !b) Q a b
  | .inn => inD c (fun b => b) Q a (getL c b)
  | .nin => inD c (fun b => !b) Q a (getL c b)
  | .idx => match b with
    | .int i => idxS c Q i (getS c a)
    | _ => False

def sumI : List D → Option Int
  | [] => some 0
  | .int i :: r => (sumI r).map (i + ·)
  | _ => none
def allB : List D → Option (List Bool)
  | [] => some []
  | .bl b :: r => (allB r).map (b :: ·)
  | _ => none
def allI : List D → Option (List Int)
  | [] => some []
  | .int i :: r => (allI r).map (i :: ·)
  | _ => none
def onO {α : Type} (o : Option α) (P : α → Prop) : Prop := match o with
  | some x => P x
  | none => False
def wpBi (o : Bi) (m : Bool) (as : List D) (c : Cs) (Q : QE) : Prop := match o, as with
  | .len, [a] => onO (getS c a) fun xs => Q (.int xs.length) c
  | .abs, [.int i] => Q (.int (if i < 0 then -i else i)) c
  | .max, [.int i, .int j] => Q (.int (if j > i then j else i)) c
  | .min, [.int i, .int j] => Q (.int (if j < i then j else i)) c
  | .sum, [a] => onO (getR c a) fun xs => onO (allI xs) fun ns => Q (.int ns.sum) c
  | .all, [a] => onO (getR c a) fun xs => onO (allB xs) fun bs => Q (.bl (bs.all id)) c
  | .any, [a] => onO (getR c a) fun xs => onO (allB xs) fun bs => Q (.bl (bs.any id)) c
  | .int, [.int i] => Q (.int i) c
  | .int, [.bl b] => Q (.int (if b then 1 else 0)) c
  | .sorted, [a] => onO (getR c a) fun xs => onO (allI xs) fun ns => ∀ ms : List Int, ms.Perm ns → ms.Pairwise (· ≤ ·) → newL m (ms.map D.int) c Q
  | .list, [a] => onO (getS c a) fun xs => newL m xs c Q
  | .tuple, [a] => onO (getS c a) fun xs => Q (.tup xs) c
  | _, _ => False

def wpMt (o : Mt) (a : D) (as : List D) (c : Cs) (Q : QE) : Prop := match o, a, as with
  | .append, .cell n, [x] => onO (getL c (.cell n)) fun xs => xs.length < 16777216 ∧ Q .non (c.set n (.lst (xs ++ [x])))
  | .clear, .cell n, [] => onO (getL c (.cell n)) fun _ => Q .non (c.set n (.lst []))
  | .extend, .cell n, [b] => onO (getL c (.cell n)) fun xs => onO (getL c b) fun ys => True ∧ xs.length + ys.length ≤ 16777216 ∧ Q .non (c.set n (.lst (xs ++ ys)))
  | .pop, .cell n, [] => onO (getL c (.cell n)) fun xs => onO xs.getLast? fun x => Q x (c.set n (.lst xs.dropLast))
  | _, _, _ => False

/-- the type of a value: a built-in one, or an own class -/
def tyD (c : Cs) : D → Option Ty
  | .non => some (.bt "NoneType")
  | .bl _ => some (.bt "bool")
  | .int _ => some (.bt "int")
  | .str _ => some (.bt "str")
  | .tup _ => some (.bt "tuple")
  | .lst _ => some (.bt "list")
  | .scr _ => some (.bt "list")
  | .dct _ _ => some (.bt "dict")
  | .obj k _ => some (.cls k)
  | .cell n => match c[n]? with
    | some (.lst _) => some (.bt "list")
    | some (.dct _ _) => some (.bt "dict")
    | some (.obj k _) => some (.cls k)
    | none => none
  | _ => none
def tySub : Ty → Ty → Bool
  | .bt x, .bt y => if x = y then true else if x = "bool" then decide (y = "int") else false
  | .cls k, .cls j => k == j
  | _, _ => false
def newD (m : Bool) (ks vs : List D) (c : Cs) (Q : QE) : Prop := match m with
  | true => Q (.cell c.length) (c ++ [.dct ks vs])
  | false => Q (.dct ks vs) c
def isKey : D → Bool
  | .int _ => true
  | .str _ => true
  | _ => false

def setE (env : En) (i : Nat) (d : D) : En := env.set i (some d)
def wipeE (env : En) : List Nat → En
  | [] => env
  | v :: vs => (wipeE env vs).set v none
def ftLen : FTs → Nat
  | .nil => 0
  | .cons _ ts => ftLen ts + 1
mutual
def wpT : FT → D → En → Cs → (En → Prop) → Prop
  | .nm i, d, env, c, Q => i < env.length ∧ Q (setE env i d)
  | .tp ts, d, env, c, Q => onO (getS c d) fun xs => xs.length = ftLen ts ∧ wpTs ts xs env c Q
def wpTs : FTs → List D → En → Cs → (En → Prop) → Prop
  | .nil, [], env, _, Q => Q env
  | .cons t ts, d :: ds, env, c, Q => wpT t d env c fun env' => wpTs ts ds env' c Q
  | _, _, _, _, _ => False
end

def Cont.nc : Cont → Bool
  | .lst xs => D.ncL xs
  | .dct ks vs => D.ncL ks && D.ncL vs
  | .obj _ fs => D.ncL fs
def Cont.sub (ρ : Nat → D) : Cont → Cont
  | .lst xs => .lst (D.subL ρ xs)
  | .dct ks vs => .dct (D.subL ρ ks) (D.subL ρ vs)
  | .obj k fs => .obj k (D.subL ρ fs)
def Cont.all (p : Nat → Bool) : Cont → Bool
  | .lst xs => D.allL p xs
  | .dct ks vs => D.allL p ks && D.allL p vs
  | .obj _ fs => D.allL p fs
def Cont.fz (flds : Nat → List Str) : Cont → Option D
  | .lst xs => some (.lst xs)
  | .dct ks vs => some (.dct ks vs)
  | .obj k fs => if fs.length = (flds k).length then some (.obj k fs) else none
/-- cell i is u now, the later ones one place ahead -/
def sig (i : Nat) (u : D) (j : Nat) : D := if j = i then u else .cell (if j < i then j else j - 1)
/-- the cell i is frozen: everywhere it is what it holds -/
def frz1 (flds : Nat → List Str) (i : Nat) (c : Cs) (K : (Nat → D) → Cs → Prop) : Prop :=
  onO c[i]? fun x => x.all (fun j => decide (j ≠ i)) = true ∧ onO ((x.sub (sig i .non)).fz flds) fun u => K (sig i u) ((c.eraseIdx i).map (Cont.sub (sig i u)))
/-- the last k cells are frozen -/
def cleanK (flds : Nat → List Str) : Nat → Cs → ((D → D) → Cs → Prop) → Prop
  | 0, c, K => K id c
  | n + 1, c, K => frz1 flds (c.length - 1) c fun ρ c' => cleanK flds n c' fun f c'' => K (fun d => f (D.sub ρ d)) c''
/-- all cells from np on are frozen -/
def clean (flds : Nat → List Str) (np : Nat) (c : Cs) (K : (D → D) → Cs → Prop) : Prop := cleanK flds (c.length - np) c K
def cl (flds : Nat → List Str) (keep : Bool) (np : Nat) (c : Cs) (K : (D → D) → Cs → Prop) : Prop := match keep with
  | true => K id c
  | false => clean flds np c K
/-- cells from np on are frozen, in some order -/
def retF (flds : Nat → List Str) (np : Nat) : List Nat → D → Cs → (D → Cs → Prop) → Prop
  | [], d, c, Q => Q d c
  | i :: is, d, c, Q => np ≤ i ∧ frz1 flds i c fun ρ c' => retF flds np is (D.sub ρ d) c' Q
/-- what a def's end hands to its caller -/
def Ret (flds : Nat → List Str) (np : Nat) (Q : D → Cs → Prop) (d : D) (c : Cs) : Prop := ∃ is, retF flds np is d c Q

def partOf : List D → Option (Option Int)
  | [] => some none
  | [.int i] => some (some i)
  | _ => none
def cutD (xs : List D) (lo hi : Option Int) : List D := (xs.drop (HT.sIx xs.length 0 lo)).take (HT.sIx xs.length xs.length hi - HT.sIx xs.length 0 lo)
def slcO (m : Bool) (c : Cs) (Q : QE) (d : D) (lo hi : Option Int) : Prop := match d with
  | .tup xs => Q (.tup (cutD xs lo hi)) c
  | d => onO (getR c d) fun xs => newL m (cutD xs lo hi) c Q

/-- what is walked stays: the cells' lists as they were -/
def Gd := List (Nat × List D)
def gdOk (c : Cs) : List (Nat × List D) → Prop
  | [] => True
  | (n, xs) :: g => c[n]? = some (.lst xs) ∧ gdOk c g
structure FEnds where
  nx : En → Cs → Prop
  rt : QE
  bk : En → Cs → Prop
  ct : En → Cs → Prop
/-- one turn after another -/
def forL (flds : Nat → List Str) (keep : Bool) (np : Nat) (gd : List (Nat × List D)) (turn : D → FEnds → En → Cs → Prop) (E : FEnds) : List D → En → Cs → Prop
  | [], env, c => gdOk c gd ∧ E.nx env c
  | x :: r, env, c => gdOk c gd ∧ turn x ⟨(fun env' c' => cl flds keep np c' fun f c'' => forL flds keep np gd turn E r (env'.map (Option.map f)) c''), E.rt,
      (fun env' c' => cl flds keep np c' fun f c'' => E.nx (env'.map (Option.map f)) c''), (fun env' c' => cl flds keep np c' fun f c'' => forL flds keep np gd turn E r (env'.map (Option.map f)) c'')⟩ env c
/-- a comprehension's turns: the items so far -/
def compL (flds : Nat → List Str) (keep : Bool) (np : Nat) (gd : List (Nat × List D)) (turn : D → (Option D → Cs → Prop) → Cs → Prop) (Q : List D → Cs → Prop) : List D → List D → Cs → Prop
  | [], acc, c => gdOk c gd ∧ Q acc c
  | x :: r, acc, c => gdOk c gd ∧ acc.length < 16777216 ∧ turn x (fun o c' => cl flds keep np c' fun f c'' => match o with
    | some d => compL flds keep np gd turn Q r (acc ++ [f d]) c''
    | none => compL flds keep np gd turn Q r acc c'') c
def gdOf (c : Cs) : D → List (Nat × List D)
  | .cell n => match c[n]? with
    | some (.lst xs) => [(n, xs)]
    | _ => []
  | _ => []
def rngL (lo : Int) (n : Nat) : List D := (List.range n).map fun (i : Nat) => D.int (lo + (i : Int))
def enumL (xs : List D) (i : Nat) : List D := match xs with
  | [] => []
  | x :: r => .tup [.int i, x] :: enumL r (i + 1)
def zipL : List D → List D → List D
  | x :: xs, y :: ys => .tup [x, y] :: zipL xs ys
  | _, _ => []
def small (i : Int) : Prop := -(2 ^ 62) ≤ i ∧ i < 2 ^ 62

def tyNames : List String := ["NoneType", "bool", "int", "str", "tuple", "list", "dict"]
def tyIn (I : CI) : Ty → Bool
  | .bt x => x ∈ tyNames
  | .cls k => decide (k < I.nk)
section
variable (I : CI)
mutual
def wpE : FE → En → Cs → QE → QX → Prop
  | .var i, env, c, Q, X => match env[i]? with
    | some (some d) => Q d c
    | _ => False
  | .lit l, env, c, Q, X => Q l.d c
  | .con k, env, c, Q, X => Q (.int (I.cval k)) c
  | .un .neg a, env, c, Q, X => wpE a env c (fun d c1 => match d with
    | .int i => Q (.int (-i)) c1
    | _ => False) X
  | .un .not a, env, c, Q, X => wpE a env c (fun d c1 => match d with
    | .bl b => Q (.bl (!b)) c1
    | _ => False) X
  | .bin o m a b, env, c, Q, X => wpE a env c (fun x c1 => wpE b env c1 (fun y c2 => wpB o m x y c2 Q) X) X
  | .bop k es, env, c, Q, X => wpBop k es env c Q X
  | .chain o p a b e, env, c, Q, X => wpE a env c (fun x c1 => wpE b env c1 (fun y c2 => wpB o false x y c2 fun r c3 => match r with
    | .bl k => sIf k (wpE e env c3 (fun z c4 => wpB p false y z c4 Q) X) (Q (.bl false) c3)
    | _ => False) X) X
  | .ife t a b, env, c, Q, X => wpC t env c (fun k c1 => sIf k (wpE a env c1 Q X) (wpE b env c1 Q X)) X
  | .tup es, env, c, Q, X => wpA es env c (fun ds c1 => ds.length ≤ 16777216 ∧ Q (.tup ds) c1) X
  | .lst m es, env, c, Q, X => wpA es env c (fun ds c1 => ds.length ≤ 16777216 ∧ newL m ds c1 Q) X
  | .slc m a lo hi, env, c, Q, X => wpE a env c (fun x c1 => wpA lo env c1 (fun l c2 => onO (partOf l) fun lo' => wpA hi env c2 (fun h c3 => onO (partOf h) fun hi' => slcO m c3 Q x lo' hi') X) X) X
  | .attr a k j, env, c, Q, X => wpE a env c (fun d c1 => match d with
    | .obj k' fs => k = k' ∧ onO fs[j]? fun v => Q v c1
    | .cell n => match c1[n]? with
      | some (.obj k' fs) => k = k' ∧ onO fs[j]? fun v => Q v c1
      | _ => False
    | _ => False) X
  | .call f es, env, c, Q, X => wpA es env c (fun ds c1 => I.phi f ds c1 Q X) X
  | .meth f a es, env, c, Q, X => wpE a env c (fun d c0 => objIs c0 (I.kind f) d = true ∧ wpA es env c0 (fun ds c1 => I.phi f (d :: ds) c1 Q X) X) X
  | .make k f es, env, c, Q, X => wpA es env c (fun ds c1 => I.phi f (.cell c1.length :: ds) (c1 ++ [.obj k []]) (fun d c2 => match d with
    | .non => Q (.cell c1.length) c2
    | _ => False) X) X
  | .bi o m es, env, c, Q, X => wpA es env c (fun ds c1 => wpBi o m ds c1 Q) X
  | .mt o a es, env, c, Q, X => wpE a env c (fun d c1 => onO (getL c1 d) fun _ => wpA es env c1 (fun ds c2 => wpMt o d ds c2 Q) X) X
  | .isi a ts _, env, c, Q, X => wpE a env c (fun d c1 => onO (tyD c1 d) fun t => tyIn I t = true ∧ Q (.bl (ts.any (tySub t))) c1) X
  | .comp m keep t it cond e vs, env, c, Q, X => wpI it env c (fun xs gd c1 => compL I.flds keep c1.length gd (fun x K c2 => wpT t x (wipeE env (vs.map (·.2))) c2 fun env' =>
      wpCs cond env' c2 (fun k c3 => sIf k (wpE e env' c3 (fun d c4 => K (some d) c4) fun _ _ _ => False) (K none c3)) fun _ _ _ => False)
      (fun ds c2 => newL m ds c2 Q) xs [] c1) X
  | .frz a, env, c, Q, X => wpE a env c (fun d c1 => clean I.flds c.length c1 fun f c2 => Q (f d) c2) X
  | .dead, _, _, _, _ => False
  | .rev m a, env, c, Q, X => wpE a env c (fun d c1 => onO (getR c1 d) fun xs => newL m xs.reverse c1 Q) X
  | .dct0 m, env, c, Q, X => newD m [] [] c Q
  | .dct1 m k v, env, c, Q, X => wpE k env c (fun x c1 => wpE v env c1 (fun y c2 => isKey x = true ∧ newD m [x] [y] c2 Q) X) X
def wpA : FA → En → Cs → (List D → Cs → Prop) → QX → Prop
  | .nil, env, c, Q, X => Q [] c
  | .cons e es, env, c, Q, X => wpE e env c (fun d c1 => wpA es env c1 (fun ds c2 => Q (d :: ds) c2) X) X
/-- and, or as values -/
def wpBop : Bool → FA → En → Cs → QE → QX → Prop
  | _, .nil, env, c, Q, X => False
  | _, .cons e .nil, env, c, Q, X => wpE e env c Q X
  | k, .cons e (.cons e' es), env, c, Q, X => wpE e env c (fun d c1 => match d with
    | .bl b => sIf b (match k with | true => wpBop k (.cons e' es) env c1 Q X | false => Q (.bl true) c1) (match k with | true => Q (.bl false) c1 | false => wpBop k (.cons e' es) env c1 Q X)
    | _ => False) X
def wpC : FC → En → Cs → (Bool → Cs → Prop) → QX → Prop
  | .val e, env, c, Q, X => wpE e env c (fun d c1 => match d with
    | .bl b => Q b c1
    | _ => False) X
  | .not t, env, c, Q, X => wpC t env c (fun b c1 => Q (!b) c1) X
  | .bop k cs, env, c, Q, X => wpCb k cs env c Q X
def wpCb : Bool → FCs → En → Cs → (Bool → Cs → Prop) → QX → Prop
  | _, .nil, env, c, Q, X => False
  | _, .cons e .nil, env, c, Q, X => wpC e env c Q X
  | k, .cons e (.cons e' es), env, c, Q, X => wpC e env c (fun b c1 =>
      sIf b (match k with | true => wpCb k (.cons e' es) env c1 Q X | false => Q true c1) (match k with | true => Q false c1 | false => wpCb k (.cons e' es) env c1 Q X)) X
/-- the tests of a comprehension: none or one -/
def wpCs : FCs → En → Cs → (Bool → Cs → Prop) → QX → Prop
  | .nil, env, c, Q, X => Q true c
  | .cons t .nil, env, c, Q, X => wpC t env c Q X
  | .cons _ (.cons _ _), _, _, _, _ => False
def wpI : FI → En → Cs → (List D → List (Nat × List D) → Cs → Prop) → QX → Prop
  | .ex e, env, c, Q, X => wpE e env c (fun d c1 => onO (getS c1 d) fun xs => Q xs (gdOf c1 d) c1) X
  | .rng1 a, env, c, Q, X => wpE a env c (fun d c1 => match d with
    | .int n => small n ∧ Q (rngL 0 n.toNat) [] c1
    | _ => False) X
  | .rng2 a b, env, c, Q, X => wpE a env c (fun x c1 => wpE b env c1 (fun y c2 => int2 (fun i j => small i ∧ small j ∧ Q (rngL i (j - i).toNat) [] c2) x y) X) X
  | .rng3 _ _ _, _, _, _, _ => False
  | .enum a, env, c, Q, X => wpE a env c (fun d c1 => onO (getS c1 d) fun xs => Q (enumL xs 0) (gdOf c1 d) c1) X
  | .zip a b, env, c, Q, X => wpE a env c (fun x c1 => wpE b env c1 (fun y c2 => onO (getR c2 x) fun xs => onO (getR c2 y) fun ys => Q (zipL xs ys) (gdOf c2 x ++ gdOf c2 y) c2) X) X
end
end
end F

namespace F
open PySem PySem.Spec L2

abbrev EX := Nat → List D → En → Cs → Prop
/-- at env -/
def atE (X : EX) (env : En) : QX := fun k fs c => X k fs env c
/-- o[i] = v -/
def setD (o i v : D) (c : Cs) (Q : Cs → Prop) : Prop := match o, i with
  | .cell n, .int j => onO (getL c (.cell n)) fun xs => onO (ixN xs.length j) fun k => Q (c.set n (.lst (xs.set k v)))
  | _, _ => False
/-- self.f = v: the j-th field -/
def setF (flds : Nat → List Str) (o : D) (k j : Nat) (v : D) (c : Cs) (Q : Cs → Prop) : Prop := match o with
  | .cell n => match c[n]? with
    | some (.obj k' fs) => k = k' ∧ j < (flds k).length ∧ fs.length ≤ (flds k).length ∧ (if j < fs.length then Q (c.set n (.obj k (fs.set j v))) else j = fs.length ∧ Q (c.set n (.obj k (fs ++ [v]))))
    | _ => False
  | _ => False
def onI (i : Int → Prop) : D → Prop
  | .int k => i k
  | _ => False
def cellAtI (env : En) (i : Nat) : Option Nat := match env[i]? with
  | some (some (.cell n)) => some n
  | _ => none
def augI (o : B2) (k : Int) (Q : Int → Prop) : D → Prop
  | .int j => match o with
    | .add => Q (k + j)
    | .sub => Q (k - j)
    | _ => False
  | _ => False
section
variable (I : CI)
mutual
def wpS : FS → Nat → FEnds → EX → En → Cs → Prop
  | .expr e, np, E, X, env, c => wpE I e env c (fun _ c1 => E.nx env c1) (atE X env)
  | .set t e, np, E, X, env, c => wpE I e env c (fun d c1 => wpT t d env c1 fun env' => E.nx env' c1) (atE X env)
  | .setC i e, np, E, X, env, c => wpE I e env c (fun d c1 => i < env.length ∧ E.nx (setE env i d) c1) (atE X env)
  | .par i j a b, np, E, X, env, c => wpE I a env c (fun x c1 => wpE I b env c1 (fun y c2 => i < env.length ∧ j < env.length ∧ E.nx (setE (setE env i x) j y) c2) (atE X env)) (atE X env)
  | .aug i o m e, np, E, X, env, c => match env[i]? with
    | some (some (.int k)) => wpE I e env c (fun y c1 => augI o k (fun z => E.nx (setE env i (.int z)) c1) y) (atE X env)
    | _ => False
  | .setI o i v, np, E, X, env, c => wpE I v env c (fun z c1 => wpE I o env c1 (fun x c2 => wpE I i env c2 (fun y c3 => setD x y z c3 (E.nx env)) (atE X env)) (atE X env)) (atE X env)
  | .augI o a i v, np, E, X, env, c => wpE I a env c (fun x c1 => wpE I i env c1 (fun y c2 => match y with
    | .int q => idxS c2 (fun old c2' => wpE I v env c2' (fun z c3 => onI (fun p => augI o p (fun r => setD x y (.int r) c3 (E.nx env)) z) old) (atE X env)) q (getL c2 x)
    | _ => False) (atE X env)) (atE X env)
  | .setA a k j v, np, E, X, env, c => wpE I v env c (fun z c1 => wpE I a env c1 (fun x c2 => setF I.flds x k j z c2 (E.nx env)) (atE X env)) (atE X env)
  | .augA _ _ _ _ _, _, _, _, _, _ => False
  | .ifs t a b, np, E, X, env, c => wpC I t env c (fun k c1 => sIf k (wpSs a np E X env c1) (wpSs b np E X env c1)) (atE X env)
  | .for_ keep t it b, np, E, X, env, c => wpI I it env c (fun xs gd c1 => forL I.flds keep c1.length gd (fun x E' env' c' => wpT t x env' c' fun env2 => wpSs b c1.length E' X env2 c') E xs env c1) (atE X env)
  | .while_ t b, np, E, X, env, c => ∃ (J : Nat → En → Cs → Prop) (n : Nat), J n env c ∧ ∀ n env c, np ≤ c.length → J n env c → wpC I t env c (fun k c1 => sIf k
      (wpSs b np { E with nx := fun env' c' => ∃ m, m < n ∧ J m env' c', ct := fun env' c' => ∃ m, m < n ∧ J m env' c', bk := E.nx } X env c1) (E.nx env c1)) (atE X env)
  | .ret e, np, E, X, env, c => wpE I e env c E.rt (atE X env)
  | .retN, np, E, X, env, c => E.rt .non c
  | .brk, np, E, X, env, c => E.bk env c
  | .cnt, np, E, X, env, c => E.ct env c
  | .pass, np, E, X, env, c => E.nx env c
  | .rais k f es, np, E, X, env, c => wpA I es env c (fun ds c1 => X k ds env c1) (atE X env)
  | .frz i, np, E, X, env, c => onO (cellAtI env i) fun n => np ≤ n ∧ frz1 I.flds n c fun ρ c' => E.nx (env.map (Option.map (D.sub ρ))) c'
  | .dead, _, _, _, _, _ => False
  | .forget i, np, E, X, env, c => E.nx (env.set i none) c
def wpSs : FSs → Nat → FEnds → EX → En → Cs → Prop
  | .nil, np, E, X, env, c => E.nx env c
  | .cons s ss, np, E, X, env, c => wpS s np { E with nx := wpSs ss np E X } X env c
end

/-- a def's body: its arguments, its places -/
def wpDef (nN : Nat) (b : FSs) (ds : List D) (c : Cs) (Q : QE) (X : QX) : Prop :=
  wpSs I b c.length { nx := fun _ c' => Ret I.flds c.length Q .non c', rt := fun d c' => Ret I.flds c.length Q d c', bk := fun _ _ => False, ct := fun _ _ => False }
    (fun k fs _ c' => clean I.flds c.length c' fun f c'' => X k (fs.map f) c'') (ds.map some ++ List.replicate (nN - ds.length) none) c
end
end F

namespace F
open PySem PySem.Spec L2

def EnvOk (G : GI) (W : Wd) (σ : St) (env : En) : Prop := env.length = σ.length ∧ ∀ (i : Nat) (d : D), env[i]? = some (some d) → ∃ v, σ[i]? = some (some v) ∧ Den G W v d
def ExcD (G : GI) (W : Wd) (dd : Option Addr) (k : Nat) (fs : List D) : Prop :=
  (G.exf k = [] ∧ fs = []) ∨ ∃ d gs, dd = some d ∧ W.Fz d ∧ W.H d = some (.xd gs) ∧ gs.map (·.1) = G.exf k ∧ DenL G W (gs.map (·.2)) fs
def Post (G : GI) (W : Wd) (Q0 : QE) : VK := fun v H' => ∃ W' c' d, W'.H = H' ∧ Ext W W' ∧ Ok G W' c' ∧ Den G W' v d ∧ Q0 d c'
def PostL (G : GI) (W : Wd) (Q0 : List D → Cs → Prop) : List V → Hp → Prop := fun vs H' => ∃ W' c' ds, W'.H = H' ∧ Ext W W' ∧ Ok G W' c' ∧ DenL G W' vs ds ∧ Q0 ds c'
def PostB (G : GI) (W : Wd) (Q0 : Bool → Cs → Prop) : Bool → Hp → Prop := fun b H' => ∃ W' c', W'.H = H' ∧ Ext W W' ∧ Ok G W' c' ∧ Q0 b c'
def XPost (G : GI) (W : Wd) (X0 : QX) : Value → Option Addr → Hp → Prop := fun cls dd H' => ∃ W' c' k fs, W'.H = H' ∧ Ext W W' ∧ Ok G W' c' ∧ cls = .ref (G.exc k) ∧ ExcD G W' dd k fs ∧ X0 k fs c'

abbrev FA1 := En → Cs → QE → QX → Prop
abbrev FAL := En → Cs → (List D → Cs → Prop) → QX → Prop
abbrev FAB := En → Cs → (Bool → Cs → Prop) → QX → Prop
def lift (G : GI) (Wx : WX) (A : FA1) : TE := fun σ H Q => ∃ W c env Q0 X0, W.H = H ∧ Ok G W c ∧ EnvOk G W σ env ∧ A env c Q0 X0 ∧ (∀ v H', Post G W Q0 v H' → Q v H') ∧ (∀ cls dd H', XPost G W X0 cls dd H' → Wx cls dd σ H')
def liftL (G : GI) (Wx : WX) (A : FAL) : TA := fun σ H Q => ∃ W c env Q0 X0, W.H = H ∧ Ok G W c ∧ EnvOk G W σ env ∧ A env c Q0 X0 ∧ (∀ v H', PostL G W Q0 v H' → Q v H') ∧ (∀ cls dd H', XPost G W X0 cls dd H' → Wx cls dd σ H')
def liftB (G : GI) (Wx : WX) (A : FAB) : TT := fun σ H Q => ∃ W c env Q0 X0, W.H = H ∧ Ok G W c ∧ EnvOk G W σ env ∧ A env c Q0 X0 ∧ (∀ v H', PostB G W Q0 v H' → Q v H') ∧ (∀ cls dd H', XPost G W X0 cls dd H' → Wx cls dd σ H')

theorem PE.imp {X : Cx} {e : Expr} {t t' : TE} (h : PE X e t) (i : ∀ σ H Q, t' σ H Q → t σ H Q) : PE X e t' := ⟨fun pins s σ H Q I hw => h.run pins s σ H Q I (i _ _ _ hw)⟩
theorem PT.imp {X : Cx} {e : Expr} {t t' : TT} (h : PT X e t) (i : ∀ σ H Q, t' σ H Q → t σ H Q) : PT X e t' := ⟨fun pins s σ H Q I hw => h.run pins s σ H Q I (i _ _ _ hw)⟩
theorem PA.imp {X : Cx} {e : List Expr} {t t' : TA} (h : PA X e t) (i : ∀ σ H Q, t' σ H Q → t σ H Q) : PA X e t' := ⟨fun pos pins s σ H Q I hw => h.run pos pins s σ H Q I (i _ _ _ hw)⟩

section
variable {G : GI} {W W' W'' : Wd} {c c' : Cs} {σ : St} {env : En} {Wx : WX} {H : Hp}
theorem EnvOk.mono (ok : Ok G W c) (x : Ext W W') (e : EnvOk G W σ env) : EnvOk G W' σ env := ⟨e.1, fun i d h => by
  obtain ⟨v, h1, h2⟩ := e.2 i d h
  exact ⟨v, h1, h2.mono ok x⟩⟩
theorem EnvOk.get (e : EnvOk G W σ env) {i : Nat} {d : D} (h : env[i]? = some (some d)) : ∃ v, σ[i]? = some (some v) ∧ Den G W v d := e.2 i d h
theorem ExcD.mono (ok : Ok G W c) (x : Ext W W') {dd : Option Addr} {k : Nat} {fs : List D} (e : ExcD G W dd k fs) : ExcD G W' dd k fs := by
  rcases e with e | ⟨d, gs, e1, f, e2, e3, e4⟩
  · exact .inl e
  · exact .inr ⟨d, gs, e1, x.fz d f, x.keep d _ e2 (ok.fz d f), e3, e4.mono ok x⟩
theorem Post.up (x : Ext W W') {Q0 : QE} {v : V} {H' : Hp} (p : Post G W' Q0 v H') : Post G W Q0 v H' :=
  let ⟨W2, c2, d, e, y, ok, dn, q⟩ := p; ⟨W2, c2, d, e, x.trans y, ok, dn, q⟩
theorem PostL.up (x : Ext W W') {Q0 : List D → Cs → Prop} {v : List V} {H' : Hp} (p : PostL G W' Q0 v H') : PostL G W Q0 v H' :=
  let ⟨W2, c2, d, e, y, ok, dn, q⟩ := p; ⟨W2, c2, d, e, x.trans y, ok, dn, q⟩
theorem PostB.up (x : Ext W W') {Q0 : Bool → Cs → Prop} {v : Bool} {H' : Hp} (p : PostB G W' Q0 v H') : PostB G W Q0 v H' :=
  let ⟨W2, c2, e, y, ok, q⟩ := p; ⟨W2, c2, e, x.trans y, ok, q⟩
theorem XPost.up (x : Ext W W') {X0 : QX} {cls : Value} {dd : Option Addr} {H' : Hp} (p : XPost G W' X0 cls dd H') : XPost G W X0 cls dd H' :=
  let ⟨W2, c2, k, fs, e, y, ok, r⟩ := p; ⟨W2, c2, k, fs, e, x.trans y, ok, r⟩
theorem Post.now (ok : Ok G W c) {v : V} {d : D} (dn : Den G W v d) {Q0 : QE} (q : Q0 d c) : Post G W Q0 v W.H := ⟨W, c, d, rfl, Ext.refl W, ok, dn, q⟩

theorem CellAt.isObj {a : Addr} {x : Cont} (h : CellAt G W a x) : ∃ o, W.H a = some o ∧ Mut (some o) := by
  cases x with
  | lst ds => obtain ⟨vs, e, _⟩ := h; exact ⟨_, e, trivial⟩
  | dct ks ds => obtain ⟨kvs, e, _⟩ := h; exact ⟨_, e, trivial⟩
  | obj k fs => obtain ⟨dx, gs, e, _⟩ := h; exact ⟨_, e, trivial⟩
theorem Ok.at (ok : Ok G W c) {n : Nat} {a : Addr} (h : W.as[n]? = some a) : ∃ x, c[n]? = some x ∧ CellAt G W a x := by
  have hn : n < c.length := by rw [← ok.len]; exact (List.getElem?_eq_some_iff.mp h).1
  exact ⟨c[n], List.getElem?_eq_getElem hn, ok.cell n a _ h (List.getElem?_eq_getElem hn)⟩
theorem Ok.atC (ok : Ok G W c) {n : Nat} {x : Cont} (h : c[n]? = some x) : ∃ a, W.as[n]? = some a ∧ CellAt G W a x := by
  have hn : n < W.as.length := by rw [ok.len]; exact (List.getElem?_eq_some_iff.mp h).1
  exact ⟨W.as[n], List.getElem?_eq_getElem hn, ok.cell n _ _ (List.getElem?_eq_getElem hn) h⟩
theorem Ok.mem (ok : Ok G W c) {a : Addr} (h : a ∈ W.as) : ∃ o, W.H a = some o ∧ Mut (some o) := by
  obtain ⟨n, hn⟩ := List.mem_iff_getElem?.mp h
  obtain ⟨x, _, ca⟩ := ok.at hn
  exact ca.isObj
theorem CellAt.mono (fzk : ∀ b, W.Fz b → b ∉ W.as) (x : Fr W W') (has : ∀ (n : Nat) (a : Addr), W.as[n]? = some a → W'.as[n]? = some a) {a : Addr} {y : Cont} (hH : W'.H a = W.H a) (h : CellAt G W a y) : CellAt G W' a y := by
  cases y with
  | lst ds => obtain ⟨vs, e, d⟩ := h; exact ⟨vs, by rw [hH]; exact e, d.mono0 (x.mv fzk) has⟩
  | dct ks ds => obtain ⟨kvs, e, d1, d2⟩ := h; exact ⟨kvs, by rw [hH]; exact e, d1.mono0 (x.mv fzk) has, d2.mono0 (x.mv fzk) has⟩
  | obj k fs => obtain ⟨dx, gs, e, e2, d⟩ := h; exact ⟨dx, gs, by rw [hH]; exact e, e2, d.mono0 (x.mv fzk) has⟩
/-- a new object that is no cell and is not told as frozen (a tuple, an instance's own dict) -/
theorem Ok.alloc (ok : Ok G W c) {p : Addr} (hp : W.H p = none) (o : HO) : Ext W { W with H := upd W.H p o } ∧ Ok G { W with H := upd W.H p o } c := by
  have np : ∀ b u, W.H b = some u → b ≠ p := fun b u e => ne_of_none e hp
  have x : Ext W { W with H := upd W.H p o } := ⟨⟨fun b xs e => by show upd _ _ _ _ = _; rw [upd_ne (np _ _ e)]; exact e, fun b u e _ => by show upd _ _ _ _ = _; rw [upd_ne (np _ _ e)]; exact e, fun b h => h, fun b e => by
    by_cases hb : b = p
    · subst hb; exact hp
    · have e' : upd W.H p o b = none := e
      rw [upd_ne hb] at e'; exact e', fun b h => .inl h, fun b h => .inl h⟩, List.prefix_refl _⟩
  refine ⟨x, ok.len, ok.nd, ok.fz, fun b h => ?_, fun n a y h1 h2 => ?_⟩
  · obtain ⟨u, e⟩ := ok.fzt b h
    exact ⟨u, by show upd _ _ _ _ = _; rw [upd_ne (np _ _ e)]; exact e⟩
  · have ca := ok.cell n a y h1 h2
    obtain ⟨u, e, _⟩ := ca.isObj
    exact ca.mono ok.fz x.toFr (fun _ _ h => h) (by show upd _ _ _ _ = _; rw [upd_ne (np _ _ e)])
/-- frozen at once -/
abbrev Wd.fzAt (W : Wd) (p : Addr) (o : HO) : Wd := { H := upd W.H p o, as := W.as, Fz := fun b => b = p ∨ W.Fz b }
theorem Ok.allocF (ok : Ok G W c) {p : Addr} (hp : W.H p = none) (o : HO) : Ext W (W.fzAt p o) ∧ Ok G (W.fzAt p o) c := by
  obtain ⟨x, k⟩ := ok.alloc hp o
  have nas : p ∉ W.as := fun h => by
    obtain ⟨u, e, _⟩ := ok.mem h
    rw [hp] at e; cases e
  have x' : Ext W (W.fzAt p o) := ⟨⟨x.tup, x.keep, fun b h => .inr h, x.trk, x.new, fun b h => by
    rcases h with rfl | h
    · exact .inr (.inl hp)
    · exact .inl h⟩, x.as⟩
  refine ⟨x', k.len, k.nd, fun b h => ?_, fun b h => ?_, fun n a y h1 h2 => ?_⟩
  · rcases h with rfl | h
    · exact nas
    · exact ok.fz b h
  · rcases h with rfl | h
    · exact ⟨o, upd_same⟩
    · exact k.fzt b h
  · have ca := ok.cell n a y h1 h2
    obtain ⟨u, e, _⟩ := ca.isObj
    exact ca.mono ok.fz x'.toFr (fun _ _ h => h) (by show upd _ _ _ _ = _; rw [upd_ne (ne_of_none e hp)])
/-- a new cell -/
abbrev Wd.cellAt (W : Wd) (p : Addr) (o : HO) : Wd := { H := upd W.H p o, as := W.as ++ [p], Fz := W.Fz }
theorem Ok.allocC (ok : Ok G W c) {p : Addr} (hp : W.H p = none) (o : HO) {y : Cont} (hy : CellAt G (W.cellAt p o) p y) : Ext W (W.cellAt p o) ∧ Ok G (W.cellAt p o) (c ++ [y]) := by
  obtain ⟨x, k⟩ := ok.alloc hp o
  have nas : p ∉ W.as := fun h => by
    obtain ⟨u, e, _⟩ := ok.mem h
    rw [hp] at e; cases e
  have x' : Ext W (W.cellAt p o) := ⟨⟨x.tup, x.keep, fun b h => h, x.trk, fun b h => by
    rcases List.mem_append.mp h with h | h
    · exact .inl h
    · have e : b = p := by simpa using h
      subst e; exact .inr hp, fun b h => .inl h⟩, List.prefix_append _ _⟩
  refine ⟨x', by show (W.as ++ [p]).length = _; rw [List.length_append, List.length_append, ok.len] <;> rfl, ?_, fun b h hm => ?_, fun b h => k.fzt b h, fun n a z h1 h2 => ?_⟩
  · show (W.as ++ [p]).Nodup
    rw [List.nodup_append]
    exact ⟨ok.nd, by simp, fun a ha b hb e => by
      have : b = p := by simpa using hb
      subst this; subst e; exact nas ha⟩
  · rcases List.mem_append.mp hm with hm | hm
    · exact ok.fz b h hm
    · have e : b = p := by simpa using hm
      subst e
      obtain ⟨u, e⟩ := ok.fzt b h
      rw [hp] at e; cases e
  · by_cases hn : n < W.as.length
    · have h1' : W.as[n]? = some a := by
        have e : (W.as ++ [p])[n]? = some a := h1
        rw [List.getElem?_append_left hn] at e; exact e
      have h2' : c[n]? = some z := by
        rw [List.getElem?_append_left (by rw [← ok.len]; exact hn)] at h2; exact h2
      have ca := ok.cell n a z h1' h2'
      obtain ⟨u, e, _⟩ := ca.isObj
      exact ca.mono ok.fz x'.toFr (fun _ _ h => x'.get h) (by show upd _ _ _ _ = _; rw [upd_ne (ne_of_none e hp)])
    · have hl := (List.getElem?_eq_some_iff.mp h1).1
      have hl' : n < W.as.length + 1 := by
        have e : n < (W.as ++ [p]).length := hl
        rwa [List.length_append] at e
      have en : n = W.as.length := by omega
      subst en
      have ea : a = p := by
        have e : (W.as ++ [p])[W.as.length]? = some a := h1
        rw [List.getElem?_append_right (Nat.le_refl _)] at e
        simp at e; exact e.symm
      have ez : z = y := by
        rw [ok.len, List.getElem?_append_right (Nat.le_refl _)] at h2
        simp at h2; exact h2.symm
      subst ea; subst ez
      exact hy
/-- a cell is changed -/
abbrev Wd.setAt (W : Wd) (a : Addr) (o : HO) : Wd := { W with H := upd W.H a o }
theorem Ok.setE (ok : Ok G W c) {n : Nat} {a : Addr} (ha : W.as[n]? = some a) (o : HO) : Ext W (W.setAt a o) := by
  have ham : a ∈ W.as := List.mem_of_getElem? ha
  obtain ⟨u, eu, mu⟩ := ok.mem ham
  have ntup : ∀ b xs, W.H b = some (.tup xs) → b ≠ a := fun b xs e z => by subst z; rw [eu] at e; cases e; exact mu
  exact ⟨⟨fun b xs e => by show upd _ _ _ _ = _; rw [upd_ne (ntup b xs e)]; exact e, fun b u e hb => by show upd _ _ _ _ = _; rw [upd_ne (fun z => hb (by rw [z]; exact ham))]; exact e, fun b h => h, fun b e => by
    have e' : upd W.H a o b = none := e
    by_cases hb : b = a
    · subst hb; rw [upd_same] at e'; cases e'
    · rw [upd_ne hb] at e'; exact e', fun b h => .inl h, fun b h => .inl h⟩, List.prefix_refl _⟩
theorem Ok.setC (ok : Ok G W c) {n : Nat} {a : Addr} (ha : W.as[n]? = some a) (o : HO) {y : Cont} (hy : CellAt G (W.setAt a o) a y) : Ext W (W.setAt a o) ∧ Ok G (W.setAt a o) (c.set n y) := by
  have ham : a ∈ W.as := List.mem_of_getElem? ha
  have x := ok.setE ha o
  refine ⟨x, by rw [List.length_set]; exact ok.len, ok.nd, ok.fz, fun b h => ?_, fun m b z h1 h2 => ?_⟩
  · obtain ⟨u, e⟩ := ok.fzt b h
    exact ⟨u, by show upd _ _ _ _ = _; rw [upd_ne (fun z => ok.fz b h (by rw [z]; exact ham))]; exact e⟩
  · by_cases hm : m = n
    · subst hm
      have eb : b = a := Option.some.inj (h1.symm.trans ha)
      subst eb
      have hl : m < c.length := by rw [← ok.len]; exact (List.getElem?_eq_some_iff.mp ha).1
      rw [List.getElem?_set_self hl] at h2
      cases h2
      exact hy
    · rw [List.getElem?_set_ne (Ne.symm hm)] at h2
      have nb : b ≠ a := fun e => by
        subst e
        obtain ⟨l1, e1⟩ := List.getElem?_eq_some_iff.mp h1
        obtain ⟨l2, e2⟩ := List.getElem?_eq_some_iff.mp ha
        exact hm ((List.getElem_inj ok.nd).mp (e1.trans e2.symm))
      exact (ok.cell m b z h1 h2).mono ok.fz x.toFr (fun _ _ h => h) (by show upd _ _ _ _ = _; rw [upd_ne nb])

theorem den_getL (ok : Ok G W c) {v : V} {d : D} {xs : List D} (h : Den G W v d) (e : getL c d = some xs) : ∃ a vs, v = .ref a ∧ W.H a = some (.lst vs) ∧ DenL G W vs xs := by
  cases h with
  | lst h t => simp only [getL] at e; cases e; exact ⟨_, _, rfl, h.2, t⟩
  | cell h =>
    obtain ⟨x, hx, ca⟩ := ok.at h
    simp only [getL, hx] at e
    cases x with
    | lst ds =>
      cases e
      obtain ⟨vs, e1, e2⟩ := ca
      exact ⟨_, vs, rfl, e1, e2⟩
    | dct _ _ => cases e
    | obj _ _ => cases e
  | _ => simp [getL] at e
theorem den_getR (ok : Ok G W c) {v : V} {d : D} {xs : List D} (h : Den G W v d) (e : getR c d = some xs) : ∃ a vs, v = .ref a ∧ SqL G.K W.H a vs ∧ DenL G W vs xs := by
  cases h with
  | scr h t => simp only [getR] at e; cases e; exact ⟨_, _, rfl, h.seq, t⟩
  | lst h t => obtain ⟨a, vs, e1, e2, e3⟩ := den_getL ok (.lst h t) e; exact ⟨a, vs, e1, .inl (.inl e2), e3⟩
  | cell h => obtain ⟨a, vs, e1, e2, e3⟩ := den_getL ok (.cell h) e; exact ⟨a, vs, e1, .inl (.inl e2), e3⟩
  | _ => simp [getR, getL] at e
theorem den_getS (ok : Ok G W c) {v : V} {d : D} {xs : List D} (h : Den G W v d) (e : getS c d = some xs) : ∃ a vs, v = .ref a ∧ (SqL G.K W.H a vs ∨ SqT G.K W.H a vs) ∧ DenL G W vs xs := by
  cases h with
  | tup h t => simp only [getS] at e; cases e; exact ⟨_, _, rfl, .inr h.seq, t⟩
  | scr h t => simp only [getS] at e; cases e; exact ⟨_, _, rfl, .inl h.seq, t⟩
  | lst h t => obtain ⟨a, vs, e1, e2, e3⟩ := den_getL ok (.lst h t) e; exact ⟨a, vs, e1, .inl (.inl (.inl e2)), e3⟩
  | cell h => obtain ⟨a, vs, e1, e2, e3⟩ := den_getL ok (.cell h) e; exact ⟨a, vs, e1, .inl (.inl (.inl e2)), e3⟩
  | _ => simp [getS, getL] at e
mutual
theorem den_toP {K : PySem.W.Frag} (hK : G.K = K) : ∀ {d : D} {p : PyData} {v : V}, Den G W v d → toP d = some p → Dp K W.H v p
  | .non, _, _, .non, e => by cases e; exact .non
  | .bl _, _, _, .bl, e => by cases e; exact .bl _
  | .int _, _, _, .int, e => by cases e; exact .int _
  | .str _, _, _, .str, e => by cases e; exact .str _
  | .tup ds, _, _, .tup h t, e => by
    simp only [toP] at e
    obtain ⟨ps, e1, rfl⟩ := Option.map_eq_some_iff.mp e
    exact .tup (by rw [← hK]; exact h.seq) (den_toPL hK t e1)
  | .lst ds, _, _, .lst h t, e => by
    simp only [toP] at e
    obtain ⟨ps, e1, rfl⟩ := Option.map_eq_some_iff.mp e
    exact .lst (h.seq) (den_toPL hK t e1)
theorem den_toPL {K : PySem.W.Frag} (hK : G.K = K) : ∀ {ds : List D} {ps : List PyData} {vs : List V}, DenL G W vs ds → toPL ds = some ps → DpAll K W.H vs ps
  | [], _, _, .nil, e => by cases e; exact .nil
  | d :: ds, _, _, .cons r t, e => by
    simp only [toPL] at e
    cases e1 : toP d with
    | none => rw [e1] at e; cases e
    | some p =>
      cases e2 : toPL ds with
      | none => rw [e1, e2] at e; cases e
      | some ps =>
        rw [e1, e2] at e; cases e
        exact .cons (den_toP hK r e1) (den_toPL hK t e2)
end
theorem den_toPc (ok : Ok G W c) {d : D} {p : PyData} {v : V} (h : Den G W v d) (e : toPc c d = some p) : Dp G.K W.H v p := by
  cases h with
  | cell h =>
    obtain ⟨x, hx, ca⟩ := ok.at h
    simp only [toPc, hx] at e
    cases x with
    | lst ds =>
      obtain ⟨ps, e1, rfl⟩ := Option.map_eq_some_iff.mp e
      obtain ⟨vs, e2, e3⟩ := ca
      exact .lst (.inl (.inl e2)) (den_toPL rfl e3 e1)
    | dct _ _ => cases e
    | obj _ _ => cases e
  | non => exact den_toP rfl .non e
  | bl => exact den_toP rfl .bl e
  | int => exact den_toP rfl .int e
  | str => exact den_toP rfl .str e
  | ty => exact den_toP rfl .ty e
  | ref => simp [toPc, toP] at e
  | tup h t => exact den_toP rfl (.tup h t) e
  | lst h t => exact den_toP rfl (.lst h t) e
  | scr h t => simp [toPc, toP] at e
  | dctK => simp [toPc, toP] at e
  | obj => simp [toPc, toP] at e
/-- a new list -/
theorem newL_ok (ok : Ok G W c) {m : Bool} {vs : List V} {xs : List D} {Q0 : QE} {Q : VK} (t : DenL G W vs xs) (h : newL m xs c Q0) (q : ∀ v H', Post G W Q0 v H' → Q v H') : ∀ p, W.H p = none → Q (.ref p) (upd W.H p (.lst vs)) := by
  intro p hp
  cases m with
  | true =>
    have hx : CellAt G (W.cellAt p (.lst vs)) p (.lst xs) := ⟨vs, upd_same, t.mono ok ?_⟩
    · obtain ⟨x, k⟩ := ok.allocC hp (.lst vs) hx
      refine q _ _ ⟨_, _, _, rfl, x, k, .cell ?_, h⟩
      show (W.as ++ [p])[c.length]? = some p
      rw [← ok.len, List.getElem?_append_right (Nat.le_refl _)]
      simp
    · -- the extension, shown ahead of the cell
      obtain ⟨x, _⟩ := ok.alloc hp (.lst vs)
      exact ⟨⟨x.tup, x.keep, fun b h => h, x.trk, fun b h => by
        rcases List.mem_append.mp h with h | h
        · exact .inl h
        · have e : b = p := by simpa using h
          subst e; exact .inr hp, fun b h => .inl h⟩, List.prefix_append _ _⟩
  | false =>
    obtain ⟨x, k⟩ := ok.allocF hp (.lst vs)
    exact q _ _ ⟨_, _, _, rfl, x, k, .lst ⟨.inl rfl, upd_same⟩ (t.mono ok x), h⟩
/-- a new tuple -/
theorem newT_ok (ok : Ok G W c) {vs : List V} {xs : List D} {Q0 : QE} {Q : VK} (t : DenL G W vs xs) (h : Q0 (.tup xs) c) (q : ∀ v H', Post G W Q0 v H' → Q v H') : ∀ p, W.H p = none → Q (.ref p) (upd W.H p (.tup vs)) := by
  intro p hp
  obtain ⟨x, k⟩ := ok.alloc hp (.tup vs)
  exact q _ _ ⟨_, _, _, rfl, x, k, .tup (.inl upd_same) (t.mono ok x), h⟩

theorem lift_one {A : FA1} {K : D → Cs → QE → QX → Prop} {Q : VK} (h : lift G Wx (fun env c Q X => A env c (fun x c1 => K x c1 Q X) X) σ H Q) :
    lift G Wx A σ H fun x H1 => ∃ W c env d Q0 X0, W.H = H1 ∧ Ok G W c ∧ EnvOk G W σ env ∧ Den G W x d ∧ K d c Q0 X0 ∧ (∀ v H', Post G W Q0 v H' → Q v H') ∧ (∀ cls dd H', XPost G W X0 cls dd H' → Wx cls dd σ H') := by
  obtain ⟨W, c, env, Q0, X0, e, ok, eo, h, q, x⟩ := h
  exact ⟨W, c, env, _, X0, e, ok, eo, h, fun v H' ⟨W1, c1, d, e1, x1, ok1, dn, k⟩ => ⟨W1, c1, env, d, Q0, X0, e1, ok1, eo.mono ok x1, dn, k, fun v H' p => q v H' (p.up x1), fun cls dd H' p => x cls dd H' (p.up x1)⟩, x⟩
theorem lift_two {A B : FA1} {K : D → D → Cs → QE → Prop} {Q : VK} (h : lift G Wx (fun env c Q X => A env c (fun x c1 => B env c1 (fun y c2 => K x y c2 Q) X) X) σ H Q) :
    lift G Wx A σ H fun x H1 => lift G Wx B σ H1 fun y H2 => ∃ W c d e Q0, W.H = H2 ∧ Ok G W c ∧ Den G W x d ∧ Den G W y e ∧ K d e c Q0 ∧ ∀ v H', Post G W Q0 v H' → Q v H' := by
  obtain ⟨W, c, env, Q0, X0, e, ok, eo, h, q, x⟩ := h
  refine ⟨W, c, env, _, X0, e, ok, eo, h, fun v H' ⟨W1, c1, d, e1, x1, ok1, dn, k⟩ => ?_, x⟩
  refine ⟨W1, c1, env, _, X0, e1, ok1, eo.mono ok x1, k, fun v2 H2 ⟨W2, c2, d2, e2, x2, ok2, dn2, k2⟩ => ?_, fun cls dd H' p => x cls dd H' (p.up x1)⟩
  exact ⟨W2, c2, d, d2, Q0, e2, ok2, dn.mono ok1 x2, dn2, k2, fun v H' p => q v H' ((p.up x2).up x1)⟩
theorem liftL_fin {A : FAL} {K : List D → Cs → QE → QX → Prop} {Q : VK} (h : lift G Wx (fun env c Q X => A env c (fun x c1 => K x c1 Q X) X) σ H Q) :
    liftL G Wx A σ H fun xs H1 => ∃ W c env ds Q0 X0, W.H = H1 ∧ Ok G W c ∧ EnvOk G W σ env ∧ DenL G W xs ds ∧ K ds c Q0 X0 ∧ (∀ v H', Post G W Q0 v H' → Q v H') ∧ (∀ cls dd H', XPost G W X0 cls dd H' → Wx cls dd σ H') := by
  obtain ⟨W, c, env, Q0, X0, e, ok, eo, h, q, x⟩ := h
  exact ⟨W, c, env, _, X0, e, ok, eo, h, fun v H' ⟨W1, c1, d, e1, x1, ok1, dn, k⟩ => ⟨W1, c1, env, d, Q0, X0, e1, ok1, eo.mono ok x1, dn, k, fun v H' p => q v H' (p.up x1), fun cls dd H' p => x cls dd H' (p.up x1)⟩, x⟩
end
end F

namespace F
open PySem PySem.Spec L2

theorem line_eq : sizeLine = 16777216 := sizeLine_eq

section
variable {X : Cx} {G : GI} {W : Wd} {c : Cs} {m : Bool}
abbrev RB (G : GI) (o : B2) (m : Bool) : R2 := fun x y H Q => ∃ W c d e Q0, W.H = H ∧ Ok G W c ∧ Den G W x d ∧ Den G W y e ∧ wpB o m d e c Q0 ∧ ∀ v H', Post G W Q0 v H' → Q v H'

theorem den_int {v : V} {i : Int} (h : Den G W v (.int i)) : v = .int i := by cases h; rfl
theorem den_str {v : V} {i : Str} (h : Den G W v (.str i)) : v = .str i := by cases h; rfl
theorem den_bl {v : V} {i : Bool} (h : Den G W v (.bl i)) : v = .bl i := by cases h; rfl
theorem den_tup {v : V} {ds : List D} (h : Den G W v (.tup ds)) : ∃ a vs, v = .ref a ∧ TupAt G.K W a vs ∧ DenL G W vs ds := by cases h with | tup h t => exact ⟨_, _, rfl, h, t⟩

theorem opr_add (hK : X.K = G.K) : OpR X (binaryOp .Add) (RB G .add m) := by
  intro pins s σ H x y v u Q I rx ry ⟨W, c, d, e, Q0, eH, ok, dx, dy, h, q⟩
  subst eH
  simp only [wpB] at h
  unfold addD at h
  split at h
  · have e1 := den_int dx; have e2 := den_int dy; subst e1; subst e2
    exact op_add pins s σ _ _ _ v u Q I rx ry ⟨_, _, rfl, rfl, q _ _ (Post.now ok .int h)⟩
  · have e1 := den_str dx; have e2 := den_str dy; subst e1; subst e2
    exact op_add_str pins s σ _ _ _ v u Q I rx ry ⟨_, _, rfl, rfl, by rw [line_eq]; exact h.1, q _ _ (Post.now ok .str h.2)⟩
  · obtain ⟨a, vs, rfl, ta, da⟩ := den_tup dx
    obtain ⟨b, ws, rfl, tb, db⟩ := den_tup dy
    obtain ⟨hl, h⟩ := h
    have l1 := da.length
    have l2 := db.length
    refine op_catA pins s σ _ _ _ v u Q I rx ry ⟨a, b, vs, ws, rfl, rfl, by rw [hK]; exact ta.seq, by rw [hK]; exact tb.seq, by rw [line_eq]; omega, fun e0 => ?_, fun e0 e1 => ?_, fun _ _ => ?_⟩
    · subst e0
      cases da
      exact q _ _ (Post.now ok (.tup tb db) (by simpa using h))
    · subst e1
      cases db
      exact q _ _ (Post.now ok (.tup ta da) (by simpa using h))
    · exact newT_ok ok (da.append db) h q
  · split at h
    · split at h
      · rename_i _ xs hx _ ys hy
        obtain ⟨a, vs, rfl, ha, da⟩ := den_getL ok dx hx
        obtain ⟨b, ws, rfl, hb, db⟩ := den_getL ok dy hy
        have l1 := da.length
        have l2 := db.length
        exact op_cat pins s σ _ _ _ v u Q I rx ry ⟨a, b, vs, ws, rfl, rfl, ha, hb, by rw [line_eq, l1, l2]; exact h.1, newL_ok ok (da.append db) h.2 q⟩
      · exact h.elim
    · exact h.elim
theorem int2_of {P : Int → Int → Prop} {x y : V} {d e : D} (dx : Den G W x d) (dy : Den G W y e) (h : int2 P d e) : ∃ i j, x = .int i ∧ y = .int j ∧ P i j := by
  unfold int2 at h
  split at h
  · exact ⟨_, _, den_int dx, den_int dy, h⟩
  · exact h.elim
theorem opr_sub : OpR X (binaryOp .Sub) (RB G .sub m) := by
  intro pins s σ H x y v u Q I rx ry ⟨W, c, d, e, Q0, eH, ok, dx, dy, h, q⟩
  subst eH
  obtain ⟨i, j, rfl, rfl, h⟩ := int2_of dx dy h
  exact op_sub pins s σ _ _ _ v u Q I rx ry ⟨_, _, rfl, rfl, q _ _ (Post.now ok .int h)⟩
theorem flat_rep {vs : List V} {ds : List D} (h : DenL G W vs ds) : ∀ k : Nat, DenL G W (List.replicate k vs).flatten (List.replicate k ds).flatten
  | 0 => .nil
  | k + 1 => by
    rw [List.replicate_succ, List.replicate_succ, List.flatten_cons, List.flatten_cons]
    exact h.append (flat_rep h k)
theorem opr_mul (hK : X.K = G.K) : OpR X (binaryOp .Mult) (RB G .mul m) := by
  intro pins s σ H x y v u Q I rx ry ⟨W, c, d, e, Q0, eH, ok, dx, dy, h, q⟩
  subst eH
  simp only [wpB] at h
  unfold mulD at h
  split at h
  · have e1 := den_int dx; have e2 := den_int dy; subst e1; subst e2
    rename_i i j
    obtain ⟨hm, h⟩ := h
    have fin := q _ _ (Post.now ok (.int (i := i * j)) h)
    rcases hm with hm | hm | ⟨h1, h2⟩
    · exact op_mul pins s σ _ _ _ v u Q I rx ry ⟨_, _, rfl, rfl, .inl hm, fin⟩
    · exact op_mul pins s σ _ _ _ v u Q I rx ry ⟨_, _, rfl, rfl, .inr hm, fin⟩
    · exact op_mulW pins s σ _ _ _ v u Q I rx ry ⟨_, _, rfl, rfl, wide_mul h1 h2 (by decide) (by decide) (by decide), fin⟩
  · rename_i k _
    have e2 := den_int dy; subst e2
    unfold repL at h
    split at h
    · rename_i xs hx
      obtain ⟨a, vs, rfl, ha, da⟩ := den_getL ok dx hx
      have l1 := da.length
      exact op_rep pins s σ _ _ _ v u Q I rx ry ⟨a, k, vs, rfl, rfl, ha, h.1.1, h.1.2.1, by rw [line_eq, l1]; exact h.1.2.2, newL_ok ok (flat_rep da _) h.2 q⟩
    · exact h.elim
  · exact h.elim
theorem opr_fdiv : OpR X (binaryOp .FloorDiv) (RB G .fdiv m) := by
  intro pins s σ H x y v u Q I rx ry ⟨W, c, d, e, Q0, eH, ok, dx, dy, h, q⟩
  subst eH
  obtain ⟨i, j, rfl, rfl, h, h2⟩ := int2_of dx dy h
  exact op_fdivW pins s σ _ _ _ v u Q I rx ry ⟨_, _, rfl, rfl, wide_div h.1 h.2 (by decide) (by decide), q _ _ (Post.now ok .int h2)⟩
theorem opr_mod : OpR X (binaryOp .Mod) (RB G .mod m) := by
  intro pins s σ H x y v u Q I rx ry ⟨W, c, d, e, Q0, eH, ok, dx, dy, h, q⟩
  subst eH
  obtain ⟨i, j, rfl, rfl, h, h2⟩ := int2_of dx dy h
  exact op_mod pins s σ _ _ _ v u Q I rx ry ⟨_, _, rfl, rfl, h, q _ _ (Post.now ok .int h2)⟩
theorem opr_pow : OpR X (binaryOp .Pow) (RB G .pow m) := by
  intro pins s σ H x y v u Q I rx ry ⟨W, c, d, e, Q0, eH, ok, dx, dy, h, q⟩
  subst eH
  obtain ⟨i, j, rfl, rfl, h, h2⟩ := int2_of dx dy h
  exact op_pow pins s σ _ _ _ v u Q I rx ry ⟨_, _, rfl, rfl, h, q _ _ (Post.now ok .int h2)⟩
theorem opr_lt : OpR X (compareOp .Lt) (RB G .lt m) := by
  intro pins s σ H x y v u Q I rx ry ⟨W, c, d, e, Q0, eH, ok, dx, dy, h, q⟩
  subst eH
  obtain ⟨i, j, rfl, rfl, h⟩ := int2_of dx dy h
  exact op_lt pins s σ _ _ _ v u Q I rx ry ⟨_, _, rfl, rfl, q _ _ (Post.now ok .bl h)⟩
theorem opr_le : OpR X (compareOp .LtE) (RB G .le m) := by
  intro pins s σ H x y v u Q I rx ry ⟨W, c, d, e, Q0, eH, ok, dx, dy, h, q⟩
  subst eH
  obtain ⟨i, j, rfl, rfl, h⟩ := int2_of dx dy h
  exact op_le pins s σ _ _ _ v u Q I rx ry ⟨_, _, rfl, rfl, q _ _ (Post.now ok .bl h)⟩
theorem opr_gt : OpR X (compareOp .Gt) (RB G .gt m) := by
  intro pins s σ H x y v u Q I rx ry ⟨W, c, d, e, Q0, eH, ok, dx, dy, h, q⟩
  subst eH
  obtain ⟨i, j, rfl, rfl, h⟩ := int2_of dx dy h
  exact op_gt pins s σ _ _ _ v u Q I rx ry ⟨_, _, rfl, rfl, q _ _ (Post.now ok .bl h)⟩
theorem opr_ge : OpR X (compareOp .GtE) (RB G .ge m) := by
  intro pins s σ H x y v u Q I rx ry ⟨W, c, d, e, Q0, eH, ok, dx, dy, h, q⟩
  subst eH
  obtain ⟨i, j, rfl, rfl, h⟩ := int2_of dx dy h
  exact op_ge pins s σ _ _ _ v u Q I rx ry ⟨_, _, rfl, rfl, q _ _ (Post.now ok .bl h)⟩
theorem opr_eq (hK : X.K = G.K) (hu : X.A.units + 64 < cLine) : OpR X (compareOp .Eq) (RB G .eq m) := by
  intro pins s σ H x y v u Q I rx ry ⟨W, c, d, e, Q0, eH, ok, dx, dy, h, q⟩
  subst eH
  simp only [wpB] at h
  unfold eqD at h
  split at h
  · have e1 := den_int dx; have e2 := den_int dy; subst e1; subst e2
    refine op_eq pins s σ _ _ _ v u Q I rx ry ⟨rfl, q _ _ (Post.now ok (d := .bl _) ?_ h)⟩
    rw [dec_int, Bool.beq_eq_decide_eq]; exact .bl
  · have e1 := den_bl dx; have e2 := den_bl dy; subst e1; subst e2
    refine op_eq pins s σ _ _ _ v u Q I rx ry ⟨rfl, q _ _ (Post.now ok (d := .bl _) ?_ h)⟩
    rw [dec_bl, Bool.beq_eq_decide_eq]; exact .bl
  · have e1 := den_str dx; have e2 := den_str dy; subst e1; subst e2
    refine op_eq pins s σ _ _ _ v u Q I rx ry ⟨rfl, q _ _ (Post.now ok (d := .bl _) ?_ h)⟩
    rw [dec_str, Bool.beq_eq_decide_eq]; exact .bl
  · unfold eqG at h
    split at h
    · rename_i p1 p2 h1 h2
      exact op_eqD hu pins s σ _ _ _ v u Q I rx ry ⟨p1, p2, by rw [hK]; exact den_toPc ok dx h1, by rw [hK]; exact den_toPc ok dy h2, h.1, h.2.1, q _ _ (Post.now ok .bl h.2.2)⟩
    · exact h.elim
theorem opr_ne (hK : X.K = G.K) (hu : X.A.units + 64 < cLine) : OpR X (compareOp .NotEq) (RB G .ne m) := by
  intro pins s σ H x y v u Q I rx ry ⟨W, c, d, e, Q0, eH, ok, dx, dy, h, q⟩
  subst eH
  simp only [wpB] at h
  unfold eqD at h
  split at h
  · have e1 := den_int dx; have e2 := den_int dy; subst e1; subst e2
    refine op_ne pins s σ _ _ _ v u Q I rx ry ⟨rfl, q _ _ (Post.now ok (d := .bl _) ?_ h)⟩
    rw [dec_int, Bool.beq_eq_decide_eq]; exact .bl
  · have e1 := den_bl dx; have e2 := den_bl dy; subst e1; subst e2
    refine op_ne pins s σ _ _ _ v u Q I rx ry ⟨rfl, q _ _ (Post.now ok (d := .bl _) ?_ h)⟩
    rw [dec_bl, Bool.beq_eq_decide_eq]; exact .bl
  · have e1 := den_str dx; have e2 := den_str dy; subst e1; subst e2
    refine op_ne pins s σ _ _ _ v u Q I rx ry ⟨rfl, q _ _ (Post.now ok (d := .bl _) ?_ h)⟩
    rw [dec_str, Bool.beq_eq_decide_eq]; exact .bl
  · unfold eqG at h
    split at h
    · rename_i p1 p2 h1 h2
      exact op_neD hu pins s σ _ _ _ v u Q I rx ry ⟨p1, p2, by rw [hK]; exact den_toPc ok dx h1, by rw [hK]; exact den_toPc ok dy h2, h.1, h.2.1, q _ _ (Post.now ok .bl h.2.2)⟩
    · exact h.elim
theorem den_non {v : V} {d : D} (h : Den G W v d) : decide (v = .non) = isNon d := by
  cases h <;> first | rfl | (unfold isNon; simp)
theorem opr_is : OpR X (compareOp .Is) (RB G .is m) := by
  intro pins s σ H x y v u Q I rx ry ⟨W, c, d, e, Q0, eH, ok, dx, dy, h, q⟩
  subst eH
  simp only [wpB] at h
  unfold isD at h
  split at h
  · cases dy
    exact op_isN pins s σ _ _ _ v u Q I rx ry ⟨rfl, by rw [den_non dx]; exact q _ _ (Post.now ok .bl h)⟩
  · cases dx; cases dy
    exact op_isBl pins s σ _ _ _ v u Q I rx ry ⟨_, _, rfl, rfl, q _ _ (Post.now ok .bl h)⟩
  · exact h.elim
theorem opr_isn : OpR X (compareOp .IsNot) (RB G .isn m) := by
  intro pins s σ H x y v u Q I rx ry ⟨W, c, d, e, Q0, eH, ok, dx, dy, h, q⟩
  subst eH
  simp only [wpB] at h
  unfold isD at h
  split at h
  · cases dy
    exact op_notN pins s σ _ _ _ v u Q I rx ry ⟨rfl, by rw [den_non dx]; exact q _ _ (Post.now ok .bl h)⟩
  · cases dx; cases dy
    exact op_notBl pins s σ _ _ _ v u Q I rx ry ⟨_, _, rfl, rfl, q _ _ (Post.now ok .bl h)⟩
  · exact h.elim
theorem opr_in (hK : X.K = G.K) (hu : X.A.units + 65 < cLine) : OpR X (compareOp .In) (RB G .inn m) := by
  intro pins s σ H x y v u Q I rx ry ⟨W, c, d, e, Q0, eH, ok, dx, dy, h, q⟩
  subst eH
  simp only [wpB] at h
  unfold inD at h
  split at h
  · rename_i ys hy
    split at h
    · rename_i p ps hp hps
      obtain ⟨b, ws, rfl, hb, db⟩ := den_getL ok dy hy
      exact op_inD hu pins s σ _ _ _ v u Q I rx ry ⟨p, ps, by rw [hK]; exact den_toP rfl dx hp, by rw [hK]; exact .lst (.inl (.inl hb)) (den_toPL rfl db hps), h.1, h.2.1, q _ _ (Post.now ok .bl h.2.2)⟩
    · exact h.elim
  · exact h.elim
theorem opr_nin (hK : X.K = G.K) (hu : X.A.units + 65 < cLine) : OpR X (compareOp .NotIn) (RB G .nin m) := by
  intro pins s σ H x y v u Q I rx ry ⟨W, c, d, e, Q0, eH, ok, dx, dy, h, q⟩
  subst eH
  simp only [wpB] at h
  unfold inD at h
  split at h
  · rename_i ys hy
    split at h
    · rename_i p ps hp hps
      obtain ⟨b, ws, rfl, hb, db⟩ := den_getL ok dy hy
      exact op_notInD hu pins s σ _ _ _ v u Q I rx ry ⟨p, ps, by rw [hK]; exact den_toP rfl dx hp, by rw [hK]; exact .lst (.inl (.inl hb)) (den_toPL rfl db hps), h.1, h.2.1, q _ _ (Post.now ok .bl h.2.2)⟩
    · exact h.elim
  · exact h.elim
theorem atI_den {vs : List V} {ds : List D} {i : Int} {d : D} (h : DenL G W vs ds) (e : atI ds i = some d) : ∃ v, atI vs i = some v ∧ Den G W v d := by
  unfold atI at e ⊢
  have hl := h.length
  rw [hl]
  cases q : ixN ds.length i with
  | none => rw [q] at e; cases e
  | some j =>
    rw [q] at e
    exact h.get (by simpa using e)
theorem ixr_idx (hK : X.K = G.K) : IxR X (RB G .idx m) := by
  intro value slice pins s σ H x y v u Q I rx ry h hs
  obtain ⟨W, c, d, e, Q0, eH, ok, dx, dy, h, q⟩ := h
  subst eH
  simp only [wpB] at h
  split at h
  · rename_i i
    have e2 := den_int dy; subst e2
    unfold idxS at h
    split at h
    · rename_i xs hx
      split at h
      · rename_i z hz
        obtain ⟨a, vs, rfl, ha, da⟩ := den_getS ok dx hx
        obtain ⟨w, hw, dw⟩ := atI_den da hz
        rcases ha with ha | ha
        · exact ix_list value slice pins s σ _ _ _ v u Q I rx ry ⟨a, vs, i, w, rfl, rfl, by rw [hK]; exact ha, hw, q _ _ (Post.now ok dw h)⟩ hs
        · exact ix_tup value slice pins s σ _ _ _ v u Q I rx ry ⟨a, vs, i, w, rfl, rfl, by rw [hK]; exact ha, hw, q _ _ (Post.now ok dw h)⟩ hs
      · exact h.elim
    · exact h.elim
  · exact h.elim

abbrev RC (G : GI) (o : Bi) (m : Bool) : List V → Hp → VK → Prop := fun xs H Q => ∃ W c ds Q0, W.H = H ∧ Ok G W c ∧ DenL G W xs ds ∧ wpBi o m ds c Q0 ∧ ∀ v H', Post G W Q0 v H' → Q v H'
theorem denL_one {xs : List V} {d : D} (h : DenL G W xs [d]) : ∃ x, xs = [x] ∧ Den G W x d := by
  cases h with
  | cons r t => cases t; exact ⟨_, rfl, r⟩
theorem denL_two {xs : List V} {d e : D} (h : DenL G W xs [d, e]) : ∃ x y, xs = [x, y] ∧ Den G W x d ∧ Den G W y e := by
  cases h with
  | cons r t => cases t with | cons r2 t2 => cases t2; exact ⟨_, _, rfl, r, r2⟩
theorem onO_of {α : Type} {o : Option α} {P : α → Prop} (h : onO o P) : ∃ x, o = some x ∧ P x := by
  cases o with
  | none => exact h.elim
  | some x => exact ⟨x, rfl, h⟩
theorem allI_den : ∀ {ds : List D} {ns : List Int} {vs : List V}, DenL G W vs ds → allI ds = some ns → vs = ns.map V.int
  | [], _, _, .nil, e => by cases e; rfl
  | d :: r, ns, _, .cons dx t, e => by
    cases dx with
    | int =>
      simp only [allI] at e
      obtain ⟨ms, e1, rfl⟩ := Option.map_eq_some_iff.mp e
      rw [allI_den t e1] <;> rfl
    | _ => simp [allI] at e
theorem allB_den : ∀ {ds : List D} {ns : List Bool} {vs : List V}, DenL G W vs ds → allB ds = some ns → vs = ns.map V.bl
  | [], _, _, .nil, e => by cases e; rfl
  | d :: r, ns, _, .cons dx t, e => by
    cases dx with
    | bl =>
      simp only [allB] at e
      obtain ⟨ms, e1, rfl⟩ := Option.map_eq_some_iff.mp e
      rw [allB_den t e1] <;> rfl
    | _ => simp [allB] at e

theorem callr_len (hK : X.K = G.K) : CallR X (.builtin "len") (RC G .len m) := by
  intro pins s σ H vs us Q I r ⟨W, c, ds, Q0, eH, ok, dx, h, q⟩
  subst eH
  unfold wpBi at h
  split at h <;> try (exact absurd ‹_ = _› (by decide))
  · obtain ⟨x, rfl, dz⟩ := denL_one dx
    obtain ⟨xs, hx, h⟩ := onO_of h
    obtain ⟨a, ws, rfl, ha, da⟩ := den_getS ok dz hx
    have e := da.length
    exact call_len_seq pins s σ _ _ us Q I r ⟨a, ws, rfl, by rw [hK]; exact ha, by rw [e]; exact q _ _ (Post.now ok .int h)⟩
  · exact h.elim
theorem callr_abs : CallR X (.builtin "abs") (RC G .abs m) := by
  intro pins s σ H vs us Q I r ⟨W, c, ds, Q0, eH, ok, dx, h, q⟩
  subst eH
  unfold wpBi at h
  split at h <;> try (exact absurd ‹_ = _› (by decide))
  · obtain ⟨x, rfl, dz⟩ := denL_one dx
    have e1 := den_int dz; subst e1
    exact call_abs pins s σ _ _ us Q I r ⟨_, rfl, q _ _ (Post.now ok .int h)⟩
  · exact h.elim
theorem callr_max (hc : X.calm = true) : CallR X (.builtin "max") (RC G .max m) := by
  intro pins s σ H vs us Q I r ⟨W, c, ds, Q0, eH, ok, dx, h, q⟩
  subst eH
  unfold wpBi at h
  split at h <;> try (exact absurd ‹_ = _› (by decide))
  · obtain ⟨x, y, rfl, dz, dy⟩ := denL_two dx
    have e1 := den_int dz; subst e1
    have e2 := den_int dy; subst e2
    exact call_max2 hc pins s σ _ _ us Q I r ⟨_, _, rfl, q _ _ (Post.now ok .int h)⟩
  · exact h.elim
theorem callr_min (hc : X.calm = true) : CallR X (.builtin "min") (RC G .min m) := by
  intro pins s σ H vs us Q I r ⟨W, c, ds, Q0, eH, ok, dx, h, q⟩
  subst eH
  unfold wpBi at h
  split at h <;> try (exact absurd ‹_ = _› (by decide))
  · obtain ⟨x, y, rfl, dz, dy⟩ := denL_two dx
    have e1 := den_int dz; subst e1
    have e2 := den_int dy; subst e2
    exact call_min2 hc pins s σ _ _ us Q I r ⟨_, _, rfl, q _ _ (Post.now ok .int h)⟩
  · exact h.elim
theorem callr_sum (hK : X.K = G.K) (hc : X.calm = true) : CallR X (.builtin "sum") (RC G .sum m) := by
  intro pins s σ H vs us Q I r ⟨W, c, ds, Q0, eH, ok, dx, h, q⟩
  subst eH
  unfold wpBi at h
  split at h <;> try (exact absurd ‹_ = _› (by decide))
  · obtain ⟨x, rfl, dz⟩ := denL_one dx
    obtain ⟨xs, hx, h⟩ := onO_of h
    obtain ⟨ns, hn, h⟩ := onO_of h
    obtain ⟨a, ws, rfl, ha, da⟩ := den_getR ok dz hx
    have e := allI_den da hn
    subst e
    exact cr_sum hc pins s σ _ _ us Q I r ⟨a, ns, rfl, by rw [hK]; exact ha, q _ _ (Post.now ok .int h)⟩
  · exact h.elim
theorem callr_all (hK : X.K = G.K) (hc : X.calm = true) : CallR X (.builtin "all") (RC G .all m) := by
  intro pins s σ H vs us Q I r ⟨W, c, ds, Q0, eH, ok, dx, h, q⟩
  subst eH
  unfold wpBi at h
  split at h <;> try (exact absurd ‹_ = _› (by decide))
  · obtain ⟨x, rfl, dz⟩ := denL_one dx
    obtain ⟨xs, hx, h⟩ := onO_of h
    obtain ⟨ns, hn, h⟩ := onO_of h
    obtain ⟨a, ws, rfl, ha, da⟩ := den_getR ok dz hx
    have e := allB_den da hn
    subst e
    exact cr_all hc pins s σ _ _ us Q I r ⟨a, ns, rfl, by rw [hK]; exact ha, q _ _ (Post.now ok .bl h)⟩
  · exact h.elim
theorem callr_any (hK : X.K = G.K) (hc : X.calm = true) : CallR X (.builtin "any") (RC G .any m) := by
  intro pins s σ H vs us Q I r ⟨W, c, ds, Q0, eH, ok, dx, h, q⟩
  subst eH
  unfold wpBi at h
  split at h <;> try (exact absurd ‹_ = _› (by decide))
  · obtain ⟨x, rfl, dz⟩ := denL_one dx
    obtain ⟨xs, hx, h⟩ := onO_of h
    obtain ⟨ns, hn, h⟩ := onO_of h
    obtain ⟨a, ws, rfl, ha, da⟩ := den_getR ok dz hx
    have e := allB_den da hn
    subst e
    exact cr_any hc pins s σ _ _ us Q I r ⟨a, ns, rfl, by rw [hK]; exact ha, q _ _ (Post.now ok .bl h)⟩
  · exact h.elim
theorem callr_int : CallR X (.type "int") (RC G .int m) := by
  intro pins s σ H vs us Q I r ⟨W, c, ds, Q0, eH, ok, dx, h, q⟩
  subst eH
  unfold wpBi at h
  split at h <;> try (exact absurd ‹_ = _› (by decide))
  · obtain ⟨x, rfl, dz⟩ := denL_one dx
    have e1 := den_int dz; subst e1
    exact call_int1 pins s σ _ _ us Q I r (.inl ⟨_, rfl, q _ _ (Post.now ok .int h)⟩)
  · obtain ⟨x, rfl, dz⟩ := denL_one dx
    have e1 := den_bl dz; subst e1
    exact call_int1 pins s σ _ _ us Q I r (.inr ⟨_, rfl, q _ _ (Post.now ok .int h)⟩)
  · exact h.elim
theorem callr_sorted (hK : X.K = G.K) : CallR X (.builtin "sorted") (RC G .sorted m) := by
  intro pins s σ H vs us Q I r ⟨W, c, ds, Q0, eH, ok, dx, h, q⟩
  subst eH
  unfold wpBi at h
  split at h <;> try (exact absurd ‹_ = _› (by decide))
  · obtain ⟨x, rfl, dz⟩ := denL_one dx
    obtain ⟨xs, hx, h⟩ := onO_of h
    obtain ⟨ns, hn, h⟩ := onO_of h
    obtain ⟨a, ws, rfl, ha, da⟩ := den_getR ok dz hx
    have e := allI_den da hn
    subst e
    exact cr_sortedI pins s σ _ _ us Q I r ⟨a, ns, rfl, by rw [hK]; exact ha, fun ms p h1 h2 hp => newL_ok ok DenL.of_ints (h ms h1 h2) q p hp⟩
  · exact h.elim
theorem callr_list (hK : X.K = G.K) : CallR X (.type "list") (RC G .list m) := by
  intro pins s σ H vs us Q I r ⟨W, c, ds, Q0, eH, ok, dx, h, q⟩
  subst eH
  unfold wpBi at h
  split at h <;> try (exact absurd ‹_ = _› (by decide))
  · obtain ⟨x, rfl, dz⟩ := denL_one dx
    obtain ⟨xs, hx, h⟩ := onO_of h
    obtain ⟨a, ws, rfl, ha, da⟩ := den_getS ok dz hx
    exact call_list_of pins s σ _ _ us Q I r ⟨a, ws, rfl, by rw [hK]; exact ha, newL_ok ok da h q⟩
  · exact h.elim
theorem den_getS' (ok : Ok G W c) {v : V} {d : D} {xs : List D} (h : Den G W v d) (e : getS c d = some xs) : ∃ a vs, v = .ref a ∧ ((TupAt G.K W a vs ∧ d = .tup xs) ∨ SqL G.K W.H a vs) ∧ DenL G W vs xs := by
  cases h with
  | tup h t => simp only [getS] at e; cases e; exact ⟨_, _, rfl, .inl ⟨h, rfl⟩, t⟩
  | scr h t => simp only [getS] at e; cases e; exact ⟨_, _, rfl, .inr h.seq, t⟩
  | lst h t => obtain ⟨a, vs, e1, e2, e3⟩ := den_getL ok (.lst h t) e; exact ⟨a, vs, e1, .inr (.inl (.inl e2)), e3⟩
  | cell h => obtain ⟨a, vs, e1, e2, e3⟩ := den_getL ok (.cell h) e; exact ⟨a, vs, e1, .inr (.inl (.inl e2)), e3⟩
  | _ => simp [getS, getL] at e
theorem callr_tuple (hK : X.K = G.K) : CallR X (.type "tuple") (RC G .tuple m) := by
  intro pins s σ H vs us Q I r ⟨W, c, ds, Q0, eH, ok, dx, h, q⟩
  subst eH
  unfold wpBi at h
  split at h <;> try (exact absurd ‹_ = _› (by decide))
  · obtain ⟨x, rfl, dz⟩ := denL_one dx
    obtain ⟨xs, hx, h⟩ := onO_of h
    obtain ⟨a, ws, rfl, ha, da⟩ := den_getS' ok dz hx
    rcases ha with ⟨ha, e⟩ | ha
    · subst e
      exact call_tuple_of pins s σ _ _ us Q I r ⟨a, ws, rfl, .inr ⟨by rw [hK]; exact ha.seq, q _ _ (Post.now ok (.tup ha da) h)⟩⟩
    · exact call_tuple_of pins s σ _ _ us Q I r ⟨a, ws, rfl, .inl ⟨by rw [hK]; exact ha, newT_ok ok da h q⟩⟩
  · exact h.elim

abbrev RM (G : GI) (o : Mt) : V → List V → Hp → VK → Prop := fun x xs H Q => ∃ W c d ds Q0, W.H = H ∧ Ok G W c ∧ Den G W x d ∧ DenL G W xs ds ∧ wpMt o d ds c Q0 ∧ ∀ v H', Post G W Q0 v H' → Q v H'
theorem cell_lst (ok : Ok G W c) {v : V} {n : Nat} {xs : List D} (h : Den G W v (.cell n)) (e : getL c (.cell n) = some xs) : ∃ a vs, v = .ref a ∧ W.as[n]? = some a ∧ W.H a = some (.lst vs) ∧ DenL G W vs xs := by
  cases h with
  | cell h =>
    obtain ⟨x, hx, ca⟩ := ok.at h
    simp only [getL, hx] at e
    cases x with
    | lst ds =>
      cases e
      obtain ⟨vs, e1, e2⟩ := ca
      exact ⟨_, vs, rfl, h, e1, e2⟩
    | dct _ _ => cases e
    | obj _ _ => cases e
/-- the cell's list is another one -/
theorem setL_ok (ok : Ok G W c) {n : Nat} {a : Addr} {ws : List V} {ys : List D} {Q0 : QE} {Q : VK} {r : D} {rv : V} (ha : W.as[n]? = some a) (t : DenL G W ws ys) (dr : Den G W rv r) (h : Q0 r (c.set n (.lst ys))) (q : ∀ v H', Post G W Q0 v H' → Q v H') : Q rv (upd W.H a (.lst ws)) := by
  have x0 : Ext W (W.setAt a (.lst ws)) := ok.setE ha _
  exact q _ _ ⟨_, _, _, rfl, x0, (ok.setC ha (.lst ws) (y := .lst ys) ⟨ws, upd_same, t.mono ok x0⟩).2, dr.mono ok x0, h⟩
theorem mtr_append : MtM X "list.append" (RM G .append) := by
  intro pins s σ H x xs v us Q I rx r ⟨W, c, d, ds, Q0, eH, ok, dx, dl, h, q⟩
  subst eH
  unfold wpMt at h
  split at h <;> try (exact absurd ‹_ = _› (by decide))
  · obtain ⟨ys, hy, hl, h⟩ := onO_of h
    obtain ⟨y, rfl, dy⟩ := denL_one dl
    obtain ⟨a, vs, rfl, ha, hv, t⟩ := cell_lst ok dx hy
    have e := t.length
    exact mt_append pins s σ _ _ _ v us Q I rx r ⟨a, vs, y, rfl, rfl, hv, by rw [line_eq, e]; exact hl, setL_ok ok ha (t.append (.cons dy .nil)) .non h q⟩
  · exact h.elim
theorem mtr_clear : MtM X "list.clear" (RM G .clear) := by
  intro pins s σ H x xs v us Q I rx r ⟨W, c, d, ds, Q0, eH, ok, dx, dl, h, q⟩
  subst eH
  unfold wpMt at h
  split at h <;> try (exact absurd ‹_ = _› (by decide))
  · obtain ⟨ys, hy, h⟩ := onO_of h
    cases dl
    obtain ⟨a, vs, rfl, ha, hv, t⟩ := cell_lst ok dx hy
    exact mt_clear pins s σ _ _ _ v us Q I rx r ⟨a, vs, rfl, rfl, hv, setL_ok ok ha .nil .non h q⟩
  · exact h.elim
theorem mtr_extend : MtM X "list.extend" (RM G .extend) := by
  intro pins s σ H x xs v us Q I rx r ⟨W, c, d, ds, Q0, eH, ok, dx, dl, h, q⟩
  subst eH
  unfold wpMt at h
  split at h <;> try (exact absurd ‹_ = _› (by decide))
  · obtain ⟨ys, hy, h⟩ := onO_of h
    obtain ⟨zs, hz, hnc, hl, h⟩ := onO_of h
    obtain ⟨y, rfl, dy⟩ := denL_one dl
    obtain ⟨a, vs, rfl, ha, hv, t⟩ := cell_lst ok dx hy
    obtain ⟨b, ws, rfl, hb, tb⟩ := den_getL ok dy hz
    have e1 := t.length
    have e2 := tb.length
    exact mt_extend pins s σ _ _ _ v us Q I rx r ⟨a, b, vs, ws, rfl, rfl, hv, hb, by rw [line_eq, e1, e2]; exact hl, setL_ok ok ha (t.append tb) .non h q⟩
  · exact h.elim
theorem denL_dropLast : ∀ {vs : List V} {ds : List D}, DenL G W vs ds → DenL G W vs.dropLast ds.dropLast
  | _, _, .nil => .nil
  | _, _, .cons r .nil => .nil
  | _, _, .cons r (.cons r2 t) => .cons r (denL_dropLast (.cons r2 t))
theorem mtr_pop : MtM X "list.pop" (RM G .pop) := by
  intro pins s σ H x xs v us Q I rx r ⟨W, c, d, ds, Q0, eH, ok, dx, dl, h, q⟩
  subst eH
  unfold wpMt at h
  split at h <;> try (exact absurd ‹_ = _› (by decide))
  · obtain ⟨ys, hy, h⟩ := onO_of h
    obtain ⟨z, hz, h⟩ := onO_of h
    cases dl
    obtain ⟨a, vs, rfl, ha, hv, t⟩ := cell_lst ok dx hy
    rw [List.getLast?_eq_getElem?] at hz
    obtain ⟨w, hw, dw⟩ := t.get hz
    rw [← t.length] at hw
    exact mt_pop pins s σ _ _ _ v us Q I rx r ⟨a, vs, w, rfl, rfl, hv, hw, setL_ok ok ha (denL_dropLast t) dw h q⟩
  · exact h.elim
end
end F

namespace F
open PySem PySem.Spec L2

def noStar : Expr → Bool
  | .Starred _ _ => false
  | _ => true
def notSlice : Expr → Bool
  | .Slice _ _ _ _ => false
  | _ => true
def notComp : Expr → Bool
  | .ListComp _ _ _ _ => false
  | .SetComp _ _ _ _ => false
  | .DictComp _ _ _ _ _ => false
  | _ => true
def notSet : Expr → Bool
  | .Set _ _ _ => false
  | _ => true
def notTup : Expr → Bool
  | .Tuple _ _ _ => false
  | _ => true
/-- a term whose truth is its value's -/
def plainT : Expr → Bool
  | .UnaryOp .Not _ _ => false
  | .BoolOp _ _ _ => false
  | .IfExp _ _ _ _ => false
  | .Compare _ _ _ _ => false
  | _ => true
def notCall : Expr → Bool
  | .Call _ _ _ _ => false
  | _ => true
def notTL : Expr → Bool
  | .Tuple _ _ _ => false
  | .List _ _ => false
  | _ => true
theorem star_cons {e : Expr} {es : List Expr} {env : Env} (h : noStar e = true) : starEach (e :: es) env = (false, eval e env) :: starEach es env := by
  cases e <;> first | rfl | simp [noStar] at h
theorem star_any {es : List Expr} {env : Env} {pos : Pos} (h : es.all noStar = true) : (backTo pos (starEach es env)).any (·.1) = false := by
  induction es with
  | nil => rfl
  | cons e es ih =>
    rw [List.all_cons, Bool.and_eq_true] at h
    rw [star_cons h.1]
    show (false || (backTo pos (starEach es env)).any (·.1)) = false
    rw [ih h.2] <;> rfl
theorem star_all {es : List Expr} {env : Env} {pos : Pos} (h : es.all noStar = true) : (backTo pos (starEach es env)).all (fun x => !x.1) = true := by
  induction es with
  | nil => rfl
  | cons e es ih =>
    rw [List.all_cons, Bool.and_eq_true] at h
    rw [star_cons h.1]
    show (true && (backTo pos (starEach es env)).all (fun x => !x.1)) = true
    rw [ih h.2] <;> rfl
theorem plainIx_of {e : Expr} (h : notSlice e = true) : PlainIx e := by
  intro o i
  cases e <;> first | rfl | simp [notSlice] at h
theorem swaps_of {e : Expr} {t : Option Expr} {l : Nat} {env : Env} (h : notComp e = true) : swapsWith e t l env = pure false := by
  cases e <;> first | rfl | simp [notComp] at h
theorem swapsA_of {e o : Expr} {f : Str} {p : Pos} {l : Nat} {env : Env} : swapsWith e (some (.Attribute o f p)) l env = pure false := by
  unfold swapsWith
  cases e <;> rfl
theorem swapsS_of {e o i : Expr} {p : Pos} {l : Nat} {env : Env} : swapsWith e (some (.Subscript o i p)) l env = pure false := by
  unfold swapsWith
  cases e <;> rfl
theorem swapsT_of {e : Expr} {ts : List Expr} {k : Nat} {p : Pos} {l : Nat} {env : Env} : swapsWith e (some (.Tuple ts k p)) l env = pure false := by
  unfold swapsWith
  cases e <;> rfl
theorem behind_of {op : CmpOp} {e : Expr} (h : notSet e = true) : behindInMarks op e = false := by
  cases e <;> first | rfl | simp [notSet] at h
theorem isTrue_of {e : Expr} {env : Env} (h : plainT e = true) : ∀ whole, isTrue e env whole = (do let v ← whole; standAt e.pos; holding [v] (truthy v)) := by
  intro whole
  cases e with
  | UnaryOp op a p => cases op <;> first | rfl | simp [plainT] at h
  | BoolOp _ _ _ => simp [plainT] at h
  | IfExp _ _ _ _ => simp [plainT] at h
  | Compare _ _ _ _ => simp [plainT] at h
  | _ => rfl
theorem base_of {o : Expr} {attr : Str} {env : Env} {whole : Sem Value} (h : notCall o = true) : attributeBase o attr env whole = whole := by
  cases o <;> first | rfl | simp [notCall] at h
theorem folded_of {e : Expr} {env : Env} (h : notSet e = true) : ∀ x, foldedSetIterable e env x = pure x := by
  intro x
  cases e <;> first | rfl | simp [notSet] at h
theorem stores_name {x : Str} {p : Pos} {e : Expr} {env : Env} : swappedStores [.Name x p] e env = pure none := by
  unfold swappedStores
  cases e <;> rfl
theorem stores_sub {o i : Expr} {p : Pos} {e : Expr} {env : Env} : swappedStores [.Subscript o i p] e env = pure none := by
  unfold swappedStores
  cases e <;> rfl
theorem stores_tup {ts : List Expr} {k : Nat} {p : Pos} {e : Expr} {env : Env} (h : notTup e = true) : swappedStores [.Tuple ts k p] e env = pure none := by
  unfold swappedStores
  cases e <;> first | rfl | simp [notTup] at h
theorem each_one {t : Expr} {env : Env} (h : noStar t = true) : (assignEach [t] env).map (·.2) = [assign t env] := by
  cases t <;> first | rfl | simp [noStar] at h
theorem each_cons {t : Expr} {ts : List Expr} {env : Env} (h : noStar t = true) : (assignEach (t :: ts) env).map (·.2) = assign t env :: (assignEach ts env).map (·.2) := by
  cases t <;> first | rfl | simp [noStar] at h
theorem each_len {ts : List Expr} {env : Env} : (assignEach ts env).length = ts.length := by
  induction ts with
  | nil => rfl
  | cons t ts ih =>
    cases t <;> (show (assignEach ts env).length + 1 = ts.length + 1; rw [ih])
theorem each_star {ts : List Expr} {env : Env} (h : ts.all noStar = true) : (assignEach ts env).findIdx? (·.1) = none := by
  induction ts with
  | nil => rfl
  | cons t ts ih =>
    rw [List.all_cons, Bool.and_eq_true] at h
    have e : assignEach (t :: ts) env = (false, assign t env) :: assignEach ts env := by
      cases t <;> first | rfl | simp [noStar] at h
    rw [e, List.findIdx?_cons, ih h.2] <;> rfl

section
variable {X : Cx} {k : Nat} {f C : Addr} {fd : FuncData} {ps : List Str} {sp : Sp} {E : L2.St → XK} {x m : Str} {p pos apos : Pos} {e o : Expr} {es : List Expr} {ta : TE} {t : TA} {CX : CXT}
theorem pa_consN (h : noStar e = true) {te : TE} (ha : PE X e te) (hr : PA X es t) : PA X (e :: es) (tCons te t) := pa_cons ha hr (star_cons h)
def tCallN (sp : Sp) (E : L2.St → XK) (t : TA) : TE := fun σ H Q => t σ H fun vs H1 => sp vs H1 Q (E σ)
theorem run_fnN {pins : List (Addr × Obj)} {σ : L2.St} {H : Hp} {s : Shared} {Q : VK} {us : List Value} {vs : List V} (F : FnOk X.prog X.w X.K X.mg X.base CX k f fd ps sp) (hr : Room k X.A) (hb : Binds X.K fd ps []) (hx : PassesAt CX X σ (E σ))
    (I : L2.Inv X pins σ H s) (r : Vals vs us) (h : sp vs H Q (E σ)) : wpAny (model X.prog X.w) X.A (call (.ref f) us) (EP X pins σ Q) X.xe s := by
  have hl : (us ++ []).length = ps.length := by rw [List.append_nil, ← r.length]; exact F.len _ _ _ _ h
  refine wpAny_call (codeAny_mono (F.run X.A X.stack s H ⟨us, []⟩ us vs Q (E σ) hr I.env0 (by have z := hb s us I.kIn hl; rwa [List.append_nil] at z) r h) fun r s' hq => ?_)
  cases r with
  | error e => exact hx pins H s e s' I hq
  | ok fl =>
    cases fl with
    | ret u => exact I.after hq
    | next => exact False.elim hq
    | brk => exact False.elim hq
    | cont => exact False.elim hq
theorem pe_callN (F : FnOk X.prog X.w X.K X.mg X.base CX k f fd ps sp) (hr : Room k X.A) (hg : Gl X x) (hm : X.mg x = some (.ref f)) (hk : PySem.W.keepIn X.K (.ref f) = true) (hb : Binds X.K fd ps []) (hx : ∀ σ, PassesAt CX X σ (E σ))
    (hdb : (x == ("__debug__" : Str)) = false) (hst : (e :: es).all noStar = true) (ha : PA X (e :: es) t) : PE X (.Call (.Name x p) (e :: es) [] pos) (tCallN sp E t) := by
  refine ⟨fun pins s σ H Q I h => ?_⟩
  refine wpAny_Call_Name_kw (ld_glob I hg hm ?_ hdb)
  rw [List.all_cons, Bool.and_eq_true] at hst
  refine PySem.W.callWith_K (h₀ := X.base) I.ok.mod.kin hk (thn (ha.run pos pins s σ H _ I h) fun us s1 ⟨vs, H1, I1, r, q⟩ => ⟨I1.kIn, ?_⟩) (star_cons hst.1) (star_any hst.2)
  exact run_fnN F hr hb (hx σ) I1 r q
theorem pe_callN0 (F : FnOk X.prog X.w X.K X.mg X.base CX k f fd ps sp) (hr : Room k X.A) (hg : Gl X x) (hm : X.mg x = some (.ref f)) (hk : PySem.W.keepIn X.K (.ref f) = true) (hb : Binds X.K fd ps []) (hx : ∀ σ, PassesAt CX X σ (E σ))
    (hdb : (x == ("__debug__" : Str)) = false) : PE X (.Call (.Name x p) [] [] pos) (tCallN sp E tNil) := by
  refine ⟨fun pins s σ H Q I h => ?_⟩
  refine wpAny_Call_Name_kw (ld_glob I hg hm ?_ hdb)
  exact PySem.W.callWith_K0 I.kIn hk (run_fnN F hr hb (hx σ) I .nil h)
theorem kw_nil {pos : Pos} {env : Env} : (backToKw pos (keywordEach [] env)).all (fun x => x.1.isSome) = true := rfl
theorem form_of {n : Nat} {args : List Expr} {env : Env} {pos : Pos} (hst : args.all noStar = true) (hlen : n < 30) : methodCallForm n (backTo pos (starEach args env)) (backToKw pos (keywordEach [] env)) = true := by
  unfold methodCallForm
  rw [star_all hst, kw_nil]
  show decide (n + 0 < 30) = true
  exact decide_eq_true hlen
theorem meth_eq {o : Expr} {m : Str} {apos pos : Pos} {args : List Expr} {env : Env} (hno : notCall o = true) (hst : args.all noStar = true) (hlen : args.length < 30) (hline : (apos.endLine == pos.line) = true) :
    eval (.Call (.Attribute o m apos) args [] pos) env = (do
      let ov ← eval o env
      standAt apos.atName
      let (f, first) ← holding [ov] (getMethod ov m (do return (← importBound o env).getD true))
      callWith pos f first (backTo pos (starEach args env)) (backToKw pos (keywordEach [] env))) := by
  show (do
    let ov ← attributeBase o m env (eval o env)
    standAt apos.atName
    methodCall o m apos pos env ov (args.length + ([] : List Keyword).length) (backTo pos (starEach args env)) (backToKw pos (keywordEach [] env))) = _
  rw [base_of hno]
  unfold methodCall
  rw [form_of hst (by simpa using hlen)]
  unfold calleeOf methodCallPos
  rw [hline]
  rfl
def tMethN (C : Addr) (m : Str) (sp : Sp) (E : L2.St → XK) (ta : TE) (t : TA) : TE := fun σ H Q => ta σ H fun x H1 => ∃ a dx fs, x = .ref a ∧ H1 a = some (.ins C dx fs) ∧ fs.lookup m = none ∧ t σ H1 fun vs H2 => sp (x :: vs) H2 Q (E σ)
theorem pe_methN (he : PE X o ta) (c : Cls X.K C) (hm : Meth X.K C m f) (F : FnOk X.prog X.w X.K X.mg X.base CX k f fd ps sp) (hr : Room k X.A) (hb : Binds X.K fd ps []) (hx : ∀ σ, PassesAt CX X σ (E σ)) (ha : PA X (e :: es) t) (hst : (e :: es).all noStar = true)
    (hno : notCall o = true) (hlen : (e :: es).length < 30) (hline : (apos.endLine == pos.line) = true) : PE X (.Call (.Attribute o m apos) (e :: es) [] pos) (tMethN C m sp E ta t) := by
  refine ⟨fun pins s σ H Q I h => ?_⟩
  have hq := meth_eq (m := m) (env := X.env) hno hst hlen hline
  rw [List.all_cons, Bool.and_eq_true] at hst
  refine PySem.W.methodCall_KW (thn (he.run pins s σ H _ I h) fun u s1 ⟨x, H1, I1, rx, a, dx, fs, ex, ea, l, q⟩ => ?_) hq
  subst ex
  obtain rfl : u = Value.ref a := rx
  refine getmeth_ok I1 ea c hm l ?_
  refine PySem.W.callWith_K (first := [.ref a]) (h₀ := X.base) I.ok.mod.kin hm.kp (thn (ha.run pos pins s1 σ H1 _ I1 q) fun us s2 ⟨vs, H2, I2, r, q2⟩ => ⟨I2.kIn, ?_⟩) (star_cons hst.1) (star_any hst.2)
  exact run_fnN (us := .ref a :: us) (vs := .ref a :: vs) F hr hb (hx σ) I2 (.cons rfl r) q2
theorem pe_methN0 (he : PE X o ta) (c : Cls X.K C) (hm : Meth X.K C m f) (F : FnOk X.prog X.w X.K X.mg X.base CX k f fd ps sp) (hr : Room k X.A) (hb : Binds X.K fd ps []) (hx : ∀ σ, PassesAt CX X σ (E σ))
    (hno : notCall o = true) (hline : (apos.endLine == pos.line) = true) : PE X (.Call (.Attribute o m apos) [] [] pos) (tMethN C m sp E ta tNil) := by
  refine ⟨fun pins s σ H Q I h => ?_⟩
  refine PySem.W.methodCall_KW (thn (he.run pins s σ H _ I h) fun u s1 ⟨x, H1, I1, rx, a, dx, fs, ex, ea, l, q⟩ => ?_) (meth_eq (m := m) (env := X.env) hno rfl (by decide) hline)
  subst ex
  obtain rfl : u = Value.ref a := rx
  refine getmeth_ok I1 ea c hm l ?_
  exact PySem.W.callWith_K0 (first := [.ref a]) I1.kIn hm.kp (run_fnN (us := [.ref a]) (vs := [.ref a]) F hr hb (hx σ) I1 (.cons rfl .nil) q)
def tMakeN (C : Addr) (sp : Sp) (E : L2.St → XK) (t : TA) : TE := fun σ H Q => t σ H fun vs H1 => ∀ x dx, H1 x = none → H1 dx = none → dx ≠ x →
  sp (.ref x :: vs) (upd (upd H1 dx (.own x)) x (.ins C dx [])) (fun v H2 => v = .non ∧ Q (.ref x) H2) (E σ)
theorem run_makeN {pins : List (Addr × Obj)} {σ : L2.St} {H : Hp} {s : Shared} {Q : VK} {us : List Value} {vs : List V} (M : Mk X.K C f) (F : FnOk X.prog X.w X.K X.mg X.base CX k f fd ps sp) (hr : Room (k + 1) X.A) (hb : Binds X.K fd ps [])
    (hx : PassesAt CX X σ (E σ)) (I : L2.Inv X pins σ H s) (r : Vals vs us)
    (h : ∀ x dx, H x = none → H dx = none → dx ≠ x → sp (.ref x :: vs) (upd (upd H dx (.own x)) x (.ins C dx [])) (fun v H2 => v = .non ∧ Q (.ref x) H2) (E σ)) :
    wpAny (model X.prog X.w) X.A (call (.ref C) us) (EP X pins σ Q) X.xe s := by
  have hq := h (s.heap.objs.size + 1) s.heap.objs.size (I.hok.fresh (Nat.le_succ _)) (I.hok.fresh (Nat.le_refl _)) (Nat.ne_of_lt (Nat.lt_succ_self _))
  have I2 := Inv.made (C := C) I
  have r2 : Vals (V.ref (s.heap.objs.size + 1) :: vs) (Value.ref (s.heap.objs.size + 1) :: us) := .cons rfl r
  have hl : (Value.ref (s.heap.objs.size + 1) :: us ++ []).length = ps.length := by
    have e := r2.length
    rw [F.len _ _ _ _ hq] at e
    rw [List.append_nil]
    exact e.symm
  refine wpAny_call (make_map (f := f) I.kIn M.makes M.init (beq_iff_eq.mp M.fn) (codeAny_mono (F.run _ X.stack _ _ ⟨Value.ref (s.heap.objs.size + 1) :: us, []⟩ (Value.ref (s.heap.objs.size + 1) :: us) _ _ (E σ) (hr.make C us [])
    (I2.env0.make C us []) (by have z := hb _ (Value.ref (s.heap.objs.size + 1) :: us) I2.kIn hl; rwa [List.append_nil] at z) r2 hq) fun r s' hq' => ?_))
  cases r with
  | error e => exact hx pins _ _ e s' I2 hq'
  | ok fl =>
    cases fl with
    | ret u =>
      obtain ⟨v, H', I3, rv, ev, q3⟩ := I2.after hq'
      subst ev
      exact ⟨rv, ⟨V.ref (s.heap.objs.size + 1), H', I3, rfl, q3⟩⟩
    | next => exact False.elim hq'
    | brk => exact False.elim hq'
    | cont => exact False.elim hq'
theorem pe_makeN (M : Mk X.K C f) (F : FnOk X.prog X.w X.K X.mg X.base CX k f fd ps sp) (hr : Room (k + 1) X.A) (hg : Gl X x) (hm : X.mg x = some (.ref C)) (hb : Binds X.K fd ps []) (hx : ∀ σ, PassesAt CX X σ (E σ))
    (ha : PA X (e :: es) t) (hdb : (x == ("__debug__" : Str)) = false) (hst : (e :: es).all noStar = true) : PE X (.Call (.Name x p) (e :: es) [] pos) (tMakeN C sp E t) := by
  refine ⟨fun pins s σ H Q I h => ?_⟩
  rw [List.all_cons, Bool.and_eq_true] at hst
  refine wpAny_Call_Name_kw (ld_glob I hg hm ?_ hdb)
  refine PySem.W.callWith_K (h₀ := X.base) I.ok.mod.kin M.kp (thn (ha.run pos pins s σ H _ I h) fun us s1 ⟨vs, H1, I1, r, q⟩ => ⟨I1.kIn, ?_⟩) (star_cons hst.1) (star_any hst.2)
  exact run_makeN M F hr hb (hx σ) I1 r q
/-- built-in functions, whatever their arguments' form -/
theorem pe_callBN {id : String} {r : List V → Hp → VK → Prop} (hc : CallR X (.builtin id) r) (hg : Gl X x) (hm : X.mg x = none) (hv : bootBuiltins x = some (.builtin id)) (ha : PA X (e :: es) t) (hn : x ≠ "__name__") (hdb : (x == ("__debug__" : Str)) = false)
    (hst : (e :: es).all noStar = true) : PE X (.Call (.Name x p) (e :: es) [] pos) (tCB r t) := by
  rw [List.all_cons, Bool.and_eq_true] at hst
  exact pe_callB hc hg hm hv ha hn hdb (star_cons hst.1) (star_any hst.2)
theorem pe_callTyN {T : String} {r : List V → Hp → VK → Prop} (hc : CallR X (.type T) r) (hg : Gl X x) (hm : X.mg x = none) (hv : bootBuiltins x = some (.type T)) (ha : PA X (e :: es) t) (hn : x ≠ "__name__") (hdb : (x == ("__debug__" : Str)) = false)
    (hst : (e :: es).all noStar = true) : PE X (.Call (.Name x p) (e :: es) [] pos) (tCB r t) := by
  rw [List.all_cons, Bool.and_eq_true] at hst
  exact pe_callTy hc hg hm hv ha hn hdb (star_cons hst.1) (star_any hst.2)
theorem pe_bmN {T name id : String} {r : V → List V → Hp → VK → Prop} (pa : PlainAttrs T) (slot : PySem.Slot T name id) (hty : typeOf (.builtin id) = pure (.type "method_descriptor")) (hm : MtM X id r) (ho : PE X o ta) (ha : PA X (e :: es) t)
    (hno : notCall o = true) (hst : (e :: es).all noStar = true) (hlen : (e :: es).length < 30) (hline : (apos.endLine == pos.line) = true) : PE X (.Call (.Attribute o name apos) (e :: es) [] pos) (tBM X.K T r ta t) := by
  have hall := star_all (env := X.env) (pos := pos) hst
  rw [List.all_cons, Bool.and_eq_true] at hst
  refine pe_bm pa slot hty hm ho ha (base_of hno) ?_ hline (star_cons hst.1) (star_any hst.2)
  rw [hall, kw_nil]
  simp only [Bool.true_and, List.length_nil, List.isEmpty_nil, if_true, Nat.add_zero]
  exact decide_eq_true hlen
end
end F

namespace F
open PySem PySem.Spec L2

/-- a def's promise in the hand layer's words -/
def spF (G : GI) (np : Nat) (phi : Phi) : Sp := fun vs H Q E => ∃ W c ds Q0 X0, W.H = H ∧ Ok G W c ∧ DenL G W vs ds ∧ ds.length = np ∧ phi ds c Q0 X0 ∧ (∀ v H', Post G W Q0 v H' → Q v H') ∧ (∀ cls dd H', XPost G W X0 cls dd H' → E cls dd H')

/-- from one world to a later one, the first np cells in their places -/
structure FrS (np : Nat) (W W' : Wd) : Prop extends Fr W W' where
  as : W.as.take np = W'.as.take np
  le : np ≤ W'.as.length
theorem FrS.trans {np : Nat} {W W' W'' : Wd} (x : FrS np W W') (y : FrS np W' W'') : FrS np W W'' := ⟨x.toFr.trans y.toFr, x.as.trans y.as, y.le⟩
theorem Ext.frS {np : Nat} {W W' : Wd} (x : Ext W W') (h : np ≤ W.as.length) : FrS np W W' := by
  obtain ⟨t, e⟩ := x.as
  refine ⟨x.toFr, ?_, ?_⟩
  · rw [← e, List.take_append_of_le_length h]
  · rw [← e, List.length_append]; omega
theorem FrS.mono {np np' : Nat} {W W' : Wd} (x : FrS np' W W') (h : np ≤ np') : FrS np W W' := by
  refine ⟨x.toFr, ?_, Nat.le_trans h x.le⟩
  have e := congrArg (List.take np) x.as
  rwa [List.take_take, List.take_take, Nat.min_eq_left h] at e
theorem FrS.get {np n : Nat} {a : Addr} {W W' : Wd} (x : FrS np W W') (hn : n < np) (h : W.as[n]? = some a) : W'.as[n]? = some a := by
  have e : (W.as.take np)[n]? = some a := by rw [List.getElem?_take_of_lt hn]; exact h
  rw [x.as, List.getElem?_take_of_lt hn] at e
  exact e
theorem FrS.refl {np : Nat} {W : Wd} (h : np ≤ W.as.length) : FrS np W W := ⟨Fr.refl W, rfl, h⟩
/-- all cells that stood stand first -/
theorem FrS.ext {W W' : Wd} (x : FrS W.as.length W W') : Ext W W' := by
  refine ⟨x.toFr, ?_⟩
  have e := x.as
  rw [List.take_length] at e
  rw [e]
  exact List.take_prefix _ _

section
variable {G : GI} {W W' W1 : Wd} {c c1 : Cs} {np : Nat}
abbrev Wd.fzC (W : Wd) (i : Nat) (a : Addr) : Wd := { H := W.H, as := W.as.eraseIdx i, Fz := fun b => b = a ∨ W.Fz b }
theorem mv_fz {i : Nat} {a : Addr} : Mv W (W.fzC i a) := ⟨fun _ _ h => h, fun _ _ _ h => h, fun _ h => .inr h⟩
theorem get_fz {i n : Nat} {a b : Addr} (hn : n ≠ i) (h : W.as[n]? = some b) : (W.fzC i a).as[if n < i then n else n - 1]? = some b := by
  show (W.as.eraseIdx i)[_]? = _
  rw [List.getElem?_eraseIdx]
  by_cases h1 : n < i
  · rw [if_pos h1, if_pos h1]; exact h
  · rw [if_neg h1, if_neg (by omega), show n - 1 + 1 = n by omega]; exact h
/-- THE FREEZING: cell i is frozen, everywhere -/
theorem frz1_ok {flds : Nat → List Str} (hf : flds = G.flds) (ok : Ok G W c) {i : Nat} {K : (Nat → D) → Cs → Prop} (hi : np ≤ i) (h : frz1 flds i c K) :
    ∃ W' ρ c', W'.H = W.H ∧ FrS np W W' ∧ Ok G W' c' ∧ (∀ {v : V} {d : D}, Den G W v d → Den G W' v (D.sub ρ d)) ∧ K ρ c' := by
  unfold frz1 at h
  cases hx : c[i]? with
  | none => rw [hx] at h; exact h.elim
  | some x =>
    rw [hx] at h
    obtain ⟨hall, h⟩ := h
    obtain ⟨a, ha, ca⟩ := ok.atC hx
    cases hu : (x.sub (sig i .non)).fz flds with
    | none => rw [hu] at h; exact h.elim
    | some u =>
      rw [hu] at h
      have other : ∀ (w : D) (n : Nat) (b : Addr), (decide (n ≠ i)) = true → W.as[n]? = some b → Den G (W.fzC i a) (.ref b) (sig i w n) := fun w n b hn hb => by
        have hn' : n ≠ i := of_decide_eq_true hn
        unfold sig
        rw [if_neg hn']
        exact .cell (get_fz hn' hb)
      have nf : ∀ {b : Addr}, W.Fz b → b ≠ a := fun f z => ok.fz _ f (by rw [z]; exact List.mem_of_getElem? ha)
      have du : Den G (W.fzC i a) (.ref a) u := by
        cases x with
        | lst ds =>
          obtain ⟨vs, q1, q2⟩ := ca
          cases hu
          exact .lst ⟨.inl rfl, q1⟩ (DenL.sub mv_fz (other .non) hall q2)
        | dct ks ds =>
          obtain ⟨kvs, q1, q2, q3⟩ := ca
          cases hu
          simp only [Cont.all, Bool.and_eq_true] at hall
          exact .dctK (.inl rfl) q1 (DenL.sub mv_fz (other .non) hall.1 q2) (DenL.sub mv_fz (other .non) hall.2 q3)
        | obj k fs =>
          obtain ⟨dx, gs, q1, q2, q3⟩ := ca
          simp only [Cont.sub, Cont.fz] at hu
          split at hu
          · rename_i hl
            cases hu
            have hl' : fs.length = (flds k).length := by rw [← hl, D.subL_eq, List.length_map]
            refine .obj (.inl rfl) q1 (by rw [q2, hl', hf, List.take_length]) (DenL.sub mv_fz (other .non) hall q3)
          · cases hu
      have all : ∀ (n : Nat) (b : Addr), (fun _ => true) n = true → W.as[n]? = some b → Den G (W.fzC i a) (.ref b) (sig i u n) := fun n b _ hb => by
        by_cases hn : n = i
        · subst hn
          rw [ha] at hb; cases hb
          unfold sig
          rw [if_pos rfl]
          exact du
        · exact other u n b (decide_eq_true hn) hb
      have den : ∀ {v : V} {d : D}, Den G W v d → Den G (W.fzC i a) v (D.sub (sig i u) d) := fun h => Den.sub mv_fz all D.all_true h
      have denL : ∀ {vs : List V} {ds : List D}, DenL G W vs ds → DenL G (W.fzC i a) vs (D.subL (sig i u) ds) := fun h => DenL.sub mv_fz all D.allL_true h
      have hil : i < W.as.length := (List.getElem?_eq_some_iff.mp ha).1
      have fr : Fr W (W.fzC i a) := ⟨fun _ _ h => h, fun _ _ h _ => h, fun _ h => .inr h, fun _ h => h, fun b h => .inl ((List.eraseIdx_sublist _ _).subset h), fun b h => by
        rcases h with rfl | h
        · exact .inr (.inr (List.mem_of_getElem? ha))
        · exact .inl h⟩
      refine ⟨W.fzC i a, sig i u, (c.eraseIdx i).map (Cont.sub (sig i u)), rfl, ⟨fr, ?_, ?_⟩, ⟨?_, ?_, fun b f hm => ?_, fun b f => ?_, fun n b y h1 h2 => ?_⟩, den, h⟩
      · show W.as.take np = (W.as.eraseIdx i).take np
        refine List.ext_getElem? fun j => ?_
        by_cases hj : j < np
        · rw [List.getElem?_take_of_lt hj, List.getElem?_take_of_lt hj, List.getElem?_eraseIdx, if_pos (by omega)]
        · rw [List.getElem?_eq_none (by rw [List.length_take]; omega), List.getElem?_eq_none (by rw [List.length_take]; omega)]
      · show np ≤ (W.as.eraseIdx i).length
        rw [List.length_eraseIdx_of_lt hil]; omega
      · show (W.as.eraseIdx i).length = _
        rw [List.length_map, List.length_eraseIdx_of_lt hil, List.length_eraseIdx_of_lt (by rw [← ok.len]; exact hil), ok.len]
      · exact ok.nd.sublist (List.eraseIdx_sublist _ _)
      · have hm' : b ∈ W.as.eraseIdx i := hm
        rcases f with rfl | f
        · obtain ⟨j, hj⟩ := List.mem_iff_getElem?.mp hm'
          rw [List.getElem?_eraseIdx] at hj
          split at hj
          · rename_i hlt
            obtain ⟨l1, e1⟩ := List.getElem?_eq_some_iff.mp hj
            obtain ⟨l2, e2⟩ := List.getElem?_eq_some_iff.mp ha
            have := (List.getElem_inj ok.nd).mp (e1.trans e2.symm)
            omega
          · obtain ⟨l1, e1⟩ := List.getElem?_eq_some_iff.mp hj
            obtain ⟨l2, e2⟩ := List.getElem?_eq_some_iff.mp ha
            have := (List.getElem_inj ok.nd).mp (e1.trans e2.symm)
            omega
        · exact ok.fz b f ((List.eraseIdx_sublist _ _).subset hm')
      · rcases f with rfl | f
        · obtain ⟨o, e, _⟩ := ok.mem (List.mem_of_getElem? ha)
          exact ⟨o, e⟩
        · exact ok.fzt b f
      · rw [List.getElem?_map] at h2
        obtain ⟨z, hz, rfl⟩ := Option.map_eq_some_iff.mp h2
        have h1' : (W.as.eraseIdx i)[n]? = some b := h1
        rw [List.getElem?_eraseIdx] at h1' hz
        have cb : CellAt G W b z := by
          split at h1'
          · rename_i hlt
            rw [if_pos hlt] at hz
            exact ok.cell n b z h1' hz
          · rename_i hlt
            rw [if_neg hlt] at hz
            exact ok.cell (n + 1) b z h1' hz
        cases z with
        | lst ds => obtain ⟨vs, q1, q2⟩ := cb; exact ⟨vs, q1, denL q2⟩
        | dct ks ds => obtain ⟨kvs, q1, q2, q3⟩ := cb; exact ⟨kvs, q1, denL q2, denL q3⟩
        | obj k fs => obtain ⟨dx, gs, q1, q2, q3⟩ := cb; exact ⟨dx, gs, q1, by rw [D.subL_eq, List.length_map]; exact q2, denL q3⟩
theorem cleanK_ok {flds : Nat → List Str} (hf : flds = G.flds) : ∀ (k : Nat) {W : Wd} {c : Cs} {K : (D → D) → Cs → Prop}, Ok G W c → np + k ≤ c.length → cleanK flds k c K →
    ∃ W' f c', W'.H = W.H ∧ FrS np W W' ∧ Ok G W' c' ∧ c'.length = c.length - k ∧ (∀ {v : V} {d : D}, Den G W v d → Den G W' v (f d)) ∧ K f c'
  | 0, W, c, K, ok, hl, h => ⟨W, id, c, rfl, FrS.refl (by rw [ok.len]; omega), ok, by omega, fun h => h, h⟩
  | k + 1, W, c, K, ok, hl, h => by
    obtain ⟨W1, ρ, c1, e1, x1, ok1, d1, h1⟩ := frz1_ok (np := np) hf ok (by omega) (show frz1 flds (c.length - 1) c (fun ρ c' => c'.length = c.length - 1 ∧ cleanK flds k c' fun f c'' => K (fun d => f (D.sub ρ d)) c'') by
      have h' : frz1 flds (c.length - 1) c fun ρ c' => cleanK flds k c' fun f c'' => K (fun d => f (D.sub ρ d)) c'' := h
      unfold frz1 at h' ⊢
      cases hx : c[c.length - 1]? with
      | none => rw [hx] at h'; exact h'.elim
      | some x =>
        rw [hx] at h'
        refine ⟨h'.1, ?_⟩
        have h2 := h'.2
        cases hu : (x.sub (sig (c.length - 1) .non)).fz flds with
        | none => rw [hu] at h2; exact h2.elim
        | some u => rw [hu] at h2; exact ⟨by rw [List.length_map, List.length_eraseIdx_of_lt (by omega)], h2⟩)
    obtain ⟨hlen, h1⟩ := h1
    obtain ⟨W2, f, c2, e2, x2, ok2, l2, d2, h2⟩ := cleanK_ok hf k ok1 (by omega) h1
    exact ⟨W2, _, c2, e2.trans e1, x1.trans x2, ok2, by omega, fun h => d2 (d1 h), h2⟩
theorem clean_ok {flds : Nat → List Str} (hf : flds = G.flds) (ok : Ok G W c) {K : (D → D) → Cs → Prop} (hn : np ≤ c.length) (h : clean flds np c K) :
    ∃ W' f c', W'.H = W.H ∧ FrS np W W' ∧ Ok G W' c' ∧ c'.length = np ∧ (∀ {v : V} {d : D}, Den G W v d → Den G W' v (f d)) ∧ K f c' := by
  obtain ⟨W2, f, c2, e2, x2, ok2, l2, d2, h2⟩ := cleanK_ok (np := np) hf _ ok (by omega) h
  exact ⟨W2, f, c2, e2, x2, ok2, by omega, d2, h2⟩
theorem cl_ok {flds : Nat → List Str} (hf : flds = G.flds) (ok : Ok G W c) {keep : Bool} {K : (D → D) → Cs → Prop} (hn : np ≤ c.length) (h : cl flds keep np c K) :
    ∃ W' f c', W'.H = W.H ∧ FrS np W W' ∧ Ok G W' c' ∧ (∀ {v : V} {d : D}, Den G W v d → Den G W' v (f d)) ∧ K f c' := by
  cases keep with
  | true => exact ⟨W, id, c, rfl, FrS.refl (by rw [ok.len]; exact hn), ok, fun h => h, h⟩
  | false =>
    obtain ⟨W2, f, c2, e2, x2, ok2, l2, d2, h2⟩ := clean_ok hf ok hn h
    exact ⟨W2, f, c2, e2, x2, ok2, d2, h2⟩
theorem retF_ok {flds : Nat → List Str} (hf : flds = G.flds) {v : V} {Q : QE} : ∀ (is : List Nat) {W : Wd} {c : Cs} {d : D}, Ok G W c → np ≤ c.length → Den G W v d → retF flds np is d c Q →
    ∃ W' c' d', W'.H = W.H ∧ FrS np W W' ∧ Ok G W' c' ∧ Den G W' v d' ∧ Q d' c'
  | [], W, c, d, ok, hn, dn, h => ⟨W, c, d, rfl, FrS.refl (by rw [ok.len]; exact hn), ok, dn, h⟩
  | i :: is, W, c, d, ok, hn, dn, h => by
    obtain ⟨hi, h⟩ := h
    obtain ⟨W1, ρ, c1, e1, x1, ok1, d1, h1⟩ := frz1_ok (np := np) hf ok hi h
    obtain ⟨W2, c2, d2, e2, x2, ok2, dn2, h2⟩ := retF_ok hf is ok1 (by rw [← ok1.len]; exact x1.le) (d1 dn) h1
    exact ⟨W2, c2, d2, e2.trans e1, x1.trans x2, ok2, dn2, h2⟩
end
end F

namespace F
open PySem PySem.Spec L2

def blNames : List Str := ["len", "abs", "max", "min", "sum", "all", "any", "int", "list", "tuple", "sorted", "str", "range", "enumerate", "zip", "isinstance", "bool", "dict", "set"]
/-- what isinstance asks of an own class -/
structure KIs (K : PySem.W.Frag) (C : Addr) : Prop where
  cl : Cls K C
  ha : PySem.W.findIn K (.ref C) "__class__" = some (some (.builtin "object.__class__"))
  hn : PySem.W.specialIn K (.builtin "object.__class__") "__get__" = some (some (.builtin "getset_descriptor.__get__"))
  htk : PySem.W.takesIn K (.builtin "object.__class__") = some true
  hm : PySem.W.mroIn K C (.type "object") = some true
structure FnR (G : GI) (I : CI) (lv : Nat) (P : Program) (w : World) (base : Heap) (f : Nat) (fa : Addr) : Prop where
  ex : ∃ fd ps, ps.length = I.np f ∧ Binds G.K fd ps [] ∧ FnOk P w G.K G.mg base (L2.CX P w) lv fa fd ps (spF G (I.np f) (I.phi f))
structure GOk (G : GI) (I : CI) (lv : Nat) (P : Program) (w : World) (base : Heap) : Prop where
  flds : I.flds = G.flds
  bl : ∀ x ∈ blNames, G.mg x = none
  con : ∀ k, k < I.nc → ∃ t, G.mg (I.cname k) = some (.int (I.cval k) t)
  fn : ∀ f x, 2 * f + 2 ≤ lv → I.kind f = .fn x → ∃ fa, G.mg x = some (.ref fa) ∧ PySem.W.keepIn G.K (.ref fa) = true ∧ FnR G I lv P w base f fa
  mth : ∀ f k x, 2 * f + 2 ≤ lv → I.kind f = .mth k x → ∃ fa, Cls G.K (G.cls k) ∧ Meth G.K (G.cls k) x fa ∧ x ∉ G.flds k ∧ FnR G I lv P w base f fa
  ini : ∀ f k x, 2 * f + 2 ≤ lv → I.kind f = .ini k x → ∃ fa, Mk G.K (G.cls k) fa ∧ G.mg x = some (.ref (G.cls k)) ∧ FnR G I lv P w base f fa
  cls : ∀ k, k < I.nk → Cls G.K (G.cls k) ∧ ∀ f ∈ G.flds k, NoAttr G.K (G.cls k) f
  kn : ∀ k, k < I.nk → G.mg (I.kname k) = some (.ref (G.cls k))
  kis : ∀ k, k < I.nk → KIs G.K (G.cls k)
  kkk : ∀ k j, k < I.nk → j < I.nk → PySem.W.kitOne G.K (.ref (G.cls k)) (.ref (G.cls j)) = some (k == j)
  kkt : ∀ k, k < I.nk → ∀ x ∈ tyNames, PySem.W.kitOne G.K (.ref (G.cls k)) (.type x) = some false
  ktk : ∀ k, k < I.nk → ∀ x ∈ tyNames, PySem.W.kitOne G.K (.type x) (.ref (G.cls k)) = some false
structure XOk (G : GI) (I : CI) (lv : Nat) (Wx : WX) (sc : Scope) (N : List Str) (fnB : Str → Bool) (X : Cx) : Prop where
  hK : X.K = G.K
  hmg : X.mg = G.mg
  hN : X.N = N
  nd : N.Nodup
  hsc : X.env.scope = sc
  calm : X.calm = true
  room : Room (lv + 1) X.A
  tk : Takes X Wx
  fnb : ∀ x, fnB x = true → X.fn x = true
  glob : GOk G I lv X.prog X.w X.base

def dbgB (x : Str) : Bool := !(x == ("__debug__" : Str)) && !(x == ("__classdict__" : Str)) && !(x == ("__name__" : Str))
def visB (sc : Scope) (x : Str) : Bool := match sc.names.lookup x with
  | some .local => true
  | some .cell => true
  | some .free => true
  | _ => false
def locB (sc : Scope) (fnB : Str → Bool) (x : Str) : Bool := match sc.names.lookup x with
  | some .local => true
  | some .cell => fnB x
  | _ => false
def glB (sc : Scope) (x : Str) : Bool := match sc.names.lookup x with
  | some .globalImplicit => dbgB x
  | _ => false
def ltB : Lt → Const → Bool
  | .int i, .int j => i == j
  | .bl i, .bool j => i == j
  | .non, .none => true
  | .str x, .str y => x == y
  | _, _ => false
def bopB : B2 → Operator → Bool
  | .add, .Add => true
  | .sub, .Sub => true
  | .mul, .Mult => true
  | .fdiv, .FloorDiv => true
  | .mod, .Mod => true
  | .pow, .Pow => true
  | _, _ => false
def copB : B2 → CmpOp → Bool
  | .lt, .Lt => true
  | .le, .LtE => true
  | .gt, .Gt => true
  | .ge, .GtE => true
  | .eq, .Eq => true
  | .ne, .NotEq => true
  | .is, .Is => true
  | .isn, .IsNot => true
  | .inn, .In => true
  | .nin, .NotIn => true
  | _, _ => false
def isIdx : B2 → Bool
  | .idx => true
  | _ => false
def biName : Bi → Str
  | .len => "len" | .abs => "abs" | .max => "max" | .min => "min" | .sum => "sum" | .all => "all" | .any => "any" | .int => "int" | .list => "list" | .tuple => "tuple" | .sorted => "sorted" | .str => "str"
def biOk : Bi → Bool
  | .str => false
  | _ => true
def mtName : Mt → Str
  | .append => "append" | .extend => "extend" | .pop => "pop" | .popAt => "pop" | .clear => "clear" | .insert => "insert"
def mtOk : Mt → Bool
  | .append => true | .extend => true | .pop => false | .clear => false
  | _ => false
def mt0Ok : Mt → Bool
  | .pop => true | .clear => true
  | _ => false
def FA.isNil : FA → Bool
  | .nil => true
  | _ => false

section
variable {G : GI} {I : CI} {lv : Nat} {Wx : WX} {sc : Scope} {N : List Str} {fnB : Str → Bool} {X : Cx} {a b e : Expr} {pos : Pos} {A B C : FA1}
theorem vis_of {x : Str} (h : visB sc x = true) : Vis sc x := by
  unfold visB at h
  split at h
  · rename_i q; exact .inl q
  · rename_i q; exact .inr (.inl q)
  · rename_i q; exact .inr (.inr q)
  · cases h
theorem gl_of {x : Str} (o : XOk G I lv Wx sc N fnB X) (h : glB sc x = true) : Gl X x ∧ (x == ("__debug__" : Str)) = false ∧ x ≠ "__name__" := by
  unfold glB at h
  split at h
  · rename_i q
    unfold dbgB at h
    simp only [Bool.and_eq_true, Bool.not_eq_true'] at h
    refine ⟨?_, h.1.1, fun z => ?_⟩
    · show X.env.kindOf x = _
      unfold Env.kindOf
      rw [o.hsc]
      exact q
    · have := h.2
      rw [z] at this
      simp at this
  · cases h
theorem se_var (o : XOk G I lv Wx sc N fnB X) {i : Nat} {x : Str} (h1 : N[i]? = some x) (h2 : visB sc x = true) (h3 : dbgB x = true) : PE X (.Name x pos) (lift G Wx (wpE I (.var i))) := by
  unfold dbgB at h3
  simp only [Bool.and_eq_true, Bool.not_eq_true'] at h3
  refine PE.imp (pe_var (i := i) (by rw [o.hN]; exact h1) (by rw [o.hsc]; exact vis_of h2) h3.1.1 h3.1.2) fun σ H Q ⟨W, c, env, Q0, X0, eH, ok, eo, h, q, _⟩ => ?_
  subst eH
  unfold wpE at h
  split at h
  · rename_i d hd
    obtain ⟨v, e1, e2⟩ := eo.get hd
    exact ⟨v, e1, q _ _ (Post.now ok e2 h)⟩
  · exact h.elim
theorem lit_den {W : Wd} {l : Lt} : ∃ v, (match l with | .int i => v = V.int i | .bl i => v = V.bl i | .non => v = V.non | .str x => v = V.str x) ∧ Den G W v l.d := by
  cases l
  · exact ⟨_, rfl, .int⟩
  · exact ⟨_, rfl, .bl⟩
  · exact ⟨_, rfl, .non⟩
  · exact ⟨_, rfl, .str⟩
theorem se_lit {l : Lt} {k : Const} {j : Nat} (h : ltB l k = true) : PE X (.Constant k j pos) (lift G Wx (wpE I (.lit l))) := by
  have fin : ∀ {v : V}, (∀ W, Den G W v l.d) → PE X (.Constant k j pos) (tC v) → PE X (.Constant k j pos) (lift G Wx (wpE I (.lit l))) := fun {v} hd hp =>
    PE.imp hp fun σ H Q ⟨W, c, env, Q0, X0, eH, ok, eo, h, q, _⟩ => by
      subst eH
      exact q _ _ (Post.now ok (hd W) h)
  unfold ltB at h
  split at h
  · rename_i i j'; have e := eq_of_beq h; subst e; exact fin (fun _ => .int) pe_int
  · rename_i i j'; have e := eq_of_beq h; subst e; exact fin (fun _ => .bl) pe_bl
  · exact fin (fun _ => .non) pe_non
  · rename_i i j'; have e := eq_of_beq h; subst e; exact fin (fun _ => .str) pe_str
  · cases h
theorem se_con (o : XOk G I lv Wx sc N fnB X) {k : Nat} {x : Str} (h1 : k < I.nc) (h2 : I.cname k = x) (h3 : glB sc x = true) : PE X (.Name x pos) (lift G Wx (wpE I (.con k))) := by
  obtain ⟨g, hd, _⟩ := gl_of o h3
  obtain ⟨t, ht⟩ := o.glob.con k h1
  rw [h2] at ht
  refine PE.imp (pe_glob (v := .int (I.cval k)) g (by rw [o.hmg]; exact ht) ⟨t, rfl⟩ hd) fun σ H Q ⟨W, c, env, Q0, X0, eH, ok, eo, h, q, _⟩ => ?_
  subst eH
  exact q _ _ (Post.now ok .int h)
theorem se_neg (ha : PE X a (lift G Wx A)) : PE X (.UnaryOp .USub a pos) (lift G Wx (fun env c Q X => A env c (fun d c1 => match d with
    | .int i => Q (.int (-i)) c1
    | _ => False) X)) := by
  refine PE.imp (pe_un un_neg ha) fun σ H Q h => ?_
  obtain ⟨W, c, env, Q0, X0, eH, ok, eo, h, q, x⟩ := h
  refine ⟨W, c, env, _, X0, eH, ok, eo, h, fun v H' ⟨W1, c1, d, e1, x1, ok1, dn, k⟩ => ?_, x⟩
  cases dn with
  | int => exact ⟨_, rfl, q _ _ ⟨W1, c1, _, e1, x1, ok1, .int, k⟩⟩
  | _ => exact k.elim
theorem se_not (ha : PE X a (lift G Wx A)) : PE X (.UnaryOp .Not a pos) (lift G Wx (fun env c Q X => A env c (fun d c1 => match d with
    | .bl i => Q (.bl (!i)) c1
    | _ => False) X)) := by
  refine PE.imp (pe_not ha) fun σ H Q h => ?_
  obtain ⟨W, c, env, Q0, X0, eH, ok, eo, h, q, x⟩ := h
  refine ⟨W, c, env, _, X0, eH, ok, eo, h, fun v H' ⟨W1, c1, d, e1, x1, ok1, dn, k⟩ => ?_, x⟩
  cases dn with
  | bl => exact ⟨_, rfl, q _ _ ⟨W1, c1, _, e1, x1, ok1, .bl, k⟩⟩
  | _ => exact k.elim
theorem hu_x (o : XOk G I lv Wx sc N fnB X) : X.A.units + 64 < cLine := o.room.units
theorem hu_x1 (o : XOk G I lv Wx sc N fnB X) : X.A.units + 65 < cLine := by
  have := o.room.un
  omega
theorem opr_bin (o : XOk G I lv Wx sc N fnB X) {op : B2} {m : Bool} {p : Operator} (h : bopB op p = true) : OpR X (binaryOp p) (RB G op m) := by
  unfold bopB at h
  split at h
  · exact opr_add o.hK
  · exact opr_sub
  · exact opr_mul o.hK
  · exact opr_fdiv
  · exact opr_mod
  · exact opr_pow
  · cases h
theorem opr_cmp (o : XOk G I lv Wx sc N fnB X) {op : B2} {m : Bool} {p : CmpOp} (h : copB op p = true) : OpR X (compareOp p) (RB G op m) := by
  unfold copB at h
  split at h
  · exact opr_lt
  · exact opr_le
  · exact opr_gt
  · exact opr_ge
  · exact opr_eq o.hK (hu_x o)
  · exact opr_ne o.hK (hu_x o)
  · exact opr_is
  · exact opr_isn
  · exact opr_in o.hK (hu_x1 o)
  · exact opr_nin o.hK (hu_x1 o)
  · cases h
abbrev binF (op : B2) (m : Bool) (A B : FA1) : FA1 := fun env c Q X => A env c (fun x c1 => B env c1 (fun y c2 => wpB op m x y c2 Q) X) X
theorem se_bin (o : XOk G I lv Wx sc N fnB X) {op : B2} {m : Bool} {p : Operator} (h : bopB op p = true) (ha : PE X a (lift G Wx A)) (hb : PE X b (lift G Wx B)) : PE X (.BinOp a p b pos) (lift G Wx (binF op m A B)) :=
  PE.imp (pe_op (opr_bin o h) ha hb) fun σ H Q h => lift_two h
theorem se_cmp (o : XOk G I lv Wx sc N fnB X) {op : B2} {m : Bool} {p : CmpOp} (h : copB op p = true) (hs : notSet b = true) (ha : PE X a (lift G Wx A)) (hb : PE X b (lift G Wx B)) : PE X (.Compare a [p] [b] pos) (lift G Wx (binF op m A B)) :=
  PE.imp (pe_cmpR (opr_cmp o h) ha hb (behind_of hs)) fun σ H Q h => lift_two h
theorem se_idx (o : XOk G I lv Wx sc N fnB X) {m : Bool} (hs : notSlice b = true) (ha : PE X a (lift G Wx A)) (hb : PE X b (lift G Wx B)) : PE X (.Subscript a b pos) (lift G Wx (binF .idx m A B)) :=
  PE.imp (pe_ix (ixr_idx o.hK) ha hb (plainIx_of hs)) fun σ H Q h => lift_two h
/-- a wish about a bool, as a test -/
abbrev asT (A : FA1) : FAB := fun env c Q X => A env c (fun d c1 => match d with
    | .bl b => Q b c1
    | _ => False) X
theorem asT_imp {t : TE} {σ : L2.St} {H : Hp} {Q : Bool → Hp → Prop} (h : liftB G Wx (asT A) σ H Q) (k : ∀ Q', lift G Wx A σ H Q' → t σ H Q') : t σ H fun x H' => ∃ k, x = .bl k ∧ Q k H' := by
  obtain ⟨W, c, env, Q0, X0, eH, ok, eo, h, q, x⟩ := h
  refine k _ ⟨W, c, env, _, X0, eH, ok, eo, h, fun v H' ⟨W1, c1, d, e1, x1, ok1, dn, k⟩ => ?_, x⟩
  cases dn with
  | bl => exact ⟨_, rfl, q _ _ ⟨W1, c1, e1, x1, ok1, k⟩⟩
  | _ => exact k.elim
theorem sc_val (hp : plainT e = true) (ha : PE X e (lift G Wx A)) : PT X e (liftB G Wx (asT A)) :=
  PT.imp (pt_val ha (isTrue_of hp)) fun σ H Q h => asT_imp h fun _ z => z
theorem sc_cmp (o : XOk G I lv Wx sc N fnB X) {op : B2} {m : Bool} {p : CmpOp} (h : copB op p = true) (hs : notSet b = true) (ha : PE X a (lift G Wx A)) (hb : PE X b (lift G Wx B)) : PT X (.Compare a [p] [b] pos) (liftB G Wx (asT (binF op m A B))) :=
  PT.imp (pt_cmpR (opr_cmp o h) ha hb (behind_of hs)) fun σ H Q h => asT_imp (t := tOp (RB G op m) (lift G Wx A) (lift G Wx B)) h fun _ z => lift_two z
theorem sc_not {A : FAB} (ha : PT X a (liftB G Wx A)) : PT X (.UnaryOp .Not a pos) (liftB G Wx (fun env c Q X => A env c (fun b c1 => Q (!b) c1) X)) := by
  refine PT.imp (pt_not ha) fun σ H Q h => ?_
  obtain ⟨W, c, env, Q0, X0, eH, ok, eo, h, q, x⟩ := h
  exact ⟨W, c, env, _, X0, eH, ok, eo, h, fun v H' ⟨W1, c1, e1, x1, ok1, k⟩ => q _ _ ⟨W1, c1, e1, x1, ok1, k⟩, x⟩
abbrev chF (op op' : B2) (A B C : FA1) : FA1 := fun env c Q X => A env c (fun x c1 => B env c1 (fun y c2 => wpB op false x y c2 fun r c3 => match r with
    | .bl k => sIf k (C env c3 (fun z c4 => wpB op' false y z c4 Q) X) (Q (.bl false) c3)
    | _ => False) X) X
theorem ch_imp {σ : L2.St} {H : Hp} {Q : VK} {op op' : B2} (h : lift G Wx (chF op op' A B C) σ H Q) : tChain (RB G op false) (RB G op' false) (lift G Wx A) (lift G Wx B) (lift G Wx C) σ H Q := by
  obtain ⟨W, c, env, Q0, X0, e, ok, eo, h, q, x⟩ := h
  refine ⟨W, c, env, _, X0, e, ok, eo, h, fun v H' ⟨W1, c1, d, e1, x1, ok1, dn, k⟩ => ?_, x⟩
  refine ⟨W1, c1, env, _, X0, e1, ok1, eo.mono ok x1, k, fun v2 H2 ⟨W2, c2, d2, e2, x2, ok2, dn2, k2⟩ => ?_, fun cls dd H' p => x cls dd H' (p.up x1)⟩
  refine ⟨W2, c2, d, d2, _, e2, ok2, dn.mono ok1 x2, dn2, k2, fun v3 H3 ⟨W3, c3, d3, e3, x3, ok3, dn3, k3⟩ => ?_⟩
  cases dn3 with
  | @bl b =>
    refine ⟨b, rfl, ?_⟩
    have x12 := x1.trans x2
    cases b with
    | true =>
      rw [if_pos rfl]
      refine ⟨W3, c3, env, _, X0, e3, ok3, ((eo.mono ok x12).mono ok2 x3), k3, fun v4 H4 ⟨W4, c4, d4, e4, x4, ok4, dn4, k4⟩ => ?_, fun cls dd H' p => x cls dd H' ((p.up x3).up x12)⟩
      exact ⟨W4, c4, d2, d4, Q0, e4, ok4, (dn2.mono ok2 x3).mono ok3 x4, dn4, k4, fun v H' p => q v H' (((p.up x4).up x3).up x12)⟩
    | false =>
      rw [if_neg Bool.false_ne_true]
      rw [← e3]
      exact q _ _ (((Post.now ok3 .bl k3).up x3).up x12)
  | _ => exact k3.elim
theorem marks2 {op op' : CmpOp} {y z : Expr} (h : notSet z = true) : lastMarks [op, op'] [y, z] = false := by
  show behindInMarks op' z = false
  exact behind_of h
theorem se_chain (o : XOk G I lv Wx sc N fnB X) {op op' : B2} {p p' : CmpOp} (h : copB op p = true) (h' : copB op' p' = true) (hs : notSet e = true) (ha : PE X a (lift G Wx A)) (hb : PE X b (lift G Wx B)) (hc : PE X e (lift G Wx C)) :
    PE X (.Compare a [p, p'] [b, e] pos) (lift G Wx (chF op op' A B C)) := PE.imp (pe_chain (opr_cmp o h) (opr_cmp o h') ha hb hc (marks2 hs)) fun σ H Q h => ch_imp h
theorem sc_chain (o : XOk G I lv Wx sc N fnB X) {op op' : B2} {p p' : CmpOp} (h : copB op p = true) (h' : copB op' p' = true) (hs : notSet e = true) (ha : PE X a (lift G Wx A)) (hb : PE X b (lift G Wx B)) (hc : PE X e (lift G Wx C)) :
    PT X (.Compare a [p, p'] [b, e] pos) (liftB G Wx (asT (chF op op' A B C))) := PT.imp (pt_chain (opr_cmp o h) (opr_cmp o h') ha hb hc (marks2 hs)) fun σ H Q h => asT_imp (t := tChain (RB G op false) (RB G op' false) (lift G Wx A) (lift G Wx B) (lift G Wx C)) h fun _ z => ch_imp z
theorem se_ife {t : Expr} {T : FAB} (ht : PT X t (liftB G Wx T)) (ha : PE X a (lift G Wx A)) (hb : PE X b (lift G Wx B)) : PE X (.IfExp t a b pos) (lift G Wx (fun env c Q X => T env c (fun k c1 => sIf k (A env c1 Q X) (B env c1 Q X)) X)) := by
  refine PE.imp (pe_ifExp ht ha hb) fun σ H Q h => ?_
  obtain ⟨W, c, env, Q0, X0, e, ok, eo, h, q, x⟩ := h
  refine ⟨W, c, env, _, X0, e, ok, eo, h, fun v H' ⟨W1, c1, e1, x1, ok1, k⟩ => ?_, x⟩
  cases v with
  | true =>
    rw [if_pos rfl]
    exact ⟨W1, c1, env, Q0, X0, e1, ok1, eo.mono ok x1, k, fun v H' p => q v H' (p.up x1), fun cls dd H' p => x cls dd H' (p.up x1)⟩
  | false =>
    rw [if_neg Bool.false_ne_true]
    exact ⟨W1, c1, env, Q0, X0, e1, ok1, eo.mono ok x1, k, fun v H' p => q v H' (p.up x1), fun cls dd H' p => x cls dd H' (p.up x1)⟩
theorem sa_nil : PA X [] (liftL G Wx (wpA I .nil)) := by
  refine PA.imp pa_nil fun σ H Q ⟨W, c, env, Q0, X0, e, ok, eo, h, q, x⟩ => ?_
  subst e
  exact q _ _ ⟨W, c, [], rfl, Ext.refl W, ok, .nil, h⟩
abbrev consF (A : FA1) (L : FAL) : FAL := fun env c Q X => A env c (fun d c1 => L env c1 (fun ds c2 => Q (d :: ds) c2) X) X
theorem sa_cons {es : List Expr} {L : FAL} (hn : noStar e = true) (ha : PE X e (lift G Wx A)) (hr : PA X es (liftL G Wx L)) : PA X (e :: es) (liftL G Wx (consF A L)) := by
  refine PA.imp (pa_consN hn ha hr) fun σ H Q ⟨W, c, env, Q0, X0, e, ok, eo, h, q, x⟩ => ?_
  refine ⟨W, c, env, _, X0, e, ok, eo, h, fun v H' ⟨W1, c1, d, e1, x1, ok1, dn, k⟩ => ?_, x⟩
  refine ⟨W1, c1, env, _, X0, e1, ok1, eo.mono ok x1, k, fun vs H2 ⟨W2, c2, ds, e2, x2, ok2, dn2, k2⟩ => ?_, fun cls dd H' p => x cls dd H' (p.up x1)⟩
  exact q _ _ ⟨W2, c2, d :: ds, e2, x1.trans x2, ok2, .cons (dn.mono ok1 x2) dn2, k2⟩
/-- the same, the number of the values known -/
def liftLN (G : GI) (Wx : WX) (n : Nat) (A : FAL) : TA := fun σ H Q => ∃ W c env Q0 X0, W.H = H ∧ Ok G W c ∧ EnvOk G W σ env ∧ A env c Q0 X0 ∧ (∀ v H', PostL G W (fun ds c => ds.length = n ∧ Q0 ds c) v H' → Q v H') ∧ (∀ cls dd H', XPost G W X0 cls dd H' → Wx cls dd σ H')
theorem pa_ofN {es : List Expr} {n : Nat} {L : FAL} (h : PA X es (liftLN G Wx n L)) : PA X es (liftL G Wx L) := PA.imp h fun σ H Q ⟨W, c, env, Q0, X0, e, ok, eo, h, q, x⟩ =>
  ⟨W, c, env, Q0, X0, e, ok, eo, h, fun v H' ⟨W1, c1, ds, e1, x1, ok1, dn, k⟩ => q v H' ⟨W1, c1, ds, e1, x1, ok1, dn, k.2⟩, x⟩
theorem sa_nilN : PA X [] (liftLN G Wx 0 (wpA I .nil)) := by
  refine PA.imp pa_nil fun σ H Q ⟨W, c, env, Q0, X0, e, ok, eo, h, q, x⟩ => ?_
  subst e
  exact q _ _ ⟨W, c, [], rfl, Ext.refl W, ok, .nil, rfl, h⟩
theorem sa_consN {es : List Expr} {n : Nat} {L : FAL} (hn : noStar e = true) (ha : PE X e (lift G Wx A)) (hr : PA X es (liftLN G Wx n L)) : PA X (e :: es) (liftLN G Wx (n + 1) (consF A L)) := by
  refine PA.imp (pa_consN hn ha hr) fun σ H Q ⟨W, c, env, Q0, X0, e, ok, eo, h, q, x⟩ => ?_
  refine ⟨W, c, env, _, X0, e, ok, eo, h, fun v H' ⟨W1, c1, d, e1, x1, ok1, dn, k⟩ => ?_, x⟩
  refine ⟨W1, c1, env, _, X0, e1, ok1, eo.mono ok x1, k, fun vs H2 ⟨W2, c2, ds, e2, x2, ok2, dn2, k2⟩ => ?_, fun cls dd H' p => x cls dd H' (p.up x1)⟩
  exact q _ _ ⟨W2, c2, d :: ds, e2, x1.trans x2, ok2, .cons (dn.mono ok1 x2) dn2, by rw [List.length_cons, k2.1], k2.2⟩
theorem se_tup {es : List Expr} {L : FAL} {k : Nat} (h : PA X es (liftL G Wx L)) : PE X (.Tuple es k pos) (lift G Wx (fun env c Q X => L env c (fun ds c1 => ds.length ≤ 16777216 ∧ Q (.tup ds) c1) X)) := by
  refine PE.imp (pe_tup h) fun σ H Q ⟨W, c, env, Q0, X0, e, ok, eo, h, q, x⟩ => ?_
  refine ⟨W, c, env, _, X0, e, ok, eo, h, fun vs H' ⟨W1, c1, ds, e1, x1, ok1, dn, k⟩ => ?_, x⟩
  subst e1
  exact ⟨by rw [line_eq, dn.length]; exact k.1, newT_ok ok1 dn k.2 fun v H' p => q v H' (p.up x1)⟩
theorem se_lst {es : List Expr} {L : FAL} {m : Bool} (h : PA X es (liftL G Wx L)) : PE X (.List es pos) (lift G Wx (fun env c Q X => L env c (fun ds c1 => ds.length ≤ 16777216 ∧ newL m ds c1 Q) X)) := by
  refine PE.imp (pe_lst h) fun σ H Q ⟨W, c, env, Q0, X0, e, ok, eo, h, q, x⟩ => ?_
  refine ⟨W, c, env, _, X0, e, ok, eo, h, fun vs H' ⟨W1, c1, ds, e1, x1, ok1, dn, k⟩ => ?_, x⟩
  subst e1
  exact ⟨by rw [line_eq, dn.length]; exact k.1, newL_ok ok1 dn k.2 fun v H' p => q v H' (p.up x1)⟩
end
end F

namespace F
open PySem PySem.Spec L2
section
variable {G : GI} {I : CI} {lv : Nat} {Wx : WX} {sc : Scope} {N : List Str} {fnB : Str → Bool} {X : Cx} {a b e : Expr} {pos : Pos} {A B C : FA1}
theorem cut_den {W : Wd} {vs : List V} {xs : List D} (h : DenL G W vs xs) (lo hi : Option Int) : DenL G W (cutV vs lo hi) (cutD xs lo hi) := by
  unfold cutV cutD
  rw [h.length]
  exact (h.drop _).take _
/-- parts of a slice -/
structure SO (G : GI) (Wx : WX) (X : Cx) (o : Option Expr) (L : FAL) : Prop where
  po : PO X o (fun σ H Q => ∃ W c env Q0 X0, W.H = H ∧ Ok G W c ∧ EnvOk G W σ env ∧ L env c Q0 X0 ∧ (∀ W' c' ds, Ext W W' → Ok G W' c' → Q0 ds c' → ∃ l, partOf ds = some l ∧ Q l W'.H) ∧ (∀ cls dd H', XPost G W X0 cls dd H' → Wx cls dd σ H'))
theorem so0 : SO G Wx X none (wpA I .nil) := by
  refine ⟨⟨fun pins s σ H Q I h => po_none.run pins s σ H Q I ?_⟩⟩
  obtain ⟨W, c, env, Q0, X0, e, ok, eo, h, q, x⟩ := h
  subst e
  obtain ⟨l, e, k⟩ := q W c [] (Ext.refl W) ok h
  cases e
  exact k
theorem so1 (ha : PE X a (lift G Wx A)) : SO G Wx X (some a) (consF A (wpA I .nil)) := by
  refine ⟨⟨fun pins s σ H Q I h => (po_some ha).run pins s σ H Q I ?_⟩⟩
  obtain ⟨W, c, env, Q0, X0, e, ok, eo, h, q, x⟩ := h
  refine ⟨W, c, env, _, X0, e, ok, eo, h, fun v H' ⟨W1, c1, d, e1, x1, ok1, dn, k⟩ => ?_, x⟩
  obtain ⟨l, k1, k2⟩ := q W1 c1 _ x1 ok1 k
  unfold partOf at k1
  split at k1
  · rename_i z; cases z
  · rename_i i z
    cases k1
    have ed : d = .int i := by simpa using z
    subst ed
    rw [den_int dn]
    exact ⟨i, rfl, by rw [← e1]; exact k2⟩
  · cases k1
theorem slc_fin (hK : X.K = G.K) {W : Wd} {c : Cs} {m : Bool} {v : V} {d : D} {lo hi : Option Int} {Q0 : QE} {Q : VK} (ok : Ok G W c) (dn : Den G W v d) (k : slcO m c Q0 d lo hi) (q : ∀ v H', Post G W Q0 v H' → Q v H') : rSlL X.K v lo hi W.H Q ∨ rSlA X.K v lo hi W.H Q := by
  unfold slcO at k
  split at k
  · rename_i zs
    obtain ⟨p, vs, rfl, ta, da⟩ := den_tup dn
    refine .inr ⟨p, vs, rfl, by rw [hK]; exact ta.seq, fun hw => ?_, fun _ => newT_ok ok (cut_den da lo hi) k q⟩
    have e5 : cutD zs lo hi = zs := by
      unfold cutD
      rw [← da.length, hw.1, hw.2, List.drop_zero, Nat.sub_zero, da.length, List.take_length]
    rw [e5] at k
    exact q _ _ (Post.now ok (.tup ta da) k)
  · obtain ⟨xs, hx, k⟩ := onO_of k
    obtain ⟨p, vs, rfl, ha, da⟩ := den_getR ok dn hx
    exact .inl ⟨p, vs, rfl, by rw [hK]; exact ha, newL_ok ok (cut_den da lo hi) k q⟩
abbrev slF (m : Bool) (A : FA1) (L U : FAL) : FA1 := fun env c Q X => A env c (fun x c1 => L env c1 (fun l c2 => onO (partOf l) fun lo' => U env c2 (fun h c3 => onO (partOf h) fun hi' => slcO m c3 Q x lo' hi') X) X) X
theorem se_slc (o : XOk G I lv Wx sc N fnB X) {m : Bool} {lo hi : Option Expr} {L U : FAL} {p2 : Pos} (ha : PE X a (lift G Wx A)) (hl : SO G Wx X lo L) (hu : SO G Wx X hi U) : PE X (.Subscript a (.Slice lo hi none p2) pos) (lift G Wx (slF m A L U)) := by
  refine PE.imp (pe_slice (sl_list.or sl_tupA) ha hl.po hu.po) fun σ H Q h => ?_
  obtain ⟨W, c, env, Q0, X0, e, ok, eo, h, q, x⟩ := h
  refine ⟨W, c, env, _, X0, e, ok, eo, h, fun v H' ⟨W1, c1, d, e1, x1, ok1, dn, k⟩ => ?_, x⟩
  refine ⟨W1, c1, env, _, X0, e1, ok1, eo.mono ok x1, k, fun W2 c2 l x2 ok2 k2 => ?_, fun cls dd H' p => x cls dd H' (p.up x1)⟩
  obtain ⟨lo', el, k2⟩ := onO_of k2
  refine ⟨lo', el, ?_⟩
  refine ⟨W2, c2, env, _, X0, rfl, ok2, (eo.mono ok x1).mono ok1 x2, k2, fun W3 c3 l x3 ok3 k3 => ?_, fun cls dd H' p => x cls dd H' ((p.up x2).up x1)⟩
  obtain ⟨hi', eh, k3⟩ := onO_of k3
  refine ⟨hi', eh, ?_⟩
  have dn3 := (dn.mono ok1 x2).mono ok2 x3
  have q' : ∀ v H', Post G W3 Q0 v H' → Q v H' := fun v H' p => q v H' (((p.up x3).up x2).up x1)
  exact slc_fin o.hK ok3 dn3 k3 q'

theorem se_rev (o : XOk G I lv Wx sc N fnB X) {m : Bool} {k : Nat} {p1 p2 p3 : Pos} (ha : PE X a (lift G Wx A)) : PE X (.Subscript a (.Slice none none (some (.UnaryOp .USub (.Constant (.int 1) k p1) p2)) p3) pos)
    (lift G Wx (fun env c Q X => A env c (fun d c1 => onO (getR c1 d) fun xs => newL m xs.reverse c1 Q) X)) := by
  refine PE.imp (pe_revL ha) fun σ H Q h => ?_
  obtain ⟨W, c, env, Q0, X0, e, ok, eo, h, q, x⟩ := h
  refine ⟨W, c, env, _, X0, e, ok, eo, h, fun v H' ⟨W1, c1, d, e1, x1, ok1, dn, k⟩ => ?_, x⟩
  obtain ⟨xs, hx, k⟩ := onO_of k
  obtain ⟨p, vs, rfl, ha, da⟩ := den_getR ok1 dn hx
  subst e1
  exact ⟨p, vs, rfl, by rw [o.hK]; exact ha, newL_ok ok1 da.reverse k fun v H' p => q v H' (p.up x1)⟩

theorem lookup_zip {k : Nat} : ∀ {gs : List (Str × V)} {fl : List Str} {j : Nat} {f : Str} {v : V}, gs.map (·.1) = fl → fl.Nodup → fl[j]? = some f → (gs.map (·.2))[j]? = some v → gs.lookup f = some v
  | [], fl, j, f, v, e, _, h, _ => by subst e; simp at h
  | (g, w) :: gs, fl, 0, f, v, e, _, h, h2 => by
    subst e
    simp at h h2
    subst h; subst h2
    simp [List.lookup]
  | (g, w) :: gs, fl, j + 1, f, v, e, nd, h, h2 => by
    subst e
    simp only [List.map_cons, List.nodup_cons] at nd
    have h' : (gs.map (·.1))[j]? = some f := by simpa using h
    have ne : (f == g) = false := by
      have hm : f ∈ gs.map (·.1) := List.mem_of_getElem? h'
      exact beq_eq_false_iff_ne.mpr fun z => nd.1 (by rw [← z]; exact hm)
    simp only [List.lookup, ne]
    exact lookup_zip (k := k) (j := j) rfl nd.2 h' (by simpa using h2)
abbrev atF (k j : Nat) (A : FA1) : FA1 := fun env c Q X => A env c (fun d c1 => match d with
    | .obj k' fs => k = k' ∧ onO fs[j]? fun v => Q v c1
    | .cell n => match c1[n]? with
      | some (.obj k' fs) => k = k' ∧ onO fs[j]? fun v => Q v c1
      | _ => False
    | _ => False) X
theorem se_attr (o : XOk G I lv Wx sc N fnB X) {k j : Nat} {f : Str} (hn : notCall a = true) (hk : k < I.nk) (hf : (I.flds k)[j]? = some f) (hd : (I.flds k).Nodup) (ha : PE X a (lift G Wx A)) : PE X (.Attribute a f pos) (lift G Wx (atF k j A)) := by
  refine PE.imp (pe_fld ha (base_of hn)) fun σ H Q h => ?_
  obtain ⟨W, c, env, Q0, X0, e, ok, eo, h, q, x⟩ := h
  refine ⟨W, c, env, _, X0, e, ok, eo, h, fun v H' ⟨W1, c1, d, e1, x1, ok1, dn, h⟩ => ?_, x⟩
  obtain ⟨cl, na⟩ := o.glob.cls k hk
  have hfm : f ∈ G.flds k := by rw [← o.glob.flds]; exact List.mem_of_getElem? hf
  rw [o.glob.flds] at hf hd
  subst e1
  split at h
  · obtain ⟨rfl, h⟩ := h
    obtain ⟨z, hz, h⟩ := onO_of h
    cases dn with
    | obj fz hH en t =>
      obtain ⟨w, hw, dw⟩ := t.get hz
      exact ⟨_, _, _, _, w, rfl, hH, by rw [o.hK]; exact cl, by rw [o.hK]; exact na f hfm, lookup_zip (k := k) en hd hf hw, q _ _ ⟨W1, c1, z, rfl, x1, ok1, dw, h⟩⟩
  · split at h
    · rename_i n _ k' fs hc
      obtain ⟨rfl, h⟩ := h
      obtain ⟨z, hz, h⟩ := onO_of h
      cases dn with
      | cell ha =>
        obtain ⟨y, hy, ca⟩ := ok1.at ha
        rw [hc] at hy; cases hy
        obtain ⟨dx, gs, hH, en, t⟩ := ca
        obtain ⟨w, hw, dw⟩ := t.get hz
        have hj : j < fs.length := (List.getElem?_eq_some_iff.mp hz).1
        refine ⟨_, _, dx, gs, w, rfl, hH, by rw [o.hK]; exact cl, by rw [o.hK]; exact na f hfm, lookup_zip (k := k) en (hd.sublist (List.take_sublist _ _)) (by rw [List.getElem?_take_of_lt hj]; exact hf) hw, q _ _ ⟨W1, c1, z, rfl, x1, ok1, dw, h⟩⟩
    · exact h.elim
  · exact h.elim

theorem call_ok {W : Wd} {c : Cs} {np : Nat} (ok : Ok G W c) {vs : List V} {as : List D} {phi : Phi} {Q0 : QE} {X0 : QX} {Q : VK} {E : XK} (hv : DenL G W vs as) (hl : as.length = np) (h : phi as c Q0 X0)
    (q : ∀ v H', Post G W Q0 v H' → Q v H') (x : ∀ cls dd H', XPost G W X0 cls dd H' → E cls dd H') : spF G np phi vs W.H Q E := ⟨W, c, as, Q0, X0, rfl, ok, hv, hl, h, q, x⟩
abbrev caF (phi : Phi) (L : FAL) : FA1 := fun env c Q X => L env c (fun ds c1 => phi ds c1 Q X) X
theorem pass_x (o : XOk G I lv Wx sc N fnB X) : ∀ σ, PassesAt (L2.CX X.prog X.w) X σ (WE Wx σ) := fun σ => passAt o.tk σ
theorem room_x (o : XOk G I lv Wx sc N fnB X) : Room lv X.A := o.room.mono (Nat.le_succ _)
/-- the arguments' number, known ahead -/
theorem call_red {L : FAL} {f : Nat} {σ : L2.St} {H : Hp} {Q : VK} (h : lift G Wx (caF (I.phi f) L) σ H Q) :
    tCallN (spF G (I.np f) (I.phi f)) (WE Wx) (liftLN G Wx (I.np f) L) σ H Q := by
  obtain ⟨W, c, env, Q0, X0, e, ok, eo, h, q, x⟩ := h
  refine ⟨W, c, env, _, X0, e, ok, eo, h, fun vs H' ⟨W1, c1, ds, e1, x1, ok1, dn, hl, k⟩ => ?_, x⟩
  subst e1
  exact call_ok ok1 dn hl k (fun v H' p => q v H' (p.up x1)) fun cls dd H' p => x cls dd H' (p.up x1)
theorem se_call (o : XOk G I lv Wx sc N fnB X) {f : Nat} {x : Str} {es : List Expr} {L : FAL} {p : Pos} (hf : 2 * f + 2 ≤ lv) (hk : I.kind f = .fn x) (hg : glB sc x = true) (hst : (e :: es).all noStar = true)
    (ha : PA X (e :: es) (liftLN G Wx (I.np f) L)) : PE X (.Call (.Name x p) (e :: es) [] pos) (lift G Wx (caF (I.phi f) L)) := by
  obtain ⟨g, hd, _⟩ := gl_of o hg
  obtain ⟨fa, hm, kp, ⟨fd, ps, hps, hb, F⟩⟩ := o.glob.fn f x hf hk
  rw [← o.hmg] at hm
  rw [← o.hK] at kp hb
  rw [← o.hmg] at F
  have F' : FnOk X.prog X.w X.K X.mg X.base (L2.CX X.prog X.w) lv fa fd ps (spF G (I.np f) (I.phi f)) := by rw [o.hK]; exact F
  exact PE.imp (pe_callN F' (room_x o) g hm kp hb (pass_x o) hd hst ha) fun σ H Q h => call_red h
theorem se_call0 (o : XOk G I lv Wx sc N fnB X) {f : Nat} {x : Str} {p : Pos} (hf : 2 * f + 2 ≤ lv) (hk : I.kind f = .fn x) (hg : glB sc x = true) (hnp : I.np f = 0) : PE X (.Call (.Name x p) [] [] pos) (lift G Wx (caF (I.phi f) (wpA I .nil))) := by
  obtain ⟨g, hd, _⟩ := gl_of o hg
  obtain ⟨fa, hm, kp, ⟨fd, ps, hps, hb, F⟩⟩ := o.glob.fn f x hf hk
  rw [← o.hmg] at hm
  rw [← o.hK] at kp hb
  rw [← o.hmg] at F
  have F' : FnOk X.prog X.w X.K X.mg X.base (L2.CX X.prog X.w) lv fa fd ps (spF G (I.np f) (I.phi f)) := by rw [o.hK]; exact F
  refine PE.imp (pe_callN0 F' (room_x o) g hm kp hb (pass_x o) hd) fun σ H Q h => ?_
  obtain ⟨W, c, env, Q0, X0, e, ok, eo, h, q, x⟩ := h
  subst e
  exact call_ok ok .nil (by rw [hnp]; rfl) h q x
abbrev meF (I : CI) (f : Nat) (A : FA1) (L : FAL) : FA1 := fun env c Q X => A env c (fun d c0 => objIs c0 (I.kind f) d = true ∧ L env c0 (fun ds c1 => I.phi f (d :: ds) c1 Q X) X) X
theorem objIs_den {W : Wd} {c : Cs} (ok : Ok G W c) {v : V} {d : D} {k : Nat} {x : Str} (h : Den G W v d) (e : objIs c (.mth k x) d = true) : ∃ a dx gs, v = .ref a ∧ W.H a = some (.ins (G.cls k) dx gs) ∧ ∀ f ∈ gs.map (·.1), f ∈ G.flds k := by
  unfold objIs at e
  split at e
  · cases h with
    | obj fz hH en t =>
      have ek := eq_of_beq e
      subst ek
      exact ⟨_, _, _, rfl, hH, fun f hf => by rw [← en]; exact hf⟩
  · split at e
    · rename_i n _ k' fs hc
      have ek := eq_of_beq e
      subst ek
      cases h with
      | cell ha =>
        obtain ⟨y, hy, ca⟩ := ok.at ha
        rw [hc] at hy; cases hy
        obtain ⟨dx, gs, hH, en, t⟩ := ca
        exact ⟨_, dx, gs, rfl, hH, fun f hf => by rw [en] at hf; exact List.mem_of_mem_take hf⟩
    · cases e
  · cases e
theorem lookup_none {gs : List (Str × V)} {x : Str} (h : x ∉ gs.map (·.1)) : gs.lookup x = none := by
  induction gs with
  | nil => rfl
  | cons p gs ih =>
    obtain ⟨g, w⟩ := p
    simp only [List.map_cons, List.mem_cons, not_or] at h
    have e : (x == g) = false := beq_eq_false_iff_ne.mpr h.1
    simp only [List.lookup, e]
    exact ih h.2
theorem se_meth (o : XOk G I lv Wx sc N fnB X) {f k : Nat} {x : Str} {es : List Expr} {L : FAL} {apos : Pos} (hf : 2 * f + 2 ≤ lv) (hk : I.kind f = .mth k x) (hst : (e :: es).all noStar = true) (hno : notCall a = true) (hlen : (e :: es).length < 30) (hline : (apos.endLine == pos.line) = true)
    {n : Nat} (hnum : n + 1 = I.np f) (hA : PE X a (lift G Wx A)) (ha : PA X (e :: es) (liftLN G Wx n L)) : PE X (.Call (.Attribute a x apos) (e :: es) [] pos) (lift G Wx (meF I f A L)) := by
  obtain ⟨fa, cl, me, hx, ⟨fd, ps, hps, hb, F⟩⟩ := o.glob.mth f k x hf hk
  rw [← o.hK] at hb cl me
  rw [← o.hmg] at F
  have F' : FnOk X.prog X.w X.K X.mg X.base (L2.CX X.prog X.w) lv fa fd ps (spF G (I.np f) (I.phi f)) := by rw [o.hK]; exact F
  refine PE.imp (pe_methN hA cl me F' (room_x o) hb (pass_x o) ha hst hno hlen hline) fun σ H Q h => ?_
  obtain ⟨W, c, env, Q0, X0, e, ok, eo, h, q, x⟩ := h
  refine ⟨W, c, env, _, X0, e, ok, eo, h, fun v H' ⟨W1, c1, d, e1, x1, ok1, dn, ho, k1⟩ => ?_, x⟩
  rw [hk] at ho
  obtain ⟨p, dx, gs, rfl, hH, hg⟩ := objIs_den ok1 dn ho
  subst e1
  refine ⟨p, dx, gs, rfl, hH, lookup_none fun z => hx (hg _ z), W1, c1, env, _, X0, rfl, ok1, eo.mono ok x1, k1, fun vs H' ⟨W2, c2, ds, e2, x2, ok2, dn2, hl, k2⟩ => ?_, fun cls dd H' p => x cls dd H' (p.up x1)⟩
  subst e2
  exact call_ok ok2 (.cons (dn.mono ok1 x2) dn2) (by rw [List.length_cons, hl]; exact hnum) k2 (fun v H' p => q v H' ((p.up x2).up x1)) fun cls dd H' p => x cls dd H' ((p.up x2).up x1)
theorem se_meth0 (o : XOk G I lv Wx sc N fnB X) {f k : Nat} {x : Str} {apos : Pos} (hf : 2 * f + 2 ≤ lv) (hk : I.kind f = .mth k x) (hno : notCall a = true) (hline : (apos.endLine == pos.line) = true) (hnp : I.np f = 1)
    (hA : PE X a (lift G Wx A)) : PE X (.Call (.Attribute a x apos) [] [] pos) (lift G Wx (meF I f A (wpA I .nil))) := by
  obtain ⟨fa, cl, me, hx, ⟨fd, ps, hps, hb, F⟩⟩ := o.glob.mth f k x hf hk
  rw [← o.hK] at hb cl me
  rw [← o.hmg] at F
  have F' : FnOk X.prog X.w X.K X.mg X.base (L2.CX X.prog X.w) lv fa fd ps (spF G (I.np f) (I.phi f)) := by rw [o.hK]; exact F
  refine PE.imp (pe_methN0 hA cl me F' (room_x o) hb (pass_x o) hno hline) fun σ H Q h => ?_
  obtain ⟨W, c, env, Q0, X0, e, ok, eo, h, q, x⟩ := h
  refine ⟨W, c, env, _, X0, e, ok, eo, h, fun v H' ⟨W1, c1, d, e1, x1, ok1, dn, ho, k1⟩ => ?_, x⟩
  rw [hk] at ho
  obtain ⟨p, dx, gs, rfl, hH, hg⟩ := objIs_den ok1 dn ho
  subst e1
  refine ⟨p, dx, gs, rfl, hH, lookup_none fun z => hx (hg _ z), ?_⟩
  exact call_ok ok1 (.cons dn .nil) (by rw [hnp]; rfl) k1 (fun v H' p => q v H' (p.up x1)) fun cls dd H' p => x cls dd H' (p.up x1)
abbrev mkF (I : CI) (k f : Nat) (L : FAL) : FA1 := fun env c Q X => L env c (fun ds c1 => I.phi f (.cell c1.length :: ds) (c1 ++ [.obj k []]) (fun d c2 => match d with
    | .non => Q (.cell c1.length) c2
    | _ => False) X) X
theorem se_make (o : XOk G I lv Wx sc N fnB X) {f k : Nat} {x : Str} {es : List Expr} {L : FAL} {p : Pos} (hf : 2 * f + 2 ≤ lv) (hk : I.kind f = .ini k x) (hg : glB sc x = true) (hst : (e :: es).all noStar = true)
    {n : Nat} (hnum : n + 1 = I.np f) (ha : PA X (e :: es) (liftLN G Wx n L)) : PE X (.Call (.Name x p) (e :: es) [] pos) (lift G Wx (mkF I k f L)) := by
  obtain ⟨g, hd, _⟩ := gl_of o hg
  obtain ⟨fa, mk, hm, ⟨fd, ps, hps, hb, F⟩⟩ := o.glob.ini f k x hf hk
  rw [← o.hmg] at hm
  rw [← o.hK] at mk hb
  rw [← o.hmg] at F
  have F' : FnOk X.prog X.w X.K X.mg X.base (L2.CX X.prog X.w) lv fa fd ps (spF G (I.np f) (I.phi f)) := by rw [o.hK]; exact F
  refine PE.imp (pe_makeN mk F' o.room g hm hb (pass_x o) ha hd hst) fun σ H Q h => ?_
  obtain ⟨W, c, env, Q0, X0, e, ok, eo, h, q, x⟩ := h
  refine ⟨W, c, env, _, X0, e, ok, eo, h, fun vs H' ⟨W1, c1, ds, e1, x1, ok1, dn, hl, k1⟩ => ?_, x⟩
  subst e1
  intro y dx ny ndx ne
  -- the new instance's own dict, then the instance as a cell
  obtain ⟨xa, oka⟩ := ok1.alloc ndx (.own y)
  have ny' : upd W1.H dx (.own y) y = none := by rw [upd_ne (Ne.symm ne)]; exact ny
  have hcell : CellAt G (Wd.cellAt { W1 with H := upd W1.H dx (.own y) } y (.ins (G.cls k) dx [])) y (.obj k []) := ⟨dx, [], upd_same, by simp, .nil⟩
  obtain ⟨xb, okb⟩ := oka.allocC ny' (.ins (G.cls k) dx []) hcell
  have hat : (Wd.cellAt { W1 with H := upd W1.H dx (.own y) } y (.ins (G.cls k) dx [])).as[c1.length]? = some y := by
    show (W1.as ++ [y])[c1.length]? = some y
    rw [← ok1.len, List.getElem?_append_right (Nat.le_refl _)]
    simp
  have xab := xa.trans xb
  refine call_ok okb (.cons (.cell hat) ((dn.mono ok1 xa).mono oka xb)) (by rw [List.length_cons, hl]; exact hnum) k1 (fun v H' p => ?_) fun cls dd H' p => x cls dd H' ((p.up xab).up x1)
  obtain ⟨W2, c2, d, e2, x2, ok2, dn2, k2⟩ := p
  cases dn2 with
  | non => exact ⟨rfl, q _ _ (Post.up x1 ⟨W2, c2, _, e2, xab.trans x2, ok2, .cell (x2.get hat), k2⟩)⟩
  | _ => exact k2.elim

abbrev biF (op : Bi) (m : Bool) (L : FAL) : FA1 := fun env c Q X => L env c (fun ds c1 => wpBi op m ds c1 Q) X
theorem bi_red {op : Bi} {m : Bool} {L : FAL} {σ : L2.St} {H : Hp} {Q : VK} (h : lift G Wx (biF op m L) σ H Q) : tCB (RC G op m) (liftL G Wx L) σ H Q := by
  obtain ⟨W, c, env, Q0, X0, e, ok, eo, h, q, x⟩ := h
  exact ⟨W, c, env, _, X0, e, ok, eo, h, fun vs H' ⟨W1, c1, ds, e1, x1, ok1, dn, k⟩ => ⟨W1, c1, ds, Q0, e1, ok1, dn, k, fun v H' p => q v H' (p.up x1)⟩, x⟩
theorem se_bi (o : XOk G I lv Wx sc N fnB X) {op : Bi} {m : Bool} {es : List Expr} {L : FAL} {p : Pos} (hb : biOk op = true) (hg : glB sc (biName op) = true) (hst : (e :: es).all noStar = true) (ha : PA X (e :: es) (liftL G Wx L)) :
    PE X (.Call (.Name (biName op) p) (e :: es) [] pos) (lift G Wx (biF op m L)) := by
  obtain ⟨g, hd, hn⟩ := gl_of o hg
  have hm : ∀ x ∈ blNames, X.mg x = none := fun x hx => by rw [o.hmg]; exact o.glob.bl x hx
  cases op with
  | len => exact PE.imp (pe_callBN (callr_len o.hK) g (hm _ (by decide +kernel)) (by decide +kernel) ha hn hd hst) fun σ H Q h => bi_red h
  | abs => exact PE.imp (pe_callBN callr_abs g (hm _ (by decide +kernel)) (by decide +kernel) ha hn hd hst) fun σ H Q h => bi_red h
  | max => exact PE.imp (pe_callBN (callr_max o.calm) g (hm _ (by decide +kernel)) (by decide +kernel) ha hn hd hst) fun σ H Q h => bi_red h
  | min => exact PE.imp (pe_callBN (callr_min o.calm) g (hm _ (by decide +kernel)) (by decide +kernel) ha hn hd hst) fun σ H Q h => bi_red h
  | sum => exact PE.imp (pe_callBN (callr_sum o.hK o.calm) g (hm _ (by decide +kernel)) (by decide +kernel) ha hn hd hst) fun σ H Q h => bi_red h
  | all => exact PE.imp (pe_callBN (callr_all o.hK o.calm) g (hm _ (by decide +kernel)) (by decide +kernel) ha hn hd hst) fun σ H Q h => bi_red h
  | any => exact PE.imp (pe_callBN (callr_any o.hK o.calm) g (hm _ (by decide +kernel)) (by decide +kernel) ha hn hd hst) fun σ H Q h => bi_red h
  | int => exact PE.imp (pe_callTyN callr_int g (hm _ (by decide +kernel)) (by decide +kernel) ha hn hd hst) fun σ H Q h => bi_red h
  | list => exact PE.imp (pe_callTyN (callr_list o.hK) g (hm _ (by decide +kernel)) (by decide +kernel) ha hn hd hst) fun σ H Q h => bi_red h
  | tuple => exact PE.imp (pe_callTyN (callr_tuple o.hK) g (hm _ (by decide +kernel)) (by decide +kernel) ha hn hd hst) fun σ H Q h => bi_red h
  | sorted => exact PE.imp (pe_callBN (callr_sorted o.hK) g (hm _ (by decide +kernel)) (by decide +kernel) ha hn hd hst) fun σ H Q h => bi_red h
  | str => cases hb
abbrev mtF (op : Mt) (A : FA1) (L : FAL) : FA1 := fun env c Q X => A env c (fun d c1 => onO (getL c1 d) fun _ => L env c1 (fun ds c2 => wpMt op d ds c2 Q) X) X
theorem mt_red (hK : X.K = G.K) {op : Mt} {L : FAL} {σ : L2.St} {H : Hp} {Q : VK} (h : lift G Wx (mtF op A L) σ H Q) : tBM X.K "list" (RM G op) (lift G Wx A) (liftL G Wx L) σ H Q := by
  obtain ⟨W, c, env, Q0, X0, e, ok, eo, h, q, x⟩ := h
  refine ⟨W, c, env, _, X0, e, ok, eo, h, fun v H' ⟨W1, c1, d, e1, x1, ok1, dn, k⟩ => ?_, x⟩
  obtain ⟨xs, hx, k⟩ := onO_of k
  obtain ⟨p, vs, rfl, hv, t⟩ := den_getL ok1 dn hx
  subst e1
  refine ⟨.inl ⟨rfl, vs, SqL.of hv⟩, W1, c1, env, _, X0, rfl, ok1, eo.mono ok x1, k, fun ws H' ⟨W2, c2, ds, e2, x2, ok2, dn2, k2⟩ => ?_, fun cls dd H' p => x cls dd H' (p.up x1)⟩
  exact ⟨W2, c2, _, ds, Q0, e2, ok2, dn.mono ok1 x2, dn2, k2, fun v H' p => q v H' ((p.up x2).up x1)⟩
theorem se_mt (o : XOk G I lv Wx sc N fnB X) {op : Mt} {es : List Expr} {L : FAL} {apos : Pos} (hm : mtOk op = true) (hno : notCall a = true) (hst : (e :: es).all noStar = true) (hlen : (e :: es).length < 30) (hline : (apos.endLine == pos.line) = true) (hA : PE X a (lift G Wx A)) (ha : PA X (e :: es) (liftL G Wx L)) :
    PE X (.Call (.Attribute a (mtName op) apos) (e :: es) [] pos) (lift G Wx (mtF op A L)) := by
  cases op with
  | append => exact PE.imp (pe_bmN PySem.F.plainAttrs_list PySem.F.slot_list_append PySem.F.type_list_append mtr_append hA ha hno hst hlen hline) fun σ H Q h => mt_red o.hK h
  | extend => exact PE.imp (pe_bmN PySem.F.plainAttrs_list PySem.F.slot_list_extend PySem.F.type_list_extend mtr_extend hA ha hno hst hlen hline) fun σ H Q h => mt_red o.hK h
  | _ => cases hm
theorem se_mt0 (o : XOk G I lv Wx sc N fnB X) {op : Mt} {apos : Pos} (hm : mt0Ok op = true) (hno : notCall a = true) (hline : (apos.endLine == pos.line) = true) (hA : PE X a (lift G Wx A)) :
    PE X (.Call (.Attribute a (mtName op) apos) [] [] pos) (lift G Wx (mtF op A (wpA I .nil))) := by
  have red : ∀ {op : Mt} {σ : L2.St} {H : Hp} {Q : VK}, lift G Wx (mtF op A (wpA I .nil)) σ H Q → tBM0 X.K "list" (RM G op) (lift G Wx A) σ H Q := fun {op σ H Q} h => by
    obtain ⟨W, c, env, Q0, X0, e, ok, eo, h, q, x⟩ := h
    refine ⟨W, c, env, _, X0, e, ok, eo, h, fun v H' ⟨W1, c1, d, e1, x1, ok1, dn, k⟩ => ?_, x⟩
    obtain ⟨xs, hx, k⟩ := onO_of k
    obtain ⟨p, vs, rfl, hv, t⟩ := den_getL ok1 dn hx
    subst e1
    exact ⟨.inl ⟨rfl, vs, SqL.of hv⟩, W1, c1, _, [], Q0, rfl, ok1, dn, .nil, k, fun v H' p => q v H' (p.up x1)⟩
  cases op with
  | pop => exact PE.imp (pe_bm0 PySem.F.plainAttrs_list PySem.F.slot_list_pop PySem.F.type_list_pop mtr_pop hA (base_of hno) hline) fun σ H Q h => red h
  | clear => exact PE.imp (pe_bm0 PySem.F.plainAttrs_list PySem.F.slot_list_clear PySem.F.type_list_clear mtr_clear hA (base_of hno) hline) fun σ H Q h => red h
  | _ => cases hm

end
end F

namespace F
open PySem PySem.Spec PyProof.Rows L2
open Sem (wp)
theorem meets_enum_new1 {v : Value} {o : Obj} {H : Heap → Prop} (B : Begins v o H) :
    Meets (Builtin.«enumerate.__new__» ⟨[.type "enumerate", v], []⟩) (fun _ R s => H s.heap ∧
      R (.ok (.ret (.ref (s.heap.push o).objs.size))) { s with heap := (s.heap.push o).push { cls := .type "enumerate", data := .fields #[.none, .bool false, .ref s.heap.objs.size, rawInt 0, .none, .none] } }) :=
  .of_wp fun prog w A R s h => by
    obtain ⟨hp, g, d, tk, os⟩ := s; obtain ⟨h1, h⟩ := h
    have hsub := sub_enumerate
    have q1 : ∀ {A' : Around} {E : Value → Shared → Prop} {Q : Value → Shared → Prop}, Q (.ref hp.objs.size) ⟨hp.push o, g, d, tk, os⟩ → wpAny (model prog w) A' (pyIter v) Q E ⟨hp, g, d, tk, os⟩ :=
      fun q => B.iter prog w _ _ ⟨hp, g, d, tk, os⟩ _ h1 q
    wp_walk using q1
    refine wpAny_stack_any fun st => wpAny_pure ?_
    split
    · rename_i c _ _ _ _ _
      cases (c == Value.type "enumerate")
      · wp_walk using q1
        exact ⟨_, rfl, h⟩
      · wp_walk using q1
        exact ⟨_, rfl, h⟩
    · wp_walk using q1
      exact ⟨_, rfl, h⟩
section
variable {prog : Program} {w : World} {A : Around} {E : Value → Shared → Prop} {s : Shared}
theorem call_enum1 {v : Value} {o : Obj} {H : Heap → Prop} {Q : Value → Shared → Prop} (B : Begins v o H) (h1 : H s.heap)
    (h : ∀ h', IsEnum h' (s.heap.objs.size + 1) s.heap.objs.size 0 .none → h'.get? s.heap.objs.size = some o → h'.objs.size = s.heap.objs.size + 2 →
      (∀ b o, s.heap.get? b = some o → h'.get? b = some o) → Q (.ref (s.heap.objs.size + 1)) { s with heap := h' }) :
    wpAny (model prog w) A (call (.type "enumerate") [v]) Q E s := by
  refine callType_new F.called_enumerate (by decide) (F.typeCall_enumerate_1 _) (F.newCall_enumerate_1 _) (fun obj => F.args_object_init_2 obj _) F.entry_enumerate_new
    (meets_enum_new1 B) ⟨h1, ?_⟩
  have hz : (s.heap.push o).objs.size = s.heap.objs.size + 1 := Heap.size_push ..
  show _ ∧ _
  rw [hz]
  have he : IsEnum ((s.heap.push o).push { cls := .type "enumerate", data := .fields #[.none, .bool false, .ref s.heap.objs.size, rawInt 0, .none, .none] }) (s.heap.objs.size + 1) s.heap.objs.size 0 .none := by
    have := Heap.get?_push_size (s.heap.push o) (o := { cls := .type "enumerate", data := .fields #[.none, .bool false, .ref s.heap.objs.size, rawInt 0, .none, .none] }) rfl
    rw [hz] at this; exact this
  refine ⟨⟨_, he, rfl⟩, h _ he (Heap.get?_push_of_some _ (Heap.get?_push_size _ B.free)) (by rw [Heap.size_push, hz]) fun b o x => Heap.get?_push_of_some _ (Heap.get?_push_of_some _ x)⟩
end
theorem pyNext_enum_endT {prog : Program} {w : World} {A : Around} {E : Value → Shared → Prop} {s : Shared} {e it t : Addr} {i : Nat} {c : Int} {items : Array Value} {old : Value} {Q : Option Value → Shared → Prop}
    (hh : A.in1.handled = none) (he : IsEnum s.heap e it c old) (hit : s.heap.IsTupleIter it t i) (ht : s.heap.IsTuple t items) (hx : items[i]? = none)
    (hQ : ∀ h', Heap.ExtBut it s.heap h' → Q none { s with heap := h' }) : wpAny (model prog w) A (pyNext (.ref e)) Q E s := by
  have hT : s.TypeIs (.ref e) "enumerate" := ⟨_, he, rfl⟩
  unfold pyNext
  refine wpAny_bind (wpAny_attempt (wpAny_callSpecial?_slot (name := Str.ofString "__next__") hT F.slot_enumerate_next
    (wpAny_call_entry F.slot_enumerate_next hT F.entry_enumerate_next ?_ (F.args_enumerate_next_1 _))))
  show wpAny _ _ (field (.ref e) 2 >>= _) _ _ _
  refine wpAny_bind (wpAny_field he rfl (x := .ref it) rfl ?_)
  refine wpAny_bind (wpAny_nextOf_tuple_end hh hit ht hx fun h' x he' hx' => ?_)
  obtain ⟨o, ho, hc⟩ := hx'
  refine wpAny_bind (wpAny_isInstance (T := "StopIteration") (b := true) ⟨o, ho, hc⟩ isSubtype_stop ?_)
  exact wpAny_pure (hQ _ he')
/-- the tuple at a, each item in a new pair -/
def IteT (K : PySem.W.Frag) (a : Addr) : It :=
  ⟨fun i H => ∃ (xs : List V) (x : V), SqT K H a xs ∧ xs[i]? = some x, fun i H v H' => ∃ T x, v = .ref T ∧ H T = none ∧ H' = upd H T (.tup [.int (i : Nat), x]) ∧ ∀ xs, SqT K H a xs → xs[i]? = some x, fun i H => ∃ xs : List V, SqT K H a xs ∧ xs.length ≤ i⟩
theorem turn_enumT {P : Program} {w : World} {K : PySem.W.Frag} {elts : List Expr} {kk : Nat} {tpos : Pos} (a e it : Addr) :
    Turn P w K (.Tuple elts kk tpos) (IteT K a) [e, it] e (fun i h => (∃ old, IsEnum h e it ((i : Nat) : Int) old) ∧ h.IsTupleIter it a i ∧ e ≠ it ∧ e ≠ a ∧ a ≠ it) where
  mem := by simp
  obj := fun i h st b hb => by
    obtain ⟨⟨old, he⟩, ⟨o, ho, hc, hd⟩, _⟩ := st
    have e' : b = e ∨ b = it := by simpa using hb
    rcases e' with z | z
    · rw [z]; exact ⟨_, he, fun v q => nomatch q⟩
    · rw [z]; exact ⟨o, ho, fun v q => by rw [hd] at q; cases q⟩
  keep := fun i h h' st k => let ⟨⟨old, he⟩, hi, hne, h2, h3⟩ := st; ⟨⟨old, k e (by simp) _ he⟩, hi.at fun o q => k it (by simp) o q, hne, h2, h3⟩
  item := by
    intro X hP hw hK hc i pins s σ H E I hf st hg
    subst hP hw hK
    obtain ⟨⟨old, he⟩, hit, hne, hea, hai⟩ := st
    obtain ⟨xs, x, hq, hx⟩ := hg
    obtain ⟨its, rv, p, hz⟩ := I.tuple hq
    obtain ⟨u, hu, ru⟩ := rv.get hx
    have hel : e < s.heap.objs.size := Heap.lt_size he
    have hil : it < s.heap.objs.size := by obtain ⟨_, q, _⟩ := hit; exact Heap.lt_size q
    have hT : s.heap.IsTuple a its.toArray := p
    have hlt : i < its.toArray.size := by
      have := (List.getElem?_eq_some_iff.mp hu).1
      simpa using this
    have D := Draws.tuple (prog := X.prog) (w := X.w) (A := X.A.in1) (show X.A.in1.handled = none from I.ok.hd hc) it a hai its.toArray
    refine wpAny_pyNext_enum_itemD D he ⟨hit, hT⟩ hlt hne (by simp [hne, hea]) fun v h' tk hP ho hst' hT' hsz hk => ?_
    have ev : v = u := by
      have z : its.toArray[i]? = some v := hP
      rw [List.getElem?_toArray, hu] at z
      exact (Option.some.inj z).symm
    subst ev
    obtain ⟨hit', _⟩ := hst'
    refine ⟨_, rfl, wpAny_letOwnedTupleGo_enum (s := { s with heap := h', toks := tk + 1 }) ho fun h'' he' sb => ?_⟩
    have hT2 : h''.get? s.heap.objs.size = some { cls := .type "tuple", data := .seq #[.int i tk, v] } := (sb.2 _ (Nat.ne_of_gt hel)).trans hT'
    have new : ObjOk X.prog X.w (upd H s.heap.objs.size (.tup [.int (i : Nat), x])) h'' s.heap.objs.size (.tup [.int (i : Nat), x]) :=
      ⟨by show 2 ≤ sizeLine; decide, [.int i tk, v], .cons ⟨_, rfl⟩ (.cons ru .nil), ⟨_, hT2, rfl, _, rfl⟩⟩
    have I1 : Inv X pins σ (upd H s.heap.objs.size (.tup [.int (i : Nat), x])) { s with heap := h'', toks := tk + 1 } :=
      I.turnedNew (ch := [e, it]) (fun b ob hb q => (sb.2 b (fun z => hb (by simp [z]))).trans (hk b ob (fun z => hb (by simp [z])) (fun z => hb (by simp [z])) q)) hf (Nat.le_refl _) new
    refine ⟨.ref s.heap.objs.size, _, I1, rfl, ⟨_, x, rfl, I.hok.fresh (Nat.le_refl _), rfl, fun ys hy => by rw [I.tuple_inj hy hq]; exact hx⟩, ⟨⟨v, ?_⟩, hit'.at fun o q => (sb.2 it (Ne.symm hne)).trans q, hne, hea, hai⟩, fun b hb => ?_⟩
    · have e1 : ((i + 1 : Nat) : Int) = (i : Int) + 1 := by omega
      rw [e1]; exact he'
    · have hb' : b < s.heap.objs.size := by
        have e' : b = e ∨ b = it := by simpa using hb
        rcases e' with z | z
        · rw [z]; exact hel
        · rw [z]; exact hil
      rw [upd_ne (Nat.ne_of_lt hb')]
      exact (hf b hb).1
  done := by
    intro X hP hw hK hc i pins s σ H E I hf st hg
    subst hP hw hK
    obtain ⟨⟨old, he⟩, hit, hne, hea, hai⟩ := st
    obtain ⟨xs, hq, hx⟩ := hg
    obtain ⟨its, rv, p, hz⟩ := I.tuple hq
    obtain ⟨f0, f1, f2, f3, f4, f5⟩ := hf it (by simp)
    have hl := rv.length
    have hT : s.heap.IsTuple a its.toArray := p
    exact pyNext_enum_endT (I.ok.hd hc) he hit hT (by simp; omega) fun h' eb => ⟨rfl, I.turned (t' := s.toks) (fun b o hb q => eb b o hb q) f0 f1 f3 f4 f5⟩
  self := fun A i s Q E st h => let ⟨⟨_, he⟩, _⟩ := st; wpAny_pyIter_enum he h
def iEnumS (K : PySem.W.Frag) (ta : TA) : TI := fun σ H R => ta σ H fun vs H1 => ∃ a, vs = [.ref a] ∧ (((∃ xs, SqL K H1 a xs) ∧ R (Ite K a) H1) ∨ ((∃ xs, SqT K H1 a xs) ∧ R (IteT K a) H1))
theorem pi_enumS {X : Cx} {e : Expr} {ta : TA} {p pos tpos : Pos} {elts : List Expr} {kk : Nat} (hg : Gl X "enumerate") (hm : X.mg "enumerate" = none) (ha : PA X [e] ta) (hs : starEach [e] X.env = [(false, eval e X.env)] := by rfl) :
    PI X (.Tuple elts kk tpos) (.Call (.Name "enumerate" p) [e] [] pos) (iEnumS X.K ta) := by
  refine ⟨fun pins s σ H R I h => ?_⟩
  refine Call_ (ld_blt I hg hm boot_enumerate (PyProof.Rows.callWith_type1 (thn (ha.run pos pins s σ H _ I h) fun us s1 ⟨vs, H1, I1, r1, q1⟩ => ?_) hs rfl))
  obtain ⟨a, ex, q⟩ := q1
  subst ex
  cases r1 with
  | cons r rr =>
    cases rr
    cases r
    rcases q with ⟨⟨xs, hq⟩, q⟩ | ⟨⟨xs, hq⟩, q⟩
    · obtain ⟨its, rv, p', hz⟩ := I1.list hq
      refine call_enumerate_list p'.isList fun h' he hit hsz hk => wpAny_pyIter_enum he ?_
      have I2 : Inv X pins σ H1 { s1 with heap := h' } := I1.kept (t' := s1.toks) hk
      refine ⟨s1.heap.objs.size + 1, [s1.heap.objs.size + 1, s1.heap.objs.size], _, _, H1, rfl, I2, turn_enum a (s1.heap.objs.size + 1) s1.heap.objs.size, ⟨⟨.none, he⟩, hit, Nat.succ_ne_self _⟩, fun b hb => ?_, q⟩
      have e' : b = s1.heap.objs.size + 1 ∨ b = s1.heap.objs.size := by simpa using hb
      have hle : s1.heap.objs.size ≤ b := by
        rcases e' with z | z
        · rw [z]; exact Nat.le_add_right _ _
        · rw [z]; exact Nat.le_refl _
      exact I1.fpOk hle (I1.hok.fresh hle)
    · obtain ⟨its, rv, p', hz⟩ := I1.tuple hq
      have hT : s1.heap.IsTuple a its.toArray := p'
      have hal : a < s1.heap.objs.size := by
        obtain ⟨o, ho, _⟩ := hT
        exact Heap.lt_size ho
      refine call_enum1 (begins_tuple a its.toArray) hT fun h' he hit hsz hk => wpAny_pyIter_enum he ?_
      have I2 : Inv X pins σ H1 { s1 with heap := h' } := I1.kept (t' := s1.toks) hk
      refine ⟨s1.heap.objs.size + 1, [s1.heap.objs.size + 1, s1.heap.objs.size], _, _, H1, rfl, I2, turn_enumT a (s1.heap.objs.size + 1) s1.heap.objs.size, ⟨⟨.none, he⟩, ⟨_, hit, rfl, rfl⟩, Nat.succ_ne_self _, Nat.ne_of_gt (Nat.lt_succ_of_lt hal), Nat.ne_of_lt hal⟩, fun b hb => ?_, q⟩
      have e' : b = s1.heap.objs.size + 1 ∨ b = s1.heap.objs.size := by simpa using hb
      have hle : s1.heap.objs.size ≤ b := by
        rcases e' with z | z
        · rw [z]; exact Nat.le_add_right _ _
        · rw [z]; exact Nat.le_refl _
      exact I1.fpOk hle (I1.hok.fresh hle)
end F

namespace F
open PySem PySem.Spec PyProof.Rows L2
section
variable {prog : Program} {w : World} {A : Around} {E : Value → Shared → Prop} {s : Shared}
theorem draw_list {it t : Addr} {items : Array Value} (hne : t ≠ it) : ∀ (n i : Nat) (s : Shared) (Q : List Value → Shared → Prop), s.heap.IsListIter it t i → s.heap.IsList t items → i + n ≤ items.size →
    (∀ h', h'.IsListIter it t (i + n) → Heap.SameBut it s.heap h' → Q ((items.toList.drop i).take n) { s with heap := h' }) → wpAny (model prog w) A (draw (.ref it) n) Q E s
  | 0, i, s, Q, hit, _, _, hQ => by
    show wpAny _ _ (pure []) Q E s
    exact wpAny_pure (by simpa using hQ s.heap hit (Heap.SameBut.refl ..))
  | n + 1, i, s, Q, hit, ht, hle, hQ => by
    have hlt : i < items.size := by omega
    show wpAny _ _ (pyNext (.ref it) >>= _) Q E s
    refine wpAny_bind (wpAny_pyNext_list_item hit ht (x := items[i]) (by simp [hlt]) fun h₁ hit₁ hs₁ => ?_)
    refine wpAny_bind (wpAny_holding (draw_list hne n (i + 1) _ _ hit₁ (ht.extBut hs₁.extBut hne) (by omega) fun h₂ hit₂ hs₂ => wpAny_pure ?_))
    have hd : items.toList.drop i = items[i] :: items.toList.drop (i + 1) := by simp [List.drop_eq_getElem_cons, hlt]
    have := hQ h₂ (by rw [show i + (n + 1) = i + 1 + n by omega]; exact hit₂) (hs₁.trans hs₂)
    rw [hd, List.take_succ_cons] at this
    exact this
theorem unpackItems_list {t : Addr} {items : Array Value} {Q : List Value → Shared → Prop} (hh : A.handled = none) (ht : s.heap.IsList t items)
    (hQ : ∀ h', Heap.ExtBut s.heap.objs.size s.heap h' → Q items.toList { s with heap := h' }) : wpAny (model prog w) A (unpackItems (.ref t) items.size none) Q E s := by
  have hlt : t ≠ s.heap.objs.size := by obtain ⟨o, ho, _⟩ := ht; exact Nat.ne_of_lt (Heap.lt_size ho)
  unfold unpackItems
  refine wpAny_bind ?_
  · unfold notIterableAtAll
    refine wpAny_bind (wpAny_specialOf ht.typeIs F.slot_list_iter.lookup ?_)
    refine wpAny_pure ?_
    simp only [Bool.false_eq_true, if_false]
    refine wpAny_bind (wpAny_holding (wpAny_pyIter_list ht ?_))
    refine wpAny_bind (wpAny_holding (draw_list hlt items.size 0 _ _ ⟨_, Heap.get?_push_size _ rfl, rfl, rfl⟩ (ht.push _) (by omega) fun h₁ hit₁ hs₁ => ?_))
    have hall : List.take items.size (List.drop 0 items.toList) = items.toList := by
      rw [List.drop_zero]; exact List.take_of_length_le (by simp)
    rw [hall]
    rw [if_neg (by simp)]
    have ht₁ : h₁.IsList t items := (ht.push _).extBut hs₁.extBut hlt
    refine wpAny_bind (wpAny_holding (wpAny_pyNext_list_end hh hit₁ ht₁ (by simp) fun h₂ he₂ => ?_))
    simp only [Option.isSome_none, Bool.false_eq_true, if_false]
    refine wpAny_pure (hQ h₂ fun b o hb e => he₂ b o hb (hs₁.extBut b o hb (Heap.get?_push_of_some _ e)))
theorem assign_Tuple_list {env : Env} {elts : List Expr} {x1} {pos : Pos} {t : Addr} {items : Array Value} {Q : Unit → Shared → Prop} (hh : A.handled = none) (ht : s.heap.IsList t items)
    (hn : (assignEach elts env).length = items.size) (hstar : (assignEach elts env).findIdx? (·.1) = none)
    (h : ∀ h', Heap.ExtBut s.heap.objs.size s.heap h' → wpAny (model prog w) A (assignInOrder ((assignEach elts env).map (·.2)) items.toList) Q E { s with heap := h' }) :
    wpAny (model prog w) A (assign (.Tuple elts x1 pos) env (.ref t)) Q E s := by
  rw [assign_Tuple]
  refine wpAny_bind (wpAny_standAt ?_)
  unfold unpack
  rw [hn, hstar]
  exact wpAny_bind (wpAny_holding (unpackItems_list hh ht h))
end
section
variable {X : Cx} {pos : Pos}
/-- (a, b, ..) = a tuple or a list of that length -/
def gSeq (K : PySem.W.Frag) (n : Nat) (t : TGs) : TG := fun v σ H Q => ∃ a xs, v = .ref a ∧ (SqT K H a xs ∨ SqL K H a xs) ∧ xs.length = n ∧ t xs σ H Q
theorem pg_seq {es : List Expr} {k : Nat} {t : TGs} {n : Nat} (hc : X.calm = true) (h : PGs X es t)
    (hn : (assignEach es X.env).length = n := by rfl) (hst : (assignEach es X.env).findIdx? (·.1) = none := by rfl) : PG X (.Tuple es k pos) (gSeq X.K n t) := by
  refine ⟨fun pins s σ H v u Q I r hw => ?_⟩
  obtain ⟨a, xs, e1, hq, hl, hw⟩ := hw
  subst e1
  cases r
  rcases hq with hq | hq
  · obtain ⟨its, rv, ht, hz⟩ := I.tuple hq
    refine assign_Tuple_tuple (I.ok.hd hc) ht (by simp [hn, ← hl, rv.length]) hst fun h' hx => ?_
    have I1 : Inv X pins σ H { s with heap := h' } := I.kept (t' := s.toks) fun b o e => hx b o (Nat.ne_of_lt (Heap.lt_size e)) e
    exact h.run pins _ σ H xs _ Q I1 (by simpa using rv) hw
  · obtain ⟨its, rv, ht, hz⟩ := I.list hq
    refine assign_Tuple_list (I.ok.hd hc) ht.isList (by simp [hn, ← hl, rv.length]) hst fun h' hx => ?_
    have I1 : Inv X pins σ H { s with heap := h' } := I.kept (t' := s.toks) fun b o e => hx b o (Nat.ne_of_lt (Heap.lt_size e)) e
    exact h.run pins _ σ H xs _ Q I1 (by simpa using rv) hw
end
end F

namespace F
open PySem PySem.Spec L2
section
variable {G : GI} {I : CI} {lv : Nat} {Wx : WX} {sc : Scope} {N : List Str} {fnB : Str → Bool} {X : Cx} {a b e : Expr} {pos : Pos} {A B C : FA1}

theorem se_frz (o : XOk G I lv Wx sc N fnB X) (ha : PE X a (lift G Wx A)) : PE X a (lift G Wx (fun env c Q X => A env c (fun d c1 => clean I.flds c.length c1 fun f c2 => Q (f d) c2) X)) := by
  refine PE.imp ha fun σ H Q h => ?_
  obtain ⟨W, c, env, Q0, X0, e, ok, eo, h, q, x⟩ := h
  refine ⟨W, c, env, _, X0, e, ok, eo, h, fun v H' ⟨W1, c1, d, e1, x1, ok1, dn, k⟩ => ?_, x⟩
  have f1 := x1.frS (np := c.length) (by rw [ok.len]; exact Nat.le_refl _)
  obtain ⟨W2, f, c2, e2, x2, ok2, l2, d2, h2⟩ := clean_ok o.glob.flds ok1 (by rw [← ok1.len]; exact f1.le) k
  exact q _ _ ⟨W2, c2, _, e2.trans e1, FrS.ext (by rw [ok.len]; exact f1.trans x2), ok2, d2 dn, h2⟩

/-- a target's wish -/
abbrev FTG := D → En → Cs → (En → Prop) → Prop
abbrev FTGs := List D → En → Cs → (En → Prop) → Prop
/-- the same but at the places sl -/
def Off (sl : List Nat) (σ σ' : L2.St) : Prop := σ'.length = σ.length ∧ ∀ j, j ∉ sl → σ'[j]? = σ[j]?
theorem Off.refl {sl : List Nat} {σ : L2.St} : Off sl σ σ := ⟨rfl, fun _ _ => rfl⟩
theorem Off.trans {sl : List Nat} {σ σ' σ'' : L2.St} (a : Off sl σ σ') (b : Off sl σ' σ'') : Off sl σ σ'' := ⟨b.1.trans a.1, fun j h => (b.2 j h).trans (a.2 j h)⟩
theorem Off.mono {sl sl' : List Nat} {σ σ' : L2.St} (a : Off sl σ σ') (h : ∀ j ∈ sl, j ∈ sl') : Off sl' σ σ' := ⟨a.1, fun j hj => a.2 j fun z => hj (h j z)⟩
mutual
def ftSl : FT → List Nat
  | .nm i => [i]
  | .tp ts => ftSls ts
def ftSls : FTs → List Nat
  | .nil => []
  | .cons t ts => ftSl t ++ ftSls ts
end
def liftG (G : GI) (sl : List Nat) (T : FTG) : TG := fun v σ H Q => ∃ W c env d K, W.H = H ∧ Ok G W c ∧ EnvOk G W σ env ∧ Den G W v d ∧ T d env c K ∧ ∀ σ' env', EnvOk G W σ' env' → Off sl σ σ' → K env' → Q σ' H
def liftGs (G : GI) (sl : List Nat) (T : FTGs) : TGs := fun vs σ H Q => ∃ W c env ds K, W.H = H ∧ Ok G W c ∧ EnvOk G W σ env ∧ DenL G W vs ds ∧ T ds env c K ∧ ∀ σ' env', EnvOk G W σ' env' → Off sl σ σ' → K env' → Q σ' H
theorem PG.imp {tg : Expr} {t t' : TG} (h : PG X tg t) (i : ∀ v σ H Q, t' v σ H Q → t v σ H Q) : PG X tg t' := ⟨fun pins s σ H v u Q I r hw => h.run pins s σ H v u Q I r (i _ _ _ _ hw)⟩
theorem PGs.imp {tg : List Expr} {t t' : TGs} (h : PGs X tg t) (i : ∀ v σ H Q, t' v σ H Q → t v σ H Q) : PGs X tg t' := ⟨fun pins s σ H v u Q I r hw => h.run pins s σ H v u Q I r (i _ _ _ _ hw)⟩
theorem EnvOk.set {W : Wd} {σ : L2.St} {env : En} (eo : EnvOk G W σ env) {i : Nat} {v : V} {d : D} (hi : i < env.length) (dn : Den G W v d) : EnvOk G W (σ.set i (some v)) (setE env i d) := by
  refine ⟨by unfold setE; rw [List.length_set, List.length_set]; exact eo.1, fun j z h => ?_⟩
  unfold setE at h
  by_cases hj : j = i
  · subst hj
    rw [List.getElem?_set_self hi] at h
    cases h
    exact ⟨v, by rw [List.getElem?_set_self (by rw [← eo.1]; exact hi)], dn⟩
  · rw [List.getElem?_set_ne (Ne.symm hj)] at h
    obtain ⟨w, h1, h2⟩ := eo.2 j z h
    exact ⟨w, by rw [List.getElem?_set_ne (Ne.symm hj)]; exact h1, h2⟩
theorem EnvOk.wipe {W : Wd} {σ : L2.St} {env : En} (eo : EnvOk G W σ env) (i : Nat) : EnvOk G W σ (env.set i none) := by
  refine ⟨by rw [List.length_set]; exact eo.1, fun j z h => ?_⟩
  by_cases hj : j = i
  · subst hj
    by_cases hi : j < env.length
    · rw [List.getElem?_set_self hi] at h; cases h
    · rw [List.getElem?_eq_none (by rw [List.length_set]; omega)] at h; cases h
  · rw [List.getElem?_set_ne (Ne.symm hj)] at h
    exact eo.2 j z h
theorem loc_of (o : XOk G I lv Wx sc N fnB X) {x : Str} (h : locB sc fnB x = true) : Loc X.env.scope x ∧ (X.fn x = true ∨ X.env.scope.names.lookup x = some .local) := by
  rw [o.hsc]
  unfold locB at h
  split at h
  · rename_i q; exact ⟨.inl q, .inr q⟩
  · rename_i q; exact ⟨.inr q, .inl (o.fnb x h)⟩
  · cases h
theorem sg_name (o : XOk G I lv Wx sc N fnB X) {i : Nat} {x : Str} (h1 : N[i]? = some x) (h2 : locB sc fnB x = true) : PG X (.Name x pos) (liftG G (ftSl (.nm i)) (wpT (.nm i))) := by
  obtain ⟨l1, l2⟩ := loc_of o h2
  refine PG.imp (pg_name (by rw [o.hN]; exact o.nd) (by rw [o.hN]; exact h1) l1 l2) fun v σ H Q ⟨W, c, env, d, K, e, ok, eo, dn, k, q⟩ => ?_
  subst e
  exact q _ _ (eo.set k.1 dn) ⟨List.length_set .., fun j hj => List.getElem?_set_ne (fun e => hj (by rw [← e]; exact List.mem_cons_self))⟩ k.2
theorem sg_nil : PGs X [] (liftGs G (ftSls .nil) (wpTs .nil)) := by
  refine PGs.imp pgs_nil fun v σ H Q ⟨W, c, env, ds, K, e, ok, eo, dn, k, q⟩ => ?_
  subst e
  cases dn with
  | nil => exact ⟨rfl, q _ _ eo Off.refl k⟩
  | cons _ _ => exact k.elim
theorem sg_cons {t : Expr} {ts : List Expr} {T : FT} {Ts : FTs} (hn : noStar t = true) (h1 : PG X t (liftG G (ftSl T) (wpT T))) (h2 : PGs X ts (liftGs G (ftSls Ts) (wpTs Ts))) : PGs X (t :: ts) (liftGs G (ftSls (.cons T Ts)) (wpTs (.cons T Ts))) := by
  refine PGs.imp (pgs_cons h1 h2 (each_cons hn)) fun v σ H Q ⟨W, c, env, ds, K, e, ok, eo, dn, k, q⟩ => ?_
  subst e
  cases dn with
  | nil => exact k.elim
  | cons d1 dr => exact ⟨_, _, rfl, W, c, env, _, _, rfl, ok, eo, d1, k, fun σ' env' eo' f k' => ⟨W, c, env', _, K, rfl, ok, eo', dr, k', fun σ2 env2 eo2 f2 k2 => q σ2 env2 eo2 ((f.mono fun j h => List.mem_append_left _ h).trans (f2.mono fun j h => List.mem_append_right _ h)) k2⟩⟩
theorem sg_tup (o : XOk G I lv Wx sc N fnB X) {ts : List Expr} {Ts : FTs} {k : Nat} (hst : ts.all noStar = true) (hl : ts.length = ftLen Ts) (h : PGs X ts (liftGs G (ftSls Ts) (wpTs Ts))) : PG X (.Tuple ts k pos) (liftG G (ftSl (.tp Ts)) (wpT (.tp Ts))) := by
  refine PG.imp (pg_seq (n := ts.length) o.calm h each_len (each_star hst)) fun v σ H Q ⟨W, c, env, d, K, e, ok, eo, dn, k, q⟩ => ?_
  subst e
  unfold wpT at k
  obtain ⟨xs, hx, k⟩ := onO_of k
  obtain ⟨p, vs, rfl, ta, da⟩ := den_getS ok dn hx
  exact ⟨p, vs, rfl, by rw [o.hK]; exact ta.symm, by rw [da.length, k.1, hl], W, c, env, _, K, rfl, ok, eo, da, k.2, q⟩

/-- the iterator J yields the items xs, as long as the lists of gd stand -/
def ItOk (G : GI) (W0 : Wd) (J : It) (xs : List D) (gd : List (Nat × List D)) : Prop :=
  ∀ (W : Wd) (c : Cs), FrS W0.as.length W0 W → Ok G W c → gdOk c gd →
    (∀ (i : Nat) (x : D), xs[i]? = some x → J.go i W.H ∧ ∀ v H', J.yld i W.H v H' → ∃ W', W'.H = H' ∧ Ext W W' ∧ Ok G W' c ∧ Den G W' v x) ∧ (∀ i, xs.length ≤ i → J.stop i W.H)
def liftI (G : GI) (Wx : WX) (A : En → Cs → (List D → List (Nat × List D) → Cs → Prop) → QX → Prop) : TI := fun σ H R => ∃ W c env Q0 X0, W.H = H ∧ Ok G W c ∧ EnvOk G W σ env ∧ A env c Q0 X0 ∧
  (∀ J W' c' xs gd, Ext W W' → Ok G W' c' → ItOk G W' J xs gd → Q0 xs gd c' → R J W'.H) ∧ (∀ cls dd H', XPost G W X0 cls dd H' → Wx cls dd σ H')
theorem PI.imp {tg e : Expr} {t t' : TI} (h : PI X tg e t) (i : ∀ σ H Q, t' σ H Q → t σ H Q) : PI X tg e t' := ⟨fun pins s σ H Q I hw => h.run pins s σ H Q I (i _ _ _ hw)⟩
/-- a list or a tuple -/
def iSeq (K : PySem.W.Frag) (tl : TE) : TI := fun σ H R => tl σ H fun x H1 => ∃ a, x = .ref a ∧ (((∃ xs, SqL K H1 a xs) ∧ R (Itl K a) H1) ∨ ((∃ xs, SqT K H1 a xs) ∧ R (Itt K a) H1))
theorem pi_seq {tg l : Expr} {tl : TE} (hl : PE X l tl) : PI X tg l (iSeq X.K tl) := by
  refine ⟨fun pins s σ H R I h => ?_⟩
  refine thn (hl.run pins s σ H _ I h) fun v s1 ⟨x, H1, I1, r1, q1⟩ => ?_
  obtain ⟨a, e, q⟩ := q1
  subst e
  cases r1
  rcases q with ⟨⟨xs, hq⟩, q⟩ | ⟨⟨xs, hq⟩, q⟩
  · obtain ⟨its, rv, p, hz⟩ := I1.list hq
    refine wpAny_pyIter_list p.isList ?_
    refine ⟨s1.heap.objs.size, [s1.heap.objs.size], _, _, H1, rfl, I1.kept (t' := s1.toks) fun b o e => Heap.get?_push_of_some _ e, turn_list a _, ⟨_, Heap.get?_push_size _ rfl, rfl, rfl⟩, fun b hb => ?_, q⟩
    have e : b = s1.heap.objs.size := by simpa using hb
    subst e
    exact I1.fpOk (Nat.le_refl _) (I1.hok.fresh (Nat.le_refl _))
  · obtain ⟨its, rv, p, hz⟩ := I1.tuple hq
    refine wpAny_pyIter_tuple (show s1.heap.IsTuple a its.toArray from p) ?_
    refine ⟨s1.heap.objs.size, [s1.heap.objs.size], _, _, H1, rfl, I1.kept (t' := s1.toks) fun b o e => Heap.get?_push_of_some _ e, turn_tuple a _, ⟨_, Heap.get?_push_size _ rfl, rfl, rfl⟩, fun b hb => ?_, q⟩
    have e : b = s1.heap.objs.size := by simpa using hb
    subst e
    exact I1.fpOk (Nat.le_refl _) (I1.hok.fresh (Nat.le_refl _))
/-- a list that is read: it stands later, too -/
def Src (G : GI) (W0 : Wd) (a : Addr) (xs : List D) (gd : List (Nat × List D)) : Prop := ∀ (W : Wd) (c : Cs), FrS W0.as.length W0 W → Ok G W c → gdOk c gd → ∃ vs, SqL G.K W.H a vs ∧ DenL G W vs xs
theorem src_of {W0 : Wd} {c0 : Cs} (ok0 : Ok G W0 c0) {v : V} {d : D} {xs : List D} (dn : Den G W0 v d) (e : getR c0 d = some xs) : ∃ a, v = .ref a ∧ Src G W0 a xs (gdOf c0 d) := by
  have mv : ∀ {W : Wd} {vs : List V}, FrS W0.as.length W0 W → DenL G W0 vs xs → DenL G W vs xs := fun {W vs} x t =>
    t.mono0 (x.toFr.mv ok0.fz) fun n a h => x.get (List.getElem?_eq_some_iff.mp h).1 h
  cases dn with
  | @lst a vs _ h t =>
    simp only [getR, getL] at e; cases e
    exact ⟨a, rfl, fun W c x ok _ => ⟨vs, .inl (.inl (x.keep a _ h.2 (ok0.fz a h.1))), mv x t⟩⟩
  | @scr a vs _ h t =>
    simp only [getR] at e; cases e
    exact ⟨a, rfl, fun W c x ok _ => ⟨vs, (h.mono (x.toFr.mv ok0.fz)).seq, mv x t⟩⟩
  | @cell a n h =>
    obtain ⟨y, hy, ca⟩ := ok0.at h
    cases y with
    | lst zs =>
      simp only [getR, getL, hy] at e; cases e
      refine ⟨a, rfl, fun W c x ok gd => ?_⟩
      simp only [gdOf, hy, gdOk, and_true] at gd
      obtain ⟨a', ha', vs, q1, q2⟩ := ok.atC gd
      have h' : W.as[n]? = some a := x.get (List.getElem?_eq_some_iff.mp h).1 h
      rw [h'] at ha'; cases ha'
      exact ⟨vs, .inl (.inl q1), q2⟩
    | dct _ _ => simp [getR, getL, hy] at e
    | obj _ _ => simp [getR, getL, hy] at e
  | _ => simp [getR, getL] at e
theorem getS_R {c : Cs} {d : D} (h : ∀ ys, d ≠ .tup ys) : getS c d = getR c d := by
  cases d <;> first | rfl | exact absurd rfl (h _)
theorem si_ex (o : XOk G I lv Wx sc N fnB X) {tg : Expr} (ha : PE X a (lift G Wx A)) : PI X tg a (liftI G Wx (fun env c Q X => A env c (fun d c1 => onO (getS c1 d) fun xs => Q xs (gdOf c1 d) c1) X)) := by
  refine PI.imp (pi_seq ha) fun σ H R ⟨W, c, env, Q0, X0, e, ok, eo, h, q, x⟩ => ?_
  refine ⟨W, c, env, _, X0, e, ok, eo, h, fun v H' ⟨W1, c1, d, e1, x1, ok1, dn, k⟩ => ?_, x⟩
  obtain ⟨xs, hx, k⟩ := onO_of k
  subst e1
  rw [o.hK]
  by_cases ht : ∃ ys, d = .tup ys
  · obtain ⟨ys, ht⟩ := ht
    subst ht
    simp only [getS] at hx; cases hx
    obtain ⟨p, vs, rfl, ta, da⟩ := den_tup dn
    refine ⟨p, rfl, .inr ⟨⟨vs, ta.seq⟩, q _ W1 c1 _ _ x1 ok1 (fun W2 c2 y ok2 _ => ⟨fun i z hz => ?_, fun i hi => ?_⟩) k⟩⟩
    · have ta2 := ta.mono (y.toFr.mv ok1.fz)
      have da2 : DenL G W2 vs xs := da.mono0 (y.toFr.mv ok1.fz) fun n a h => y.get (List.getElem?_eq_some_iff.mp h).1 h
      obtain ⟨w, hw, dw⟩ := da2.get hz
      refine ⟨⟨vs, w, ta2.seq, hw⟩, fun v H' hy => ?_⟩
      obtain ⟨e2, hy⟩ := hy
      subst e2
      have := hy vs ta2.seq
      rw [hw] at this; cases this
      exact ⟨W2, rfl, Ext.refl _, ok2, dw⟩
    · exact ⟨vs, (ta.mono (y.toFr.mv ok1.fz)).seq, by rw [da.length]; exact hi⟩
  · have hx' : getR c1 d = some xs := by rw [← getS_R fun ys z => ht ⟨ys, z⟩]; exact hx
    obtain ⟨p, rfl, src⟩ := src_of ok1 dn hx'
    obtain ⟨p', vs, ep, hs, _⟩ := den_getR ok1 dn hx'
    cases ep
    refine ⟨p, rfl, .inl ⟨⟨vs, hs⟩, q _ W1 c1 _ _ x1 ok1 (fun W2 c2 y ok2 g => ?_) k⟩⟩
    obtain ⟨ws, h1, h2⟩ := src W2 c2 y ok2 g
    refine ⟨fun i z hz => ?_, fun i hi => ⟨ws, h1, by rw [h2.length]; exact hi⟩⟩
    obtain ⟨w, hw, dw⟩ := h2.get hz
    refine ⟨⟨ws, w, h1, hw⟩, fun v H' hy => ?_⟩
    obtain ⟨e2, hy⟩ := hy
    subst e2
    have := hy ws h1
    rw [hw] at this; cases this
    exact ⟨W2, rfl, Ext.refl _, ok2, dw⟩
theorem rng_it {W : Wd} {lo : Int} {n : Nat} : ItOk G W (Itr lo n) (rngL lo n) [] := by
  intro W2 c2 y ok2 _
  have hl : (rngL lo n).length = n := by unfold rngL; rw [List.length_map, List.length_range]
  refine ⟨fun i z hz => ?_, fun i hi => by rw [hl] at hi; exact hi⟩
  have hi : i < n := by rw [← hl]; exact (List.getElem?_eq_some_iff.mp hz).1
  unfold rngL at hz
  rw [List.getElem?_map, List.getElem?_range hi] at hz
  cases hz
  refine ⟨hi, fun v H' hy => ?_⟩
  obtain ⟨e1, e2⟩ := hy
  subst e1; subst e2
  exact ⟨W2, rfl, Ext.refl _, ok2, .int⟩
theorem si_rng1 (o : XOk G I lv Wx sc N fnB X) {tg : Expr} {p : Pos} (hg : glB sc "range" = true) (hn : noStar a = true) (ha : PE X a (lift G Wx A)) : PI X tg (.Call (.Name "range" p) [a] [] pos) (liftI G Wx (fun env c Q X => A env c (fun d c1 => match d with
    | .int n => small n ∧ Q (rngL 0 n.toNat) [] c1
    | _ => False) X)) := by
  obtain ⟨g, hd, _⟩ := gl_of o hg
  have hm : X.mg "range" = none := by rw [o.hmg]; exact o.glob.bl _ (by decide +kernel)
  have hs : starEach [a] X.env = [(false, eval a X.env)] := star_cons hn
  refine PI.imp (pi_range1 g hm (pa_consN hn ha pa_nil) hs) fun σ H R ⟨W, c, env, Q0, X0, e, ok, eo, h, q, x⟩ => ?_
  refine ⟨W, c, env, _, X0, e, ok, eo, h, fun v H' ⟨W1, c1, d, e1, x1, ok1, dn, k⟩ => ?_, x⟩
  subst e1
  cases dn with
  | int => exact ⟨_, rfl, k.1.1, k.1.2, q _ W1 c1 _ _ x1 ok1 rng_it k.2⟩
  | _ => exact k.elim
theorem si_rng2 (o : XOk G I lv Wx sc N fnB X) {tg : Expr} {p : Pos} (hg : glB sc "range" = true) (hn : noStar a = true) (hn2 : noStar b = true) (ha : PE X a (lift G Wx A)) (hb : PE X b (lift G Wx B)) : PI X tg (.Call (.Name "range" p) [a, b] [] pos) (liftI G Wx (fun env c Q X => A env c (fun x c1 => B env c1 (fun y c2 => int2 (fun i j => small i ∧ small j ∧ Q (rngL i (j - i).toNat) [] c2) x y) X) X)) := by
  obtain ⟨g, hd, _⟩ := gl_of o hg
  have hm : X.mg "range" = none := by rw [o.hmg]; exact o.glob.bl _ (by decide +kernel)
  have hs : starEach [b] X.env = [(false, eval b X.env)] := star_cons hn2
  have hs2 : starEach [a, b] X.env = [(false, eval a X.env), (false, eval b X.env)] := by rw [star_cons hn, hs]
  refine PI.imp (pi_range2 g hm (pa_consN hn ha (pa_consN hn2 hb pa_nil)) hs2 hs) fun σ H R ⟨W, c, env, Q0, X0, e, ok, eo, h, q, x⟩ => ?_
  refine ⟨W, c, env, _, X0, e, ok, eo, h, fun v H' ⟨W1, c1, d, e1, x1, ok1, dn, k⟩ => ?_, x⟩
  refine ⟨W1, c1, env, _, X0, e1, ok1, eo.mono ok x1, k, fun v2 H2 ⟨W2, c2, d2, e2, x2, ok2, dn2, k2⟩ => ?_, fun cls dd H' p => x cls dd H' (p.up x1)⟩
  subst e2
  obtain ⟨i, j, rfl, rfl, k2⟩ := int2_of (dn.mono ok1 x2) dn2 k2
  exact ⟨i, j, rfl, ⟨k2.1.1, k2.1.2, k2.2.1.1, k2.2.1.2⟩, q _ W2 c2 _ _ (x1.trans x2) ok2 rng_it k2.2.2⟩
theorem enumL_get : ∀ {xs : List D} {k i : Nat} {x : D}, (enumL xs k)[i]? = some x → ∃ y, xs[i]? = some y ∧ x = .tup [.int ((k + i : Nat) : Int), y]
  | [], k, i, x, h => by simp [enumL] at h
  | y :: r, k, 0, x, h => by simp [enumL] at h; exact ⟨y, rfl, h.symm⟩
  | y :: r, k, i + 1, x, h => by
    simp only [enumL, List.getElem?_cons_succ] at h
    obtain ⟨z, h1, h2⟩ := enumL_get h
    exact ⟨z, by simpa using h1, by rw [h2]; congr 3; omega⟩
theorem enumL_len : ∀ (xs : List D) (k : Nat), (enumL xs k).length = xs.length
  | [], _ => rfl
  | x :: r, k => by simp only [enumL, List.length_cons]; rw [enumL_len r]
theorem si_enum (o : XOk G I lv Wx sc N fnB X) {ts : List Expr} {kk : Nat} {tpos p : Pos} (hg : glB sc "enumerate" = true) (hn : noStar a = true) (ha : PE X a (lift G Wx A)) : PI X (.Tuple ts kk tpos) (.Call (.Name "enumerate" p) [a] [] pos) (liftI G Wx (fun env c Q X => A env c (fun d c1 => onO (getS c1 d) fun xs => Q (enumL xs 0) (gdOf c1 d) c1) X)) := by
  obtain ⟨g, hd, _⟩ := gl_of o hg
  have hm : X.mg "enumerate" = none := by rw [o.hmg]; exact o.glob.bl _ (by decide +kernel)
  have hs : starEach [a] X.env = [(false, eval a X.env)] := star_cons hn
  refine PI.imp (pi_enumS g hm (pa_consN hn ha pa_nil) hs) fun σ H R ⟨W, c, env, Q0, X0, e, ok, eo, h, q, x⟩ => ?_
  refine ⟨W, c, env, _, X0, e, ok, eo, h, fun v H' ⟨W1, c1, d, e1, x1, ok1, dn, k⟩ => ?_, x⟩
  subst e1
  obtain ⟨xs, hx, k⟩ := onO_of k
  rw [o.hK]
  by_cases ht : ∃ ys, d = .tup ys
  · obtain ⟨ys, ht⟩ := ht
    subst ht
    simp only [getS] at hx; cases hx
    obtain ⟨p1, vs, rfl, ta, da⟩ := den_tup dn
    refine ⟨p1, rfl, .inr ⟨⟨vs, ta.seq⟩, q _ W1 c1 _ _ x1 ok1 (fun W2 c2 y ok2 _ => ?_) k⟩⟩
    have ta2 := ta.mono (y.toFr.mv ok1.fz)
    have da2 : DenL G W2 vs xs := da.mono0 (y.toFr.mv ok1.fz) fun n a h => y.get (List.getElem?_eq_some_iff.mp h).1 h
    refine ⟨fun i z hz => ?_, fun i hi => ⟨vs, ta2.seq, by rw [da2.length]; rwa [enumL_len] at hi⟩⟩
    obtain ⟨z', hz', rfl⟩ := enumL_get hz
    obtain ⟨w, hw, dw⟩ := da2.get hz'
    refine ⟨⟨vs, w, ta2.seq, hw⟩, fun v H' hy => ?_⟩
    obtain ⟨T, w', rfl, nT, rfl, hy⟩ := hy
    have := hy vs ta2.seq
    rw [hw] at this; cases this
    obtain ⟨x3, ok3⟩ := ok2.alloc nT (.tup [.int (i : Nat), w])
    refine ⟨_, rfl, x3, ok3, .tup (.inl upd_same) ?_⟩
    rw [Nat.zero_add]
    exact .cons .int (.cons (dw.mono ok2 x3) .nil)
  · have hx' : getR c1 d = some xs := by rw [← getS_R fun ys z => ht ⟨ys, z⟩]; exact hx
    obtain ⟨p1, rfl, src⟩ := src_of ok1 dn hx'
    obtain ⟨p', vs, ep, hs', _⟩ := den_getR ok1 dn hx'
    cases ep
    refine ⟨p1, rfl, .inl ⟨⟨vs, hs'⟩, q _ W1 c1 _ _ x1 ok1 (fun W2 c2 y ok2 gd => ?_) k⟩⟩
    obtain ⟨ws, h1, h2⟩ := src W2 c2 y ok2 gd
    refine ⟨fun i z hz => ?_, fun i hi => ⟨ws, h1, by rw [h2.length]; rwa [enumL_len] at hi⟩⟩
    obtain ⟨z', hz', rfl⟩ := enumL_get hz
    obtain ⟨w, hw, dw⟩ := h2.get hz'
    refine ⟨⟨ws, w, h1, hw⟩, fun v H' hy => ?_⟩
    obtain ⟨T, w', rfl, nT, rfl, hy⟩ := hy
    have := hy ws h1
    rw [hw] at this; cases this
    obtain ⟨x3, ok3⟩ := ok2.alloc nT (.tup [.int (i : Nat), w])
    refine ⟨_, rfl, x3, ok3, .tup (.inl upd_same) ?_⟩
    rw [Nat.zero_add]
    exact .cons .int (.cons (dw.mono ok2 x3) .nil)
theorem zipL_get : ∀ {xs ys : List D} {i : Nat} {x : D}, (zipL xs ys)[i]? = some x → ∃ y z, xs[i]? = some y ∧ ys[i]? = some z ∧ x = .tup [y, z]
  | [], ys, i, x, h => by simp [zipL] at h
  | _ :: _, [], i, x, h => by simp [zipL] at h
  | y :: r, z :: s, 0, x, h => by simp [zipL] at h; exact ⟨y, z, rfl, rfl, h.symm⟩
  | y :: r, z :: s, i + 1, x, h => by
    simp only [zipL, List.getElem?_cons_succ] at h
    obtain ⟨u, w, h1, h2, h3⟩ := zipL_get h
    exact ⟨u, w, by simpa using h1, by simpa using h2, h3⟩
theorem zipL_len : ∀ (xs ys : List D), (zipL xs ys).length = min xs.length ys.length
  | [], ys => by simp [zipL]
  | _ :: _, [] => by simp [zipL]
  | y :: r, z :: s => by simp only [zipL, List.length_cons]; rw [zipL_len r s]; omega
theorem gdOk_app {c : Cs} : ∀ {g h : List (Nat × List D)}, gdOk c (g ++ h) → gdOk c g ∧ gdOk c h
  | [], h, k => ⟨trivial, k⟩
  | (n, xs) :: g, h, k => by
    obtain ⟨k1, k2⟩ := k
    obtain ⟨a, b⟩ := gdOk_app (g := g) k2
    exact ⟨⟨k1, a⟩, b⟩
theorem src_up {W0 W1 : Wd} {c0 : Cs} (x : Ext W0 W1) (ok0 : Ok G W0 c0) {p : Addr} {xs : List D} {gd : List (Nat × List D)} (s : Src G W0 p xs gd) : Src G W1 p xs gd := fun W c y ok g =>
  s W c ((x.frS (Nat.le_refl _)).trans (y.mono (by obtain ⟨t, e⟩ := x.as; rw [← e, List.length_append]; omega))) ok g
theorem si_zip (o : XOk G I lv Wx sc N fnB X) {ts : List Expr} {kk : Nat} {tpos p : Pos} (hg : glB sc "zip" = true) (hn : noStar a = true) (hn2 : noStar b = true) (ha : PE X a (lift G Wx A)) (hb : PE X b (lift G Wx B)) : PI X (.Tuple ts kk tpos) (.Call (.Name "zip" p) [a, b] [] pos)
    (liftI G Wx (fun env c Q X => A env c (fun x c1 => B env c1 (fun y c2 => onO (getR c2 x) fun xs => onO (getR c2 y) fun ys => Q (zipL xs ys) (gdOf c2 x ++ gdOf c2 y) c2) X) X)) := by
  obtain ⟨g, hd, _⟩ := gl_of o hg
  have hm : X.mg "zip" = none := by rw [o.hmg]; exact o.glob.bl _ (by decide +kernel)
  have hs : starEach [a, b] X.env = (false, eval a X.env) :: starEach [b] X.env := star_cons hn
  refine PI.imp (pi_zip g hm (pa_consN hn ha (pa_consN hn2 hb pa_nil)) hs (star_any (by simp [hn2]))) fun σ H R ⟨W, c, env, Q0, X0, e, ok, eo, h, q, x⟩ => ?_
  refine ⟨W, c, env, _, X0, e, ok, eo, h, fun v H' ⟨W1, c1, d, e1, x1, ok1, dn, k⟩ => ?_, x⟩
  refine ⟨W1, c1, env, _, X0, e1, ok1, eo.mono ok x1, k, fun v2 H2 ⟨W2, c2, d2, e2, x2, ok2, dn2, k2⟩ => ?_, fun cls dd H' p => x cls dd H' (p.up x1)⟩
  subst e2
  obtain ⟨xs, hx, k2⟩ := onO_of k2
  obtain ⟨ys, hy, k2⟩ := onO_of k2
  have dn' := dn.mono ok1 x2
  obtain ⟨p1, rfl, s1⟩ := src_of ok2 dn' hx
  obtain ⟨p2, rfl, s2⟩ := src_of ok2 dn2 hy
  obtain ⟨p', vs, ep, hs1, _⟩ := den_getR ok2 dn' hx
  cases ep
  obtain ⟨p', ws, ep, hs2, _⟩ := den_getR ok2 dn2 hy
  cases ep
  rw [o.hK]
  refine ⟨p1, p2, vs, ws, rfl, hs1, hs2, q _ W2 c2 _ _ (x1.trans x2) ok2 (fun W3 c3 y ok3 gd => ?_) k2⟩
  obtain ⟨g1, g2⟩ := gdOk_app gd
  obtain ⟨us, h1, h2⟩ := s1 W3 c3 y ok3 g1
  obtain ⟨ts', h3, h4⟩ := s2 W3 c3 y ok3 g2
  refine ⟨fun i z hz => ?_, fun i hi => ⟨us, ts', h1, h3, ?_⟩⟩
  · obtain ⟨z1, z2, hz1, hz2, rfl⟩ := zipL_get hz
    obtain ⟨w1, hw1, dw1⟩ := h2.get hz1
    obtain ⟨w2, hw2, dw2⟩ := h4.get hz2
    refine ⟨⟨us, ts', w1, w2, h1, h3, hw1, hw2⟩, fun v H' hy => ?_⟩
    obtain ⟨T, w1', w2', rfl, nT, rfl, y1, y2⟩ := hy
    have e1 := y1 us h1
    rw [hw1] at e1; cases e1
    have e2 := y2 ts' h3
    rw [hw2] at e2; cases e2
    obtain ⟨x4, ok4⟩ := ok3.alloc nT (.tup [w1, w2])
    exact ⟨_, rfl, x4, ok4, .tup (.inl upd_same) (.cons (dw1.mono ok3 x4) (.cons (dw2.mono ok3 x4) .nil))⟩
  · rw [zipL_len] at hi
    rw [h2.length, h4.length]
    omega
end
end F

namespace F
open PySem PySem.Spec L2
section
variable {G : GI} {I : CI} {lv : Nat} {Wx : WX} {sc : Scope} {N : List Str} {fnB : Str → Bool} {X : Cx} {a b e : Expr} {pos : Pos} {A B C : FA1}

def dl (H : Hp) (p : Addr) : Hp := fun b => if b = p then none else H b
theorem dl_same {H : Hp} {p : Addr} : dl H p p = none := if_pos rfl
theorem dl_ne {H : Hp} {p b : Addr} (h : b ≠ p) : dl H p b = H b := if_neg h
theorem envOk_wipeE {W : Wd} {σ : L2.St} {env : En} (eo : EnvOk G W σ env) : ∀ vs : List Nat, EnvOk G W (wipe σ vs) (F.wipeE env vs)
  | [] => eo
  | v :: vs => by
    have ih := envOk_wipeE eo vs
    unfold wipe F.wipeE
    refine ⟨by rw [List.length_set, List.length_set]; exact ih.1, fun j z h => ?_⟩
    by_cases hj : j = v
    · subst hj
      by_cases hi : j < (F.wipeE env vs).length
      · rw [List.getElem?_set_self hi] at h; cases h
      · rw [List.getElem?_eq_none (by rw [List.length_set]; omega)] at h; cases h
    · rw [List.getElem?_set_ne (Ne.symm hj)] at h
      obtain ⟨w, h1, h2⟩ := ih.2 j z h
      exact ⟨w, by rw [List.getElem?_set_ne (Ne.symm hj)]; exact h1, h2⟩
theorem wipe_in {σ : L2.St} {i : Nat} : ∀ {vs : List Nat}, i ∈ vs → i < σ.length → (wipe σ vs)[i]? = some none
  | [], h, _ => by simp at h
  | v :: vs, h, hl => by
    unfold wipe
    by_cases e : v = i
    · subst e; rw [List.getElem?_set_self (by rw [wipe_length]; exact hl)]
    · rw [List.getElem?_set_ne e]
      rcases List.mem_cons.mp h with z | z
      · exact absurd z.symm e
      · exact wipe_in z hl
theorem wipe_off {σ σ' : L2.St} {vs sl : List Nat} (h : Off sl (wipe σ vs) σ') (hs : ∀ j ∈ sl, j ∈ vs) : wipe σ' vs = wipe σ vs := by
  have hl : σ'.length = σ.length := by rw [h.1, wipe_length]
  refine List.ext_getElem? fun j => ?_
  by_cases hj : j ∈ vs
  · by_cases hlt : j < σ.length
    · rw [wipe_in hj (by rw [hl]; exact hlt), wipe_in hj hlt]
    · rw [List.getElem?_eq_none (by rw [wipe_length, hl]; omega), List.getElem?_eq_none (by rw [wipe_length]; omega)]
  · have e1 : (wipe σ' vs)[j]? = σ'[j]? := wipe_out hj
    rw [e1, h.2 j fun z => hj (hs j z)]
/-- a foreign list is changed -/
theorem Ok.poke {W W1 : Wd} {c : Cs} (x : Ext W1 W) (ok : Ok G W c) {p : Addr} {o o' : HO} (h1 : W1.H p = none) (hp : W.H p = some o) (ht : ∀ xs, o ≠ .tup xs) (ha : p ∉ W.as) (hf : ¬ W.Fz p) :
    Ext W1 { W with H := upd W.H p o' } ∧ Ok G { W with H := upd W.H p o' } c ∧ Mv W { W with H := upd W.H p o' } := by
  have mv : Mv W { W with H := upd W.H p o' } := ⟨fun b xs h => by
    show upd _ _ _ _ = _
    rw [upd_ne (fun z => by subst z; rw [hp] at h; exact ht xs (Option.some.inj h))]; exact h, fun b u f h => by
    show upd _ _ _ _ = _
    rw [upd_ne (fun z => by subst z; exact hf f)]; exact h, fun b h => h⟩
  refine ⟨⟨⟨fun b xs h => ?_, fun b u h hb => ?_, x.fz, fun b h => ?_, x.new, x.fzn⟩, x.as⟩, ⟨ok.len, ok.nd, ok.fz, fun b h => ?_, fun n a y g1 g2 => ?_⟩, mv⟩
  · show upd _ _ _ _ = _
    rw [upd_ne (ne_of_none h h1)]; exact x.tup b xs h
  · show upd _ _ _ _ = _
    rw [upd_ne (ne_of_none h h1)]; exact x.keep b u h hb
  · have h' : upd W.H p o' b = none := h
    by_cases hb : b = p
    · subst hb; rw [upd_same] at h'; cases h'
    · rw [upd_ne hb] at h'; exact x.trk b h'
  · obtain ⟨u, e⟩ := ok.fzt b h
    exact ⟨u, by show upd _ _ _ _ = _; rw [upd_ne (fun z => by subst z; exact hf h)]; exact e⟩
  · have ca := ok.cell n a y g1 g2
    have na : a ≠ p := fun z => by subst z; exact ha (List.mem_of_getElem? g1)
    have eH : upd W.H p o' a = W.H a := upd_ne na
    cases y with
    | lst ds => obtain ⟨vs, q1, q2⟩ := ca; exact ⟨vs, by show upd _ _ _ _ = _; rw [eH]; exact q1, q2.mono0 mv fun _ _ h => h⟩
    | dct ks ds => obtain ⟨kvs, q1, q2, q3⟩ := ca; exact ⟨kvs, by show upd _ _ _ _ = _; rw [eH]; exact q1, q2.mono0 mv fun _ _ h => h, q3.mono0 mv fun _ _ h => h⟩
    | obj k fs => obtain ⟨dx, gs, q1, q2, q3⟩ := ca; exact ⟨dx, gs, by show upd _ _ _ _ = _; rw [eH]; exact q1, q2, q3.mono0 mv fun _ _ h => h⟩
/-- .. is taken out of the tracked -/
theorem Ok.lose {W W1 : Wd} {c : Cs} (x : Ext W1 W) (ok : Ok G W c) {p : Addr} {o : HO} (h1 : W1.H p = none) (hp : W.H p = some o) (ht : ∀ xs, o ≠ .tup xs) (ha : p ∉ W.as) (hf : ¬ W.Fz p) :
    Ext W1 { W with H := dl W.H p } ∧ Ok G { W with H := dl W.H p } c ∧ Mv W { W with H := dl W.H p } := by
  have mv : Mv W { W with H := dl W.H p } := ⟨fun b xs h => by
    show dl _ _ _ = _
    rw [dl_ne (fun z => by subst z; rw [hp] at h; exact ht xs (Option.some.inj h))]; exact h, fun b u f h => by
    show dl _ _ _ = _
    rw [dl_ne (fun z => by subst z; exact hf f)]; exact h, fun b h => h⟩
  refine ⟨⟨⟨fun b xs h => ?_, fun b u h hb => ?_, x.fz, fun b h => ?_, x.new, x.fzn⟩, x.as⟩, ⟨ok.len, ok.nd, ok.fz, fun b h => ?_, fun n a y g1 g2 => ?_⟩, mv⟩
  · show dl _ _ _ = _
    rw [dl_ne (ne_of_none h h1)]; exact x.tup b xs h
  · show dl _ _ _ = _
    rw [dl_ne (ne_of_none h h1)]; exact x.keep b u h hb
  · have h' : dl W.H p b = none := h
    by_cases hb : b = p
    · subst hb; exact h1
    · rw [dl_ne hb] at h'; exact x.trk b h'
  · obtain ⟨u, e⟩ := ok.fzt b h
    exact ⟨u, by show dl _ _ _ = _; rw [dl_ne (fun z => by subst z; exact hf h)]; exact e⟩
  · have ca := ok.cell n a y g1 g2
    have na : a ≠ p := fun z => by subst z; exact ha (List.mem_of_getElem? g1)
    have eH : dl W.H p a = W.H a := dl_ne na
    cases y with
    | lst ds => obtain ⟨vs, q1, q2⟩ := ca; exact ⟨vs, by show dl _ _ _ = _; rw [eH]; exact q1, q2.mono0 mv fun _ _ h => h⟩
    | dct ks ds => obtain ⟨kvs, q1, q2, q3⟩ := ca; exact ⟨kvs, by show dl _ _ _ = _; rw [eH]; exact q1, q2.mono0 mv fun _ _ h => h, q3.mono0 mv fun _ _ h => h⟩
    | obj k fs => obtain ⟨dx, gs, q1, q2, q3⟩ := ca; exact ⟨dx, gs, by show dl _ _ _ = _; rw [eH]; exact q1, q2, q3.mono0 mv fun _ _ h => h⟩
theorem upd_dl {H : Hp} {p : Addr} {o : HO} (h : H p = some o) : upd (dl H p) p o = H := by
  funext b
  by_cases hb : b = p
  · subst hb; rw [upd_same, h]
  · rw [upd_ne hb, dl_ne hb]
abbrev W00 : WX := fun _ _ _ _ => False
theorem takes00 {X : Cx} : Takes X W00 := fun _ _ ⟨_, _, _, _, _, _, _, _, _, _, _, _, _, _, _, _, w⟩ => w.elim
abbrev FAI := En → Cs → (List D → List (Nat × List D) → Cs → Prop) → QX → Prop
abbrev turnF (t : FT) (cond : FAB) (A : FA1) (vs : List Nat) (env : En) : D → (Option D → Cs → Prop) → Cs → Prop := fun x K c2 => wpT t x (wipeE env vs) c2 fun env' =>
      cond env' c2 (fun k c3 => sIf k (A env' c3 (fun d c4 => K (some d) c4) fun _ _ _ => False) (K none c3)) fun _ _ _ => False
abbrev coF (flds : Nat → List Str) (m keep : Bool) (t : FT) (AI : FAI) (cond : FAB) (A : FA1) (vs : List Nat) : FA1 := fun env c Q X => AI env c (fun xs gd c1 => compL flds keep c1.length gd (turnF t cond A vs env)
      (fun ds c2 => newL m ds c2 Q) xs [] c1) X
theorem compL_gd {flds : Nat → List Str} {keep : Bool} {np : Nat} {gd : List (Nat × List D)} {turn : D → (Option D → Cs → Prop) → Cs → Prop} {Q : List D → Cs → Prop} {xs acc : List D} {c : Cs} (h : compL flds keep np gd turn Q xs acc c) : gdOk c gd := by
  cases xs with
  | nil => exact h.1
  | cons _ _ => exact h.1
/-- a turn's end: what is new is frozen, or stays -/
theorem turn_end {flds : Nat → List Str} (hf : flds = G.flds) {keep : Bool} {W1 Wi W4 : Wd} {c1 ci c4 : Cs} {K : (D → D) → Cs → Prop} {accV : List V} {accD : List D} (ok1 : Ok G W1 c1) (oki : Ok G Wi ci) (ok4 : Ok G W4 c4) (xi : Ext W1 Wi) (x4 : Ext Wi W4)
    (hl : keep = false → ci.length = c1.length) (dacc : DenL G Wi accV accD) (h : cl flds keep c1.length c4 K) :
    ∃ W5 f c5, W5.H = W4.H ∧ Ext W1 W5 ∧ Fr Wi W5 ∧ Ok G W5 c5 ∧ (keep = false → c5.length = c1.length) ∧ (∀ {v : V} {d : D}, Den G W4 v d → Den G W5 v (f d)) ∧ DenL G W5 accV accD ∧ K f c5 := by
  cases keep with
  | true => exact ⟨W4, id, c4, rfl, xi.trans x4, x4.toFr, ok4, (fun z => nomatch z), fun h => h, dacc.mono oki x4, h⟩
  | false =>
    have hb := hl rfl
    have x14 := xi.trans x4
    have hle : c1.length ≤ c4.length := by
      have := (x14.frS (np := c1.length) (by rw [ok1.len]; exact Nat.le_refl _)).le
      rw [← ok4.len]; exact this
    obtain ⟨W5, f, c5, e5, x5, ok5, l5, d5, h5⟩ := clean_ok hf ok4 hle h
    have y : FrS c1.length Wi W5 := (x4.frS (by rw [oki.len, hb]; exact Nat.le_refl _)).trans x5
    refine ⟨W5, f, c5, e5, FrS.ext (by rw [ok1.len]; exact (x14.frS (by rw [ok1.len]; exact Nat.le_refl _)).trans x5), y.toFr, ok5, fun _ => l5, d5, ?_, h5⟩
    exact dacc.mono0 (y.toFr.mv oki.fz) fun n a hn => y.get (by rw [← hb, ← oki.len]; exact (List.getElem?_eq_some_iff.mp hn).1) hn
theorem co_red {flds : Nat → List Str} (hf : flds = G.flds) (hK : X.K = G.K) {m keep : Bool} {t : FT} {AI : FAI} {cond : FAB} {vs : List Nat} (hsl : ∀ j ∈ ftSl t, j ∈ vs) {σ : L2.St} {H : Hp} {Q : VK} (h : lift G Wx (coF flds m keep t AI cond A vs) σ H Q) :
    tLc (liftI G Wx AI) (liftG G (ftSl t) (wpT t)) (liftB G W00 cond) (lift G W00 A) vs σ H Q := by
  obtain ⟨W, c, env, Q0, X0, e, ok, eo, h, q, x⟩ := h
  refine ⟨W, c, env, _, X0, e, ok, eo, h, fun J W1 c1 xs gd x1 ok1 it k => ?_, x⟩
  intro p hp
  have eo1 : EnvOk G W1 σ env := eo.mono ok x1
  -- the turns' word
  refine ⟨fun i m' H => m' = xs.length - i ∧ i ≤ xs.length ∧ ∃ Wi ci accV accD, Wi.H = H ∧ Ext W1 Wi ∧ Ok G Wi ci ∧ (keep = false → ci.length = c1.length) ∧ Wi.H p = some (.lst accV) ∧ p ∉ Wi.as ∧ ¬ Wi.Fz p ∧ DenL G Wi accV accD ∧
    compL flds keep c1.length gd (turnF t cond A vs env) (fun ds c2 => newL m ds c2 Q0) (xs.drop i) accD ci,
    ⟨xs.length, by simp, Nat.zero_le _, ?_⟩, ?_⟩
  · obtain ⟨x2, ok2⟩ := ok1.alloc hp (.lst [])
    refine ⟨_, c1, [], [], rfl, x2, ok2, fun _ => rfl, upd_same, fun hm => ?_, fun hf => ?_, .nil, by rw [List.drop_zero]; exact k⟩
    · obtain ⟨o, e1, _⟩ := ok1.mem hm
      rw [hp] at e1; cases e1
    · obtain ⟨o, e1⟩ := ok1.fzt p hf
      rw [hp] at e1; cases e1
  · rintro i m' Hi ⟨rfl, hi, Wi, ci, accV, accD, rfl, xi, oki, hkl, hD, hDa, hDf, dacc, kc⟩
    have hgd := compL_gd kc
    obtain ⟨itg, its⟩ := it Wi ci (xi.frS (Nat.le_refl _)) oki hgd
    by_cases hlt : i < xs.length
    · refine .inr ?_
      have hx : xs[i]? = some xs[i] := List.getElem?_eq_getElem hlt
      obtain ⟨go, yl⟩ := itg i _ hx
      rw [List.drop_eq_getElem_cons hlt] at kc
      obtain ⟨_, hlen, kc⟩ := kc
      -- one item more, or none
      have keepD : ∀ {W' : Wd}, Fr Wi W' → W'.H p = some (.lst accV) ∧ p ∉ W'.as ∧ ¬ W'.Fz p := by
        intro W' y
        refine ⟨y.keep p _ hD hDa, ?_, ?_⟩
        · intro hm
          rcases y.new p hm with z | z
          · exact hDa z
          · rw [hD] at z; cases z
        · intro hf
          rcases y.fzn p hf with z | z | z
          · exact hDf z
          · rw [hD] at z; cases z
          · exact hDa z
      refine ⟨go, fun H' => i + 1 ≤ xs.length ∧ ∃ Wi ci accV accD, Wi.H = H' ∧ Ext W1 Wi ∧ Ok G Wi ci ∧ (keep = false → ci.length = c1.length) ∧ Wi.H p = some (.lst accV) ∧ p ∉ Wi.as ∧ ¬ Wi.Fz p ∧ DenL G Wi accV accD ∧
        compL flds keep c1.length gd (turnF t cond A vs env) (fun ds c2 => newL m ds c2 Q0) (xs.drop (i + 1)) accD ci,
        fun H' hN => ⟨xs.length - (i + 1), by omega, rfl, hN.1, hN.2⟩, fun v H' hy => ?_⟩
      obtain ⟨W2, rfl, x2, ok2, dn⟩ := yl v H' hy
      have x12 := xi.trans x2
      have eo2 : EnvOk G W2 (wipe σ vs) (wipeE env vs) := envOk_wipeE (eo1.mono ok1 x12) vs
      refine ⟨W2, ci, wipeE env vs, _, _, rfl, ok2, eo2, dn, kc, fun σ2 env2 eo3 off k2 => ⟨wipe_off off hsl, ?_⟩⟩
      refine ⟨W2, ci, env2, _, _, rfl, ok2, eo3, k2, fun bb H3 ⟨W3, c3, e3, x3, ok3, k3⟩ => ?_, fun cls dd H' ⟨_, _, _, _, _, _, _, _, _, f⟩ => f.elim⟩
      subst e3
      cases bb with
      | true =>
        rw [if_pos rfl]
        refine ⟨W3, c3, env2, _, _, rfl, ok3, eo3.mono ok2 x3, k3, fun y H4 ⟨W4, c4, d4, e4, x4, ok4, dn4, k4⟩ => ?_, fun cls dd H' ⟨_, _, _, _, _, _, _, _, _, f⟩ => f.elim⟩
        subst e4
        have x24 := (x2.trans x3).trans x4
        have k4' : cl flds keep c1.length c4 fun f c'' => compL flds keep c1.length gd (turnF t cond A vs env) (fun ds c2 => newL m ds c2 Q0) (xs.drop (i + 1)) (accD ++ [f d4]) c'' := k4
        obtain ⟨W5, f, c5, e5, z1, z2, ok5, l5, d5, dacc5, k5⟩ := turn_end hf ok1 oki ok4 xi x24 hkl dacc k4'
        obtain ⟨d1, d2, d3⟩ := keepD z2
        obtain ⟨y1, y2, mv⟩ := ok5.poke (o' := .lst (accV ++ [y])) z1 hp d1 (fun _ z => nomatch z) d2 d3
        rw [← e5]
        refine ⟨accV, d1, by rw [line_eq, dacc.length]; exact hlen, hlt, _, c5, _, _, rfl, y1, y2, l5, upd_same, d2, d3, ?_, k5⟩
        exact (dacc5.mono0 mv fun _ _ h => h).append (.cons ((d5 dn4).mono0 mv fun _ _ h => h) .nil)
      | false =>
        rw [if_neg Bool.false_ne_true]
        have x23 := x2.trans x3
        have k3' : cl flds keep c1.length c3 fun f c'' => compL flds keep c1.length gd (turnF t cond A vs env) (fun ds c2 => newL m ds c2 Q0) (xs.drop (i + 1)) accD c'' := k3
        obtain ⟨W5, f, c5, e5, z1, z2, ok5, l5, d5, dacc5, k5⟩ := turn_end hf ok1 oki ok3 xi x23 hkl dacc k3'
        obtain ⟨d1, d2, d3⟩ := keepD z2
        exact ⟨hlt, W5, c5, accV, accD, e5, z1, ok5, l5, d1, d2, d3, dacc5, k5⟩
    · have hie : i = xs.length := by omega
      refine .inl ⟨its i (by omega), ?_⟩
      rw [hie, List.drop_length] at kc
      obtain ⟨y1, y2, mv⟩ := oki.lose xi hp hD (fun _ z => nomatch z) hDa hDf
      have z := newL_ok y2 (dacc.mono0 mv fun _ _ h => h) kc.2 (fun v H' p => q v H' ((p.up y1).up x1)) p dl_same
      rwa [upd_dl hD] at z
theorem bop_nil {k : Bool} {env : En} {c : Cs} {Q : QE} {X : QX} : wpBop I k .nil env c Q X ↔ False := Iff.rfl
end
end F

namespace F
open PySem PySem.Spec L2
section
variable {G : GI} {I : CI} {lv : Nat} {Wx : WX} {sc : Scope} {N : List Str} {fnB : Str → Bool} {X : Cx} {a b e : Expr} {pos : Pos} {A B C : FA1}

abbrev cellB (scope : Scope) : Str → Bool := fun x => scope.names.lookup x == some .cell
theorem xok_blk (o : XOk G I lv Wx sc N fnB X) (s : Shared) (H : Hp) (scope : Scope) (D : Addr) (cl : List (Str × Addr)) (fp : List Addr) :
    XOk G I lv W00 (relS scope sc) N (cellB scope) (X.blk s H scope (compEnvC scope cl D X.env) fp) where
  hK := o.hK
  hmg := o.hmg
  hN := o.hN
  nd := o.nd
  hsc := by show (compEnvC scope cl D X.env).scope = _; rw [← o.hsc]; rfl
  calm := o.calm
  room := o.room
  tk := takes00
  fnb := fun _ h => h
  glob := o.glob
theorem pts0 : PTs X [] (liftB G Wx (wpCs I .nil)) := ⟨fun pins s σ H Q J h => pts_nil.run pins s σ H Q J (by
  obtain ⟨W, c, env, Q0, X0, e, ok, eo, h, q, x⟩ := h
  exact q true H ⟨W, c, e, Ext.refl W, ok, h⟩)⟩
theorem pts1 {t : Expr} {T : FC} (h : PT X t (liftB G Wx (wpC I T))) : PTs X [t] (liftB G Wx (wpCs I (.cons T .nil))) := pts_one h
theorem se_comp (o : XOk G I lv Wx sc N fnB X) {m keep : Bool} {t : FT} {it : FI} {cond : FCs} {el : FE} {vs : List (Str × Nat)} {elt tg iter : Expr} {ifs : List Expr} {scope : Scope}
    (hb : blkC N sc scope vs = true) (hsl : ∀ j ∈ ftSl t, j ∈ vs.map (·.2)) (hns : notSet iter = true) (hi : PI X tg iter (liftI G Wx (wpI I it)))
    (hg : ∀ X', XOk G I lv W00 (relS scope sc) N (cellB scope) X' → PG X' tg (liftG G (ftSl t) (wpT t)))
    (ht : ∀ X', XOk G I lv W00 (relS scope sc) N (cellB scope) X' → PTs X' ifs (liftB G W00 (wpCs I cond)))
    (he : ∀ X', XOk G I lv W00 (relS scope sc) N (cellB scope) X' → PE X' elt (lift G W00 (wpE I el))) :
    PE X (.ListComp elt [⟨tg, iter, ifs, 0⟩] scope pos) (lift G Wx (wpE I (.comp m keep t it cond el vs))) := by
  have hbk : BlkOk X.N X.env.scope scope vs := blkOk_by (by rw [o.hN, o.hsc]; exact hb)
  refine PE.imp (pe_lc o.calm (by rw [o.hN]; exact o.nd) hi hbk (fun s H D cl fp => hg _ (xok_blk o s H scope D cl fp)) (fun s H D cl fp => ht _ (xok_blk o s H scope D cl fp)) (fun s H D cl fp => he _ (xok_blk o s H scope D cl fp)) (folded_of hns)) fun σ H Q h => ?_
  exact co_red o.glob.flds o.hK hsl h
/-- y = [..] -/
def swC (N : List Str) (sc scope : Scope) (y : Str) (l l' : Nat) : Bool :=
  (match sc.kind with | .function => true | _ => false) && (match sc.names.lookup y with | some .local => true | _ => false) && (l == l') && !(scope.names.any fun (n, k) => n == y && (k == .local || k == .cell))
theorem ss_setC (o : XOk G I lv Wx sc N fnB X) {i : Nat} {y : Str} {py spos : Pos} {m keep : Bool} {t : FT} {it : FI} {cond : FCs} {el : FE} {vs : List (Str × Nat)} {elt tg iter : Expr} {ifs : List Expr} {scope : Scope}
    (hy : N[i]? = some y) (hsw : swC N sc scope y py.line pos.line = true) (hb : blkC N sc scope vs = true) (hsl : ∀ j ∈ ftSl t, j ∈ vs.map (·.2)) (hns : notSet iter = true) (hi : PI X tg iter (liftI G Wx (wpI I it)))
    (hg : ∀ X', XOk G I lv W00 (relS scope sc) N (cellB scope) X' → PG X' tg (liftG G (ftSl t) (wpT t)))
    (ht : ∀ X', XOk G I lv W00 (relS scope sc) N (cellB scope) X' → PTs X' ifs (liftB G W00 (wpCs I cond)))
    (he : ∀ X', XOk G I lv W00 (relS scope sc) N (cellB scope) X' → PE X' elt (lift G W00 (wpE I el))) :
    PS X (.Assign [.Name y py] (.ListComp elt [⟨tg, iter, ifs, 0⟩] scope pos) spos) (tAsg (lift G Wx (wpE I (.comp m keep t it cond el vs))) (gName i)) := by
  have hbk : BlkOk X.N X.env.scope scope vs := blkOk_by (by rw [o.hN, o.hsc]; exact hb)
  unfold swC at hsw
  simp only [Bool.and_eq_true, Bool.not_eq_true'] at hsw
  obtain ⟨⟨⟨h1, h2⟩, h3⟩, h4⟩ := hsw
  have k1 : X.env.scope.kind = .function := by
    rw [o.hsc]
    split at h1
    · assumption
    · cases h1
  have k2 : X.env.scope.names.lookup y = some .local := by
    rw [o.hsc]
    split at h2
    · assumption
    · cases h2
  have z := ps_setLc o.calm (by rw [o.hN]; exact o.nd) (by rw [o.hN]; exact hy) k2 (sw_true (l := spos.line) k1 k2 h3 h4) hi hbk (fun s H D cl fp => hg _ (xok_blk o s H scope D cl fp)) (fun s H D cl fp => ht _ (xok_blk o s H scope D cl fp)) (fun s H D cl fp => he _ (xok_blk o s H scope D cl fp)) (folded_of hns)
  exact ⟨fun pins s σ H D J h => z.run pins s σ H D J (co_red o.glob.flds o.hK hsl h)⟩

theorem se_bop1 {op : BoolOp} (ha : PE X a (lift G Wx A)) : PE X (.BoolOp op [a] pos) (lift G Wx A) := pe_one ha
abbrev bopF (k : Bool) (A B : FA1) : FA1 := fun env c Q X => A env c (fun d c1 => match d with
    | .bl b => sIf b (match k with | true => B env c1 Q X | false => Q (.bl true) c1) (match k with | true => Q (.bl false) c1 | false => B env c1 Q X)
    | _ => False) X
theorem se_and {rest : List Expr} (ha : PE X a (lift G Wx A)) (hb : PE X (.BoolOp .And (b :: rest) pos) (lift G Wx B)) : PE X (.BoolOp .And (a :: b :: rest) pos) (lift G Wx (bopF true A B)) := by
  refine PE.imp (pe_and ha hb) fun σ H Q h => ?_
  obtain ⟨W, c, env, Q0, X0, e, ok, eo, h, q, x⟩ := h
  refine ⟨W, c, env, _, X0, e, ok, eo, h, fun v H' ⟨W1, c1, d, e1, x1, ok1, dn, k⟩ => ?_, x⟩
  cases dn with
  | @bl b =>
    refine ⟨b, rfl, ?_⟩
    cases b with
    | true => rw [if_pos rfl]; exact ⟨W1, c1, env, Q0, X0, e1, ok1, eo.mono ok x1, k, fun v H' p => q v H' (p.up x1), fun cls dd H' p => x cls dd H' (p.up x1)⟩
    | false => rw [if_neg Bool.false_ne_true]; exact q _ _ ⟨W1, c1, _, e1, x1, ok1, .bl, k⟩
  | _ => exact k.elim
theorem se_or {rest : List Expr} (ha : PE X a (lift G Wx A)) (hb : PE X (.BoolOp .Or (b :: rest) pos) (lift G Wx B)) : PE X (.BoolOp .Or (a :: b :: rest) pos) (lift G Wx (bopF false A B)) := by
  refine PE.imp (pe_or ha hb) fun σ H Q h => ?_
  obtain ⟨W, c, env, Q0, X0, e, ok, eo, h, q, x⟩ := h
  refine ⟨W, c, env, _, X0, e, ok, eo, h, fun v H' ⟨W1, c1, d, e1, x1, ok1, dn, k⟩ => ?_, x⟩
  cases dn with
  | @bl b =>
    refine ⟨b, rfl, ?_⟩
    cases b with
    | false => rw [if_neg Bool.false_ne_true]; exact ⟨W1, c1, env, Q0, X0, e1, ok1, eo.mono ok x1, k, fun v H' p => q v H' (p.up x1), fun cls dd H' p => x cls dd H' (p.up x1)⟩
    | true => rw [if_pos rfl]; exact q _ _ ⟨W1, c1, _, e1, x1, ok1, .bl, k⟩
  | _ => exact k.elim
abbrev bcF (k : Bool) (A B : FAB) : FAB := fun env c Q X => A env c (fun b c1 =>
      sIf b (match k with | true => B env c1 Q X | false => Q true c1) (match k with | true => Q false c1 | false => B env c1 Q X)) X
theorem sc_and {A B : FAB} {rest : List Expr} (ha : PT X a (liftB G Wx A)) (hb : PW X (.BoolOp .And (b :: rest) pos) (liftB G Wx B)) : PW X (.BoolOp .And (a :: b :: rest) pos) (liftB G Wx (bcF true A B)) := by
  refine ⟨fun wh pins s σ H Q J h => (pw_and ha hb).run wh pins s σ H Q J ?_⟩
  obtain ⟨W, c, env, Q0, X0, e, ok, eo, h, q, x⟩ := h
  refine ⟨W, c, env, _, X0, e, ok, eo, h, fun b H' ⟨W1, c1, e1, x1, ok1, k⟩ => ?_, x⟩
  cases b with
  | true => rw [if_pos rfl]; exact ⟨W1, c1, env, Q0, X0, e1, ok1, eo.mono ok x1, k, fun v H' ⟨W2, c2, e2, x2, ok2, k2⟩ => q v H' ⟨W2, c2, e2, x1.trans x2, ok2, k2⟩, fun cls dd H' p => x cls dd H' (p.up x1)⟩
  | false => rw [if_neg Bool.false_ne_true]; exact q _ _ ⟨W1, c1, e1, x1, ok1, k⟩
theorem sc_or {A B : FAB} {rest : List Expr} (ha : PT X a (liftB G Wx A)) (hb : PW X (.BoolOp .Or (b :: rest) pos) (liftB G Wx B)) : PW X (.BoolOp .Or (a :: b :: rest) pos) (liftB G Wx (bcF false A B)) := by
  refine ⟨fun wh pins s σ H Q J h => (pw_or ha hb).run wh pins s σ H Q J ?_⟩
  obtain ⟨W, c, env, Q0, X0, e, ok, eo, h, q, x⟩ := h
  refine ⟨W, c, env, _, X0, e, ok, eo, h, fun b H' ⟨W1, c1, e1, x1, ok1, k⟩ => ?_, x⟩
  cases b with
  | false => rw [if_neg Bool.false_ne_true]; exact ⟨W1, c1, env, Q0, X0, e1, ok1, eo.mono ok x1, k, fun v H' ⟨W2, c2, e2, x2, ok2, k2⟩ => q v H' ⟨W2, c2, e2, x1.trans x2, ok2, k2⟩, fun cls dd H' p => x cls dd H' (p.up x1)⟩
  | true => rw [if_pos rfl]; exact q _ _ ⟨W1, c1, e1, x1, ok1, k⟩
theorem sc_and1 {A : FAB} (ha : PT X a (liftB G Wx A)) : PW X (.BoolOp .And [a] pos) (liftB G Wx A) := pw_and1 ha
theorem sc_or1 {A : FAB} (ha : PT X a (liftB G Wx A)) : PW X (.BoolOp .Or [a] pos) (liftB G Wx A) := pw_or1 ha

def tyVal (G : GI) : Ty → Value
  | .bt x => .type x
  | .cls k => .ref (G.cls k)
def tyV (G : GI) : Ty → V
  | .bt x => .ty x
  | .cls k => .ref (G.cls k)
theorem cls_v {t : Ty} : ClsV (tyV G t) (tyVal G t) := by
  cases t with
  | bt x => exact .ty x
  | cls k => exact .own _
def tyTab : List (String × Str) := [("int", "int"), ("bool", "bool"), ("list", "list"), ("tuple", "tuple"), ("str", "str"), ("dict", "dict")]
def tyOkE (I : CI) (sc : Scope) : Ty → Expr → Bool
  | .bt x, .Name y _ => ((x, y) ∈ tyTab) && glB sc y
  | .cls k, .Name y _ => decide (k < I.nk) && decide (I.kname k = y) && glB sc y
  | _, _ => false
theorem se_ty (o : XOk G I lv Wx sc N fnB X) {t : Ty} (h : tyOkE I sc t e = true) : PE X e (tC (tyV G t)) := by
  unfold tyOkE at h
  split at h
  · rename_i x y p
    simp only [Bool.and_eq_true, decide_eq_true_eq] at h
    obtain ⟨h1, h3⟩ := h
    obtain ⟨g, hd, hn⟩ := gl_of o h3
    have hv : bootBuiltins y = some (.type x) := by
      have : ∀ q ∈ tyTab, bootBuiltins q.2 = some (.type q.1) := by decide +kernel
      exact this (x, y) h1
    have hm : y ∈ blNames := by
      have : ∀ q ∈ tyTab, q.2 ∈ blNames := by decide +kernel
      exact this (x, y) h1
    exact pe_bltn g (by rw [o.hmg]; exact o.glob.bl y hm) hv rfl hn hd
  · rename_i k y p
    simp only [Bool.and_eq_true, decide_eq_true_eq] at h
    obtain ⟨⟨h1, h2⟩, h3⟩ := h
    obtain ⟨g, hd, hn⟩ := gl_of o h3
    have hm := o.glob.kn k h1
    rw [h2] at hm
    exact pe_glob g (by rw [o.hmg]; exact hm) rfl hd
  · cases h
theorem ty_den {W : Wd} {c : Cs} (K1 : ∀ k, k < I.nk → KIs G.K (G.cls k)) (ok : Ok G W c) {v : V} {d : D} {t : Ty} (dn : Den G W v d) (h : tyD c d = some t) (hk : ∀ k, t = .cls k → k < I.nk) : TyX G.K W.H v (tyVal G t) := by
  cases dn with
  | non => simp only [tyD] at h; cases h; exact .base .non
  | bl => simp only [tyD] at h; cases h; exact .base (.bl _)
  | int => simp only [tyD] at h; cases h; exact .base (.int _)
  | str => simp only [tyD] at h; cases h; exact .base (.str _)
  | tup q _ =>
    simp only [tyD] at h; cases h
    rcases q with q | ⟨ob, its, n, q, qc, _⟩
    · exact .base (.tup q)
    · exact .kTuple q qc
  | lst q _ => simp only [tyD] at h; cases h; exact .base (.lst q.2)
  | scr q _ =>
    simp only [tyD] at h; cases h
    rcases q with ⟨_, ob, q⟩ | ⟨ob, its, n, q, qc, _⟩
    · exact .base (.frz q)
    · exact .kList q qc
  | dctK _ q _ _ => simp only [tyD] at h; cases h; exact .base (.dK q)
  | @obj a k dx gs fs _ q _ _ =>
    simp only [tyD] at h; cases h
    have z := K1 k (hk k rfl)
    exact .base (.ins q z.cl z.ha z.hn z.htk z.hm)
  | @cell a n ha =>
    obtain ⟨y, hy, ca⟩ := ok.at ha
    simp only [tyD, hy] at h
    cases y with
    | lst ds => cases h; obtain ⟨vs, q1, q2⟩ := ca; exact .base (.lst q1)
    | dct ks ds => cases h; obtain ⟨kvs, q1, q2, q3⟩ := ca; exact .base (.dK q1)
    | obj k fs =>
      cases h
      obtain ⟨dx, gs, q1, q2, q3⟩ := ca
      have z := K1 k (hk k rfl)
      exact .base (.ins q1 z.cl z.ha z.hn z.htk z.hm)
  | ty => simp only [tyD] at h; cases h
  | ref => simp only [tyD] at h; cases h
def tyN2 : List String := ["int", "bool", "list", "tuple", "str", "dict"]
theorem kit_bt : ∀ a ∈ tyNames, ∀ b ∈ tyN2, kitB a b = some (tySub (.bt a) (.bt b)) := by decide +kernel
def tyIn2 (I : CI) : Ty → Bool
  | .bt x => x ∈ tyN2
  | .cls k => decide (k < I.nk)
theorem kit_sub (o : GOk G I lv P w base) {t u : Ty} (ht : tyIn I t = true) (hu : tyIn2 I u = true) : PySem.W.kitOne G.K (tyVal G t) (tyVal G u) = some (tySub t u) := by
  cases t with
  | bt x =>
    have ht' : x ∈ tyNames := of_decide_eq_true ht
    cases u with
    | bt y => exact kit_ty (kit_bt x ht' y (of_decide_eq_true hu))
    | cls j => exact o.ktk j (of_decide_eq_true hu) x ht'
  | cls k =>
    have ht' := of_decide_eq_true ht
    cases u with
    | bt y =>
      have h2 : ∀ b ∈ tyN2, b ∈ tyNames := by decide +kernel
      exact o.kkt k ht' y (h2 y (of_decide_eq_true hu))
    | cls j => exact o.kkk k j ht' (of_decide_eq_true hu)
theorem kit_any (o : GOk G I lv P w base) {t : Ty} (ht : tyIn I t = true) : ∀ {us : List Ty}, us.all (tyIn2 I) = true → PySem.W.kitAny G.K (tyVal G t) (us.map (tyVal G)) = some (us.any (tySub t))
  | [], _ => kitAny_nil
  | u :: us, h => by
    rw [List.all_cons, Bool.and_eq_true] at h
    rw [List.map_cons, List.any_cons]
    refine kitAny_cons (kit_sub o ht h.1) (fun e => ?_) fun e => ?_
    · rw [e, Bool.false_or]; exact kit_any o ht h.2
    · rw [e, Bool.true_or]
theorem tyOkE_in {t : Ty} (h : tyOkE I sc t e = true) : tyIn2 I t = true := by
  unfold tyOkE at h
  split at h
  · simp only [Bool.and_eq_true, decide_eq_true_eq] at h
    have : ∀ q ∈ tyTab, q.1 ∈ tyN2 := by decide +kernel
    exact decide_eq_true (this _ h.1)
  · simp only [Bool.and_eq_true, decide_eq_true_eq] at h
    exact decide_eq_true h.1.1
  · cases h
abbrev isF (I : CI) (A : FA1) (ts : List Ty) : FA1 := fun env c Q X => A env c (fun d c1 => onO (tyD c1 d) fun t => tyIn I t = true ∧ Q (.bl (ts.any (tySub t))) c1) X
theorem se_isi1 (o : XOk G I lv Wx sc N fnB X) {t : Ty} {p : Pos} (hg : glB sc "isinstance" = true) (hn : noStar a = true) (ht : tyOkE I sc t e = true) (ha : PE X a (lift G Wx A)) : PE X (.Call (.Name "isinstance" p) [a, e] [] pos) (lift G Wx (isF I A [t])) := by
  obtain ⟨g, hd, hnn⟩ := gl_of o hg
  have hes : noStar e = true := by
    unfold tyOkE at ht
    split at ht <;> first | rfl | cases ht
  refine PE.imp (pe_callBN call_isi g (by rw [o.hmg]; exact o.glob.bl _ (by decide +kernel)) (by decide +kernel) (pa_consN hn ha (pa_consN hes (se_ty o ht) pa_nil)) hnn hd (by rw [List.all_cons, List.all_cons, hn, hes]; rfl)) fun σ H Q h => ?_
  obtain ⟨W, c, env, Q0, X0, e, ok, eo, h, q, x⟩ := h
  refine ⟨W, c, env, _, X0, e, ok, eo, h, fun v H' ⟨W1, c1, d, e1, x1, ok1, dn, k⟩ => ?_, x⟩
  obtain ⟨u, hu, k1, k2⟩ := onO_of k
  subst e1
  refine ⟨v, tyV G t, tyVal G u, tyVal G t, tySub u t, rfl, cls_v, ?_, ?_, ?_⟩
  · rw [o.hK]
    exact ty_den (I := I) o.glob.kis ok1 dn hu fun k ek => by subst ek; exact of_decide_eq_true k1
  · rw [o.hK]; exact kit_sub o.glob k1 (tyOkE_in ht)
  · rw [List.any_cons, List.any_nil, Bool.or_false] at k2
    exact q _ _ ⟨W1, c1, _, rfl, x1, ok1, .bl, k2⟩
def tyOkEs (I : CI) (sc : Scope) : List Ty → List Expr → Bool
  | [], [] => true
  | t :: ts, e :: es => tyOkE I sc t e && tyOkEs I sc ts es
  | _, _ => false
theorem tyOkEs_in : ∀ {ts : List Ty} {es : List Expr}, tyOkEs I sc ts es = true → ts.all (tyIn2 I) = true
  | [], [], _ => rfl
  | t :: ts, e :: es, h => by
    unfold tyOkEs at h
    rw [Bool.and_eq_true] at h
    rw [List.all_cons, tyOkE_in h.1, tyOkEs_in h.2]; rfl
  | [], _ :: _, h => by cases h
  | _ :: _, [], h => by cases h
def tTys (G : GI) (ts : List Ty) : TA := fun _ H Q => Q (ts.map (tyV G)) H
theorem sa_tys (o : XOk G I lv Wx sc N fnB X) : ∀ {ts : List Ty} {es : List Expr}, tyOkEs I sc ts es = true → PA X es (tTys G ts) ∧ es.all noStar = true
  | [], [], _ => ⟨pa_nil, rfl⟩
  | t :: ts, e :: es, h => by
    unfold tyOkEs at h
    rw [Bool.and_eq_true] at h
    have hes : noStar e = true := by
      have ht := h.1
      unfold tyOkE at ht
      split at ht <;> first | rfl | cases ht
    obtain ⟨h1, h2⟩ := sa_tys o h.2
    exact ⟨pa_consN hes (se_ty o h.1) h1, by rw [List.all_cons, hes, h2]; rfl⟩
  | [], _ :: _, h => by cases h
  | _ :: _, [], h => by cases h
theorem se_isiT (o : XOk G I lv Wx sc N fnB X) {ts : List Ty} {es : List Expr} {p p2 : Pos} {k0 : Nat} (hg : glB sc "isinstance" = true) (hn : noStar a = true) (ht : tyOkEs I sc ts es = true) (hl : ts.length ≤ 1000) (ha : PE X a (lift G Wx A)) :
    PE X (.Call (.Name "isinstance" p) [a, .Tuple es k0 p2] [] pos) (lift G Wx (isF I A ts)) := by
  obtain ⟨g, hd, hnn⟩ := gl_of o hg
  obtain ⟨h1, h2⟩ := sa_tys o ht
  refine PE.imp (pe_callBN call_isiT g (by rw [o.hmg]; exact o.glob.bl _ (by decide +kernel)) (by decide +kernel) (pa_consN hn ha (pa_consN rfl (pe_tup h1) pa_nil)) hnn hd (by rw [List.all_cons, List.all_cons, hn]; rfl)) fun σ H Q h => ?_
  obtain ⟨W, c, env, Q0, X0, e, ok, eo, h, q, x⟩ := h
  refine ⟨W, c, env, _, X0, e, ok, eo, h, fun v H' ⟨W1, c1, d, e1, x1, ok1, dn, k⟩ => ?_, x⟩
  obtain ⟨u, hu, k1, k2⟩ := onO_of k
  subst e1
  refine ⟨by rw [List.length_map, line_eq]; omega, fun tp htp => ?_⟩
  obtain ⟨x2, ok2⟩ := ok1.alloc htp (.tup (ts.map (tyV G)))
  have hall : ts.all (tyIn2 I) = true := tyOkEs_in ht
  have hp : ∀ us : List Ty, Paired ClsV (us.map (tyV G)) (us.map (tyVal G)) := fun us => by
    induction us with
    | nil => exact .nil
    | cons u us ih => exact .cons cls_v ih
  refine ⟨v, tp, ts.map (tyV G), tyVal G u, ts.map (tyVal G), ts.any (tySub u), rfl, upd_same, hp ts, ?_, ?_, ?_⟩
  · rw [o.hK]
    have z := ty_den (I := I) o.glob.kis ok2 (dn.mono ok1 x2) hu fun k ek => by subst ek; exact of_decide_eq_true k1
    exact z
  · rw [o.hK]; exact kit_any o.glob k1 hall
  · exact q _ _ (Post.up x1 ⟨_, c1, _, rfl, x2, ok2, .bl, k2⟩)
theorem newD_ok {W : Wd} {c : Cs} {m : Bool} {p : Addr} {kvs : List (Key × V)} {ks vs : List D} {Q0 : QE} {Q : VK} (ok : Ok G W c) (hp : W.H p = none) (dk : DenL G W (kvs.map fun p => kV p.1) ks) (dv : DenL G W (kvs.map (·.2)) vs)
    (k : newD m ks vs c Q0) (q : ∀ v H', Post G W Q0 v H' → Q v H') : Q (.ref p) (upd W.H p (.dK kvs)) := by
  cases m with
  | true =>
    obtain ⟨x, ok1⟩ := ok.alloc hp (.dK kvs)
    have hc : CellAt G (W.cellAt p (.dK kvs)) p (.dct ks vs) := by
      obtain ⟨x2, _⟩ := ok.allocC hp (.dK []) (y := .dct [] []) ⟨[], upd_same, .nil, .nil⟩
      have mv : Mv W (W.cellAt p (.dK kvs)) := ⟨fun b xs h => by
        show upd _ _ _ _ = _
        rw [upd_ne (ne_of_none h hp)]; exact h, fun b u f h => by
        show upd _ _ _ _ = _
        rw [upd_ne (ne_of_none h hp)]; exact h, fun b h => h⟩
      refine ⟨kvs, upd_same, dk.mono0 mv fun n a h => ?_, dv.mono0 mv fun n a h => ?_⟩ <;> exact x2.get h
    obtain ⟨x3, ok3⟩ := ok.allocC hp (.dK kvs) hc
    refine q _ _ ⟨_, _, _, rfl, x3, ok3, .cell ?_, k⟩
    show (W.as ++ [p])[c.length]? = some p
    rw [← ok.len, List.getElem?_append_right (Nat.le_refl _)]
    simp
  | false =>
    obtain ⟨x3, ok3⟩ := ok.allocF hp (.dK kvs)
    exact q _ _ ⟨_, _, _, rfl, x3, ok3, .dctK (.inl rfl) upd_same (dk.mono ok x3) (dv.mono ok x3), k⟩
theorem se_dct0 {m : Bool} : PE X (.Dict [] [] pos) (lift G Wx (wpE I (.dct0 m))) := by
  refine PE.imp pe_dnewK fun σ H Q ⟨W, c, env, Q0, X0, e, ok, eo, h, q, x⟩ => ?_
  subst e
  intro p hp
  exact newD_ok (kvs := []) ok hp .nil .nil h q
theorem key_den {W : Wd} {v : V} {d : D} (dn : Den G W v d) (h : isKey d = true) : ∃ k, v = kV k := by
  unfold isKey at h
  split at h
  · cases dn; exact ⟨.inl _, rfl⟩
  · cases dn; exact ⟨.inr _, rfl⟩
  · cases h
abbrev d1F (m : Bool) (A B : FA1) : FA1 := fun env c Q X => A env c (fun x c1 => B env c1 (fun y c2 => isKey x = true ∧ newD m [x] [y] c2 Q) X) X
theorem se_dct1 {m : Bool} (ha : PE X a (lift G Wx A)) (hb : PE X b (lift G Wx B)) : PE X (.Dict [some a] [b] pos) (lift G Wx (d1F m A B)) := by
  refine PE.imp (pe_disp (pps_cons ha hb pps_nil) rfl rfl (by simp) (by simp)) fun σ H Q ⟨W, c, env, Q0, X0, e, ok, eo, h, q, x⟩ => ?_
  subst e
  intro p hp
  obtain ⟨x0, ok0⟩ := ok.alloc hp (.dK [])
  refine ⟨_, c, env, _, X0, rfl, ok0, eo.mono ok x0, h, fun v H' ⟨W1, c1, d, e1, x1, ok1, dn, k⟩ => ?_, fun cls dd H' p => x cls dd H' (p.up x0)⟩
  refine ⟨W1, c1, env, _, X0, e1, ok1, (eo.mono ok x0).mono ok0 x1, k, fun v2 H2 ⟨W2, c2, d2, e2, x2, ok2, dn2, k2⟩ => ?_, fun cls dd H' p => x cls dd H' ((p.up x1).up x0)⟩
  subst e2
  have x12 := x1.trans x2
  have hD : W2.H p = some (.dK []) := x12.keep p _ upd_same fun hm => by
    obtain ⟨o, e3, _⟩ := ok.mem hm
    rw [hp] at e3; cases e3
  obtain ⟨kk, rfl⟩ := key_den dn k2.1
  refine ⟨hD, [(kk, v2)], rfl, by simp, ?_⟩
  have hDa : p ∉ W2.as := fun hm => by
    rcases x12.new p hm with z | z
    · have z' : p ∈ W.as := z
      obtain ⟨o, e3, _⟩ := ok.mem z'
      rw [hp] at e3; cases e3
    · have z' : upd W.H p (.dK []) p = none := z
      rw [upd_same] at z'; cases z'
  have hDf : ¬ W2.Fz p := fun hf => by
    rcases x12.fzn p hf with z | z | z
    · obtain ⟨o, e3⟩ := ok.fzt p z
      rw [hp] at e3; cases e3
    · have z' : upd W.H p (.dK []) p = none := z
      rw [upd_same] at z'; cases z'
    · obtain ⟨o, e3, _⟩ := ok.mem z
      rw [hp] at e3; cases e3
  obtain ⟨y1, y2, mv⟩ := ok2.lose (x0.trans x12) hp hD (fun _ z => nomatch z) hDa hDf
  have dk : DenL G { W2 with H := dl W2.H p } [kV kk] [d] := .cons ((dn.mono ok1 x2).mono0 mv fun _ _ h => h) .nil
  have dv : DenL G { W2 with H := dl W2.H p } [v2] [d2] := .cons (dn2.mono0 mv fun _ _ h => h) .nil
  have z := newD_ok (kvs := [(kk, v2)]) y2 dl_same dk dv k2.2 (fun v H' p => q v H' (p.up y1))
  have e9 : upd (dl W2.H p) p (.dK [(kk, v2)]) = upd W2.H p (.dK (mergeK [] [(kk, v2)])) := by
    funext b
    by_cases hb : b = p
    · subst hb; rw [upd_same, upd_same]; rfl
    · rw [upd_ne hb, upd_ne hb, dl_ne hb]
  rwa [e9] at z
end
end F

namespace F
open PySem PySem.Spec L2

abbrev FAS := Nat → FEnds → EX → En → Cs → Prop
def SPost (G : GI) (np : Nat) (W : Wd) (K : En → Cs → Prop) : L2.St → Hp → Prop := fun σ' H' => ∃ W' c' env', W'.H = H' ∧ FrS np W W' ∧ Ok G W' c' ∧ EnvOk G W' σ' env' ∧ K env' c'
def RPost (G : GI) (np : Nat) (W : Wd) (K : QE) : V → Hp → Prop := fun v H' => ∃ W' c' d, W'.H = H' ∧ FrS np W W' ∧ Ok G W' c' ∧ Den G W' v d ∧ K d c'
def SXPost (G : GI) (np : Nat) (W : Wd) (X0 : EX) : Value → Option Addr → L2.St → Hp → Prop := fun cls dd σ' H' => ∃ W' c' env' k fs, W'.H = H' ∧ FrS np W W' ∧ Ok G W' c' ∧ EnvOk G W' σ' env' ∧ cls = .ref (G.exc k) ∧ ExcD G W' dd k fs ∧ X0 k fs env' c'
structure SOut (G : GI) (Wx : WX) (np : Nat) (W : Wd) (E : FEnds) (X0 : EX) (D : Ends) : Prop where
  nx : ∀ σ' H', SPost G np W E.nx σ' H' → D.nx σ' H'
  rt : ∀ v H', RPost G np W E.rt v H' → D.rt v H'
  bk : ∀ σ' H', SPost G np W E.bk σ' H' → D.bk σ' H'
  ct : ∀ σ' H', SPost G np W E.ct σ' H' → D.ct σ' H'
  ex : ∀ cls dd σ' H', SXPost G np W X0 cls dd σ' H' → Wx cls dd σ' H'
def liftS (G : GI) (Wx : WX) (np : Nat) (T : FAS) : TS := fun D σ H => ∃ W c env E X0, W.H = H ∧ np ≤ c.length ∧ Ok G W c ∧ EnvOk G W σ env ∧ T np E X0 env c ∧ SOut G Wx np W E X0 D
theorem PS.imp {X : Cx} {s : Stmt} {t t' : TS} (h : PS X s t) (i : ∀ D σ H, t' D σ H → t D σ H) : PS X s t' := ⟨fun pins s σ H D I hw => h.run pins s σ H D I (i _ _ _ hw)⟩
theorem PSs.imp {X : Cx} {s : List Stmt} {t t' : TS} (h : PSs X s t) (i : ∀ D σ H, t' D σ H → t D σ H) : PSs X s t' := ⟨fun pins s σ H D I hw => h.run pins s σ H D I (i _ _ _ hw)⟩
section
variable {G : GI} {I : CI} {lv : Nat} {Wx : WX} {sc : Scope} {N : List Str} {fnB : Str → Bool} {X : Cx} {a b e : Expr} {pos : Pos} {A B C : FA1} {np : Nat}
theorem SPost.up {W W' : Wd} (x : FrS np W W') {K : En → Cs → Prop} {σ' : L2.St} {H' : Hp} (p : SPost G np W' K σ' H') : SPost G np W K σ' H' :=
  let ⟨W2, c2, env2, e, y, r⟩ := p; ⟨W2, c2, env2, e, x.trans y, r⟩
theorem RPost.up {W W' : Wd} (x : FrS np W W') {K : QE} {v : V} {H' : Hp} (p : RPost G np W' K v H') : RPost G np W K v H' :=
  let ⟨W2, c2, d, e, y, r⟩ := p; ⟨W2, c2, d, e, x.trans y, r⟩
theorem SXPost.up {W W' : Wd} (x : FrS np W W') {K : EX} {cls : Value} {dd : Option Addr} {σ' : L2.St} {H' : Hp} (p : SXPost G np W' K cls dd σ' H') : SXPost G np W K cls dd σ' H' :=
  let ⟨W2, c2, env2, k, fs, e, y, r⟩ := p; ⟨W2, c2, env2, k, fs, e, x.trans y, r⟩
theorem SOut.up {W W' : Wd} (x : FrS np W W') {E : FEnds} {X0 : EX} {D : Ends} (o : SOut G Wx np W E X0 D) : SOut G Wx np W' E X0 D :=
  ⟨fun σ' H' p => o.nx σ' H' (p.up x), fun v H' p => o.rt v H' (p.up x), fun σ' H' p => o.bk σ' H' (p.up x), fun σ' H' p => o.ct σ' H' (p.up x), fun cls dd σ' H' p => o.ex cls dd σ' H' (p.up x)⟩
theorem SPost.mono {n : Nat} {W : Wd} (h : np ≤ n) {K : En → Cs → Prop} {σ' : L2.St} {H' : Hp} (p : SPost G n W K σ' H') : SPost G np W K σ' H' :=
  let ⟨W2, c2, env2, e, y, r⟩ := p; ⟨W2, c2, env2, e, y.mono h, r⟩
theorem RPost.mono {n : Nat} {W : Wd} (h : np ≤ n) {K : QE} {v : V} {H' : Hp} (p : RPost G n W K v H') : RPost G np W K v H' :=
  let ⟨W2, c2, d, e, y, r⟩ := p; ⟨W2, c2, d, e, y.mono h, r⟩
theorem SXPost.mono {n : Nat} {W : Wd} (h : np ≤ n) {K : EX} {cls : Value} {dd : Option Addr} {σ' : L2.St} {H' : Hp} (p : SXPost G n W K cls dd σ' H') : SXPost G np W K cls dd σ' H' :=
  let ⟨W2, c2, env2, k, fs, e, y, r⟩ := p; ⟨W2, c2, env2, k, fs, e, y.mono h, r⟩
/-- an expression's end inside a statement -/
theorem SOut.exE {W : Wd} {c : Cs} {σ : L2.St} {env : En} (hn : np ≤ c.length) (ok : Ok G W c) (eo : EnvOk G W σ env) {E : FEnds} {X0 : EX} {D : Ends} (o : SOut G Wx np W E X0 D) : ∀ cls dd H', XPost G W (atE X0 env) cls dd H' → Wx cls dd σ H' :=
  fun cls dd H' ⟨W1, c1, k, fs, e, x1, ok1, ec, ed, q⟩ => o.ex cls dd σ H' ⟨W1, c1, env, k, fs, e, x1.frS (by rw [ok.len]; exact hn), ok1, eo.mono ok x1, ec, ed, q⟩
theorem le_ext {W W' : Wd} {c c' : Cs} (hn : np ≤ c.length) (ok : Ok G W c) (x : Ext W W') (ok' : Ok G W' c') : np ≤ c'.length ∧ FrS np W W' := by
  have f := x.frS (np := np) (by rw [ok.len]; exact hn)
  exact ⟨by rw [← ok'.len]; exact f.le, f⟩

theorem ss_nil : PSs X [] (liftS G Wx np (wpSs I .nil)) := by
  refine PSs.imp pss_nil fun D σ H ⟨W, c, env, E, X0, e, hn, ok, eo, h, o⟩ => ?_
  exact o.nx σ H ⟨W, c, env, e, FrS.refl (by rw [ok.len]; exact hn), ok, eo, h⟩
theorem ss_cons {s : Stmt} {ss : List Stmt} {f : FS} {fs : FSs} (h1 : PS X s (liftS G Wx np (wpS I f))) (h2 : PSs X ss (liftS G Wx np (wpSs I fs))) : PSs X (s :: ss) (liftS G Wx np (wpSs I (.cons f fs))) := by
  refine PSs.imp (pss_cons h1 h2) fun D σ H ⟨W, c, env, E, X0, e, hn, ok, eo, h, o⟩ => ?_
  refine ⟨W, c, env, _, X0, e, hn, ok, eo, h, ⟨fun σ' H' ⟨W1, c1, env1, e1, x1, ok1, eo1, k⟩ => ?_, o.rt, o.bk, o.ct, o.ex⟩⟩
  exact ⟨W1, c1, env1, E, X0, e1, by rw [← ok1.len]; exact x1.le, ok1, eo1, k, o.up x1⟩
/-- a statement of F alone -/
theorem ss_ghost {ss : List Stmt} {f : FS} {fs : FSs} (hg : ∀ (W : Wd) (c : Cs) (σ : L2.St) (env : En) (E : FEnds) (X0 : EX), np ≤ c.length → Ok G W c → EnvOk G W σ env → wpS I f np E X0 env c → SPost G np W E.nx σ W.H)
    (h2 : PSs X ss (liftS G Wx np (wpSs I fs))) : PSs X ss (liftS G Wx np (wpSs I (.cons f fs))) := by
  refine PSs.imp h2 fun D σ H ⟨W, c, env, E, X0, e, hn, ok, eo, h, o⟩ => ?_
  obtain ⟨W1, c1, env1, e1, x1, ok1, eo1, k⟩ := hg W c σ env _ X0 hn ok eo h
  exact ⟨W1, c1, env1, E, X0, e1.trans e, by rw [← ok1.len]; exact x1.le, ok1, eo1, k, o.up x1⟩

theorem ss_expr (hc : notComp e = true) {f : FE} (ha : PE X e (lift G Wx (wpE I f))) : PS X (.Expr e pos) (liftS G Wx np (wpS I (.expr f))) := by
  refine PS.imp (ps_expr ha (swaps_of hc)) fun D σ H ⟨W, c, env, E, X0, eH, hn, ok, eo, h, o⟩ => ?_
  refine ⟨W, c, env, _, _, eH, ok, eo, h, fun v H' ⟨W1, c1, d, e1, x1, ok1, dn, k⟩ => ?_, o.exE hn ok eo⟩
  exact o.nx _ _ ⟨W1, c1, env, e1, (le_ext hn ok x1 ok1).2, ok1, eo.mono ok x1, k⟩
theorem ss_doc {x : Str} {j : Nat} {p : Pos} {ss : List Stmt} {T : TS} (h : PSs X ss T) : PSs X (.Expr (.Constant (.str x) j p) pos :: ss) T :=
  PSs.imp (pss_cons ps_doc h) fun D σ H h => h
theorem asg_red {f : FE} {t : FT} {D : Ends} {σ : L2.St} {H : Hp} (h : liftS G Wx np (wpS I (.set t f)) D σ H) : tAsg (lift G Wx (wpE I f)) (liftG G (ftSl t) (wpT t)) D σ H := by
  obtain ⟨W, c, env, E, X0, eH, hn, ok, eo, h, o⟩ := h
  refine ⟨W, c, env, _, _, eH, ok, eo, h, fun v H' ⟨W1, c1, d, e1, x1, ok1, dn, k⟩ => ?_, o.exE hn ok eo⟩
  exact ⟨W1, c1, env, d, _, e1, ok1, eo.mono ok x1, dn, k, fun σ' env' eo' _ k' => o.nx _ _ ⟨W1, c1, env', e1, (le_ext hn ok x1 ok1).2, ok1, eo', k'⟩⟩
theorem ss_setN (o : XOk G I lv Wx sc N fnB X) {i : Nat} {x : Str} {p : Pos} {f : FE} (hx : N[i]? = some x) (hl : locB sc fnB x = true) (hc : notComp e = true) (ha : PE X e (lift G Wx (wpE I f))) : PS X (.Assign [.Name x p] e pos) (liftS G Wx np (wpS I (.set (.nm i) f))) := by
  refine PS.imp (ps_asg ha (sg_name o hx hl) (show swapsWith e (some (.Name x p)) pos.line X.env = pure false from swaps_of hc) stores_name (each_one rfl)) fun D σ H h => asg_red h
theorem ss_setT (o : XOk G I lv Wx sc N fnB X) {ts : List Expr} {k : Nat} {p : Pos} {f : FE} {t : FT} (hg : PG X (.Tuple ts k p) (liftG G (ftSl t) (wpT t))) (hc : notTup e = true) (ha : PE X e (lift G Wx (wpE I f))) : PS X (.Assign [.Tuple ts k p] e pos) (liftS G Wx np (wpS I (.set t f))) := by
  refine PS.imp (ps_asg ha hg (show swapsWith e (some (.Tuple ts k p)) pos.line X.env = pure false from swapsT_of) (stores_tup hc) (each_one rfl)) fun D σ H h => asg_red h
theorem ss_setCo {i : Nat} {f : FE} {s : Stmt} (h : PS X s (tAsg (lift G Wx (wpE I f)) (gName i))) : PS X s (liftS G Wx np (wpS I (.setC i f))) := by
  refine PS.imp h fun D σ H ⟨W, c, env, E, X0, eH, hn, ok, eo, h, o⟩ => ?_
  refine ⟨W, c, env, _, _, eH, ok, eo, h, fun v H' ⟨W1, c1, d, e1, x1, ok1, dn, k⟩ => ?_, o.exE hn ok eo⟩
  exact o.nx _ _ ⟨W1, c1, _, e1, (le_ext hn ok x1 ok1).2, ok1, (eo.mono ok x1).set k.1 dn, k.2⟩
theorem ss_ret {f : FE} (ha : PE X e (lift G Wx (wpE I f))) : PS X (.Return (some e) pos) (liftS G Wx np (wpS I (.ret f))) := by
  refine PS.imp (ps_ret ha) fun D σ H ⟨W, c, env, E, X0, eH, hn, ok, eo, h, o⟩ => ?_
  refine ⟨W, c, env, _, _, eH, ok, eo, h, fun v H' ⟨W1, c1, d, e1, x1, ok1, dn, k⟩ => ?_, o.exE hn ok eo⟩
  exact o.rt _ _ ⟨W1, c1, d, e1, (le_ext hn ok x1 ok1).2, ok1, dn, k⟩
theorem ss_retN : PS X (.Return none pos) (liftS G Wx np (wpS I .retN)) := by
  refine PS.imp ps_retN fun D σ H ⟨W, c, env, E, X0, eH, hn, ok, eo, h, o⟩ => ?_
  exact o.rt _ _ ⟨W, c, .non, eH, FrS.refl (by rw [ok.len]; exact hn), ok, .non, h⟩
theorem ss_brk : PS X (.Break pos) (liftS G Wx np (wpS I .brk)) := by
  refine PS.imp ps_break fun D σ H ⟨W, c, env, E, X0, eH, hn, ok, eo, h, o⟩ => ?_
  exact o.bk _ _ ⟨W, c, env, eH, FrS.refl (by rw [ok.len]; exact hn), ok, eo, h⟩
theorem ss_cnt : PS X (.Continue pos) (liftS G Wx np (wpS I .cnt)) := by
  refine PS.imp ps_continue fun D σ H ⟨W, c, env, E, X0, eH, hn, ok, eo, h, o⟩ => ?_
  exact o.ct _ _ ⟨W, c, env, eH, FrS.refl (by rw [ok.len]; exact hn), ok, eo, h⟩
theorem ss_pass : PS X (.Pass pos) (liftS G Wx np (wpS I .pass)) := by
  refine PS.imp ps_pass fun D σ H ⟨W, c, env, E, X0, eH, hn, ok, eo, h, o⟩ => ?_
  exact o.nx _ _ ⟨W, c, env, eH, FrS.refl (by rw [ok.len]; exact hn), ok, eo, h⟩
theorem ss_if {t : Expr} {p q : List Stmt} {T : FC} {F1 F2 : FSs} (ht : PT X t (liftB G Wx (wpC I T))) (hp : PSs X p (liftS G Wx np (wpSs I F1))) (hq : PSs X q (liftS G Wx np (wpSs I F2))) : PS X (.If t p q pos) (liftS G Wx np (wpS I (.ifs T F1 F2))) := by
  refine PS.imp (ps_if ht hp hq) fun D σ H ⟨W, c, env, E, X0, eH, hn, ok, eo, h, o⟩ => ?_
  refine ⟨W, c, env, _, _, eH, ok, eo, h, fun b H' ⟨W1, c1, e1, x1, ok1, k⟩ => ?_, o.exE hn ok eo⟩
  obtain ⟨n1, f1⟩ := le_ext hn ok x1 ok1
  cases b with
  | true => rw [if_pos rfl]; exact ⟨W1, c1, env, E, X0, e1, n1, ok1, eo.mono ok x1, k, o.up f1⟩
  | false => rw [if_neg Bool.false_ne_true]; exact ⟨W1, c1, env, E, X0, e1, n1, ok1, eo.mono ok x1, k, o.up f1⟩
abbrev augT : B2 → Operator → Bool
  | .add, .Add => true
  | .sub, .Sub => true
  | _, _ => false
theorem aug_ip {op : B2} {pp : Operator} (hop : augT op pp = true) : ∃ g : Int → Int → Int, PIp X pp (ipI g) ∧ ∀ (k : Int) (K : Int → Prop) (y : D), augI op k K y → ∃ j, y = .int j ∧ K (g k j) := by
  unfold augT at hop
  split at hop
  · refine ⟨_, ip_add, fun k K y h => ?_⟩
    cases y <;> first | exact h.elim | exact ⟨_, rfl, h⟩
  · refine ⟨_, ip_sub, fun k K y h => ?_⟩
    cases y <;> first | exact h.elim | exact ⟨_, rfl, h⟩
  · cases hop
theorem ss_aug (o : XOk G I lv Wx sc N fnB X) {i : Nat} {x : Str} {p : Pos} {op : B2} {m : Bool} {pp : Operator} {f : FE} (hx : N[i]? = some x) (hl : locB sc fnB x = true) (hop : augT op pp = true) (ha : PE X e (lift G Wx (wpE I f))) : PS X (.AugAssign (.Name x p) pp e pos) (liftS G Wx np (wpS I (.aug i op m f))) := by
  obtain ⟨l1, l2⟩ := loc_of o hl
  have run : ∀ (g : Int → Int → Int), PIp X pp (ipI g) → (∀ (k : Int) (K : Int → Prop) (y : D), augI op k K y → ∃ j, y = .int j ∧ K (g k j)) → PS X (.AugAssign (.Name x p) pp e pos) (liftS G Wx np (wpS I (.aug i op m f))) := fun g hg hk => by
    refine PS.imp (ps_aug (by rw [o.hN]; exact o.nd) (by rw [o.hN]; exact hx) l1 ha hg l2) fun D σ H ⟨W, c, env, E, X0, eH, hn, ok, eo, h, o⟩ => ?_
    unfold wpS at h
    split at h
    · rename_i k hk0
      obtain ⟨v, hv, dv⟩ := eo.get hk0
      cases dv
      refine ⟨_, hv, W, c, env, _, _, eH, ok, eo, h, fun v H' ⟨W1, c1, d, e1, x1, ok1, dn, k1⟩ => ?_, o.exE hn ok eo⟩
      obtain ⟨j, rfl, k2⟩ := hk k _ d k1
      cases dn
      refine ⟨k, j, rfl, rfl, o.nx _ _ ⟨W1, c1, _, e1, (le_ext hn ok x1 ok1).2, ok1, (eo.mono ok x1).set (List.getElem?_eq_some_iff.mp hk0).1 .int, k2⟩⟩
    · exact h.elim
  obtain ⟨g, hg, hk⟩ := aug_ip (X := X) hop
  exact run g hg hk
theorem idxS_of {c : Cs} {q : Int} {K : QE} {o : Option (List D)} (h : idxS c K q o) : ∃ xs, o = some xs ∧ ∃ old, atI xs q = some old ∧ K old c := by
  unfold idxS at h
  split at h
  · rename_i xs
    split at h
    · rename_i old hold
      exact ⟨xs, rfl, old, hold, h⟩
    · exact h.elim
  · exact h.elim
theorem setD_ok {W : Wd} {c : Cs} (ok : Ok G W c) {o i v : D} {ov iv vv : V} (d1 : Den G W ov o) (d2 : Den G W iv i) (d3 : Den G W vv v) {K : Cs → Prop} (h : setD o i v c K) {Q : Hp → Prop}
    (q : ∀ W' c', Ext W W' → Ok G W' c' → K c' → Q W'.H) : rSetL ov iv vv W.H Q := by
  unfold setD at h
  split at h
  · rename_i n j
    obtain ⟨xs, hx, h⟩ := onO_of h
    obtain ⟨k, hk, h⟩ := onO_of h
    cases d2
    cases d1 with
    | @cell a n ha =>
      obtain ⟨y, hy, ca⟩ := ok.at ha
      simp only [getL, hy] at hx
      cases y with
      | lst zs =>
        cases hx
        obtain ⟨vs, q1, q2⟩ := ca
        refine ⟨a, vs, j, k, rfl, rfl, q1, by rw [q2.length]; exact hk, ?_⟩
        have z := ok.setE ha (.lst (vs.set k vv))
        have hc : CellAt G (W.setAt a (.lst (vs.set k vv))) a (.lst (xs.set k v)) := ⟨vs.set k vv, upd_same, DenL.set (d3.mono ok z) k (q2.mono ok z)⟩
        obtain ⟨xe, ok2⟩ := ok.setC ha (.lst (vs.set k vv)) hc
        exact q _ _ xe ok2 h
      | dct _ _ => cases hx
      | obj _ _ => cases hx
  · exact h.elim
theorem ss_setI (o : XOk G I lv Wx sc N fnB X) {ve oe ie : Expr} {p : Pos} {fv fo fi : FE} (hv : PE X ve (lift G Wx (wpE I fv))) (ho : PE X oe (lift G Wx (wpE I fo))) (hi : PE X ie (lift G Wx (wpE I fi))) (hsl : notSlice ie = true) :
    PS X (.Assign [.Subscript oe ie p] ve pos) (liftS G Wx np (wpS I (.setI fo fi fv))) := by
  refine PS.imp (ps_asg hv (pg_sub ho hi set_list (fun v => by cases ie <;> first | rfl | simp [notSlice] at hsl)) (show swapsWith ve (some (.Subscript oe ie p)) pos.line X.env = pure false from swapsS_of) stores_sub (each_one rfl)) fun D σ H ⟨W, c, env, E, X0, eH, hn, ok, eo, h, o⟩ => ?_
  refine ⟨W, c, env, _, _, eH, ok, eo, h, fun v H' ⟨W1, c1, d, e1, x1, ok1, dn, k⟩ => ?_, o.exE hn ok eo⟩
  obtain ⟨n1, f1⟩ := le_ext hn ok x1 ok1
  refine ⟨W1, c1, env, _, _, e1, ok1, eo.mono ok x1, k, fun v2 H2 ⟨W2, c2, d2, e2, x2, ok2, dn2, k2⟩ => ?_, (o.up f1).exE n1 ok1 (eo.mono ok x1)⟩
  obtain ⟨n2, f2⟩ := le_ext n1 ok1 x2 ok2
  have eo2 := (eo.mono ok x1).mono ok1 x2
  refine ⟨W2, c2, env, _, _, e2, ok2, eo2, k2, fun v3 H3 ⟨W3, c3, d3, e3, x3, ok3, dn3, k3⟩ => ?_, ((o.up f1).up f2).exE n2 ok2 eo2⟩
  obtain ⟨n3, f3⟩ := le_ext n2 ok2 x3 ok3
  subst e3
  refine setD_ok ok3 (dn2.mono ok2 x3) dn3 ((dn.mono ok1 x2).mono ok2 x3) k3 fun W4 c4 x4 ok4 k4 => ?_
  exact (((o.up f1).up f2).up f3).nx _ _ ⟨W4, c4, env, rfl, (le_ext n3 ok3 x4 ok4).2, ok4, (eo2.mono ok2 x3).mono ok3 x4, k4⟩
end
end F

namespace F
open PySem PySem.Spec L2
section
variable {G : GI} {I : CI} {lv : Nat} {Wx : WX} {sc : Scope} {N : List Str} {fnB : Str → Bool} {X : Cx} {a b e : Expr} {pos : Pos} {A B C : FA1} {np : Nat}

def getV (K : PySem.W.Frag) : V → V → Hp → VK → Prop := fun o i H Q => ∃ a xs k v, o = .ref a ∧ i = .int k ∧ H a = some (.lst xs) ∧ atI xs k = some v ∧ Q v H
theorem ss_augI (o : XOk G I lv Wx sc N fnB X) (pg : PGet X (getV X.K)) {ve oe ie : Expr} {p : Pos} {op : B2} {pp : Operator} {fv fo fi : FE} (hop : augT op pp = true) (ho : PE X oe (lift G Wx (wpE I fo))) (hi : PE X ie (lift G Wx (wpE I fi))) (hv : PE X ve (lift G Wx (wpE I fv))) (hsl : notSlice ie = true) :
    PS X (.AugAssign (.Subscript oe ie p) pp ve pos) (liftS G Wx np (wpS I (.augI op fo fi fv))) := by
  obtain ⟨g, hg, hk⟩ := aug_ip (X := X) hop
  refine PS.imp (ps_augS ho hi pg hv hg set_list (fun ov iv new => by cases ie <;> first | rfl | simp [notSlice] at hsl)) fun D σ H ⟨W, c, env, E, X0, eH, hn, ok, eo, h, oo⟩ => ?_
  refine ⟨W, c, env, _, _, eH, ok, eo, h, fun v1 H1 ⟨W1, c1, d1, e1, x1, ok1, dn1, k1⟩ => ?_, oo.exE hn ok eo⟩
  obtain ⟨n1, f1⟩ := le_ext hn ok x1 ok1
  have eo1 := eo.mono ok x1
  refine ⟨W1, c1, env, _, _, e1, ok1, eo1, k1, fun v2 H2 pst2 => ?_, (oo.up f1).exE n1 ok1 eo1⟩
  obtain ⟨W2, c2, d2, e2, x2, ok2, dn2, k2⟩ := pst2
  obtain ⟨n2, f2⟩ := le_ext n1 ok1 x2 ok2
  have eo2 := eo1.mono ok1 x2
  cases dn2 <;> first | exact k2.elim | skip
  rename_i q
  obtain ⟨xs, hx, old, hold, k2⟩ : ∃ xs, getL c2 d1 = some xs ∧ ∃ old, atI xs q = some old ∧ wpE I fv env c2 (fun z c3 => onI (fun p => augI op p (fun r => setD d1 (.int q) (.int r) c3 (E.nx env)) z) old) (atE X0 env) := idxS_of k2
  subst e2
  obtain ⟨a, vs, rfl, hv, t⟩ := den_getL ok2 (dn1.mono ok1 x2) hx
  obtain ⟨w, hw, dw⟩ := atI_den t hold
  refine ⟨a, vs, q, w, rfl, rfl, hv, hw, ?_⟩
  refine ⟨W2, c2, env, _, _, rfl, ok2, eo2, k2, fun v4 H4 pst4 => ?_, ((oo.up f1).up f2).exE n2 ok2 eo2⟩
  obtain ⟨W4, c4, d4, e4, x4, ok4, dn4, k4⟩ := pst4
  obtain ⟨n4, f4⟩ := le_ext n2 ok2 x4 ok4
  cases dw <;> first | exact k4.elim | skip
  rename_i pp0
  obtain ⟨j, rfl, k5⟩ := hk pp0 (fun r => setD d1 (.int q) (.int r) c4 (E.nx env)) d4 k4
  cases dn4
  subst e4
  refine ⟨pp0, j, rfl, rfl, ?_⟩
  refine setD_ok ok4 (((dn1.mono ok1 x2)).mono ok2 x4) .int .int k5 fun W5 c5 x5 ok5 k5 => ?_
  exact (((oo.up f1).up f2).up f4).nx _ _ ⟨W5, c5, env, rfl, (le_ext n4 ok4 x5 ok5).2, ok5, (eo2.mono ok2 x4).mono ok4 x5, k5⟩

theorem putF_none {f : Str} {v : V} : ∀ {gs : List (Str × V)}, f ∉ gs.map (·.1) → putF f v gs = gs ++ [(f, v)]
  | [], _ => rfl
  | (g, x) :: r, h => by
    simp only [List.map_cons, List.mem_cons, not_or] at h
    show (if g = f then (g, v) :: r else (g, x) :: putF f v r) = _
    rw [if_neg (fun z => h.1 z.symm), putF_none h.2]
    rfl
theorem putF_at {f : Str} {v : V} : ∀ {gs : List (Str × V)} {j : Nat}, (gs.map (·.1)).Nodup → (gs.map (·.1))[j]? = some f → (putF f v gs).map (·.1) = gs.map (·.1) ∧ (putF f v gs).map (·.2) = (gs.map (·.2)).set j v
  | [], j, _, h => by simp at h
  | (g, x) :: r, 0, _, h => by
    simp at h
    subst h
    have e : putF g v ((g, x) :: r) = (g, v) :: r := by unfold putF; rw [if_pos rfl]
    rw [e]
    exact ⟨rfl, rfl⟩
  | (g, x) :: r, j + 1, nd, h => by
    simp only [List.map_cons, List.nodup_cons] at nd
    have h' : (r.map (·.1))[j]? = some f := by simpa using h
    have ne : g ≠ f := fun z => nd.1 (by rw [z]; exact List.mem_of_getElem? h')
    obtain ⟨h1, h2⟩ := putF_at (v := v) (j := j) nd.2 h'
    unfold putF
    rw [if_neg ne]
    exact ⟨by rw [List.map_cons, List.map_cons, h1], by rw [List.map_cons, List.map_cons, h2]; rfl⟩
theorem setF_ok {W : Wd} {c : Cs} (ok : Ok G W c) {flds : Nat → List Str} (hfl : flds = G.flds) {ov vv : V} {o v : D} {k j : Nat} {f : Str} (hf : (flds k)[j]? = some f) (hnd : (flds k).Nodup) (hk : (flds k).length ≤ 999) (d1 : Den G W ov o) (d2 : Den G W vv v) {K : Cs → Prop} (h : setF flds o k j v c K) :
    ∃ a dx gs, ov = .ref a ∧ W.H a = some (.ins (G.cls k) dx gs) ∧ gs.length < 1000 ∧ ∃ W' c', Ext W W' ∧ Ok G W' c' ∧ K c' ∧ W'.H = upd W.H a (.ins (G.cls k) dx (putF f vv gs)) := by
  subst hfl
  unfold setF at h
  split at h
  · rename_i n
    split at h
    · rename_i k' fs hc
      obtain ⟨rfl, hj, hl, h⟩ := h
      cases d1 with
      | @cell a n ha =>
        obtain ⟨y, hy, ca⟩ := ok.at ha
        rw [hc] at hy; cases hy
        obtain ⟨dx, gs, q1, q2, q3⟩ := ca
        have lg : gs.length = fs.length := by
          have := q3.length
          rw [List.length_map] at this
          exact this
        have z := ok.setE ha (.ins (G.cls k) dx (putF f vv gs))
        refine ⟨a, dx, gs, rfl, q1, by omega, ?_⟩
        split at h
        · rename_i hlt
          have hf' : (gs.map (·.1))[j]? = some f := by rw [q2, List.getElem?_take_of_lt hlt]; exact hf
          obtain ⟨p1, p2⟩ := putF_at (v := vv) (by rw [q2]; exact hnd.sublist (List.take_sublist _ _)) hf'
          have hcell : CellAt G (W.setAt a (.ins (G.cls k) dx (putF f vv gs))) a (.obj k (fs.set j v)) := ⟨dx, _, upd_same, by rw [p1, q2, List.length_set], by rw [p2]; exact DenL.set (d2.mono ok z) j (q3.mono ok z)⟩
          obtain ⟨xe, ok2⟩ := ok.setC ha _ hcell
          exact ⟨_, _, xe, ok2, h, rfl⟩
        · rename_i hlt
          obtain ⟨rfl, h⟩ := h
          have hnm : f ∉ gs.map (·.1) := by
            rw [q2]
            intro hm
            obtain ⟨i, hi⟩ := List.mem_iff_getElem?.mp hm
            have hi2 : i < fs.length := by
              have := (List.getElem?_eq_some_iff.mp hi).1
              rw [List.length_take] at this
              omega
            rw [List.getElem?_take_of_lt hi2] at hi
            have e1 := (List.getElem?_eq_some_iff.mp hi)
            have e2 := (List.getElem?_eq_some_iff.mp hf)
            have := (List.getElem_inj hnd).mp (e1.2.trans e2.2.symm)
            omega
          have e3 : putF f vv gs = gs ++ [(f, vv)] := putF_none hnm
          have hcell : CellAt G (W.setAt a (.ins (G.cls k) dx (putF f vv gs))) a (.obj k (fs ++ [v])) := ⟨dx, _, upd_same, by
            rw [e3, List.map_append, q2, List.length_append, List.length_singleton, List.take_add_one, hf]; rfl, by
            have e4 : (putF f vv gs).map (·.2) = gs.map (·.2) ++ [vv] := by rw [e3, List.map_append]; rfl
            rw [e4]; exact (q3.mono ok z).append (.cons (d2.mono ok z) .nil)⟩
          obtain ⟨xe, ok2⟩ := ok.setC ha _ hcell
          exact ⟨_, _, xe, ok2, h, rfl⟩
    · exact h.elim
  · exact h.elim
theorem ss_setA (o : XOk G I lv Wx sc N fnB X) {ve oe : Expr} {p : Pos} {k j : Nat} {f : Str} {fv fo : FE} (hk : k < I.nk) (hf : (I.flds k)[j]? = some f) (hd : (I.flds k).Nodup) (hl : (I.flds k).length ≤ 999) (hv : PE X ve (lift G Wx (wpE I fv))) (ho : PE X oe (lift G Wx (wpE I fo))) :
    PS X (.Assign [.Attribute oe f p] ve pos) (liftS G Wx np (wpS I (.setA fo k j fv))) := by
  obtain ⟨cl, na⟩ := o.glob.cls k hk
  have hfm : f ∈ G.flds k := by rw [← o.glob.flds]; exact List.mem_of_getElem? hf
  refine PS.imp (ps_fld ho hv swapsA_of) fun D σ H ⟨W, c, env, E, X0, eH, hn, ok, eo, h, oo⟩ => ?_
  refine ⟨W, c, env, _, _, eH, ok, eo, h, fun v H' ⟨W1, c1, d, e1, x1, ok1, dn, k1⟩ => ?_, oo.exE hn ok eo⟩
  obtain ⟨n1, f1⟩ := le_ext hn ok x1 ok1
  have eo1 := eo.mono ok x1
  refine ⟨W1, c1, env, _, _, e1, ok1, eo1, k1, fun v2 H2 ⟨W2, c2, d2, e2, x2, ok2, dn2, k2⟩ => ?_, (oo.up f1).exE n1 ok1 eo1⟩
  obtain ⟨n2, f2⟩ := le_ext n1 ok1 x2 ok2
  subst e2
  obtain ⟨a, dx, gs, ea, hH, hlen, W3, c3, x3, ok3, k3, e3⟩ := setF_ok ok2 o.glob.flds hf hd hl dn2 (dn.mono ok1 x2) k2
  refine ⟨a, G.cls k, dx, gs, ea, hH, by rw [o.hK]; exact cl, by rw [o.hK]; exact na f hfm, hlen, ?_⟩
  rw [← e3]
  exact ((oo.up f1).up f2).nx _ _ ⟨W3, c3, env, rfl, (le_ext n2 ok2 x3 ok3).2, ok3, (eo1.mono ok1 x2).mono ok2 x3, k3⟩

def parB (sc : Scope) (N : List Str) (i j : Nat) (ts vs : List Expr) : Bool :=
  match ts, vs with
  | [.Name x px, .Name y py], [a, b] => decide (N[i]? = some x) && decide (N[j]? = some y) && decide (i ≠ j) && decide (x ≠ y) && (px.line == py.line) && (match sc.kind with | .function => true | _ => false) &&
    (match sc.names.lookup x with | some .local => true | _ => false) && (match sc.names.lookup y with | some .local => true | _ => false) && noStar a && noStar b && !([a, b].all (foldedForSure 8)) && !([a, b].all (constantsAlone 8))
  | _, _ => false
def starry : Expr → Bool
  | .Starred .. => true
  | _ => false
theorem starry_of (h : noStar e = true) : starry e = false := by cases e <;> first | rfl | simp [noStar] at h
theorem par_stores {x y : Str} {px py pt : Pos} {kt : Nat} {a b : Expr} {k2 : Nat} {pt2 : Pos} {env : Env} (hk : env.scope.kind = .function) (hx : env.scope.names.lookup x = some .local) (hy : env.scope.names.lookup y = some .local) (hne : x ≠ y) (hl : (px.line == py.line) = true)
    (na : noStar a = true) (nb : noStar b = true) (h1 : [a, b].all (foldedForSure 8) = false) (h2 : [a, b].all (constantsAlone 8) = false) :
    swappedStores [.Tuple [.Name x px, .Name y py] kt pt] (.Tuple [a, b] k2 pt2) env = pure (some [x, y]) := by
  have ky : env.kindOf x = some .local := hx
  have kz : env.kindOf y = some .local := hy
  have hb : env.blockKind = .function := by unfold Env.blockKind; rw [hk]; rfl
  have hl' : (py.line == px.line) = true := by rw [eq_of_beq hl]; exact beq_self_eq_true _
  unfold swappedStores
  dsimp only
  rw [hb]
  generalize hq : List.any [a, b] _ = q
  have eq : q = false := by
    rw [← hq]
    show (starry a || (starry b || false)) = false
    rw [starry_of na, starry_of nb]; rfl
  generalize hn : List.filterMap _ _ = names
  have en : names = [x, y] := by
    rw [← hn, List.filterMap_cons_some (b := x) (by
      show (if (env.kindOf x == some .local && px.line == px.line) = true then some x else none) = some x
      rw [ky, if_pos (by simp)]), List.filterMap_cons_some (b := y) (by
      show (if (env.kindOf y == some .local && py.line == px.line) = true then some y else none) = some y
      rw [kz, if_pos (by rw [hl']; rfl)])]
    rfl
  rw [eq, en, h1, h2]
  have hyx : (y == x) = false := beq_eq_false_iff_ne.mpr (Ne.symm hne)
  have hd : ([x, y].eraseDups.length != [x, y].length) = false := by
    simp [List.eraseDups, List.eraseDupsBy, List.eraseDupsBy.loop, hyx]
  simp only [hd]
  rfl
theorem ss_par (o : XOk G I lv Wx sc N fnB X) {i j kt k2 : Nat} {pt pt2 : Pos} {ts vs : List Expr} {fa fb : FE} (h : parB sc N i j ts vs = true) (ha : ∀ x ∈ vs[0]?, PE X x (lift G Wx (wpE I fa))) (hb : ∀ x ∈ vs[1]?, PE X x (lift G Wx (wpE I fb))) :
    PS X (.Assign [.Tuple ts kt pt] (.Tuple vs k2 pt2) pos) (liftS G Wx np (wpS I (.par i j fa fb))) := by
  unfold parB at h
  split at h
  · rename_i x px y py a b
    simp only [Bool.and_eq_true, Bool.not_eq_true', decide_eq_true_eq] at h
    obtain ⟨⟨⟨⟨⟨⟨⟨⟨⟨⟨⟨p1, p2⟩, p3⟩, p4⟩, p5⟩, p6⟩, p7⟩, p8⟩, p9⟩, p10⟩, p11⟩, p12⟩ := h
    have k1 : X.env.scope.kind = .function := by
      rw [o.hsc]; split at p6
      · assumption
      · cases p6
    have kx : X.env.scope.names.lookup x = some .local := by
      rw [o.hsc]; split at p7
      · assumption
      · cases p7
    have ky : X.env.scope.names.lookup y = some .local := by
      rw [o.hsc]; split at p8
      · assumption
      · cases p8
    refine PS.imp (ps_par o.calm (by rw [o.hN]; exact o.nd) (by rw [o.hN]; exact p1) (by rw [o.hN]; exact p2) p3 kx ky (pa_consN p9 (ha a rfl) (pa_consN p10 (hb b rfl) pa_nil)) (par_stores k1 kx ky p4 p5 p9 p10 p11 p12) (show swapsWith (.Tuple [a, b] k2 pt2) (some (.Tuple [.Name x px, .Name y py] kt pt)) pos.line X.env = pure false from swaps_of rfl)) fun D σ H ⟨W, c, env, E, X0, eH, hn, ok, eo, h, oo⟩ => ?_
    refine ⟨W, c, env, _, _, eH, ok, eo, h, fun v H' ⟨W1, c1, d, e1, x1, ok1, dn, k⟩ => ?_, oo.exE hn ok eo⟩
    obtain ⟨n1, f1⟩ := le_ext hn ok x1 ok1
    have eo1 := eo.mono ok x1
    refine ⟨W1, c1, env, _, _, e1, ok1, eo1, k, fun v2 H2 ⟨W2, c2, d2, e2, x2, ok2, dn2, k2⟩ => ?_, (oo.up f1).exE n1 ok1 eo1⟩
    obtain ⟨n2, f2⟩ := le_ext n1 ok1 x2 ok2
    refine ⟨v, v2, rfl, ?_⟩
    have eo3 := ((eo1.mono ok1 x2).set k2.1 (dn.mono ok1 x2))
    exact ((oo.up f1).up f2).nx _ _ ⟨W2, c2, _, e2, FrS.refl f2.le, ok2, eo3.set (by unfold setE; rw [List.length_set]; exact k2.2.1) dn2, k2.2.2⟩
  · cases h
end
end F

namespace F
open PySem PySem.Spec L2
section
variable {G : GI} {I : CI} {lv : Nat} {Wx : WX} {sc : Scope} {N : List Str} {fnB : Str → Bool} {X : Cx} {a b e : Expr} {pos : Pos} {A B C : FA1} {np : Nat}
theorem EnvOk.map {W W' : Wd} {σ : L2.St} {env : En} {f : D → D} (h : ∀ {v : V} {d : D}, Den G W v d → Den G W' v (f d)) (eo : EnvOk G W σ env) : EnvOk G W' σ (env.map (Option.map f)) := by
  refine ⟨by rw [List.length_map]; exact eo.1, fun i d e => ?_⟩
  rw [List.getElem?_map] at e
  obtain ⟨o, e1, e2⟩ := Option.map_eq_some_iff.mp e
  obtain ⟨d0, rfl, rfl⟩ := Option.map_eq_some_iff.mp e2
  obtain ⟨v, h1, h2⟩ := eo.2 i d0 e1
  exact ⟨v, h1, h h2⟩
def liftSx (G : GI) (Wx : WX) (T : FAS) : TS := fun D σ H => ∃ n, liftS G Wx n T D σ H
theorem pss_x {ss : List Stmt} {T : FAS} (h : ∀ n, PSs X ss (liftS G Wx n T)) : PSs X ss (liftSx G Wx T) := ⟨fun pins s σ H D I ⟨n, hw⟩ => (h n).run pins s σ H D I hw⟩
theorem forL_gd {flds : Nat → List Str} {keep : Bool} {n : Nat} {gd : List (Nat × List D)} {turn : D → FEnds → En → Cs → Prop} {E : FEnds} {xs : List D} {env : En} {c : Cs} (h : forL flds keep n gd turn E xs env c) : gdOk c gd := by
  cases xs with
  | nil => exact h.1
  | cons _ _ => exact h.1
theorem ss_for (o : XOk G I lv Wx sc N fnB X) (po : PassesOwn (model X.prog X.w) X.A X.env X.xe) {keep : Bool} {t : FT} {it : FI} {bd : FSs} {tg iter : Expr} {body : List Stmt} (hns : notSet iter = true)
    (hi : PI X tg iter (liftI G Wx (wpI I it))) (hg : PG X tg (liftG G (ftSl t) (wpT t))) (hb : ∀ n, PSs X body (liftS G Wx n (wpSs I bd))) :
    PS X (.For tg iter body [] pos) (liftS G Wx np (wpS I (.for_ keep t it bd))) := by
  refine PS.imp (ps_for po o.calm hi hg (pss_x hb) (folded_of hns)) fun D σ H ⟨W, c, env, E, X0, eH, hn, ok, eo, h, oo⟩ => ?_
  have h' : wpI I it env c (fun xs gd c1 => forL I.flds keep c1.length gd (fun x E' env' c' => wpT t x env' c' fun env2 => wpSs I bd c1.length E' X0 env2 c') E xs env c1) (atE X0 env) := h
  refine ⟨W, c, env, _, _, eH, ok, eo, h', fun J W1 c1 xs gd x1 ok1 itk k => ?_, oo.exE hn ok eo⟩
  obtain ⟨n1, f1⟩ := le_ext hn ok x1 ok1
  have eo1 := eo.mono ok x1
  have len1 : W1.as.length = c1.length := ok1.len
  have oo1 := oo.up f1
  refine ⟨fun i m σ H => m = xs.length - i ∧ i ≤ xs.length ∧ ∃ Wi ci envi, Wi.H = H ∧ FrS c1.length W1 Wi ∧ Ok G Wi ci ∧ EnvOk G Wi σ envi ∧
    forL I.flds keep c1.length gd (fun x E' env' c' => wpT t x env' c' fun env2 => wpSs I bd c1.length E' X0 env2 c') E (xs.drop i) envi ci, ⟨xs.length, by simp, Nat.zero_le _, W1, c1, env, rfl, FrS.refl (by rw [len1]; exact Nat.le_refl _), ok1, eo1, by rw [List.drop_zero]; exact k⟩, ?_⟩
  rintro i m σi Hi ⟨rfl, hi, Wi, ci, envi, rfl, xi, oki, eoi, kc⟩
  have hgd := forL_gd kc
  obtain ⟨itg, its⟩ := itk Wi ci (by rw [len1]; exact xi) oki hgd
  have lci : c1.length ≤ ci.length := by rw [← oki.len]; exact xi.le
  by_cases hlt : i < xs.length
  · refine .inr ?_
    have hx : xs[i]? = some xs[i] := List.getElem?_eq_getElem hlt
    obtain ⟨go, yl⟩ := itg i _ hx
    rw [List.drop_eq_getElem_cons hlt] at kc
    obtain ⟨_, kc⟩ := kc
    refine ⟨go, fun σ' H' => i + 1 ≤ xs.length ∧ ∃ Wi ci envi, Wi.H = H' ∧ FrS c1.length W1 Wi ∧ Ok G Wi ci ∧ EnvOk G Wi σ' envi ∧
      forL I.flds keep c1.length gd (fun x E' env' c' => wpT t x env' c' fun env2 => wpSs I bd c1.length E' X0 env2 c') E (xs.drop (i + 1)) envi ci,
      fun σ' H' hN => ⟨xs.length - (i + 1), by omega, rfl, hN.1, hN.2⟩, fun v H' hy => ?_⟩
    obtain ⟨W2, rfl, x2, ok2, dn⟩ := yl v H' hy
    have f2 : FrS c1.length W1 W2 := xi.trans (x2.frS (by rw [oki.len]; exact lci))
    refine ⟨W2, ci, envi, _, _, rfl, ok2, eoi.mono oki x2, dn, kc, fun σ2 env2 eo2 _ k2 => ?_⟩
    have oo2 := oo1.up (f2.mono n1)
    have again : ∀ σ' H', SPost G c1.length W2 (fun env' c' => cl I.flds keep c1.length c' fun f c'' => forL I.flds keep c1.length gd (fun x E' env' c' => wpT t x env' c' fun env2 => wpSs I bd c1.length E' X0 env2 c') E (xs.drop (i + 1)) (env'.map (Option.map f)) c'') σ' H' →
        i + 1 ≤ xs.length ∧ ∃ Wi ci envi, Wi.H = H' ∧ FrS c1.length W1 Wi ∧ Ok G Wi ci ∧ EnvOk G Wi σ' envi ∧
      forL I.flds keep c1.length gd (fun x E' env' c' => wpT t x env' c' fun env2 => wpSs I bd c1.length E' X0 env2 c') E (xs.drop (i + 1)) envi ci := fun σ' H' ⟨W3, c3, env3, e3, x3, ok3, eo3, k3⟩ => by
      obtain ⟨W4, f, c4, e4, x4, ok4, d4, k4⟩ := cl_ok o.glob.flds ok3 (by rw [← ok3.len]; exact x3.le) k3
      exact ⟨hlt, W4, c4, _, e4.trans e3, (f2.trans x3).trans x4, ok4, eo3.map d4, k4⟩
    refine ⟨c1.length, W2, ci, env2, _, X0, rfl, by rw [← ok2.len]; exact f2.le, ok2, eo2, k2, ⟨again, fun v H' p => oo2.rt v H' (p.mono n1), fun σ' H' ⟨W3, c3, env3, e3, x3, ok3, eo3, k3⟩ => ?_, again, fun cls dd σ' H' p => oo2.ex cls dd σ' H' (p.mono n1)⟩⟩
    have k3' : cl I.flds keep c1.length c3 fun f c'' => E.nx (env3.map (Option.map f)) c'' := k3
    obtain ⟨W4, f, c4, e4, x4, ok4, d4, k4⟩ := cl_ok o.glob.flds ok3 (by rw [← ok3.len]; exact x3.le) k3'
    exact oo2.nx _ _ ⟨W4, c4, _, e4.trans e3, (x3.trans x4).mono n1, ok4, eo3.map d4, k4⟩
  · have hie : i = xs.length := by omega
    refine .inl ⟨its i (by omega), ?_⟩
    rw [hie, List.drop_length] at kc
    exact oo1.nx _ _ ⟨Wi, ci, envi, rfl, xi.mono n1, oki, eoi, kc.2⟩
theorem ss_while (o : XOk G I lv Wx sc N fnB X) (po : PassesOwn (model X.prog X.w) X.A X.env X.xe) {t : Expr} {T : FC} {body : List Stmt} {bd : FSs} (ht : PT X t (liftB G Wx (wpC I T))) (hb : PSs X body (liftS G Wx np (wpSs I bd))) :
    PS X (.While t body [] pos) (liftS G Wx np (wpS I (.while_ T bd))) := by
  refine PS.imp (ps_while po ht hb) fun D σ H ⟨W, c, env, E, X0, eH, hn, ok, eo, h, oo⟩ => ?_
  obtain ⟨J, n, j0, turn⟩ := h
  refine ⟨fun m σ H => ∃ Wi ci envi, Wi.H = H ∧ FrS np W Wi ∧ Ok G Wi ci ∧ EnvOk G Wi σ envi ∧ J m envi ci, ⟨n, W, c, env, eH, FrS.refl (by rw [ok.len]; exact hn), ok, eo, j0⟩, ?_⟩
  rintro m σi Hi ⟨Wi, ci, envi, rfl, xi, oki, eoi, ji⟩
  have li : np ≤ ci.length := by rw [← oki.len]; exact xi.le
  have ooi := oo.up xi
  refine ⟨Wi, ci, envi, _, _, rfl, oki, eoi, turn m envi ci li ji, fun bb H3 ⟨W3, c3, e3, x3, ok3, k3⟩ => ?_, ooi.exE li oki eoi⟩
  obtain ⟨n3, f3⟩ := le_ext li oki x3 ok3
  have eo3 := eoi.mono oki x3
  have oo3 := ooi.up f3
  cases bb with
  | true =>
    rw [if_pos rfl]
    have again : ∀ σ' H', SPost G np W3 (fun env' c' => ∃ m', m' < m ∧ J m' env' c') σ' H' → ∃ m', m' < m ∧ ∃ Wi ci envi, Wi.H = H' ∧ FrS np W Wi ∧ Ok G Wi ci ∧ EnvOk G Wi σ' envi ∧ J m' envi ci := fun σ' H' ⟨W4, c4, env4, e4, x4, ok4, eo4, m', hm, k4⟩ =>
      ⟨m', hm, W4, c4, env4, e4, (xi.trans f3).trans x4, ok4, eo4, k4⟩
    refine ⟨fun σ' H' => ∃ m', m' < m ∧ ∃ Wi ci envi, Wi.H = H' ∧ FrS np W Wi ∧ Ok G Wi ci ∧ EnvOk G Wi σ' envi ∧ J m' envi ci, fun σ' H' h => h, ?_⟩
    exact ⟨W3, c3, envi, _, X0, e3, n3, ok3, eo3, k3, ⟨again, oo3.rt, oo3.nx, again, oo3.ex⟩⟩
  | false =>
    rw [if_neg Bool.false_ne_true]
    exact oo3.nx _ _ ⟨W3, c3, envi, e3, FrS.refl f3.le, ok3, eo3, k3⟩

theorem ss_frz (o : XOk G I lv Wx sc N fnB X) {ss : List Stmt} {i : Nat} {fs : FSs} (h2 : PSs X ss (liftS G Wx np (wpSs I fs))) : PSs X ss (liftS G Wx np (wpSs I (.cons (.frz i) fs))) := by
  refine ss_ghost (fun W c σ env E X0 hn ok eo h => ?_) h2
  obtain ⟨n, hi, hp, h⟩ := onO_of h
  obtain ⟨W1, ρ, c1, e1, x1, ok1, d1, h1⟩ := frz1_ok (np := np) o.glob.flds ok hp h
  exact ⟨W1, c1, _, e1, x1, ok1, eo.map d1, h1⟩
theorem ss_forget {ss : List Stmt} {i : Nat} {fs : FSs} (h2 : PSs X ss (liftS G Wx np (wpSs I fs))) : PSs X ss (liftS G Wx np (wpSs I (.cons (.forget i) fs))) := by
  refine ss_ghost (fun W c σ env E X0 hn ok eo h => ?_) h2
  exact ⟨W, c, _, rfl, FrS.refl (by rw [ok.len]; exact hn), ok, eo.wipe i, h⟩
theorem ss_dead {s : Stmt} : PS X s (liftS G Wx np (wpS I .dead)) := PS.imp ps_never fun D σ H ⟨W, c, env, E, X0, eH, hn, ok, eo, h, oo⟩ => h
theorem se_dead : PE X e (lift G Wx (wpE I .dead)) := ⟨fun pins s σ H Q I ⟨W, c, env, Q0, X0, eH, ok, eo, h, _⟩ => h.elim⟩
end
end F

namespace F
open PySem PySem.Spec L2

def kFn (k : FK) (x : Str) : Bool := match k with
  | .fn y => x == y
  | _ => false
def kMth (k : FK) (x : Str) : Bool := match k with
  | .mth _ y => x == y
  | _ => false
def kIni (k : FK) (j : Nat) (x : Str) : Bool := match k with
  | .ini i y => i == j && x == y
  | _ => false
def FA.len : FA → Nat
  | .nil => 0
  | .cons _ es => FA.len es + 1
def bopK : Bool → BoolOp → Bool
  | true, .And => true
  | false, .Or => true
  | _, _ => false
def FE.isBin : FE → Bool
  | .bin _ _ _ _ => true
  | _ => false
def isCmp : Expr → Bool
  | .Compare _ _ _ _ => true
  | _ => false
section
variable (N : List Str)
mutual
def chT (sc : Scope) (fn : Str → Bool) : FT → Expr → Bool
  | .nm i, .Name x _ => decide (N[i]? = some x) && locB sc fn x
  | .tp ts, .Tuple es _ _ => es.all noStar && es.length == ftLen ts && chTs sc fn ts es
  | _, _ => false
def chTs (sc : Scope) (fn : Str → Bool) : FTs → List Expr → Bool
  | .nil, [] => true
  | .cons t ts, e :: es => noStar e && chT sc fn t e && chTs sc fn ts es
  | _, _ => false
end
variable (I : CI) (lv : Nat)
mutual
def chE (sc : Scope) (fn : Str → Bool) : FE → Expr → Bool
  | .dead, _ => true
  | .frz a, e => chE sc fn a e
  | .var i, .Name x _ => decide (N[i]? = some x) && visB sc x && dbgB x
  | .lit l, .Constant k _ _ => ltB l k
  | .con k, .Name x _ => decide (k < I.nc) && decide (I.cname k = x) && glB sc x
  | .un .neg a, .UnaryOp .USub e _ => chE sc fn a e
  | .un .not a, .UnaryOp .Not e _ => chE sc fn a e
  | .bin o _ a b, .BinOp l p r _ => bopB o p && chE sc fn a l && chE sc fn b r
  | .bin o _ a b, .Compare l [p] [r] _ => copB o p && notSet r && chE sc fn a l && chE sc fn b r
  | .bin o _ a b, .Subscript l r _ => isIdx o && notSlice r && chE sc fn a l && chE sc fn b r
  | .bop k es, .BoolOp p vs _ => bopK k p && chB sc fn es vs
  | .chain o q a b c, .Compare x [p, p'] [y, z] _ => copB o p && copB q p' && notSet z && chE sc fn a x && chE sc fn b y && chE sc fn c z
  | .ife t a b, .IfExp e x y _ => chC sc fn t e && chE sc fn a x && chE sc fn b y
  | .tup es, .Tuple vs _ _ => chA sc fn es vs
  | .lst _ es, .List vs _ => chA sc fn es vs
  | .slc _ a lo hi, .Subscript e (.Slice l u none _) _ => chE sc fn a e && chO sc fn lo l && chO sc fn hi u
  | .attr a k j, .Attribute e f _ => notCall e && decide (k < I.nk) && decide ((I.flds k)[j]? = some f) && decide ((I.flds k).Nodup) && chE sc fn a e
  | .call f es, .Call (.Name x _) vs [] _ => decide (2 * f + 2 ≤ lv) && kFn (I.kind f) x && glB sc x && decide (es.len = I.np f) && chA sc fn es vs
  | .meth f a es, .Call (.Attribute o x ap) vs [] pos => decide (2 * f + 2 ≤ lv) && kMth (I.kind f) x && notCall o && decide (vs.length < 30) && (ap.endLine == pos.line) && decide (es.len + 1 = I.np f) && chE sc fn a o && chA sc fn es vs
  | .make k f es, .Call (.Name x _) (v :: vs) [] _ => decide (2 * f + 2 ≤ lv) && kIni (I.kind f) k x && glB sc x && decide (es.len + 1 = I.np f) && chA sc fn es (v :: vs)
  | .bi o _ es, .Call (.Name x _) (v :: vs) [] _ => biOk o && (x == biName o) && glB sc x && chA sc fn es (v :: vs)
  | .mt o a es, .Call (.Attribute e x ap) vs [] pos => (x == mtName o) && notCall e && (ap.endLine == pos.line) && chE sc fn a e && (match vs with
    | [] => mt0Ok o && es.isNil
    | v :: vs => mtOk o && decide ((v :: vs).length < 30) && chA sc fn es (v :: vs))
  | .isi a ts tp, .Call (.Name x _) [e, T] [] _ => (x == ("isinstance" : Str)) && glB sc x && noStar e && chE sc fn a e && (match tp, ts, T with
    | false, [t], T => tyOkE I sc t T
    | true, ts, .Tuple es _ _ => tyOkEs I sc ts es && decide (ts.length ≤ 1000)
    | _, _, _ => false)
  | .comp _ _ t it cond el vs, .ListComp elt gs scope _ => (match gs with
    | [⟨tg, iter, ifs, 0⟩] => blkC N sc scope vs && (ftSl t).all (fun j => decide (j ∈ vs.map (·.2))) && notSet iter && chI sc fn it tg iter && chT N (relS scope sc) (cellB scope) t tg && chCs (relS scope sc) (cellB scope) cond ifs && chE (relS scope sc) (cellB scope) el elt
    | _ => false)
  | .rev _ a, .Subscript e s _ => (match s with
    | .Slice none none (some (.UnaryOp .USub (.Constant (.int i) _ _) _)) _ => i == 1 && chE sc fn a e
    | _ => false)
  | .dct0 _, .Dict [] [] _ => true
  | .dct1 _ k v, .Dict [some a] [b] _ => chE sc fn k a && chE sc fn v b
  | _, _ => false
def chA (sc : Scope) (fn : Str → Bool) : FA → List Expr → Bool
  | .nil, [] => true
  | .cons e es, v :: vs => noStar v && chE sc fn e v && chA sc fn es vs
  | _, _ => false
def chB (sc : Scope) (fn : Str → Bool) : FA → List Expr → Bool
  | .cons e .nil, [v] => chE sc fn e v
  | .cons e (.cons f es), v :: w :: vs => chE sc fn e v && chB sc fn (.cons f es) (w :: vs)
  | _, _ => false
def chO (sc : Scope) (fn : Str → Bool) : FA → Option Expr → Bool
  | .nil, none => true
  | .cons e .nil, some v => chE sc fn e v
  | _, _ => false
def chC (sc : Scope) (fn : Str → Bool) : FC → Expr → Bool
  | .val f, e => (plainT e || (isCmp e && (match f with | .bin _ _ _ _ => true | .chain _ _ _ _ _ => true | _ => false))) && chE sc fn f e
  | .not c, .UnaryOp .Not e _ => chC sc fn c e
  | .bop k cs, .BoolOp p vs _ => bopK k p && chCb sc fn cs vs
  | _, _ => false
def chCb (sc : Scope) (fn : Str → Bool) : FCs → List Expr → Bool
  | .cons e .nil, [v] => chC sc fn e v
  | .cons e (.cons f es), v :: w :: vs => chC sc fn e v && chCb sc fn (.cons f es) (w :: vs)
  | _, _ => false
def chCs (sc : Scope) (fn : Str → Bool) : FCs → List Expr → Bool
  | .nil, [] => true
  | .cons c .nil, [e] => chC sc fn c e
  | _, _ => false
def chI (sc : Scope) (fn : Str → Bool) : FI → Expr → Expr → Bool
  | .ex f, _, e => chE sc fn f e
  | .rng1 a, _, .Call (.Name x _) [e] [] _ => (x == ("range" : Str)) && glB sc x && noStar e && chE sc fn a e
  | .rng2 a b, _, .Call (.Name x _) [e, g] [] _ => (x == ("range" : Str)) && glB sc x && noStar e && noStar g && chE sc fn a e && chE sc fn b g
  | .enum a, .Tuple _ _ _, .Call (.Name x _) [e] [] _ => (x == ("enumerate" : Str)) && glB sc x && noStar e && chE sc fn a e
  | .zip a b, .Tuple _ _ _, .Call (.Name x _) [e, g] [] _ => (x == ("zip" : Str)) && glB sc x && noStar e && noStar g && chE sc fn a e && chE sc fn b g
  | _, _, _ => false
end
end
end F

namespace F
open PySem PySem.Spec L2
section
variable {G : GI} {I : CI} {lv : Nat} {N : List Str}
theorem kFn_of {k : FK} {x : Str} (h : kFn k x = true) : k = .fn x := by
  unfold kFn at h
  split at h
  · rw [eq_of_beq h]
  · cases h
theorem kMth_of {k : FK} {x : Str} (h : kMth k x = true) : ∃ j, k = .mth j x := by
  unfold kMth at h
  split at h
  · rename_i j y; exact ⟨j, by rw [eq_of_beq h]⟩
  · cases h
theorem kIni_of {k : FK} {j : Nat} {x : Str} (h : kIni k j x = true) : k = .ini j x := by
  unfold kIni at h
  split at h
  · rw [Bool.and_eq_true] at h
    rw [eq_of_beq h.1, eq_of_beq h.2]
  · cases h
mutual
theorem chT_ok {sc : Scope} {fn : Str → Bool} {Wx : WX} {X : Cx} (o : XOk G I lv Wx sc N fn X) : ∀ (t : FT) {e : Expr}, chT N sc fn t e = true → PG X e (liftG G (ftSl t) (wpT t))
  | .nm i, e, h => by
    cases e <;> first | (simp [chT] at h; done) | skip
    rename_i x p
    simp only [chT, Bool.and_eq_true, decide_eq_true_eq] at h
    exact sg_name o h.1 h.2
  | .tp ts, e, h => by
    cases e <;> first | (simp [chT] at h; done) | skip
    rename_i es k p
    simp only [chT, Bool.and_eq_true] at h
    exact sg_tup o h.1.1 (eq_of_beq h.1.2) (chTs_ok o ts h.2)
theorem chTs_ok {sc : Scope} {fn : Str → Bool} {Wx : WX} {X : Cx} (o : XOk G I lv Wx sc N fn X) : ∀ (t : FTs) {e : List Expr}, chTs N sc fn t e = true → PGs X e (liftGs G (ftSls t) (wpTs t))
  | .nil, [], h => sg_nil
  | .nil, _ :: _, h => by simp [chTs] at h
  | .cons t ts, [], h => by simp [chTs] at h
  | .cons t ts, e :: es, h => by
    simp only [chTs, Bool.and_eq_true] at h
    exact sg_cons h.1.1 (chT_ok o t h.1.2) (chTs_ok o ts h.2)
end
theorem chA_star {sc : Scope} {fn : Str → Bool} : ∀ {es : FA} {vs : List Expr}, chA N I lv sc fn es vs = true → vs.all noStar = true
  | .nil, [], _ => rfl
  | .nil, _ :: _, h => by simp [chA] at h
  | .cons _ _, [], h => by simp [chA] at h
  | .cons e es, v :: vs, h => by
    simp only [chA, Bool.and_eq_true] at h
    rw [List.all_cons, h.1.1, chA_star h.2]; rfl
theorem chA_len {sc : Scope} {fn : Str → Bool} : ∀ {es : FA} {vs : List Expr}, chA N I lv sc fn es vs = true → vs.length = es.len
  | .nil, [], _ => rfl
  | .nil, _ :: _, h => by simp [chA] at h
  | .cons _ _, [], h => by simp [chA] at h
  | .cons e es, v :: vs, h => by
    simp only [chA, Bool.and_eq_true] at h
    rw [List.length_cons, chA_len h.2]; rfl
theorem isNil_of {es : FA} (h : es.isNil = true) : es = .nil := by
  cases es
  · rfl
  · cases h
mutual
theorem chE_ok : ∀ (f : FE) {sc : Scope} {fn : Str → Bool} {Wx : WX} {X : Cx} {e : Expr}, XOk G I lv Wx sc N fn X → chE N I lv sc fn f e = true → PE X e (lift G Wx (wpE I f))
  | .dead, sc, fn, Wx, X, e, o, h => se_dead
  | .frz a, sc, fn, Wx, X, e, o, h => by
    simp only [chE] at h
    exact se_frz o (chE_ok a o h)
  | .var i, sc, fn, Wx, X, e, o, h => by
    cases e <;> first | (simp [chE] at h; done) | skip
    simp only [chE, Bool.and_eq_true, decide_eq_true_eq] at h
    exact se_var o h.1.1 h.1.2 h.2
  | .lit l, sc, fn, Wx, X, e, o, h => by
    cases e <;> first | (simp [chE] at h; done) | skip
    exact se_lit (by simpa only [chE] using h)
  | .con k, sc, fn, Wx, X, e, o, h => by
    cases e <;> first | (simp [chE] at h; done) | skip
    simp only [chE, Bool.and_eq_true, decide_eq_true_eq] at h
    exact se_con o h.1.1 h.1.2 h.2
  | .un .neg a, sc, fn, Wx, X, e, o, h => by
    cases e with
    | UnaryOp op x p =>
      cases op <;> first | (simp [chE] at h; done) | skip
      simp only [chE] at h
      exact se_neg (chE_ok a o h)
    | _ => simp [chE] at h
  | .un .not a, sc, fn, Wx, X, e, o, h => by
    cases e with
    | UnaryOp op x p =>
      cases op <;> first | (simp [chE] at h; done) | skip
      simp only [chE] at h
      exact se_not (chE_ok a o h)
    | _ => simp [chE] at h
  | .bin op m a b, sc, fn, Wx, X, e, o, h => by
    cases e with
    | BinOp l p r pos =>
      simp only [chE, Bool.and_eq_true] at h
      exact se_bin o h.1.1 (chE_ok a o h.1.2) (chE_ok b o h.2)
    | Compare l ps rs pos =>
      rcases ps with _ | ⟨p, _ | ⟨p', ps⟩⟩ <;> first | (simp [chE] at h; done) | skip
      rcases rs with _ | ⟨r, _ | ⟨r', rs⟩⟩ <;> first | (simp [chE] at h; done) | skip
      simp only [chE, Bool.and_eq_true] at h
      exact se_cmp o h.1.1.1 h.1.1.2 (chE_ok a o h.1.2) (chE_ok b o h.2)
    | Subscript l r pos =>
      simp only [chE, Bool.and_eq_true] at h
      have e : op = .idx := by
        have z := h.1.1.1
        unfold isIdx at z
        split at z
        · rfl
        · cases z
      subst e
      exact se_idx o h.1.1.2 (chE_ok a o h.1.2) (chE_ok b o h.2)
    | _ => simp [chE] at h
  | .bop k es, sc, fn, Wx, X, e, o, h => by
    cases e with
    | BoolOp p vs pos =>
      simp only [chE, Bool.and_eq_true] at h
      have z := chB_ok k es (pos := pos) o h.2
      have hk := h.1
      unfold bopK at hk
      split at hk
      · exact z
      · exact z
      · cases hk
    | _ => simp [chE] at h
  | .chain op q a b c, sc, fn, Wx, X, e, o, h => by
    cases e with
    | Compare l ps rs pos =>
      rcases ps with _ | ⟨p, _ | ⟨p', _ | ⟨p'', ps⟩⟩⟩ <;> first | (simp [chE] at h; done) | skip
      rcases rs with _ | ⟨r, _ | ⟨r', _ | ⟨r'', rs⟩⟩⟩ <;> first | (simp [chE] at h; done) | skip
      simp only [chE, Bool.and_eq_true] at h
      exact se_chain o h.1.1.1.1.1 h.1.1.1.1.2 h.1.1.1.2 (chE_ok a o h.1.1.2) (chE_ok b o h.1.2) (chE_ok c o h.2)
    | _ => simp [chE] at h
  | .ife t a b, sc, fn, Wx, X, e, o, h => by
    cases e <;> first | (simp [chE] at h; done) | skip
    simp only [chE, Bool.and_eq_true] at h
    exact se_ife (chC_ok t o h.1.1) (chE_ok a o h.1.2) (chE_ok b o h.2)
  | .tup es, sc, fn, Wx, X, e, o, h => by
    cases e <;> first | (simp [chE] at h; done) | skip
    simp only [chE] at h
    exact se_tup (pa_ofN (chA_ok es o h))
  | .lst m es, sc, fn, Wx, X, e, o, h => by
    cases e <;> first | (simp [chE] at h; done) | skip
    simp only [chE] at h
    exact se_lst (pa_ofN (chA_ok es o h))
  | .slc m a lo hi, sc, fn, Wx, X, e, o, h => by
    cases e with
    | Subscript x s pos =>
      cases s with
      | Slice l u st p2 =>
        cases st with
        | none =>
          simp only [chE, Bool.and_eq_true] at h
          exact se_slc o (chE_ok a o h.1.1) (chO_ok lo o h.1.2) (chO_ok hi o h.2)
        | some _ => simp [chE] at h
      | _ => simp [chE] at h
    | _ => simp [chE] at h
  | .attr a k j, sc, fn, Wx, X, e, o, h => by
    cases e <;> first | (simp [chE] at h; done) | skip
    simp only [chE, Bool.and_eq_true, decide_eq_true_eq] at h
    exact se_attr o h.1.1.1.1 h.1.1.1.2 h.1.1.2 h.1.2 (chE_ok a o h.2)
  | .call f es, sc, fn, Wx, X, e, o, h => by
    cases e with
    | Call g vs kws pos =>
      cases g with
      | Name x p =>
        rcases kws with _ | ⟨_, _⟩
        · simp only [chE, Bool.and_eq_true, decide_eq_true_eq] at h
          obtain ⟨⟨⟨⟨h1, h2⟩, h3⟩, h4⟩, h5⟩ := h
          have hk := kFn_of h2
          cases vs with
          | nil =>
            cases es with
            | nil => exact se_call0 o h1 hk h3 h4.symm
            | cons _ _ => simp [chA] at h5
          | cons v vs =>
            refine se_call o h1 hk h3 (chA_star h5) ?_
            rw [← h4]
            exact chA_ok es o h5
        · simp [chE] at h
      | _ => simp [chE] at h
    | _ => simp [chE] at h
  | .meth f a es, sc, fn, Wx, X, e, o, h => by
    cases e with
    | Call g vs kws pos =>
      cases g with
      | Attribute x m ap =>
        rcases kws with _ | ⟨_, _⟩
        · simp only [chE, Bool.and_eq_true, decide_eq_true_eq] at h
          obtain ⟨⟨⟨⟨⟨⟨⟨h1, h2⟩, h3⟩, h4⟩, h5⟩, h6⟩, h7⟩, h8⟩ := h
          obtain ⟨j, hk⟩ := kMth_of h2
          cases vs with
          | nil =>
            cases es with
            | nil => exact se_meth0 o h1 hk h3 h5 (by rw [← h6]; rfl) (chE_ok a o h7)
            | cons _ _ => simp [chA] at h8
          | cons v vs => exact se_meth o h1 hk (chA_star h8) h3 h4 h5 h6 (chE_ok a o h7) (chA_ok es o h8)
        · simp [chE] at h
      | _ => simp [chE] at h
    | _ => simp [chE] at h
  | .make k f es, sc, fn, Wx, X, e, o, h => by
    cases e with
    | Call g vs kws pos =>
      cases g with
      | Name x p =>
        rcases vs with _ | ⟨v, vs⟩
        · simp [chE] at h
        rcases kws with _ | ⟨_, _⟩
        · simp only [chE, Bool.and_eq_true, decide_eq_true_eq] at h
          obtain ⟨⟨⟨⟨h1, h2⟩, h3⟩, h4⟩, h5⟩ := h
          exact se_make o h1 (kIni_of h2) h3 (chA_star h5) h4 (chA_ok es o h5)
        · simp [chE] at h
      | _ => simp [chE] at h
    | _ => simp [chE] at h
  | .bi op m es, sc, fn, Wx, X, e, o, h => by
    cases e with
    | Call g vs kws pos =>
      cases g with
      | Name x p =>
        rcases vs with _ | ⟨v, vs⟩
        · simp [chE] at h
        rcases kws with _ | ⟨_, _⟩
        · simp only [chE, Bool.and_eq_true] at h
          obtain ⟨⟨⟨h1, h2⟩, h3⟩, h5⟩ := h
          have e := eq_of_beq h2
          subst e
          exact se_bi o h1 h3 (chA_star h5) (pa_ofN (chA_ok es o h5))
        · simp [chE] at h
      | _ => simp [chE] at h
    | _ => simp [chE] at h
  | .mt op a es, sc, fn, Wx, X, e, o, h => by
    cases e with
    | Call g vs kws pos =>
      cases g with
      | Attribute x m ap =>
        rcases kws with _ | ⟨_, _⟩
        · simp only [chE, Bool.and_eq_true] at h
          obtain ⟨⟨⟨⟨h1, h2⟩, h3⟩, h4⟩, h5⟩ := h
          have e := eq_of_beq h1
          subst e
          cases vs with
          | nil =>
            simp only [Bool.and_eq_true] at h5
            have e2 := isNil_of h5.2
            subst e2
            exact se_mt0 o h5.1 h2 h3 (chE_ok a o h4)
          | cons v vs =>
            simp only [Bool.and_eq_true, decide_eq_true_eq] at h5
            exact se_mt o h5.1.1 h2 (chA_star h5.2) h5.1.2 h3 (chE_ok a o h4) (pa_ofN (chA_ok es o h5.2))
        · simp [chE] at h
      | _ => simp [chE] at h
    | _ => simp [chE] at h
  | .isi a ts tp, sc, fn, Wx, X, e, o, h => by
    cases e with
    | Call g vs kws pos =>
      cases g with
      | Name x p =>
        rcases kws with _ | ⟨_, _⟩
        · rcases vs with _ | ⟨e1, _ | ⟨T, _ | ⟨_, _⟩⟩⟩ <;> first | (simp [chE] at h; done) | skip
          simp only [chE, Bool.and_eq_true] at h
          obtain ⟨⟨⟨⟨h1, h2⟩, h3⟩, h4⟩, h5⟩ := h
          have e := eq_of_beq h1
          subst e
          split at h5
          · exact se_isi1 o h2 h3 h5 (chE_ok a o h4)
          · simp only [Bool.and_eq_true, decide_eq_true_eq] at h5
            exact se_isiT o h2 h3 h5.1 h5.2 (chE_ok a o h4)
          · cases h5
        · rcases vs with _ | ⟨e1, _ | ⟨T, _ | ⟨_, _⟩⟩⟩ <;> simp [chE] at h
      | _ => simp [chE] at h
    | _ => simp [chE] at h
  | .comp m keep t it cond el vs, sc, fn, Wx, X, e, o, h => by
    cases e with
    | ListComp elt gs scope pos =>
      simp only [chE] at h
      split at h
      · rename_i tg iter ifs
        simp only [Bool.and_eq_true] at h
        obtain ⟨⟨⟨⟨⟨⟨h1, h2⟩, h3⟩, h4⟩, h5⟩, h6⟩, h7⟩ := h
        exact se_comp o h1 (fun j hj => of_decide_eq_true (List.all_eq_true.mp h2 j hj)) h3 (chI_ok it o h4) (fun X' o' => chT_ok o' t h5) (fun X' o' => chCs_ok cond o' h6) (fun X' o' => chE_ok el o' h7)
      · cases h
    | _ => simp [chE] at h
  | .rev m a, sc, fn, Wx, X, e, o, h => by
    cases e with
    | Subscript x s pos =>
      simp only [chE] at h
      split at h
      · simp only [Bool.and_eq_true] at h
        have e := eq_of_beq h.1
        subst e
        exact se_rev o (chE_ok a o h.2)
      · cases h
    | _ => simp [chE] at h
  | .dct0 m, sc, fn, Wx, X, e, o, h => by
    cases e with
    | Dict ks vs pos =>
      rcases ks with _ | ⟨_, _⟩ <;> rcases vs with _ | ⟨_, _⟩ <;> first | exact se_dct0 | (simp [chE] at h; done)
    | _ => simp [chE] at h
  | .dct1 m k v, sc, fn, Wx, X, e, o, h => by
    cases e with
    | Dict ks vs pos =>
      rcases ks with _ | ⟨_ | a, _ | ⟨_, _⟩⟩ <;> first | (simp [chE] at h; done) | skip
      rcases vs with _ | ⟨b, _ | ⟨_, _⟩⟩ <;> first | (simp [chE] at h; done) | skip
      simp only [chE, Bool.and_eq_true] at h
      exact se_dct1 (chE_ok k o h.1) (chE_ok v o h.2)
    | _ => simp [chE] at h
theorem chA_ok : ∀ (es : FA) {sc : Scope} {fn : Str → Bool} {Wx : WX} {X : Cx} {vs : List Expr}, XOk G I lv Wx sc N fn X → chA N I lv sc fn es vs = true → PA X vs (liftLN G Wx es.len (wpA I es))
  | .nil, sc, fn, Wx, X, [], o, h => sa_nilN
  | .nil, sc, fn, Wx, X, _ :: _, o, h => by simp [chA] at h
  | .cons _ _, sc, fn, Wx, X, [], o, h => by simp [chA] at h
  | .cons e es, sc, fn, Wx, X, v :: vs, o, h => by
    simp only [chA, Bool.and_eq_true] at h
    exact sa_consN h.1.1 (chE_ok e o h.1.2) (chA_ok es o h.2)
theorem chB_ok : ∀ (k : Bool) (es : FA) {sc : Scope} {fn : Str → Bool} {Wx : WX} {X : Cx} {vs : List Expr} {pos : Pos}, XOk G I lv Wx sc N fn X → chB N I lv sc fn es vs = true → PE X (.BoolOp (if k then .And else .Or) vs pos) (lift G Wx (wpBop I k es))
  | k, .nil, sc, fn, Wx, X, vs, pos, o, h => by simp [chB] at h
  | k, .cons e .nil, sc, fn, Wx, X, vs, pos, o, h => by
    rcases vs with _ | ⟨v, _ | ⟨w, vs⟩⟩ <;> first | (simp [chB] at h; done) | skip
    simp only [chB] at h
    exact se_bop1 (chE_ok e o h)
  | k, .cons e (.cons f es), sc, fn, Wx, X, vs, pos, o, h => by
    rcases vs with _ | ⟨v, _ | ⟨w, vs⟩⟩ <;> first | (simp [chB] at h; done) | skip
    simp only [chB, Bool.and_eq_true] at h
    have h1 := chE_ok e o h.1
    have h2 := chB_ok k (.cons f es) (pos := pos) o h.2
    cases k with
    | true => exact se_and h1 h2
    | false => exact se_or h1 h2
theorem chO_ok : ∀ (es : FA) {sc : Scope} {fn : Str → Bool} {Wx : WX} {X : Cx} {v : Option Expr}, XOk G I lv Wx sc N fn X → chO N I lv sc fn es v = true → SO G Wx X v (wpA I es)
  | .nil, sc, fn, Wx, X, none, o, h => so0
  | .nil, sc, fn, Wx, X, some _, o, h => by simp [chO] at h
  | .cons e .nil, sc, fn, Wx, X, none, o, h => by simp [chO] at h
  | .cons e .nil, sc, fn, Wx, X, some v, o, h => by
    simp only [chO] at h
    exact so1 (chE_ok e o h)
  | .cons e (.cons _ _), sc, fn, Wx, X, v, o, h => by cases v <;> simp [chO] at h
theorem chC_ok : ∀ (c : FC) {sc : Scope} {fn : Str → Bool} {Wx : WX} {X : Cx} {e : Expr}, XOk G I lv Wx sc N fn X → chC N I lv sc fn c e = true → PT X e (liftB G Wx (wpC I c))
  | .val f, sc, fn, Wx, X, e, o, h => by
    simp only [chC, Bool.and_eq_true, Bool.or_eq_true] at h
    obtain ⟨h1, h2⟩ := h
    rcases h1 with h1 | ⟨h1, h3⟩
    · exact sc_val h1 (chE_ok f o h2)
    · cases f <;> first | (cases h3; done) | skip
      · rename_i op m a b
        cases e <;> first | (cases h1; done) | skip
        rename_i l ps rs pos
        rcases ps with _ | ⟨p, _ | ⟨p', ps⟩⟩ <;> first | (simp [chE] at h2; done) | skip
        rcases rs with _ | ⟨r, _ | ⟨r', rs⟩⟩ <;> first | (simp [chE] at h2; done) | skip
        simp only [chE, Bool.and_eq_true] at h2
        exact sc_cmp o h2.1.1.1 h2.1.1.2 (chE_ok a o h2.1.2) (chE_ok b o h2.2)
      · rename_i op q a b c
        cases e <;> first | (cases h1; done) | skip
        rename_i l ps rs pos
        rcases ps with _ | ⟨p, _ | ⟨p', _ | ⟨p'', ps⟩⟩⟩ <;> first | (simp [chE] at h2; done) | skip
        rcases rs with _ | ⟨r, _ | ⟨r', _ | ⟨r'', rs⟩⟩⟩ <;> first | (simp [chE] at h2; done) | skip
        simp only [chE, Bool.and_eq_true] at h2
        exact sc_chain o h2.1.1.1.1.1 h2.1.1.1.1.2 h2.1.1.1.2 (chE_ok a o h2.1.1.2) (chE_ok b o h2.1.2) (chE_ok c o h2.2)
  | .not c, sc, fn, Wx, X, e, o, h => by
    cases e with
    | UnaryOp op x p =>
      cases op <;> first | (simp [chC] at h; done) | skip
      simp only [chC] at h
      exact sc_not (chC_ok c o h)
    | _ => simp [chC] at h
  | .bop k cs, sc, fn, Wx, X, e, o, h => by
    cases e with
    | BoolOp p vs pos =>
      simp only [chC, Bool.and_eq_true] at h
      have z := (chCb_ok k cs (pos := pos) o h.2).pt
      have hk := h.1
      unfold bopK at hk
      split at hk
      · exact z
      · exact z
      · cases hk
    | _ => simp [chC] at h
theorem chCb_ok : ∀ (k : Bool) (es : FCs) {sc : Scope} {fn : Str → Bool} {Wx : WX} {X : Cx} {vs : List Expr} {pos : Pos}, XOk G I lv Wx sc N fn X → chCb N I lv sc fn es vs = true → PW X (.BoolOp (if k then .And else .Or) vs pos) (liftB G Wx (wpCb I k es))
  | k, .nil, sc, fn, Wx, X, vs, pos, o, h => by simp [chCb] at h
  | k, .cons e .nil, sc, fn, Wx, X, vs, pos, o, h => by
    rcases vs with _ | ⟨v, _ | ⟨w, vs⟩⟩ <;> first | (simp [chCb] at h; done) | skip
    simp only [chCb] at h
    have h1 := chC_ok e o h
    cases k with
    | true => exact sc_and1 h1
    | false => exact sc_or1 h1
  | k, .cons e (.cons f es), sc, fn, Wx, X, vs, pos, o, h => by
    rcases vs with _ | ⟨v, _ | ⟨w, vs⟩⟩ <;> first | (simp [chCb] at h; done) | skip
    simp only [chCb, Bool.and_eq_true] at h
    have h1 := chC_ok e o h.1
    have h2 := chCb_ok k (.cons f es) (pos := pos) o h.2
    cases k with
    | true => exact sc_and h1 h2
    | false => exact sc_or h1 h2
theorem chCs_ok : ∀ (es : FCs) {sc : Scope} {fn : Str → Bool} {Wx : WX} {X : Cx} {vs : List Expr}, XOk G I lv Wx sc N fn X → chCs N I lv sc fn es vs = true → PTs X vs (liftB G Wx (wpCs I es))
  | .nil, sc, fn, Wx, X, [], o, h => pts0
  | .nil, sc, fn, Wx, X, _ :: _, o, h => by simp [chCs] at h
  | .cons c .nil, sc, fn, Wx, X, vs, o, h => by
    rcases vs with _ | ⟨v, _ | ⟨w, vs⟩⟩ <;> first | (simp [chCs] at h; done) | skip
    simp only [chCs] at h
    exact pts1 (chC_ok c o h)
  | .cons _ (.cons _ _), sc, fn, Wx, X, vs, o, h => by
    rcases vs with _ | ⟨v, _ | ⟨w, vs⟩⟩ <;> simp [chCs] at h
theorem chI_ok : ∀ (it : FI) {sc : Scope} {fn : Str → Bool} {Wx : WX} {X : Cx} {tg e : Expr}, XOk G I lv Wx sc N fn X → chI N I lv sc fn it tg e = true → PI X tg e (liftI G Wx (wpI I it))
  | .ex f, sc, fn, Wx, X, tg, e, o, h => by
    simp only [chI] at h
    exact si_ex o (chE_ok f o h)
  | .rng1 a, sc, fn, Wx, X, tg, e, o, h => by
    cases e with
    | Call g vs kws pos =>
      cases g with
      | Name x p =>
        rcases kws with _ | ⟨_, _⟩ <;> rcases vs with _ | ⟨v, _ | ⟨w, vs⟩⟩ <;> first | (simp [chI] at h; done) | skip
        simp only [chI, Bool.and_eq_true] at h
        have e := eq_of_beq h.1.1.1
        subst e
        exact si_rng1 o h.1.1.2 h.1.2 (chE_ok a o h.2)
      | _ => simp [chI] at h
    | _ => simp [chI] at h
  | .rng2 a b, sc, fn, Wx, X, tg, e, o, h => by
    cases e with
    | Call g vs kws pos =>
      cases g with
      | Name x p =>
        rcases kws with _ | ⟨_, _⟩ <;> rcases vs with _ | ⟨v, _ | ⟨w, _ | ⟨u, vs⟩⟩⟩ <;> first | (simp [chI] at h; done) | skip
        simp only [chI, Bool.and_eq_true] at h
        have e := eq_of_beq h.1.1.1.1.1
        subst e
        exact si_rng2 o h.1.1.1.1.2 h.1.1.1.2 h.1.1.2 (chE_ok a o h.1.2) (chE_ok b o h.2)
      | _ => simp [chI] at h
    | _ => simp [chI] at h
  | .rng3 a b c, sc, fn, Wx, X, tg, e, o, h => by simp [chI] at h
  | .enum a, sc, fn, Wx, X, tg, e, o, h => by
    cases tg with
    | Tuple ts k tp =>
      cases e with
      | Call g vs kws pos =>
        cases g with
        | Name x p =>
          rcases kws with _ | ⟨_, _⟩ <;> rcases vs with _ | ⟨v, _ | ⟨w, vs⟩⟩ <;> first | (simp [chI] at h; done) | skip
          simp only [chI, Bool.and_eq_true] at h
          have e := eq_of_beq h.1.1.1
          subst e
          exact si_enum o h.1.1.2 h.1.2 (chE_ok a o h.2)
        | _ => simp [chI] at h
      | _ => simp [chI] at h
    | _ => simp [chI] at h
  | .zip a b, sc, fn, Wx, X, tg, e, o, h => by
    cases tg with
    | Tuple ts k tp =>
      cases e with
      | Call g vs kws pos =>
        cases g with
        | Name x p =>
          rcases kws with _ | ⟨_, _⟩ <;> rcases vs with _ | ⟨v, _ | ⟨w, _ | ⟨u, vs⟩⟩⟩ <;> first | (simp [chI] at h; done) | skip
          simp only [chI, Bool.and_eq_true] at h
          have e := eq_of_beq h.1.1.1.1.1
          subst e
          exact si_zip o h.1.1.1.1.2 h.1.1.1.2 h.1.1.2 (chE_ok a o h.1.2) (chE_ok b o h.2)
        | _ => simp [chI] at h
      | _ => simp [chI] at h
    | _ => simp [chI] at h
end
end
end F

namespace F
open PySem PySem.Spec L2
section
variable (N : List Str) (I : CI) (lv : Nat)
mutual
def chS (sc : Scope) (fn : Str → Bool) : FS → Stmt → Bool
  | .dead, _ => true
  | .expr f, .Expr e _ => notComp e && chE N I lv sc fn f e
  | .set t f, .Assign tgs e _ => (match t, tgs with
    | .nm i, [.Name x _] => decide (N[i]? = some x) && locB sc fn x && notComp e
    | .tp ts, [.Tuple es k p] => chT N sc fn (.tp ts) (.Tuple es k p) && notTup e
    | _, _ => false) && chE N I lv sc fn f e
  | .setC i f, .Assign tgs e _ => (match tgs, f, e with
    | [.Name y py], .comp m keep t it cond el vs, .ListComp elt [⟨tg, iter, ifs, 0⟩] scope lp => decide (N[i]? = some y) && swC N sc scope y py.line lp.line && blkC N sc scope vs && (ftSl t).all (fun j => decide (j ∈ vs.map (·.2))) && notSet iter && chI N I lv sc fn it tg iter &&
        chT N (relS scope sc) (cellB scope) t tg && chCs N I lv (relS scope sc) (cellB scope) cond ifs && chE N I lv (relS scope sc) (cellB scope) el elt
    | _, _, _ => false)
  | .par i j a b, .Assign tgs e _ => (match tgs, e with
    | [.Tuple ts _ _], .Tuple [x, y] _ _ => parB sc N i j ts [x, y] && chE N I lv sc fn a x && chE N I lv sc fn b y
    | _, _ => false)
  | .aug i op m f, .AugAssign (.Name x _) pp e _ => decide (N[i]? = some x) && locB sc fn x && augT op pp && chE N I lv sc fn f e
  | .setI o i v, .Assign tgs ve _ => match tgs with
    | [.Subscript oe ie _] => notSlice ie && chE N I lv sc fn v ve && chE N I lv sc fn o oe && chE N I lv sc fn i ie
    | _ => false
  | .augI op o i v, .AugAssign (.Subscript oe ie _) pp ve _ => notSlice ie && augT op pp && chE N I lv sc fn v ve && chE N I lv sc fn o oe && chE N I lv sc fn i ie
  | .setA a k j v, .Assign tgs ve _ => match tgs with
    | [.Attribute oe f _] => decide (k < I.nk) && decide ((I.flds k)[j]? = some f) && decide ((I.flds k).Nodup) && decide ((I.flds k).length ≤ 999) && chE N I lv sc fn v ve && chE N I lv sc fn a oe
    | _ => false
  | .ifs t a b, .If e p q _ => chC N I lv sc fn t e && chSs sc fn a p && chSs sc fn b q
  | .for_ _ t it b, .For tg iter body [] _ => notSet iter && chI N I lv sc fn it tg iter && chT N sc fn t tg && chSs sc fn b body
  | .while_ t b, .While e body [] _ => chC N I lv sc fn t e && chSs sc fn b body
  | .ret f, .Return (some e) _ => chE N I lv sc fn f e
  | .retN, .Return none _ => true
  | .brk, .Break _ => true
  | .cnt, .Continue _ => true
  | .pass, .Pass _ => true
  | _, _ => false
def chSs (sc : Scope) (fn : Str → Bool) : FSs → List Stmt → Bool
  | .nil, [] => true
  | .cons (.frz _) fs, ss => chSs sc fn fs ss
  | .cons (.forget _) fs, ss => chSs sc fn fs ss
  | .cons s fs, t :: ss => chS sc fn s t && chSs sc fn fs ss
  | _, _ => false
end
end

section
variable {G : GI} {I : CI} {lv : Nat} {N : List Str} {np : Nat}
theorem pget_list {X : Cx} : PGet X (getV X.K) := by
  intro pins s σ H x y v u Q I rx ry h
  obtain ⟨p, xs, i, z, rfl, rfl, hH, he, q⟩ := h
  cases rx
  obtain ⟨t, rfl⟩ := ry
  obtain ⟨its, r, pl, hz⟩ := I.list (SqL.of hH)
  obtain ⟨j, h1, h2, h3, h4, h5⟩ := atI_get he
  obtain ⟨w, ew, rw'⟩ := r.get h2
  have hl := r.length
  have hn := line63
  have fin : EP X pins σ Q w s := ⟨z, H, I, rw', q⟩
  by_cases h0 : 0 ≤ i
  · have hj : i.toNat = j := by
      rw [seqIndex_of h0 h5] at h1
      exact Option.some.inj h1
    exact wpAny_getItem_list pl.isList h0 (by omega) (by rw [hj]; simpa using ew) fin
  · have hj : (i + (its.toArray.size : Int)).toNat = j := by
      rw [seqIndex_neg (by omega) h4] at h1
      rw [List.size_toArray, ← hl]
      exact Option.some.inj h1
    exact wpAny_getItem_list_neg (Q := fun r s' => EP X pins σ Q r s') pl.isList (by omega) (by rw [List.size_toArray] <;> omega) (by omega) (by rw [hj]; simpa using ew) fin
mutual
theorem chS_ok {sc : Scope} {fn : Str → Bool} {Wx : WX} {X : Cx} (o : XOk G I lv Wx sc N fn X) (po : PassesOwn (model X.prog X.w) X.A X.env X.xe) : ∀ (f : FS) {np : Nat} {s : Stmt}, chS N I lv sc fn f s = true → PS X s (liftS G Wx np (wpS I f))
  | .dead, np, s, h => ss_dead
  | .expr f, np, s, h => by
    cases s <;> first | (simp [chS] at h; done) | skip
    simp only [chS, Bool.and_eq_true] at h
    exact ss_expr h.1 (chE_ok f o h.2)
  | .set t f, np, s, h => by
    cases s <;> first | (simp [chS] at h; done) | skip
    simp only [chS, Bool.and_eq_true] at h
    obtain ⟨h1, h2⟩ := h
    split at h1
    · simp only [Bool.and_eq_true, decide_eq_true_eq] at h1
      exact ss_setN o h1.1.1 h1.1.2 h1.2 (chE_ok f o h2)
    · rw [Bool.and_eq_true] at h1
      exact ss_setT o (chT_ok o _ h1.1) h1.2 (chE_ok f o h2)
    · cases h1
  | .setC i f, np, s, h => by
    cases s <;> first | (simp [chS] at h; done) | skip
    simp only [chS] at h
    split at h
    · simp only [Bool.and_eq_true, decide_eq_true_eq] at h
      obtain ⟨⟨⟨⟨⟨⟨⟨⟨h0, h8⟩, h1⟩, h2⟩, h3⟩, h4⟩, h5⟩, h6⟩, h7⟩ := h
      exact ss_setCo (ss_setC o h0 h8 h1 (fun j hj => of_decide_eq_true (List.all_eq_true.mp h2 j hj)) h3 (chI_ok _ o h4) (fun X' o' => chT_ok o' _ h5) (fun X' o' => chCs_ok _ o' h6) (fun X' o' => chE_ok _ o' h7))
    · cases h
  | .par i j a b, np, s, h => by
    cases s <;> first | (simp [chS] at h; done) | skip
    simp only [chS] at h
    split at h
    · simp only [Bool.and_eq_true] at h
      exact ss_par o h.1.1 (fun z hz => by simp at hz; subst hz; exact chE_ok a o h.1.2) (fun z hz => by simp at hz; subst hz; exact chE_ok b o h.2)
    · cases h
  | .aug i op m f, np, s, h => by
    cases s <;> first | (simp [chS] at h; done) | skip
    rename_i tg pp e pos
    cases tg <;> first | (simp [chS] at h; done) | skip
    simp only [chS, Bool.and_eq_true, decide_eq_true_eq] at h
    exact ss_aug o h.1.1.1 h.1.1.2 h.1.2 (chE_ok f o h.2)
  | .setI oo i v, np, s, h => by
    cases s <;> first | (simp [chS] at h; done) | skip
    simp only [chS] at h
    split at h
    · simp only [Bool.and_eq_true] at h
      exact ss_setI o (chE_ok v o h.1.1.2) (chE_ok oo o h.1.2) (chE_ok i o h.2) h.1.1.1
    · cases h
  | .augI op oo i v, np, s, h => by
    cases s <;> first | (simp [chS] at h; done) | skip
    rename_i tg pp e pos
    cases tg <;> first | (simp [chS] at h; done) | skip
    simp only [chS, Bool.and_eq_true] at h
    exact ss_augI o pget_list h.1.1.1.2 (chE_ok oo o h.1.2) (chE_ok i o h.2) (chE_ok v o h.1.1.2) h.1.1.1.1
  | .setA a k j v, np, s, h => by
    cases s <;> first | (simp [chS] at h; done) | skip
    simp only [chS] at h
    split at h
    · simp only [Bool.and_eq_true, decide_eq_true_eq] at h
      exact ss_setA o h.1.1.1.1.1 h.1.1.1.1.2 h.1.1.1.2 h.1.1.2 (chE_ok v o h.1.2) (chE_ok a o h.2)
    · cases h
  | .augA _ _ _ _ _, np, s, h => by simp [chS] at h
  | .ifs t a b, np, s, h => by
    cases s <;> first | (simp [chS] at h; done) | skip
    simp only [chS, Bool.and_eq_true] at h
    exact ss_if (chC_ok t o h.1.1) (chSs_ok o po a h.1.2) (chSs_ok o po b h.2)
  | .for_ keep t it b, np, s, h => by
    cases s <;> first | (simp [chS] at h; done) | skip
    rename_i tg iter body orelse pos
    rcases orelse with _ | ⟨_, _⟩ <;> first | (simp [chS] at h; done) | skip
    simp only [chS, Bool.and_eq_true] at h
    exact ss_for o po h.1.1.1 (chI_ok it o h.1.1.2) (chT_ok o t h.1.2) (fun n => chSs_ok o po b h.2)
  | .while_ t b, np, s, h => by
    cases s <;> first | (simp [chS] at h; done) | skip
    rename_i e body orelse pos
    rcases orelse with _ | ⟨_, _⟩ <;> first | (simp [chS] at h; done) | skip
    simp only [chS, Bool.and_eq_true] at h
    exact ss_while o po (chC_ok t o h.1) (chSs_ok o po b h.2)
  | .ret f, np, s, h => by
    cases s <;> first | (simp [chS] at h; done) | skip
    rename_i v pos
    cases v <;> first | (simp [chS] at h; done) | skip
    simp only [chS] at h
    exact ss_ret (chE_ok f o h)
  | .retN, np, s, h => by
    cases s <;> first | (simp [chS] at h; done) | skip
    rename_i v pos
    cases v <;> first | (simp [chS] at h; done) | skip
    exact ss_retN
  | .brk, np, s, h => by
    cases s <;> first | (simp [chS] at h; done) | skip
    exact ss_brk
  | .cnt, np, s, h => by
    cases s <;> first | (simp [chS] at h; done) | skip
    exact ss_cnt
  | .pass, np, s, h => by
    cases s <;> first | (simp [chS] at h; done) | skip
    exact ss_pass
  | .rais _ _ _, np, s, h => by simp [chS] at h
  | .frz _, np, s, h => by simp [chS] at h
  | .forget _, np, s, h => by simp [chS] at h
theorem chSs_ok {sc : Scope} {fn : Str → Bool} {Wx : WX} {X : Cx} (o : XOk G I lv Wx sc N fn X) (po : PassesOwn (model X.prog X.w) X.A X.env X.xe) : ∀ (f : FSs) {np : Nat} {ss : List Stmt}, chSs N I lv sc fn f ss = true → PSs X ss (liftS G Wx np (wpSs I f))
  | .nil, np, [], h => ss_nil
  | .nil, np, _ :: _, h => by simp [chSs] at h
  | .cons s fs, np, ss, h => by
    cases s with
    | frz i =>
      simp only [chSs] at h
      exact ss_frz o (chSs_ok o po fs h)
    | forget i =>
      simp only [chSs] at h
      exact ss_forget (chSs_ok o po fs h)
    | _ =>
      cases ss with
      | nil => simp [chSs] at h
      | cons t ss =>
        simp only [chSs, Bool.and_eq_true] at h
        exact ss_cons (chS_ok o po _ h.1) (chSs_ok o po fs h.2)
end
end
end F

namespace F
open PySem PySem.Spec L2
section
variable {G : GI} {I : CI} {lv : Nat} {N ps : List Str} {P : Program} {w : World} {base : Heap}
theorem DenL.mapF {W W' : Wd} {f : D → D} (h : ∀ {v : V} {d : D}, Den G W v d → Den G W' v (f d)) : ∀ {vs : List V} {ds : List D}, DenL G W vs ds → DenL G W' vs (ds.map f)
  | _, _, .nil => .nil
  | _, _, .cons r t => .cons (h r) (DenL.mapF h t)
theorem envOk_start {W : Wd} {vs : List V} {ds : List D} (h : DenL G W vs ds) (hl : vs.length ≤ N.length) : EnvOk G W (L2.start N vs) (ds.map some ++ List.replicate (N.length - ds.length) none) := by
  have e := h.length
  refine ⟨by simp [L2.start, e], fun i d hd => ?_⟩
  by_cases hi : i < ds.length
  · rw [List.getElem?_append_left (by rw [List.length_map]; exact hi), List.getElem?_map] at hd
    obtain ⟨d0, h1, h2⟩ := Option.map_eq_some_iff.mp hd
    cases h2
    obtain ⟨v, hv, dv⟩ := h.get h1
    refine ⟨v, ?_, dv⟩
    unfold L2.start
    rw [List.getElem?_append_left (by rw [List.length_map, e]; exact hi), List.getElem?_map, hv]
    rfl
  · rw [List.getElem?_append_right (by rw [List.length_map]; omega), List.getElem?_replicate] at hd
    split at hd <;> cases hd
mutual
theorem den_lt {W : Wd} : ∀ {v : V} {d : D}, Den G W v d → d.all (fun j => decide (j < W.as.length)) = true
  | _, _, .non => rfl
  | _, _, .bl => rfl
  | _, _, .int => rfl
  | _, _, .str => rfl
  | _, _, .ty => rfl
  | _, _, .ref => rfl
  | _, _, .tup _ t => by simp only [D.all]; exact denL_lt t
  | _, _, .lst _ t => by simp only [D.all]; exact denL_lt t
  | _, _, .scr _ t => by simp only [D.all]; exact denL_lt t
  | _, _, .dctK _ _ t u => by simp only [D.all, Bool.and_eq_true]; exact ⟨denL_lt t, denL_lt u⟩
  | _, _, .obj _ _ _ t => by simp only [D.all]; exact denL_lt t
  | _, _, .cell h => by simp only [D.all]; exact decide_eq_true (List.getElem?_eq_some_iff.mp h).1
theorem denL_lt {W : Wd} : ∀ {v : List V} {d : List D}, DenL G W v d → D.allL (fun j => decide (j < W.as.length)) d = true
  | _, _, .nil => rfl
  | _, _, .cons r t => by simp only [D.allL, Bool.and_eq_true]; exact ⟨den_lt r, denL_lt t⟩
end
/-- no cell names one that is not there -/
def Wfc (c : Cs) : Prop := ∀ x ∈ c, x.all (fun j => decide (j < c.length)) = true
theorem ok_wfc {W : Wd} {c : Cs} (ok : Ok G W c) : Wfc c := by
  intro x hx
  obtain ⟨n, hn⟩ := List.mem_iff_getElem?.mp hx
  obtain ⟨a, ha, ca⟩ := ok.atC hn
  rw [← ok.len]
  cases x with
  | lst ds => obtain ⟨vs, _, q⟩ := ca; exact denL_lt q
  | dct ks ds => obtain ⟨kvs, _, q1, q2⟩ := ca; simp only [Cont.all, Bool.and_eq_true]; exact ⟨denL_lt q1, denL_lt q2⟩
  | obj k fs => obtain ⟨dx, gs, _, _, q⟩ := ca; exact denL_lt q
theorem fn_okF {x qual : Str} {st : Stmt} {f : Addr} {fd : FuncData} (F : FunD G.K x qual (defArgs st) (defBody st) (defScope st) [] [] f fd) (S : FnScope N ps (defScope st)) (hg : GOk G I lv P w base) {body : FSs} (hc : chSs N I lv (defScope st) (fun _ => true) body (defBody st) = true)
    {phi : Phi} (hphi : ∀ ds c Q X, ds.length = ps.length → Wfc c → phi ds c Q X → wpDef I N.length body ds c Q X) : FnOk P w G.K G.mg base (L2.CX P w) (lv + 2) f fd ps (spF G ps.length phi) := by
  have hpl : ps.length ≤ N.length := by have := congrArg List.length S.pre; rw [List.length_take] at this; omega
  refine F.ok S (fun vs H Q E h => ?_) fun cdv A outer s H vs Q E hr h => ?_
  · obtain ⟨W, c, ds, Q0, X0, e, ok, dn, hl, _⟩ := h
    rw [dn.length, hl]
  · obtain ⟨W, c, ds, Q0, X0, rfl, ok, dn, hl, hp, q, xq⟩ := h
    let X : Cx := cxOf (L2.CX P w) P w G.K G.mg base N qual (defScope st) f cdv A outer s W.H E
    have o : XOk G I lv (fun cls d _ H => E cls d H) (defScope st) N (fun _ => true) X := ⟨rfl, rfl, rfl, S.nd, rfl, rfl, hr, takes_of rfl rfl rfl rfl, fun _ _ => rfl, hg⟩
    have po : PassesOwn (model X.prog X.w) X.A X.env X.xe := passes_of rfl
    refine ⟨liftS G (fun cls d _ H => E cls d H) c.length (wpSs I body), chSs_ok o po body hc, ?_⟩
    have hw := hphi ds c Q0 X0 hl (ok_wfc ok) hp
    refine ⟨W, c, _, _, _, rfl, Nat.le_refl _, ok, envOk_start dn (by rw [dn.length, hl]; exact hpl), hw, ⟨fun σ' H' ⟨W1, c1, env1, e1, x1, ok1, eo1, is, k1⟩ => ?_, fun v H' ⟨W1, c1, d1, e1, x1, ok1, dn1, is, k1⟩ => ?_, fun σ' H' ⟨_, _, _, _, _, _, _, k⟩ => k.elim, fun σ' H' ⟨_, _, _, _, _, _, _, k⟩ => k.elim, fun cls dd σ' H' ⟨W1, c1, env1, k, fs, e1, x1, ok1, eo1, ec, ed, k1⟩ => ?_⟩⟩
    · obtain ⟨W2, c2, d2, e2, x2, ok2, dn2, h2⟩ := retF_ok (np := c.length) hg.flds is ok1 (by rw [← ok1.len]; exact x1.le) (.non (G := G) (W := W1)) k1
      exact q _ _ ⟨W2, c2, d2, e2.trans e1, FrS.ext (by rw [ok.len]; exact x1.trans x2), ok2, dn2, h2⟩
    · obtain ⟨W2, c2, d2, e2, x2, ok2, dn2, h2⟩ := retF_ok (np := c.length) hg.flds is ok1 (by rw [← ok1.len]; exact x1.le) dn1 k1
      exact q _ _ ⟨W2, c2, d2, e2.trans e1, FrS.ext (by rw [ok.len]; exact x1.trans x2), ok2, dn2, h2⟩
    · obtain ⟨W2, g, c2, e2, x2, ok2, l2, d2, h2⟩ := clean_ok (np := c.length) hg.flds ok1 (by rw [← ok1.len]; exact x1.le) k1
      refine xq _ _ _ ⟨W2, c2, k, _, e2.trans e1, FrS.ext (by rw [ok.len]; exact x1.trans x2), ok2, ec, ?_, h2⟩
      rcases ed with ed | ⟨d, gs, e3, f3, e4, e5, e6⟩
      · exact .inl ⟨ed.1, by rw [ed.2]; rfl⟩
      · exact .inr ⟨d, gs, e3, x2.fz d f3, x2.keep d _ e4 (ok1.fz d f3), e5, DenL.mapF d2 e6⟩
end
end F

namespace F
open PySem PySem.Spec L2

structure DefT where
  kind : FK
  st : Stmt
  qual : Str
  N : List Str
  ps : List Str
  body : FSs
structure TabT where
  defs : List DefT
  consts : List (Str × Int)
  classes : List (Str × List Str)
def TabT.kname (T : TabT) (k : Nat) : Str := ((T.classes[k]?).map (·.1)).getD ""
def TabT.flds (T : TabT) (k : Nat) : List Str := ((T.classes[k]?).map (·.2)).getD []
def TabT.ci (T : TabT) (phi : Nat → Phi) : CI where
  kind := fun f => ((T.defs[f]?).map (·.kind)).getD (.fn "")
  np := fun f => ((T.defs[f]?).map fun d => d.ps.length).getD 0
  phi := phi
  nc := T.consts.length
  cname := fun k => ((T.consts[k]?).map (·.1)).getD ""
  cval := fun k => ((T.consts[k]?).map (·.2)).getD 0
  nk := T.classes.length
  kname := T.kname
  flds := T.flds
  ne := 0
  ename := fun _ => ""
def FK.nm : FK → Str
  | .fn x => x
  | .mth _ x => x
  | .ini _ _ => "__init__"
def DefT.at_ (T : TabT) (d : DefT) : Str × Option Str := match d.kind with
  | .fn x => (x, none)
  | .mth k x => (T.kname k, some x)
  | .ini k _ => (T.kname k, some "__init__")
def DefT.dd (T : TabT) (d : DefT) : He.DefD := ⟨d.at_ T, d.kind.nm, d.qual, defArgs d.st, defBody d.st, defScope d.st, [], []⟩
def DefT.fa (T : TabT) (d : DefT) : List He.Fa := match d.kind with
  | .fn x => [.glo x]
  | .mth k x => [.meth (T.kname k) x]
  | .ini k x => [.mkr (T.kname k)]
def TabT.fa (T : TabT) : List He.Fa := blNames.map He.Fa.free ++ T.consts.map (fun p => He.Fa.int p.1 p.2) ++ T.classes.flatMap (fun p => He.Fa.glo p.1 :: He.Fa.cls p.1 :: p.2.map (He.Fa.noat p.1)) ++ T.defs.flatMap (DefT.fa T)
def kisB (K : PySem.W.Frag) (x : Str) : Bool := He.eqO (PySem.W.findIn K (.ref (He.ga K x)) "__class__") (some (some (.builtin "object.__class__"))) && (He.eqO (PySem.W.specialIn K (.builtin "object.__class__") "__get__") (some (some (.builtin "getset_descriptor.__get__"))) &&
  (decide (PySem.W.takesIn K (.builtin "object.__class__") = some true) && decide (PySem.W.mroIn K (He.ga K x) (.type "object") = some true)))
def TabT.kit (T : TabT) (K : PySem.W.Frag) : Bool := (List.range T.classes.length).all fun k => kisB K (T.kname k) &&
  ((List.range T.classes.length).all (fun j => decide (PySem.W.kitOne K (.ref (He.ga K (T.kname k))) (.ref (He.ga K (T.kname j))) = some (k == j))) &&
   tyNames.all fun x => decide (PySem.W.kitOne K (.ref (He.ga K (T.kname k))) (.type x) = some false) && decide (PySem.W.kitOne K (.type x) (.ref (He.ga K (T.kname k))) = some false))
def obsT (T : TabT) (K : PySem.W.Frag) : He.AlD := ((T.fa.all fun f => f.ok K) && (T.kit K && T.defs.all fun d => (d.dd T).ok K), T.defs.map fun d => He.fnW K (d.at_ T))
def valT (T : TabT) : He.AlD := (true, T.defs.map fun d => (d.dd T).val)
def SaysT (T : TabT) (K : PySem.W.Frag) : Prop := obsT T K = valT T
def obsTG (n : Nat) (T : TabT) (g : Addr → Option Obj) : He.AlD := obsT T (He.frG g (He.asD g n))
def hookT (n : Nat) (T : TabT) : PySem.W.Hook where
  α := He.AlD
  obs := fun s => obsTG n T s.heap.get?
  val := fun _ => valT T
  says := fun _ h => ∃ K : PySem.W.Frag, K.In h ∧ SaysT T K
  of := fun _ _ e => ⟨_, He.frG_in, e⟩
  keeps := fun _ _ _ ⟨K, hK, c⟩ k => ⟨K, PySem.W.Frag.In.keeps hK k, c⟩
def obT (n : Nat) (T : TabT) (s : PySem.W.SharedT) : He.AlD := obsTG n T (HandSHeadRun.getT s)
theorem obT_eq (n : Nat) (T : TabT) (s : PySem.W.SharedT) : obT n T s = (hookT n T).obs s.abs := by
  have e : HandSHeadRun.getT s = s.abs.heap.get? := funext (HandSHeadRun.getT_eq s)
  show obsTG n T (HandSHeadRun.getT s) = obsTG n T s.abs.heap.get?
  rw [e]

section
variable {T : TabT} {K : PySem.W.Frag} {h : Heap} {mg : Str → Option Value} {P : Program} {w : World} {base : Heap} {phi : Nat → Phi}
theorem SaysT.fact (c : SaysT T K) {f : He.Fa} (hf : f ∈ T.fa) : f.ok K = true := by
  have c1 := (He.ba (show ((T.fa.all fun f => f.ok K) && (T.kit K && T.defs.all fun d => (d.dd T).ok K)) = true from congrArg (fun z : He.AlD => z.1) c)).1
  exact List.all_eq_true.mp c1 f hf
theorem SaysT.kit_ (c : SaysT T K) : T.kit K = true := by
  have c1 := (He.ba (show ((T.fa.all fun f => f.ok K) && (T.kit K && T.defs.all fun d => (d.dd T).ok K)) = true from congrArg (fun z : He.AlD => z.1) c)).2
  exact (He.ba c1).1
theorem SaysT.def_ (c : SaysT T K) {d : DefT} (hd : d ∈ T.defs) : ∃ fd, FunD K d.kind.nm d.qual (defArgs d.st) (defBody d.st) (defScope d.st) [] [] (He.fAd K (d.at_ T)) fd := by
  have c1 := (He.ba (show ((T.fa.all fun f => f.ok K) && (T.kit K && T.defs.all fun d => (d.dd T).ok K)) = true from congrArg (fun z : He.AlD => z.1) c)).2
  have c2 := (He.ba c1).2
  have e : T.defs.map (fun d => He.fnW K (d.at_ T)) = T.defs.map (fun d => (d.dd T).val) := congrArg (fun z : He.AlD => z.2) c
  have e2 : He.fnW K (d.at_ T) = (d.dd T).val := by
    obtain ⟨i, hi⟩ := List.mem_iff_getElem?.mp hd
    have e3 : (T.defs.map (fun d => He.fnW K (d.at_ T)))[i]? = (T.defs.map (fun d => (d.dd T).val))[i]? := by rw [e]
    rw [List.getElem?_map, List.getElem?_map, hi] at e3
    exact Option.some.inj e3
  exact He.DefD.funD (d := d.dd T) e2 (List.all_eq_true.mp c2 d hd)

def TabT.wf (T : TabT) : Bool := T.classes.all (fun p => decide (p.2.Nodup)) && T.defs.all fun d => match d.kind with
  | .fn _ => true
  | .mth k x => decide (k < T.classes.length) && decide (x ∉ T.flds k)
  | .ini k x => decide (k < T.classes.length) && decide (T.kname k = x)
def T_gi (T : TabT) (K : PySem.W.Frag) (mg : Str → Option Value) : GI where
  K := K
  mg := mg
  cls := fun k => He.ga K (T.kname k)
  flds := T.flds
  exc := fun _ => 0
  exf := fun _ => []
/-- a def's part: its text, and what it does -/
structure DefOk (T : TabT) (phi : Nat → Phi) (i : Nat) (d : DefT) : Prop where
  sc : FnScope d.N d.ps (defScope d.st)
  ch : chSs d.N (T.ci phi) (2 * i) (defScope d.st) (fun _ => true) d.body (defBody d.st) = true
  bd : ∀ (kV doc pm : Value) (an : Option Addr) (cdv ct : Value) (us : List Value), us.length = d.ps.length → bindArgs (PySem.W.fnOf d.kind.nm d.qual (defArgs d.st) (defBody d.st) (defScope d.st) .none kV doc pm an cdv ct) ⟨us, []⟩ = pure (d.ps.zip us)
  ok : ∀ ds c Q X, ds.length = d.ps.length → Wfc c → phi i ds c Q X → wpDef (T.ci phi) d.N.length d.body ds c Q X
theorem kn_at {k : Nat} {p : Str × List Str} (h : T.classes[k]? = some p) : T.kname k = p.1 ∧ T.flds k = p.2 := by
  unfold TabT.kname TabT.flds
  rw [h]
  exact ⟨rfl, rfl⟩
theorem cls_fa (c : SaysT T K) {k : Nat} (hk : k < T.classes.length) : (He.Fa.glo (T.kname k)).ok K = true ∧ (He.Fa.cls (T.kname k)).ok K = true ∧ ∀ f ∈ T.flds k, (He.Fa.noat (T.kname k) f).ok K = true := by
  have e : T.classes[k]? = some T.classes[k] := List.getElem?_eq_getElem hk
  obtain ⟨e1, e2⟩ := kn_at e
  have hm : T.classes[k] ∈ T.classes := List.getElem_mem hk
  have z : ∀ f, f ∈ He.Fa.glo T.classes[k].1 :: He.Fa.cls T.classes[k].1 :: T.classes[k].2.map (He.Fa.noat T.classes[k].1) → f.ok K = true := fun f hf =>
    c.fact (by
      unfold TabT.fa
      rw [List.mem_append, List.mem_append]
      exact .inl (.inr (List.mem_flatMap.mpr ⟨_, hm, hf⟩)))
  rw [e1, e2]
  exact ⟨z _ (by simp), z _ (by simp), fun f hf => z _ (by simp [hf])⟩
theorem def_fa (c : SaysT T K) {d : DefT} (hd : d ∈ T.defs) {f : He.Fa} (hf : f ∈ d.fa T) : f.ok K = true := c.fact (by
  unfold TabT.fa
  rw [List.mem_append]
  exact .inr (List.mem_flatMap.mpr ⟨_, hd, hf⟩))
theorem all_ok (KX : K.In h) (Gn : h.Ns mainGlobals mg) (c : SaysT T K) (wf : T.wf = true) (hs : ∀ i d, T.defs[i]? = some d → DefOk T phi i d) : ∀ n, n ≤ T.defs.length → GOk (T_gi T K mg) (T.ci phi) (2 * n) P w base := by
  unfold TabT.wf at wf
  rw [Bool.and_eq_true] at wf
  have kit := c.kit_
  have kitk : ∀ k, k < T.classes.length → kisB K (T.kname k) = true ∧ (∀ j, j < T.classes.length → PySem.W.kitOne K (.ref (He.ga K (T.kname k))) (.ref (He.ga K (T.kname j))) = some (k == j)) ∧
      ∀ x ∈ tyNames, PySem.W.kitOne K (.ref (He.ga K (T.kname k))) (.type x) = some false ∧ PySem.W.kitOne K (.type x) (.ref (He.ga K (T.kname k))) = some false := fun k hk => by
    have z := List.all_eq_true.mp kit k (List.mem_range.mpr hk)
    obtain ⟨z1, z2⟩ := He.ba z
    obtain ⟨z3, z4⟩ := He.ba z2
    refine ⟨z1, fun j hj => of_decide_eq_true (List.all_eq_true.mp z3 j (List.mem_range.mpr hj)), fun x hx => ?_⟩
    obtain ⟨z5, z6⟩ := He.ba (List.all_eq_true.mp z4 x hx)
    exact ⟨of_decide_eq_true z5, of_decide_eq_true z6⟩
  have clsk : ∀ k, k < T.classes.length → Cls K (He.ga K (T.kname k)) := fun k hk => He.cls_ok (cls_fa c hk).2.1
  have core : ∀ n, n ≤ T.defs.length → (∀ f, f < n → FnR (T_gi T K mg) (T.ci phi) (2 * n) P w base f (He.fAd K (((T.defs[f]?).map fun d => d.at_ T).getD (("" : Str), none)))) → GOk (T_gi T K mg) (T.ci phi) (2 * n) P w base := fun n hn hf => by
    have kd : ∀ f k0, f < n → (T.ci phi).kind f = k0 → ∃ d, d ∈ T.defs ∧ d.kind = k0 ∧ (((T.defs[f]?).map fun d => d.at_ T).getD (("" : Str), none)) = d.at_ T := fun f k0 hfn hk => by
      have e : T.defs[f]? = some T.defs[f] := List.getElem?_eq_getElem (by omega)
      refine ⟨T.defs[f], List.getElem_mem _, ?_, by rw [e]; rfl⟩
      have z : ((T.defs[f]?).map (·.kind)).getD (.fn "") = k0 := hk
      rw [e] at z
      exact z
    refine ⟨rfl, fun x hx => ?_, fun k hk => ?_, fun f x hl hk => ?_, fun f k x hl hk => ?_, fun f k x hl hk => ?_, fun k hk => ?_, fun k hk => ?_, fun k hk => ?_, fun k j hk hj => (kitk k hk).2.1 j hj, fun k hk x hx => ((kitk k hk).2.2 x hx).1, fun k hk x hx => ((kitk k hk).2.2 x hx).2⟩
    · exact He.free_ok KX Gn (c.fact (by
        unfold TabT.fa
        rw [List.mem_append, List.mem_append, List.mem_append]
        exact .inl (.inl (.inl (List.mem_map.mpr ⟨x, hx, rfl⟩)))))
    · have hk' : k < T.consts.length := hk
      have e : T.consts[k]? = some T.consts[k] := List.getElem?_eq_getElem hk'
      have z := He.int_ok KX Gn (c.fact (f := He.Fa.int T.consts[k].1 T.consts[k].2) (by
        unfold TabT.fa
        rw [List.mem_append, List.mem_append, List.mem_append]
        exact .inl (.inl (.inr (List.mem_map.mpr ⟨_, List.getElem_mem hk', rfl⟩)))))
      show ∃ t, mg (((T.consts[k]?).map (·.1)).getD "") = some (.int (((T.consts[k]?).map (·.2)).getD 0) t)
      rw [e]
      exact z
    · have hfn : f < n := by omega
      obtain ⟨d, hd, hk2, ha⟩ := kd f _ hfn hk
      have fr := hf f hfn
      rw [ha] at fr
      have ea : d.at_ T = (x, none) := by unfold DefT.at_; rw [hk2]
      rw [ea] at fr
      obtain ⟨fd, F⟩ := c.def_ hd
      rw [ea] at F
      exact ⟨_, He.glo_ok KX Gn (def_fa c hd (by unfold DefT.fa; rw [hk2]; exact List.mem_singleton.mpr rfl)), F.kp, fr⟩
    · have hfn : f < n := by omega
      obtain ⟨d, hd, hk2, ha⟩ := kd f _ hfn hk
      have fr := hf f hfn
      rw [ha] at fr
      have ea : d.at_ T = (T.kname k, some x) := by unfold DefT.at_; rw [hk2]
      rw [ea] at fr
      have w1 := List.all_eq_true.mp wf.2 d hd
      rw [hk2] at w1
      obtain ⟨w2, w3⟩ := He.ba w1
      exact ⟨_, clsk k (of_decide_eq_true w2), He.meth_ok (def_fa c hd (f := .meth (T.kname k) x) (by unfold DefT.fa; rw [hk2]; exact List.mem_singleton.mpr rfl)), of_decide_eq_true w3, fr⟩
    · have hfn : f < n := by omega
      obtain ⟨d, hd, hk2, ha⟩ := kd f _ hfn hk
      have fr := hf f hfn
      rw [ha] at fr
      have ea : d.at_ T = (T.kname k, some ("__init__" : Str)) := by unfold DefT.at_; rw [hk2]
      rw [ea] at fr
      have w1 := List.all_eq_true.mp wf.2 d hd
      rw [hk2] at w1
      obtain ⟨w2, w3⟩ := He.ba w1
      have e3 : T.kname k = x := of_decide_eq_true w3
      refine ⟨_, He.mkr_ok (def_fa c hd (f := .mkr (T.kname k)) (by unfold DefT.fa; rw [hk2]; exact List.mem_singleton.mpr rfl)), ?_, fr⟩
      have z := He.glo_ok KX Gn (cls_fa c (of_decide_eq_true w2)).1
      show mg x = some (.ref (He.ga K (T.kname k)))
      rw [← e3]; exact z
    · exact ⟨clsk k hk, fun f hf => He.noat_ok ((cls_fa c hk).2.2 f hf)⟩
    · exact He.glo_ok KX Gn (cls_fa c hk).1
    · obtain ⟨z1, z2⟩ := He.ba (kitk k hk).1
      obtain ⟨z3, z4⟩ := He.ba z2
      obtain ⟨z5, z6⟩ := He.ba z4
      exact ⟨clsk k hk, He.eqO_ok z1, He.eqO_ok z3, of_decide_eq_true z5, of_decide_eq_true z6⟩
  intro n
  induction n with
  | zero => exact fun hn => core 0 hn fun f hf => absurd hf (Nat.not_lt_zero _)
  | succ n ih =>
    intro hn
    have g := ih (by omega)
    -- the n-th def
    have e : T.defs[n]? = some T.defs[n] := List.getElem?_eq_getElem (by omega)
    have D := hs n _ e
    obtain ⟨fd, F⟩ := c.def_ (List.getElem_mem (show n < T.defs.length by omega))
    have ok := fn_okF (lv := 2 * n) (phi := phi n) F D.sc g D.ch D.ok
    have bd : Binds K fd (T.defs[n]).ps [] := F.bindsN D.bd
    have new : FnR (T_gi T K mg) (T.ci phi) (2 * (n + 1)) P w base n (He.fAd K (((T.defs[n]?).map fun d => d.at_ T).getD (("" : Str), none))) := by
      rw [e]
      have enp : (T.ci phi).np n = (T.defs[n]).ps.length := by
        show ((T.defs[n]?).map fun d => d.ps.length).getD 0 = _
        rw [e]; rfl
      refine ⟨fd, (T.defs[n]).ps, enp.symm, bd, ?_⟩
      rw [enp]
      exact ok
    refine core (n + 1) hn fun f hf => ?_
    by_cases hfn : f = n
    · subst hfn; exact new
    · -- the earlier ones, one level higher
      have hf' : f < n := by omega
      have ef : T.defs[f]? = some T.defs[f] := List.getElem?_eq_getElem (by omega)
      have old : FnR (T_gi T K mg) (T.ci phi) (2 * n) P w base f (He.fAd K (((T.defs[f]?).map fun d => d.at_ T).getD (("" : Str), none))) := by
        rw [ef]
        have hkf : (T.ci phi).kind f = (T.defs[f]).kind := by
          show ((T.defs[f]?).map (·.kind)).getD (.fn "") = _
          rw [ef]; rfl
        cases hk : (T.defs[f]).kind with
        | fn x =>
          obtain ⟨fa, m, _, r⟩ := g.fn f x (by omega) (by rw [hkf, hk])
          have z := He.glo_ok KX Gn (def_fa c (List.getElem_mem (show f < T.defs.length by omega)) (f := .glo x) (by unfold DefT.fa; rw [hk]; exact List.mem_singleton.mpr rfl))
          have m' : mg x = some (.ref fa) := m
          rw [z] at m'; cases m'
          show FnR _ _ _ _ _ _ _ (He.fAd K ((T.defs[f]).at_ T))
          unfold DefT.at_; rw [hk]; exact r
        | mth k x =>
          obtain ⟨fa, _, m, _, r⟩ := g.mth f k x (by omega) (by rw [hkf, hk])
          have z := He.meth_ok (def_fa c (List.getElem_mem (show f < T.defs.length by omega)) (f := .meth (T.kname k) x) (by unfold DefT.fa; rw [hk]; exact List.mem_singleton.mpr rfl))
          have e1 : PySem.W.findIn K (.ref (He.ga K (T.kname k))) x = some (some (.ref fa)) := m.at_
          have e2 := z.at_
          rw [e1] at e2
          have e3 : fa = He.ma K (He.ga K (T.kname k)) x := by simpa using e2
          subst e3
          show FnR _ _ _ _ _ _ _ (He.fAd K ((T.defs[f]).at_ T))
          unfold DefT.at_; rw [hk]; exact r
        | ini k x =>
          obtain ⟨fa, m, _, r⟩ := g.ini f k x (by omega) (by rw [hkf, hk])
          have z := He.mkr_ok (def_fa c (List.getElem_mem (show f < T.defs.length by omega)) (f := .mkr (T.kname k)) (by unfold DefT.fa; rw [hk]; exact List.mem_singleton.mpr rfl))
          have e1 : PySem.W.findIn K (.ref (He.ga K (T.kname k))) "__init__" = some (some (.ref fa)) := m.init
          have e2 := z.init
          rw [e1] at e2
          have e3 : fa = He.ma K (He.ga K (T.kname k)) "__init__" := by simpa using e2
          subst e3
          show FnR _ _ _ _ _ _ _ (He.fAd K ((T.defs[f]).at_ T))
          unfold DefT.at_; rw [hk]; exact r
      obtain ⟨fd2, ps2, h1, h2, h3⟩ := old
      exact ⟨fd2, ps2, h1, h2, h3.mono (by omega)⟩

/-- the law's end -/
theorem law_end {l : PySem.W.OpenLaw} {n k : Nat} {q : Program} {loose : List Str} {XP : (Str → Option Value) → Heap → Prop} {YP : World → Heap → Prop} {d : DefRec} {x : Str}
    (most : l.most = some n) (small : n ≤ sizeLine) (nodefault : d.params.defaults = []) (room : Room k callerA)
    (all : ∀ (w : World) (mg : Str → Option Value) (fa : Addr) (h : Heap), YP w h → h.Ns mainGlobals mg → mg d.name = some (.ref fa) → ∃ (K : PySem.W.Frag) (fd : FuncData) (sp : Sp),
      (K.In h ∧ (∀ (s : Shared) (u : Value), BindsTo s fd ⟨[u], []⟩ [(x, u)])) ∧
      ((∀ (H : Hp) (a : Addr) (ns : List Int), ns.length ≤ n → Only H → SqL K H a (ns.map V.int) → sp [.ref a] H (fun v _ => v = .bl true) fun _ _ _ => False) ∧
        ∀ base : Heap, FnOk l.prog w K mg base (L2.CX l.prog w) k fa fd [x] sp)) :
    PySem.W.WalkO q loose XP YP l.row.toRowW d [] (fun f vs => PySem.call f vs) := by
  refine Att.attach_call most nodefault ?_
  intro w s0 s1 mg mb fa o pm cd doc a vs ns Gd Y ho hd hcd hm hobj hi hl hgen
  obtain ⟨K, fd, sp, ⟨inK, binds⟩, says, keeps⟩ := all w mg fa _ Y Gd.T.g hm
  refine law_call (CX := L2.CX l.prog w) inK Gd.T.g Gd.T.b Gd.T.builtins Gd.T.nolimit hgen hobj hi (Nat.le_trans hl small) room (fun base _ _ => keeps base) binds (fun H only sq => says H a ns hl only sq) ?_
  intro H e s' ⟨_, _, _, _, _, _, _, _, _, _, _, _, no⟩
  exact no
theorem script_ok {K : PySem.W.Frag} {mg : Str → Option Value} {H : Hp} {a : Addr} {ns : List Int} (only : Only H) (sq : SqL K H a (ns.map V.int)) {f : Nat} (hp : phi f [.scr (ns.map D.int)] [] (fun d _ => d = .bl true) (fun _ _ _ => False)) :
    spF (T_gi T K mg) 1 (phi f) [.ref a] H (fun v _ => v = .bl true) (fun _ _ _ => False) := by
  refine ⟨{ H := H, as := [], Fz := fun b => ∃ o xs, H b = some (.frz o (.lst xs)) }, [], _, _, _, rfl, ?_, .cons (.scr ?_ DenL.of_ints) .nil, rfl, hp, fun v H' ⟨W', c', d, e1, x, ok, dn, q⟩ => ?_, fun cls dd H' ⟨_, _, _, _, _, _, _, _, _, f⟩ => f⟩
  · exact ⟨rfl, List.nodup_nil, fun b _ hm => by simp at hm, fun b ⟨o, xs, e⟩ => ⟨_, e⟩, fun n b x e => by simp at e⟩
  · rcases sq with (sq | ⟨o, sq⟩) | sq
    · rcases only a with z | ⟨o, xs, z⟩
      · rw [z] at sq; cases sq
      · rw [z] at sq; cases sq
    · exact .inl ⟨⟨o, _, sq⟩, o, sq⟩
    · exact .inr sq
  · subst q
    cases dn
    rfl
theorem law_fd {f : Nat} {x : Str} {d : DefT} {fa : Addr} (KX : K.In h) (Gn : h.Ns mainGlobals mg) (c : SaysT T K) (wf : T.wf = true) (hs : ∀ i d, T.defs[i]? = some d → DefOk T phi i d)
    (hd : T.defs[f]? = some d) (hk : d.kind = .fn "law") (hps : d.ps = [x]) (hm : mg "law" = some (.ref fa)) :
    ∃ fd : FuncData, (∀ (s : Shared) (u : Value), BindsTo s fd ⟨[u], []⟩ [(x, u)]) ∧ ∀ (P : Program) (w : World) (base : Heap), FnOk P w K mg base (L2.CX P w) (2 * f + 2) fa fd [x] (spF (T_gi T K mg) 1 (phi f)) := by
  have hmem : d ∈ T.defs := List.mem_of_getElem? hd
  have D := hs f d hd
  obtain ⟨fd, F⟩ := c.def_ hmem
  have ea : d.at_ T = (("law" : Str), none) := by unfold DefT.at_; rw [hk]
  rw [ea] at F
  have z := He.glo_ok KX Gn (def_fa c hmem (f := .glo "law") (by unfold DefT.fa; rw [hk]; exact List.mem_singleton.mpr rfl))
  rw [hm] at z
  have e : fa = He.ga K "law" := by simpa using z
  subst e
  have b := FunD.bindsA (ps := d.ps) F D.bd
  rw [hps] at b
  refine ⟨fd, fun s u => b s [u] rfl, fun P w base => ?_⟩
  have g := all_ok (P := P) (w := w) (base := base) KX Gn c wf hs f (by have := (List.getElem?_eq_some_iff.mp hd).1; omega)
  have o := fn_okF (lv := 2 * f) (phi := phi f) F D.sc g D.ch D.ok
  rw [hps] at o
  exact o
end
end F

namespace F
open PySem PySem.Spec L2
section
variable {I : CI} {env : En} {c : Cs} {Q : QE} {X : QX} {m : Bool}
theorem e_var {i : Nat} {d : D} (h : env[i]? = some (some d)) : wpE I (.var i) env c Q X = Q d c := by
  unfold wpE; rw [h]
theorem e_lit {l : Lt} : wpE I (.lit l) env c Q X = Q l.d c := rfl
theorem e_con {k : Nat} : wpE I (.con k) env c Q X = Q (.int (I.cval k)) c := rfl
def negK (Q : QE) : D → Cs → Prop := fun d c1 => match d with
    | .int i => Q (.int (-i)) c1
    | _ => False
def notK (Q : QE) : D → Cs → Prop := fun d c1 => match d with
    | .bl b => Q (.bl (!b)) c1
    | _ => False
theorem e_neg {a : FE} : wpE I (.un .neg a) env c Q X = wpE I a env c (negK Q) X := rfl
theorem e_not {a : FE} : wpE I (.un .not a) env c Q X = wpE I a env c (notK Q) X := rfl
@[simp] theorem negK_int {i : Int} : negK Q (.int i) c = Q (.int (-i)) c := rfl
@[simp] theorem notK_bl {b : Bool} : notK Q (.bl b) c = Q (.bl (!b)) c := rfl
theorem e_bin {o : B2} {a b : FE} : wpE I (.bin o m a b) env c Q X = wpE I a env c (fun x c1 => wpE I b env c1 (fun y c2 => wpB o m x y c2 Q) X) X := rfl
theorem e_bop {k : Bool} {es : FA} : wpE I (.bop k es) env c Q X = wpBop I k es env c Q X := rfl
def chK2 (p : B2) (Ez : QE → Cs → Prop) (y : D) (Q : QE) : D → Cs → Prop := fun r c3 => match r with
    | .bl k => sIf k (Ez (fun z c4 => wpB p false y z c4 Q) c3) (Q (.bl false) c3)
    | _ => False
theorem e_chain {o p : B2} {a b e : FE} : wpE I (.chain o p a b e) env c Q X = wpE I a env c (fun x c1 => wpE I b env c1 (fun y c2 => wpB o false x y c2 (chK2 p (fun K c3 => wpE I e env c3 K X) y Q)) X) X := rfl
@[simp] theorem chK2_bl {p : B2} {Ez : QE → Cs → Prop} {y : D} {b : Bool} : chK2 p Ez y Q (.bl b) c = sIf b (Ez (fun z c4 => wpB p false y z c4 Q) c) (Q (.bl false) c) := rfl
theorem e_ife {t : FC} {a b : FE} : wpE I (.ife t a b) env c Q X = wpC I t env c (fun k c1 => sIf k (wpE I a env c1 Q X) (wpE I b env c1 Q X)) X := rfl
theorem e_tup {es : FA} : wpE I (.tup es) env c Q X = wpA I es env c (fun ds c1 => ds.length ≤ 16777216 ∧ Q (.tup ds) c1) X := rfl
theorem e_lst {es : FA} : wpE I (.lst m es) env c Q X = wpA I es env c (fun ds c1 => ds.length ≤ 16777216 ∧ newL m ds c1 Q) X := rfl
theorem e_slc {a : FE} {lo hi : FA} : wpE I (.slc m a lo hi) env c Q X = wpE I a env c (fun x c1 => wpA I lo env c1 (fun l c2 => onO (partOf l) fun lo' => wpA I hi env c2 (fun h c3 => onO (partOf h) fun hi' => slcO m c3 Q x lo' hi') X) X) X := rfl
def attK (k j : Nat) (Q : QE) : D → Cs → Prop := fun d c1 => match d with
    | .obj k' fs => k = k' ∧ onO fs[j]? fun v => Q v c1
    | .cell n => match c1[n]? with
      | some (.obj k' fs) => k = k' ∧ onO fs[j]? fun v => Q v c1
      | _ => False
    | _ => False
theorem e_attr {a : FE} {k j : Nat} : wpE I (.attr a k j) env c Q X = wpE I a env c (attK k j Q) X := rfl
theorem attK_obj {k j k' : Nat} {fs : List D} : attK k j Q (.obj k' fs) c = (k = k' ∧ onO fs[j]? fun v => Q v c) := rfl
theorem attK_cell {k j k' n : Nat} {fs : List D} (h : c[n]? = some (.obj k' fs)) : attK k j Q (.cell n) c = (k = k' ∧ onO fs[j]? fun v => Q v c) := by
  unfold attK; dsimp only; rw [h]
theorem e_call {f : Nat} {es : FA} : wpE I (.call f es) env c Q X = wpA I es env c (fun ds c1 => I.phi f ds c1 Q X) X := rfl
theorem e_meth {f : Nat} {a : FE} {es : FA} : wpE I (.meth f a es) env c Q X = wpE I a env c (fun d c0 => objIs c0 (I.kind f) d = true ∧ wpA I es env c0 (fun ds c1 => I.phi f (d :: ds) c1 Q X) X) X := rfl
def makK (n : Nat) (Q : QE) : D → Cs → Prop := fun d c2 => match d with
    | .non => Q (.cell n) c2
    | _ => False
theorem e_make {k f : Nat} {es : FA} : wpE I (.make k f es) env c Q X = wpA I es env c (fun ds c1 => I.phi f (.cell c1.length :: ds) (c1 ++ [.obj k []]) (makK c1.length Q) X) X := rfl
@[simp] theorem makK_non {n : Nat} : makK n Q .non c = Q (.cell n) c := rfl
theorem e_bi {o : Bi} {es : FA} : wpE I (.bi o m es) env c Q X = wpA I es env c (fun ds c1 => wpBi o m ds c1 Q) X := rfl
theorem e_mt {o : Mt} {a : FE} {es : FA} : wpE I (.mt o a es) env c Q X = wpE I a env c (fun d c1 => onO (getL c1 d) fun _ => wpA I es env c1 (fun ds c2 => wpMt o d ds c2 Q) X) X := rfl
theorem e_isi {a : FE} {ts : List Ty} {t : Bool} : wpE I (.isi a ts t) env c Q X = wpE I a env c (fun d c1 => onO (tyD c1 d) fun t => tyIn I t = true ∧ Q (.bl (ts.any (tySub t))) c1) X := rfl
theorem e_comp {keep : Bool} {t : FT} {it : FI} {cond : FCs} {e : FE} {vs : List (Str × Nat)} : wpE I (.comp m keep t it cond e vs) env c Q X = wpI I it env c (fun xs gd c1 => compL I.flds keep c1.length gd (fun x K c2 => wpT t x (wipeE env (vs.map (·.2))) c2 fun env' =>
      wpCs I cond env' c2 (fun k c3 => sIf k (wpE I e env' c3 (fun d c4 => K (some d) c4) fun _ _ _ => False) (K none c3)) fun _ _ _ => False)
      (fun ds c2 => newL m ds c2 Q) xs [] c1) X := rfl
theorem e_frz {a : FE} : wpE I (.frz a) env c Q X = wpE I a env c (fun d c1 => clean I.flds c.length c1 fun f c2 => Q (f d) c2) X := rfl
theorem e_dct0 : wpE I (.dct0 m) env c Q X = newD m [] [] c Q := rfl
theorem e_dct1 {k v : FE} : wpE I (.dct1 m k v) env c Q X = wpE I k env c (fun x c1 => wpE I v env c1 (fun y c2 => isKey x = true ∧ newD m [x] [y] c2 Q) X) X := rfl
theorem a_nil {Q : List D → Cs → Prop} : wpA I .nil env c Q X = Q [] c := rfl
theorem a_cons {e : FE} {es : FA} {Q : List D → Cs → Prop} : wpA I (.cons e es) env c Q X = wpE I e env c (fun d c1 => wpA I es env c1 (fun ds c2 => Q (d :: ds) c2) X) X := rfl
theorem bop_one {k : Bool} {e : FE} : wpBop I k (.cons e .nil) env c Q X = wpE I e env c Q X := rfl
def bopK' (A B : Cs → Prop) : D → Cs → Prop := fun d c1 => match d with
    | .bl b => sIf b (A c1) (B c1)
    | _ => False
@[simp] theorem bopK_bl {A B : Cs → Prop} {b : Bool} : bopK' A B (.bl b) c = sIf b (A c) (B c) := rfl
theorem bop_and {e e' : FE} {es : FA} : wpBop I true (.cons e (.cons e' es)) env c Q X = wpE I e env c (bopK' (fun c1 => wpBop I true (.cons e' es) env c1 Q X) (fun c1 => Q (.bl false) c1)) X := rfl
theorem bop_or {e e' : FE} {es : FA} : wpBop I false (.cons e (.cons e' es)) env c Q X = wpE I e env c (bopK' (fun c1 => Q (.bl true) c1) (fun c1 => wpBop I false (.cons e' es) env c1 Q X)) X := rfl
def valK (Q : Bool → Cs → Prop) : D → Cs → Prop := fun d c1 => match d with
    | .bl b => Q b c1
    | _ => False
@[simp] theorem valK_bl {Q : Bool → Cs → Prop} {b : Bool} : valK Q (.bl b) c = Q b c := rfl
theorem c_val {e : FE} {Q : Bool → Cs → Prop} : wpC I (.val e) env c Q X = wpE I e env c (valK Q) X := rfl
theorem c_not {t : FC} {Q : Bool → Cs → Prop} : wpC I (.not t) env c Q X = wpC I t env c (fun b c1 => Q (!b) c1) X := rfl
theorem c_bop {k : Bool} {cs : FCs} {Q : Bool → Cs → Prop} : wpC I (.bop k cs) env c Q X = wpCb I k cs env c Q X := rfl
theorem cb_one {k : Bool} {e : FC} {Q : Bool → Cs → Prop} : wpCb I k (.cons e .nil) env c Q X = wpC I e env c Q X := rfl
theorem cb_and {e e' : FC} {es : FCs} {Q : Bool → Cs → Prop} : wpCb I true (.cons e (.cons e' es)) env c Q X = wpC I e env c (fun b c1 => sIf b (wpCb I true (.cons e' es) env c1 Q X) (Q false c1)) X := rfl
theorem cb_or {e e' : FC} {es : FCs} {Q : Bool → Cs → Prop} : wpCb I false (.cons e (.cons e' es)) env c Q X = wpC I e env c (fun b c1 => sIf b (Q true c1) (wpCb I false (.cons e' es) env c1 Q X)) X := rfl
theorem cs_nil {Q : Bool → Cs → Prop} : wpCs I .nil env c Q X = Q true c := rfl
theorem cs_one {t : FC} {Q : Bool → Cs → Prop} : wpCs I (.cons t .nil) env c Q X = wpC I t env c Q X := rfl
section
variable {QI : List D → List (Nat × List D) → Cs → Prop}
theorem i_ex {e : FE} : wpI I (.ex e) env c QI X = wpE I e env c (fun d c1 => onO (getS c1 d) fun xs => QI xs (gdOf c1 d) c1) X := rfl
def rngK (QI : List D → List (Nat × List D) → Cs → Prop) : D → Cs → Prop := fun d c1 => match d with
    | .int n => small n ∧ QI (rngL 0 n.toNat) [] c1
    | _ => False
@[simp] theorem rngK_int {n : Int} : rngK QI (.int n) c = (small n ∧ QI (rngL 0 n.toNat) [] c) := rfl
theorem i_rng1 {a : FE} : wpI I (.rng1 a) env c QI X = wpE I a env c (rngK QI) X := rfl
theorem i_rng2 {a b : FE} : wpI I (.rng2 a b) env c QI X = wpE I a env c (fun x c1 => wpE I b env c1 (fun y c2 => int2 (fun i j => small i ∧ small j ∧ QI (rngL i (j - i).toNat) [] c2) x y) X) X := rfl
theorem i_enum {a : FE} : wpI I (.enum a) env c QI X = wpE I a env c (fun d c1 => onO (getS c1 d) fun xs => QI (enumL xs 0) (gdOf c1 d) c1) X := rfl
theorem i_zip {a b : FE} : wpI I (.zip a b) env c QI X = wpE I a env c (fun x c1 => wpE I b env c1 (fun y c2 => onO (getR c2 x) fun xs => onO (getR c2 y) fun ys => QI (zipL xs ys) (gdOf c2 x ++ gdOf c2 y) c2) X) X := rfl
end
section
variable {np : Nat} {E : FEnds} {Y : EX}
theorem s_nil : wpSs I .nil np E Y env c = E.nx env c := rfl
/-- what follows a statement, not looked into -/
@[irreducible] def KS (I : CI) (ss : FSs) (np : Nat) (E : FEnds) (Y : EX) : En → Cs → Prop := wpSs I ss np E Y
theorem s_cons {s : FS} {ss : FSs} : wpSs I (.cons s ss) np E Y env c = wpS I s np { E with nx := KS I ss np E Y } Y env c := by
  unfold KS; rfl
theorem ks_nil : KS I .nil np E Y env c = E.nx env c := by
  unfold KS; rfl
theorem ks_run {ss : FSs} : KS I ss np E Y env c = wpSs I ss np E Y env c := by
  unfold KS; rfl
theorem s_expr {e : FE} : wpS I (.expr e) np E Y env c = wpE I e env c (fun _ c1 => E.nx env c1) (atE Y env) := rfl
theorem s_set {t : FT} {e : FE} : wpS I (.set t e) np E Y env c = wpE I e env c (fun d c1 => wpT t d env c1 fun env' => E.nx env' c1) (atE Y env) := rfl
theorem s_setC {i : Nat} {e : FE} : wpS I (.setC i e) np E Y env c = wpE I e env c (fun d c1 => i < env.length ∧ E.nx (setE env i d) c1) (atE Y env) := rfl
theorem s_par {i j : Nat} {a b : FE} : wpS I (.par i j a b) np E Y env c = wpE I a env c (fun x c1 => wpE I b env c1 (fun y c2 => i < env.length ∧ j < env.length ∧ E.nx (setE (setE env i x) j y) c2) (atE Y env)) (atE Y env) := rfl
theorem s_aug {i : Nat} {o : B2} {e : FE} {k : Int} (h : env[i]? = some (some (.int k))) : wpS I (.aug i o m e) np E Y env c = wpE I e env c (fun y c1 => augI o k (fun z => E.nx (setE env i (.int z)) c1) y) (atE Y env) := by
  show (match env[i]? with
    | some (some (.int k)) => wpE I e env c (fun y c1 => augI o k (fun z => E.nx (setE env i (.int z)) c1) y) (atE Y env)
    | _ => False) = _
  rw [h]
theorem s_setI {o i v : FE} : wpS I (.setI o i v) np E Y env c = wpE I v env c (fun z c1 => wpE I o env c1 (fun x c2 => wpE I i env c2 (fun y c3 => setD x y z c3 (E.nx env)) (atE Y env)) (atE Y env)) (atE Y env) := rfl
def agK (Ev : QE → Cs → Prop) (o : B2) (x : D) (K : Cs → Prop) : D → Cs → Prop := fun y c2 => match y with
    | .int q => idxS c2 (fun old c2' => Ev (fun z c3 => onI (fun p => augI o p (fun r => setD x y (.int r) c3 K) z) old) c2') q (getL c2 x)
    | _ => False
theorem s_augI {o : B2} {a i v : FE} : wpS I (.augI o a i v) np E Y env c = wpE I a env c (fun x c1 => wpE I i env c1 (agK (fun K c3 => wpE I v env c3 K (atE Y env)) o x (E.nx env)) (atE Y env)) (atE Y env) := rfl
@[simp] theorem agK_int {Ev : QE → Cs → Prop} {o : B2} {x : D} {K : Cs → Prop} {q : Int} : agK Ev o x K (.int q) c = idxS c (fun old c2' => Ev (fun z c3 => onI (fun p => augI o p (fun r => setD x (.int q) (.int r) c3 K) z) old) c2') q (getL c x) := rfl
theorem s_setA {a v : FE} {k j : Nat} : wpS I (.setA a k j v) np E Y env c = wpE I v env c (fun z c1 => wpE I a env c1 (fun x c2 => setF I.flds x k j z c2 (E.nx env)) (atE Y env)) (atE Y env) := rfl
theorem s_ifs {t : FC} {a b : FSs} : wpS I (.ifs t a b) np E Y env c = wpC I t env c (fun k c1 => sIf k (wpSs I a np E Y env c1) (wpSs I b np E Y env c1)) (atE Y env) := rfl
theorem s_for {keep : Bool} {t : FT} {it : FI} {b : FSs} : wpS I (.for_ keep t it b) np E Y env c = wpI I it env c (fun xs gd c1 => forL I.flds keep c1.length gd (fun x E' env' c' => wpT t x env' c' fun env2 => wpSs I b c1.length E' Y env2 c') E xs env c1) (atE Y env) := rfl
theorem s_ret {e : FE} : wpS I (.ret e) np E Y env c = wpE I e env c E.rt (atE Y env) := rfl
theorem s_retN : wpS I .retN np E Y env c = E.rt .non c := rfl
theorem s_brk : wpS I .brk np E Y env c = E.bk env c := rfl
theorem s_cnt : wpS I .cnt np E Y env c = E.ct env c := rfl
theorem s_pass : wpS I .pass np E Y env c = E.nx env c := rfl
theorem s_frz {i : Nat} : wpS I (.frz i) np E Y env c = onO (cellAtI env i) fun n => np ≤ n ∧ frz1 I.flds n c fun ρ c' => E.nx (env.map (Option.map (D.sub ρ))) c' := rfl
theorem s_forget {i : Nat} : wpS I (.forget i) np E Y env c = E.nx (env.set i none) c := rfl
end
theorem t_nm {i : Nat} {d : D} {K : En → Prop} : wpT (.nm i) d env c K = (i < env.length ∧ K (setE env i d)) := rfl
theorem t_tp {ts : FTs} {d : D} {K : En → Prop} : wpT (.tp ts) d env c K = onO (getS c d) fun xs => xs.length = ftLen ts ∧ wpTs ts xs env c K := rfl
theorem ts_nil {K : En → Prop} : wpTs .nil [] env c K = K env := rfl
theorem ts_cons {t : FT} {ts : FTs} {d : D} {ds : List D} {K : En → Prop} : wpTs (.cons t ts) (d :: ds) env c K = wpT t d env c fun env' => wpTs ts ds env' c K := rfl
theorem b_add {i j : Int} : wpB .add m (.int i) (.int j) c Q = Q (.int (i + j)) c := rfl
theorem b_sub {i j : Int} : wpB .sub m (.int i) (.int j) c Q = Q (.int (i - j)) c := rfl
theorem b_mul {i j : Int} : wpB .mul m (.int i) (.int j) c Q = (mulOk i j ∧ Q (.int (i * j)) c) := rfl
theorem b_fdiv {i j : Int} : wpB .fdiv m (.int i) (.int j) c Q = ((0 < j ∧ j.natAbs < 2 ^ 9000) ∧ Q (.int (i / j)) c) := rfl
theorem b_mod {i j : Int} : wpB .mod m (.int i) (.int j) c Q = (0 < j ∧ Q (.int (i % j)) c) := rfl
theorem b_pow {i j : Int} : wpB .pow m (.int i) (.int j) c Q = ((0 ≤ j ∧ j ≤ 1000000 ∧ i.natAbs < 2 ^ 64) ∧ Q (.int (i ^ j.toNat)) c) := rfl
theorem b_lt {i j : Int} : wpB .lt m (.int i) (.int j) c Q = Q (.bl (decide (i < j))) c := rfl
theorem b_le {i j : Int} : wpB .le m (.int i) (.int j) c Q = Q (.bl (decide (i ≤ j))) c := rfl
theorem b_gt {i j : Int} : wpB .gt m (.int i) (.int j) c Q = Q (.bl (decide (j < i))) c := rfl
theorem b_ge {i j : Int} : wpB .ge m (.int i) (.int j) c Q = Q (.bl (decide (j ≤ i))) c := rfl
theorem b_eq {i j : Int} : wpB .eq m (.int i) (.int j) c Q = Q (.bl (decide (i = j))) c := rfl
theorem b_ne {i j : Int} : wpB .ne m (.int i) (.int j) c Q = Q (.bl (!decide (i = j))) c := rfl
theorem b_eqb {i j : Bool} : wpB .eq m (.bl i) (.bl j) c Q = Q (.bl (decide (i = j))) c := rfl
theorem b_neb {i j : Bool} : wpB .ne m (.bl i) (.bl j) c Q = Q (.bl (!decide (i = j))) c := rfl
theorem b_is {a : D} : wpB .is m a .non c Q = Q (.bl (isNon a)) c := by
  cases a <;> rfl
theorem b_isn {a : D} : wpB .isn m a .non c Q = Q (.bl (!isNon a)) c := by
  cases a <;> rfl
theorem b_isb {i j : Bool} : wpB .is m (.bl i) (.bl j) c Q = Q (.bl (decide (i = j))) c := rfl
theorem b_isnb {i j : Bool} : wpB .isn m (.bl i) (.bl j) c Q = Q (.bl (!decide (i = j))) c := rfl
theorem e_rev {a : FE} : wpE I (.rev m a) env c Q X = wpE I a env c (fun d c1 => onO (getR c1 d) fun xs => newL m xs.reverse c1 Q) X := rfl
theorem bi_sorted {a : D} : wpBi .sorted m [a] c Q = onO (getR c a) fun xs => onO (allI xs) fun ns => ∀ ms : List Int, ms.Perm ns → ms.Pairwise (· ≤ ·) → newL m (ms.map D.int) c Q := rfl
theorem b_idx {a : D} {i : Int} : wpB .idx m a (.int i) c Q = idxS c Q i (getS c a) := rfl
theorem idx_some {xs : List D} {i : Int} {d : D} (h : atI xs i = some d) : idxS c Q i (some xs) = Q d c := by
  unfold idxS; dsimp only; rw [h]
theorem atI_pos {α : Type} {xs : List α} {i : Int} {d : α} (h0 : 0 ≤ i) (h : xs[i.toNat]? = some d) : atI xs i = some d := by
  unfold atI ixN
  have hl := (List.getElem?_eq_some_iff.mp h).1
  rw [if_pos h0, if_pos (by omega)]
  exact h
theorem getL_lst {xs : List D} : getL c (.lst xs) = some xs := rfl
theorem getR_lst {xs : List D} : getR c (.lst xs) = some xs := rfl
theorem getR_scr {xs : List D} : getR c (.scr xs) = some xs := rfl
theorem getS_lst {xs : List D} : getS c (.lst xs) = some xs := rfl
theorem getS_scr {xs : List D} : getS c (.scr xs) = some xs := rfl
theorem getS_tup {xs : List D} : getS c (.tup xs) = some xs := rfl
theorem getL_cell {n : Nat} {xs : List D} (h : c[n]? = some (.lst xs)) : getL c (.cell n) = some xs := by
  unfold getL; dsimp only; rw [h]
theorem getR_cell {n : Nat} {xs : List D} (h : c[n]? = some (.lst xs)) : getR c (.cell n) = some xs := getL_cell h
theorem getS_cell {n : Nat} {xs : List D} (h : c[n]? = some (.lst xs)) : getS c (.cell n) = some xs := getL_cell h
theorem gdOf_lst {xs : List D} : gdOf c (.lst xs) = [] := rfl
theorem gdOf_scr {xs : List D} : gdOf c (.scr xs) = [] := rfl
theorem gdOf_tup {xs : List D} : gdOf c (.tup xs) = [] := rfl
theorem gdOf_cell {n : Nat} {xs : List D} (h : c[n]? = some (.lst xs)) : gdOf c (.cell n) = [(n, xs)] := by
  unfold gdOf; dsimp only; rw [h]
theorem onO_some {α : Type} {x : α} {P : α → Prop} : onO (some x) P = P x := rfl
theorem sIf_true {A B : Prop} : sIf true A B = A := rfl
theorem sIf_false {A B : Prop} : sIf false A B = B := rfl
theorem sIf_dec {p : Prop} [Decidable p] {A B : Prop} : sIf (decide p) A B = if p then A else B := by
  by_cases h : p <;> simp [h, sIf]
theorem sIf_not {b : Bool} {A B : Prop} : sIf (!b) A B = sIf b B A := by cases b <;> rfl
theorem sIf_if {b : Bool} {A B : Prop} : sIf b A B = if b = true then A else B := by cases b <;> simp [sIf]
theorem newL_f {xs : List D} : newL false xs c Q = Q (.lst xs) c := rfl
theorem newL_t {xs : List D} : newL true xs c Q = Q (.cell c.length) (c ++ [.lst xs]) := rfl
theorem newD_f {ks vs : List D} : newD false ks vs c Q = Q (.dct ks vs) c := rfl
theorem newD_t {ks vs : List D} : newD true ks vs c Q = Q (.cell c.length) (c ++ [.dct ks vs]) := rfl
theorem setD_ok1 {n : Nat} {j : Int} {k : Nat} {xs : List D} {v : D} {K : Cs → Prop} (h : c[n]? = some (.lst xs)) (hk : ixN xs.length j = some k) : setD (.cell n) (.int j) v c K = K (c.set n (.lst (xs.set k v))) := by
  unfold setD; dsimp only; rw [getL_cell h, onO_some, hk, onO_some]
theorem ixN_pos {n : Nat} {i : Int} (h0 : 0 ≤ i) (h : i < n) : ixN n i = some i.toNat := by
  unfold ixN
  rw [if_pos h0, if_pos (by omega)]
theorem onI_int {P : Int → Prop} {i : Int} : onI P (.int i) = P i := rfl
theorem aug_add {i j : Int} {K : Int → Prop} : augI .add i K (.int j) = K (i + j) := rfl
theorem aug_sub {i j : Int} {K : Int → Prop} : augI .sub i K (.int j) = K (i - j) := rfl
theorem bi_len {a : D} : wpBi .len m [a] c Q = onO (getS c a) fun xs => Q (.int xs.length) c := rfl
theorem bi_abs {i : Int} : wpBi .abs m [.int i] c Q = Q (.int (if i < 0 then -i else i)) c := rfl
theorem bi_max {i j : Int} : wpBi .max m [.int i, .int j] c Q = Q (.int (if j > i then j else i)) c := rfl
theorem bi_min {i j : Int} : wpBi .min m [.int i, .int j] c Q = Q (.int (if j < i then j else i)) c := rfl
theorem bi_sum {a : D} : wpBi .sum m [a] c Q = onO (getR c a) fun xs => onO (allI xs) fun ns => Q (.int ns.sum) c := rfl
theorem bi_all {a : D} : wpBi .all m [a] c Q = onO (getR c a) fun xs => onO (allB xs) fun bs => Q (.bl (bs.all id)) c := rfl
theorem bi_any {a : D} : wpBi .any m [a] c Q = onO (getR c a) fun xs => onO (allB xs) fun bs => Q (.bl (bs.any id)) c := rfl
theorem bi_int {i : Int} : wpBi .int m [.int i] c Q = Q (.int i) c := rfl
theorem bi_intb {b : Bool} : wpBi .int m [.bl b] c Q = Q (.int (if b then 1 else 0)) c := rfl
theorem bi_list {a : D} : wpBi .list m [a] c Q = onO (getS c a) fun xs => newL m xs c Q := rfl
theorem bi_tuple {a : D} : wpBi .tuple m [a] c Q = onO (getS c a) fun xs => Q (.tup xs) c := rfl
theorem mt_app {n : Nat} {x : D} : wpMt .append (.cell n) [x] c Q = onO (getL c (.cell n)) fun xs => xs.length < 16777216 ∧ Q .non (c.set n (.lst (xs ++ [x]))) := rfl
theorem mt_pop {n : Nat} : wpMt .pop (.cell n) [] c Q = onO (getL c (.cell n)) fun xs => onO xs.getLast? fun x => Q x (c.set n (.lst xs.dropLast)) := rfl
theorem mt_clear {n : Nat} : wpMt .clear (.cell n) [] c Q = onO (getL c (.cell n)) fun _ => Q .non (c.set n (.lst [])) := rfl
theorem allI_map {ns : List Int} : allI (ns.map D.int) = some ns := by
  induction ns with
  | nil => rfl
  | cons n r ih => simp only [List.map_cons, allI, ih, Option.map_some]
theorem allB_map {ns : List Bool} : allB (ns.map D.bl) = some ns := by
  induction ns with
  | nil => rfl
  | cons n r ih => simp only [List.map_cons, allB, ih, Option.map_some]
theorem slc_tup {xs : List D} {lo hi : Option Int} : slcO m c Q (.tup xs) lo hi = Q (.tup (cutD xs lo hi)) c := rfl
theorem slc_any {d : D} {xs : List D} {lo hi : Option Int} (h : getR c d = some xs) : slcO m c Q d lo hi = newL m (cutD xs lo hi) c Q := by
  have nt : ∀ ys, d ≠ .tup ys := fun ys e => by subst e; simp [getR, getL] at h
  unfold slcO
  split
  · exact absurd rfl (nt _)
  · rw [h, onO_some]
theorem part0 : partOf [] = some none := rfl
theorem part1 {i : Int} : partOf [.int i] = some (some i) := rfl
theorem cut_take {xs : List D} {n : Nat} : cutD xs none (some (n : Int)) = xs.take n := by
  unfold cutD
  simp only [HT.sIx]
  have e : ¬ ((n : Int) < 0) := by omega
  simp only [e, if_false, Nat.sub_zero, List.drop_zero, Int.toNat_natCast]
  by_cases h : xs.length ≤ n
  · rw [Nat.min_eq_right h, List.take_length, List.take_of_length_le h]
  · rw [Nat.min_eq_left (by omega)]
theorem cut_drop {xs : List D} {n : Nat} : cutD xs (some (n : Int)) none = xs.drop n := by
  unfold cutD
  simp only [HT.sIx]
  have e : ¬ ((n : Int) < 0) := by omega
  simp only [e, if_false, Int.toNat_natCast]
  rw [List.take_of_length_le (by rw [List.length_drop]; omega)]
  by_cases h : xs.length ≤ n
  · rw [Nat.min_eq_right h, List.drop_length, List.drop_eq_nil_of_le h]
  · rw [Nat.min_eq_left (by omega)]
theorem clean_no {flds : Nat → List Str} {np : Nat} {K : (D → D) → Cs → Prop} (h : c.length = np) : clean flds np c K = K id c := by
  unfold clean; rw [h, Nat.sub_self]; rfl
theorem frz1_mono {flds : Nat → List Str} {i : Nat} {K K' : (Nat → D) → Cs → Prop} (h : frz1 flds i c K) (k : ∀ ρ c', K ρ c' → K' ρ c') : frz1 flds i c K' := by
  unfold frz1 at h ⊢
  cases hx : c[i]? with
  | none => rw [hx] at h; exact h.elim
  | some x =>
    rw [hx] at h
    refine ⟨h.1, ?_⟩
    have h2 := h.2
    cases hu : (x.sub (sig i .non)).fz flds with
    | none => rw [hu] at h2; exact h2.elim
    | some u => rw [hu] at h2; exact k _ _ h2
theorem cleanK_mono {flds : Nat → List Str} : ∀ {n : Nat} {c : Cs} {K K' : (D → D) → Cs → Prop}, cleanK flds n c K → (∀ f c', K f c' → K' f c') → cleanK flds n c K'
  | 0, c, K, K', h, k => k _ _ h
  | n + 1, c, K, K', h, k => frz1_mono h fun ρ c' h' => cleanK_mono h' fun f c'' h'' => k _ _ h''
theorem clean_mono {flds : Nat → List Str} {np : Nat} {K K' : (D → D) → Cs → Prop} (h : clean flds np c K) (k : ∀ f c', K f c' → K' f c') : clean flds np c K' := cleanK_mono h k
theorem frz1_last {flds : Nat → List Str} {x : Cont} {u : D} {K : (Nat → D) → Cs → Prop} (hx : x.all (fun j => decide (j ≠ c.length)) = true) (hu : (x.sub (sig c.length .non)).fz flds = some u) :
    frz1 flds c.length (c ++ [x]) K = K (sig c.length u) (c.map (Cont.sub (sig c.length u))) := by
  unfold frz1
  rw [List.getElem?_append_right (Nat.le_refl _), Nat.sub_self]
  show (x.all _ = true ∧ onO _ _) = _
  rw [hu, hx, List.eraseIdx_append_of_length_le (Nat.le_refl _), Nat.sub_self]
  simp [onO]
theorem v0 {d : D} {r : En} : wpE I (.var 0) (some d :: r) c Q X = Q d c := rfl
theorem vS {i : Nat} {x : Option D} {r : En} : wpE I (.var (i + 1)) (x :: r) c Q X = wpE I (.var i) r c Q X := by
  unfold wpE; rw [List.getElem?_cons_succ]
theorem idx0 {d : D} {r : List D} : idxS c Q 0 (some (d :: r)) = Q d c := idx_some (atI_pos (by decide) rfl)
theorem idx1 {d d0 : D} {r : List D} : idxS c Q 1 (some (d0 :: d :: r)) = Q d c := idx_some (atI_pos (by decide) rfl)
theorem idx2 {d d0 d1 : D} {r : List D} : idxS c Q 2 (some (d0 :: d1 :: d :: r)) = Q d c := idx_some (atI_pos (by decide) rfl)
theorem idx3 {d d0 d1 d2 : D} {r : List D} : idxS c Q 3 (some (d0 :: d1 :: d2 :: d :: r)) = Q d c := idx_some (atI_pos (by decide) rfl)
theorem idx4 {d d0 d1 d2 d3 : D} {r : List D} : idxS c Q 4 (some (d0 :: d1 :: d2 :: d3 :: d :: r)) = Q d c := idx_some (atI_pos (by decide) rfl)
theorem idx5 {d d0 d1 d2 d3 d4 : D} {r : List D} : idxS c Q 5 (some (d0 :: d1 :: d2 :: d3 :: d4 :: d :: r)) = Q d c := idx_some (atI_pos (by decide) rfl)
theorem idx6 {d d0 d1 d2 d3 d4 d5 : D} {r : List D} : idxS c Q 6 (some (d0 :: d1 :: d2 :: d3 :: d4 :: d5 :: d :: r)) = Q d c := idx_some (atI_pos (by decide) rfl)
theorem set_get {n : Nat} {x : Cont} (hn : n < c.length) : (c.set n x)[n]? = some x := List.getElem?_set_self hn
theorem getS_set {n : Nat} {xs : List D} (hn : n < c.length) : getS (c.set n (.lst xs)) (.cell n) = some xs := getS_cell (set_get hn)
theorem getL_set {n : Nat} {xs : List D} (hn : n < c.length) : getL (c.set n (.lst xs)) (.cell n) = some xs := getL_cell (set_get hn)
theorem setD_set {n : Nat} {j : Int} {k : Nat} {xs : List D} {v : D} {K : Cs → Prop} (h : n < c.length) (hk : ixN xs.length j = some k) : setD (.cell n) (.int j) v (c.set n (.lst xs)) K = K (c.set n (.lst (xs.set k v))) := by
  rw [setD_ok1 (set_get h) hk, List.set_set]
theorem set_self {n : Nat} {x : Cont} (h : c[n]? = some x) : c.set n x = c := by
  refine List.ext_getElem? fun j => ?_
  by_cases hj : j = n
  · subst hj; rw [List.getElem?_set_self (List.getElem?_eq_some_iff.mp h).1, h]
  · rw [List.getElem?_set_ne (Ne.symm hj)]
theorem lt_of_get {n : Nat} {x : Cont} (h : c[n]? = some x) : n < c.length := (List.getElem?_eq_some_iff.mp h).1
theorem ix0 {n : Nat} : ixN (n + 1) 0 = some 0 := by
  unfold ixN; rw [if_pos (by decide), if_pos (by omega)]; rfl
theorem ix1 {n : Nat} : ixN (n + 2) 1 = some 1 := by
  unfold ixN; rw [if_pos (by decide), if_pos (by omega)]; rfl
theorem ret_same {flds : Nat → List Str} {np : Nat} {d : D} (h : Q d c) : Ret flds np Q d c := ⟨[], h⟩
def lstC : Option Cont → Option (List D)
  | some (.lst xs) => some xs
  | _ => none
theorem getL_c {n : Nat} : getL c (.cell n) = lstC c[n]? := by
  show (match c[n]? with
    | some (.lst xs) => some xs
    | _ => none) = _
  cases c[n]? with
  | none => rfl
  | some x => cases x <;> rfl
theorem getR_c {n : Nat} : getR c (.cell n) = lstC c[n]? := getL_c
theorem getS_c {n : Nat} : getS c (.cell n) = lstC c[n]? := getL_c
theorem lstC_lst {xs : List D} : lstC (some (.lst xs)) = some xs := rfl
theorem setD_c {n : Nat} {j : Int} {v : D} {K : Cs → Prop} : setD (.cell n) (.int j) v c K = onO (lstC c[n]?) fun xs => onO (ixN xs.length j) fun k => K (c.set n (.lst (xs.set k v))) := by
  rw [← getL_c]; rfl
def gdC (n : Nat) : Option Cont → List (Nat × List D)
  | some (.lst xs) => [(n, xs)]
  | _ => []
theorem gdOf_c {n : Nat} : gdOf c (.cell n) = gdC n c[n]? := by
  show (match c[n]? with
    | some (.lst xs) => [(n, xs)]
    | _ => []) = _
  cases c[n]? with
  | none => rfl
  | some x => cases x <;> rfl
theorem gdC_lst {n : Nat} {xs : List D} : gdC n (some (.lst xs)) = [(n, xs)] := rfl
def attC (k j : Nat) (Q : QE) (c : Cs) : Option Cont → Prop
  | some (.obj k' fs) => k = k' ∧ onO fs[j]? fun v => Q v c
  | _ => False
theorem attK_c {k j n : Nat} : attK k j Q (.cell n) c = attC k j Q c c[n]? := by
  show (match c[n]? with
      | some (.obj k' fs) => k = k' ∧ onO fs[j]? fun v => Q v c
      | _ => False) = _
  cases c[n]? with
  | none => rfl
  | some x => cases x <;> rfl
theorem attC_obj {k j k' : Nat} {fs : List D} : attC k j Q c (some (.obj k' fs)) = (k = k' ∧ onO fs[j]? fun v => Q v c) := rfl
theorem app_get0 {x : Cont} {r : Cs} : (c ++ x :: r)[c.length]? = some x := by
  rw [List.getElem?_append_right (Nat.le_refl _), Nat.sub_self]; rfl
theorem app_get1 {x y : Cont} {r : Cs} : (c ++ x :: y :: r)[c.length + 1]? = some y := by
  rw [List.getElem?_append_right (Nat.le_add_right _ 1), Nat.add_sub_cancel_left]; rfl
theorem app_get2 {x y z : Cont} {r : Cs} : (c ++ x :: y :: z :: r)[c.length + 2]? = some z := by
  rw [List.getElem?_append_right (Nat.le_add_right _ _), Nat.add_sub_cancel_left]; rfl
theorem app_getL {n : Nat} {r : Cs} (h : n < c.length) : (c ++ r)[n]? = c[n]? := List.getElem?_append_left h
theorem app_set0 {x y : Cont} {r : Cs} : (c ++ x :: r).set c.length y = c ++ y :: r := by
  rw [List.set_append_right _ _ (Nat.le_refl _), Nat.sub_self]; rfl
theorem app_set1 {x y z : Cont} {r : Cs} : (c ++ x :: y :: r).set (c.length + 1) z = c ++ x :: z :: r := by
  rw [List.set_append_right _ _ (Nat.le_add_right _ 1), Nat.add_sub_cancel_left]; rfl
theorem app_set2 {x y z w : Cont} {r : Cs} : (c ++ x :: y :: z :: r).set (c.length + 2) w = c ++ x :: y :: w :: r := by
  rw [List.set_append_right _ _ (Nat.le_add_right _ _), Nat.add_sub_cancel_left]; rfl
theorem app_setL {n : Nat} {y : Cont} {r : Cs} (h : n < c.length) : (c ++ r).set n y = c.set n y ++ r := List.set_append_left _ _ h
theorem app_len0 {x : Cont} : (c ++ [x]).length = c.length + 1 := by simp
theorem app_len1 {x y : Cont} : (c ++ [x, y]).length = c.length + 2 := by simp
theorem app_app {r r' : Cs} : (c ++ r) ++ r' = c ++ (r ++ r') := List.append_assoc _ _ _
theorem mulOk_r {i j : Int} (h1 : -(2 ^ 64) < j) (h2 : j < 2 ^ 64) : mulOk i j := .inr (.inl ⟨h1, h2⟩)
theorem mulOk_l {i j : Int} (h1 : -(2 ^ 64) < i) (h2 : i < 2 ^ 64) : mulOk i j := .inl ⟨h1, h2⟩
theorem idx_ints {xs : List Int} {i : Int} (h0 : 0 ≤ i) (h : i < xs.length) (k : ∀ z, xs[i.toNat]? = some z → Q (.int z) c) : idxS c Q i (some (xs.map D.int)) := by
  have e : xs[i.toNat]? = some (xs[i.toNat]'(by omega)) := List.getElem?_eq_getElem (by omega)
  rw [idx_some (d := .int (xs[i.toNat]'(by omega))) (atI_pos h0 (by rw [List.getElem?_map, e]; rfl))]
  exact k _ e
section
variable {flds : Nat → List Str} {np : Nat} {gd : List (Nat × List D)} {turn : D → FEnds → En → Cs → Prop} {E : FEnds}
/-- a loop by what holds ahead of each turn -/
theorem for_inv (J : List D → En → Cs → Prop) {xs : List D} (h0 : J xs env c) (hgd : ∀ r e c', J r e c' → gdOk c' gd)
    (step : ∀ x r e c', J (x :: r) e c' → ∀ E' : FEnds, (∀ e2 c2, clean flds np c2 (fun f c3 => J r (e2.map (Option.map f)) c3) → E'.nx e2 c2) → (∀ e2 c2, clean flds np c2 (fun f c3 => J r (e2.map (Option.map f)) c3) → E'.ct e2 c2) →
      (∀ d c2, E.rt d c2 → E'.rt d c2) → (∀ e2 c2, clean flds np c2 (fun f c3 => E.nx (e2.map (Option.map f)) c3) → E'.bk e2 c2) → turn x E' e c')
    (fin : ∀ e c', J [] e c' → E.nx e c') : forL flds false np gd turn E xs env c := by
  induction xs generalizing env c with
  | nil => exact ⟨hgd _ _ _ h0, fin _ _ h0⟩
  | cons x r ih =>
    refine ⟨hgd _ _ _ h0, step x r env c h0 _ (fun e2 c2 h2 => ?_) (fun e2 c2 h2 => ?_) (fun d c2 h => h) (fun e2 c2 h => h)⟩
    · exact clean_mono h2 fun f c3 h3 => ih h3
    · exact clean_mono h2 fun f c3 h3 => ih h3
end
theorem rngL_succ {lo : Int} {n : Nat} : rngL lo (n + 1) = .int lo :: rngL (lo + 1) n := by
  unfold rngL
  rw [List.range_succ_eq_map, List.map_cons, List.map_map]
  simp only [Int.ofNat_eq_natCast, Int.natCast_zero, Int.add_zero]
  congr 1
  apply List.map_congr_left
  intro i _
  show D.int (lo + ((i + 1 : Nat) : Int)) = _
  congr 1
  omega
theorem rngL_zero {lo : Int} : rngL lo 0 = [] := rfl
/-- a loop over a range -/
theorem for_rng {flds : Nat → List Str} {np : Nat} {turn : D → FEnds → En → Cs → Prop} {E : FEnds} (J : Nat → En → Cs → Prop) {lo : Int} {n : Nat} (h0 : J 0 env c)
    (step : ∀ i e c', i < n → J i e c' → ∀ E' : FEnds, (∀ e2 c2, clean flds np c2 (fun f c3 => J (i + 1) (e2.map (Option.map f)) c3) → E'.nx e2 c2) → (∀ e2 c2, clean flds np c2 (fun f c3 => J (i + 1) (e2.map (Option.map f)) c3) → E'.ct e2 c2) →
      (∀ d c2, E.rt d c2 → E'.rt d c2) → (∀ e2 c2, clean flds np c2 (fun f c3 => E.nx (e2.map (Option.map f)) c3) → E'.bk e2 c2) → turn (.int (lo + i)) E' e c')
    (fin : ∀ e c', J n e c' → E.nx e c') : forL flds false np [] turn E (rngL lo n) env c := by
  have main : ∀ (k i : Nat) (env : En) (c : Cs), i + k = n → J i env c → forL flds false np [] turn E (rngL (lo + i) k) env c := by
    intro k
    induction k with
    | zero =>
      intro i env c hk h
      have e : i = n := by omega
      subst e
      exact ⟨trivial, fin _ _ h⟩
    | succ k ih =>
      intro i env c hk h
      rw [rngL_succ]
      have nxt : ∀ (e2 : En) (c2 : Cs), clean flds np c2 (fun f c3 => J (i + 1) (e2.map (Option.map f)) c3) → clean flds np c2 fun f c'' => forL flds false np [] turn E (rngL (lo + i + 1) k) (e2.map (Option.map f)) c'' := fun (e2 : En) (c2 : Cs) h2 => by
        refine clean_mono h2 fun f c3 h3 => ?_
        have z := ih (i + 1) _ c3 (by omega) h3
        rwa [show lo + ((i + 1 : Nat) : Int) = lo + i + 1 by omega] at z
      exact ⟨trivial, step i env c (by omega) h _ nxt nxt (fun d c2 h => h) (fun e2 c2 h => h)⟩
  have z := main n 0 env c (by omega) h0
  simpa using z
mutual
theorem sub_lt {n : Nat} {u : D} : ∀ {d : D}, d.all (fun j => decide (j < n)) = true → d.sub (sig n u) = d
  | .non, _ | .bl _, _ | .int _, _ | .str _, _ | .ty _, _ | .ref _, _ => rfl
  | .tup _, h => by simp only [D.sub]; rw [subL_lt (by simpa only [D.all] using h)]
  | .lst _, h => by simp only [D.sub]; rw [subL_lt (by simpa only [D.all] using h)]
  | .scr _, h => by simp only [D.sub]; rw [subL_lt (by simpa only [D.all] using h)]
  | .dct ks vs, h => by
    simp only [D.all, Bool.and_eq_true] at h
    simp only [D.sub]; rw [subL_lt h.1, subL_lt h.2]
  | .obj _ _, h => by simp only [D.sub]; rw [subL_lt (by simpa only [D.all] using h)]
  | .cell j, h => by
    have h' : j < n := of_decide_eq_true (by simpa only [D.all] using h)
    simp only [D.sub, sig]
    rw [if_neg (by omega), if_pos h']
theorem subL_lt {n : Nat} {u : D} : ∀ {ds : List D}, D.allL (fun j => decide (j < n)) ds = true → D.subL (sig n u) ds = ds
  | [], _ => rfl
  | d :: ds, h => by
    simp only [D.allL, Bool.and_eq_true] at h
    simp only [D.subL]; rw [sub_lt h.1, subL_lt h.2]
end
theorem Cont.sub_lt {n : Nat} {u : D} {x : Cont} (h : x.all (fun j => decide (j < n)) = true) : x.sub (sig n u) = x := by
  cases x with
  | lst xs => simp only [Cont.sub]; rw [subL_lt h]
  | dct ks vs =>
    simp only [Cont.all, Bool.and_eq_true] at h
    simp only [Cont.sub]; rw [subL_lt h.1, subL_lt h.2]
  | obj k fs => simp only [Cont.sub]; rw [subL_lt h]
theorem Wfc.sub {u : D} (w : Wfc c) : c.map (Cont.sub (sig c.length u)) = c := by
  have e : ∀ x ∈ c, Cont.sub (sig c.length u) x = id x := fun x hx => Cont.sub_lt (w x hx)
  rw [List.map_congr_left e, List.map_id]
theorem Cont.all_of_nc {x : Cont} {p : Nat → Bool} (h : x.nc = true) : x.all p = true := by
  cases x with
  | lst xs => exact D.allL_of_nc h
  | dct ks vs =>
    simp only [Cont.nc, Bool.and_eq_true] at h
    simp only [Cont.all, Bool.and_eq_true]
    exact ⟨D.allL_of_nc h.1, D.allL_of_nc h.2⟩
  | obj k fs => exact D.allL_of_nc h
theorem Cont.sub_nc {x : Cont} {ρ : Nat → D} (h : x.nc = true) : x.sub ρ = x := by
  cases x with
  | lst xs => simp only [Cont.sub]; rw [D.subL_nc h]
  | dct ks vs =>
    simp only [Cont.nc, Bool.and_eq_true] at h
    simp only [Cont.sub]; rw [D.subL_nc h.1, D.subL_nc h.2]
  | obj k fs => simp only [Cont.sub]; rw [D.subL_nc h]
theorem Wfc.set {n : Nat} {x : Cont} (w : Wfc c) (h : x.nc = true) : Wfc (c.set n x) := by
  intro y hy
  rw [List.length_set]
  rcases List.mem_or_eq_of_mem_set hy with hy | rfl
  · exact w y hy
  · exact Cont.all_of_nc h
theorem Wfc.app {x : Cont} (w : Wfc c) (h : x.nc = true) : Wfc (c ++ [x]) := by
  intro y hy
  rcases List.mem_append.mp hy with hy | hy
  · have := w y hy
    have mono : ∀ {d : Cont} {m n : Nat}, m ≤ n → d.all (fun j => decide (j < m)) = true → d.all (fun j => decide (j < n)) = true := by
      intro d m n hmn
      have hd : (∀ {d : D}, d.all (fun j => decide (j < m)) = true → d.all (fun j => decide (j < n)) = true) ∧ (∀ {d : List D}, D.allL (fun j => decide (j < m)) d = true → D.allL (fun j => decide (j < n)) d = true) :=
        ⟨fun h => D.all_imp (fun j hj => decide_eq_true (by have := of_decide_eq_true hj; omega)) h, fun h => D.allL_imp (fun j hj => decide_eq_true (by have := of_decide_eq_true hj; omega)) h⟩
      cases d with
      | lst xs => exact hd.2
      | dct ks vs => simp only [Cont.all, Bool.and_eq_true]; exact fun z => ⟨hd.2 z.1, hd.2 z.2⟩
      | obj k fs => exact hd.2
    exact mono (by simp) this
  · have e : y = x := by simpa using hy
    subst e
    exact Cont.all_of_nc h
/-- one cell more, without cells within -/
theorem clean_1 {flds : Nat → List Str} {x : Cont} {u : D} {K : (D → D) → Cs → Prop} (w : Wfc c) (hx : x.nc = true) (hu : x.fz flds = some u) (k : K (D.sub (sig c.length u)) c) : clean flds c.length (c ++ [x]) K := by
  unfold clean
  rw [show (c ++ [x]).length - c.length = 1 by simp]
  show frz1 flds ((c ++ [x]).length - 1) (c ++ [x]) _
  rw [show (c ++ [x]).length - 1 = c.length by simp, frz1_last (Cont.all_of_nc hx) (by rw [Cont.sub_nc hx]; exact hu), w.sub]
  exact k
theorem clean_0 {flds : Nat → List Str} {np : Nat} {K : (D → D) → Cs → Prop} (h : c.length = np) (k : K id c) : clean flds np c K := by
  rw [clean_no h]; exact k
end
end F

namespace F
open PySem PySem.Spec L2
mutual
/-- ints, None, texts, and tuples and lists of such, to a depth -/
def D.ip : Nat → D → Bool
  | _, .non => true
  | _, .int _ => true
  | _, .str x => PyData.canLay0 (.str x)
  | n + 1, .tup xs => D.ipL n xs
  | n + 1, .lst xs => D.ipL n xs
  | _, _ => false
def D.ipL : Nat → List D → Bool
  | _, [] => true
  | n, d :: ds => D.ip n d && D.ipL n ds
end
theorem D.ipL_map {α : Type} {n : Nat} {f : α → D} : ∀ {xs : List α}, (∀ x ∈ xs, D.ip n (f x) = true) → D.ipL n (xs.map f) = true
  | [], _ => rfl
  | x :: xs, h => by
    simp only [List.map_cons, D.ipL, h x (by simp), Bool.true_and]
    exact D.ipL_map fun y hy => h y (by simp [hy])
theorem D.ipL_ints {n : Nat} {xs : List Int} : D.ipL n (xs.map D.int) = true := D.ipL_map fun _ _ => by cases n <;> rfl
mutual
theorem ip_toP : ∀ {n : Nat} {d : D}, D.ip n d = true → ∃ p, toP d = some p ∧ p.canLay0 = true ∧ p.depth ≤ n
  | _, .non, _ => ⟨_, rfl, rfl, by simp [PyData.depth]⟩
  | _, .int _, _ => ⟨_, rfl, rfl, by simp [PyData.depth]⟩
  | _, .str x, h => ⟨_, rfl, by simpa [D.ip] using h, by simp [PyData.depth]⟩
  | n + 1, .tup xs, h => by
    obtain ⟨ps, e, h1, h2⟩ := ipL_toP (n := n) (ds := xs) (by simpa [D.ip] using h)
    exact ⟨.tuple ps, by simp [toP, e], by simpa [PyData.canLay0] using h1, by simp only [PyData.depth]; omega⟩
  | n + 1, .lst xs, h => by
    obtain ⟨ps, e, h1, h2⟩ := ipL_toP (n := n) (ds := xs) (by simpa [D.ip] using h)
    exact ⟨.list ps, by simp [toP, e], by simpa [PyData.canLay0] using h1, by simp only [PyData.depth]; omega⟩
  | 0, .tup _, h => by simp [D.ip] at h
  | 0, .lst _, h => by simp [D.ip] at h
  | n, .bl _, h => by cases n <;> simp [D.ip] at h
  | n, .ty _, h => by cases n <;> simp [D.ip] at h
  | n, .ref _, h => by cases n <;> simp [D.ip] at h
  | n, .scr _, h => by cases n <;> simp [D.ip] at h
  | n, .dct _ _, h => by cases n <;> simp [D.ip] at h
  | n, .obj _ _, h => by cases n <;> simp [D.ip] at h
  | n, .cell _, h => by cases n <;> simp [D.ip] at h
theorem ipL_toP : ∀ {n : Nat} {ds : List D}, D.ipL n ds = true → ∃ ps, toPL ds = some ps ∧ PyData.canLayAll0 ps = true ∧ PyData.depthAll ps ≤ n
  | _, [], _ => ⟨[], rfl, rfl, by simp [PyData.depthAll]⟩
  | n, d :: ds, h => by
    simp only [D.ipL, Bool.and_eq_true] at h
    obtain ⟨p, e, h1, h2⟩ := ip_toP h.1
    obtain ⟨ps, e', h1', h2'⟩ := ipL_toP h.2
    exact ⟨p :: ps, by simp [toPL, e, e'], by simp [PyData.canLayAll0, h1, h1'], by simp only [PyData.depthAll]; omega⟩
end
mutual
theorem ip_eqv : ∀ {n k : Nat} {a b : D} {p q : PyData}, D.ip n a = true → D.ip k b = true → toP a = some p → toP b = some q → (PyData.eqv p q = true ↔ a = b)
  | n, k, .non, b, p, q, ha, hb, ea, eb => by
    cases ea
    cases b <;> first | (simp [D.ip] at hb; done) | (cases k <;> simp [D.ip] at hb; done) | skip
    all_goals (simp only [toP, Option.map_eq_some_iff] at eb; first | (cases eb; simp [PyData.eqv]; done) | (obtain ⟨ps, _, rfl⟩ := eb; simp [PyData.eqv]))
  | n, k, .int i, b, p, q, ha, hb, ea, eb => by
    cases ea
    cases b <;> first | (simp [D.ip] at hb; done) | (cases k <;> simp [D.ip] at hb; done) | skip
    all_goals (simp only [toP, Option.map_eq_some_iff] at eb; first | (cases eb; simp [PyData.eqv]; done) | (obtain ⟨ps, _, rfl⟩ := eb; simp [PyData.eqv]))
  | n, k, .str x, b, p, q, ha, hb, ea, eb => by
    cases ea
    cases b <;> first | (simp [D.ip] at hb; done) | (cases k <;> simp [D.ip] at hb; done) | skip
    all_goals (simp only [toP, Option.map_eq_some_iff] at eb; first | (cases eb; simp [PyData.eqv]; done) | (obtain ⟨ps, _, rfl⟩ := eb; simp [PyData.eqv]))
  | n + 1, k, .tup xs, b, p, q, ha, hb, ea, eb => by
    simp only [toP, Option.map_eq_some_iff] at ea
    obtain ⟨ps, e1, rfl⟩ := ea
    cases b <;> first | (simp [D.ip] at hb; done) | (cases k <;> simp [D.ip] at hb; done) | skip
    case tup ys =>
      cases k with
      | zero => simp [D.ip] at hb
      | succ k =>
        simp only [toP, Option.map_eq_some_iff] at eb
        obtain ⟨qs, e2, rfl⟩ := eb
        have z := ipL_eqv (n := n) (k := k) (by simpa [D.ip] using ha) (by simpa [D.ip] using hb) e1 e2
        simp only [PyData.eqv, z, D.tup.injEq]
    all_goals (simp only [toP, Option.map_eq_some_iff] at eb; first | (cases eb; simp [PyData.eqv]; done) | (obtain ⟨ps, _, rfl⟩ := eb; simp [PyData.eqv]))
  | n + 1, k, .lst xs, b, p, q, ha, hb, ea, eb => by
    simp only [toP, Option.map_eq_some_iff] at ea
    obtain ⟨ps, e1, rfl⟩ := ea
    cases b <;> first | (simp [D.ip] at hb; done) | (cases k <;> simp [D.ip] at hb; done) | skip
    case lst ys =>
      cases k with
      | zero => simp [D.ip] at hb
      | succ k =>
        simp only [toP, Option.map_eq_some_iff] at eb
        obtain ⟨qs, e2, rfl⟩ := eb
        have z := ipL_eqv (n := n) (k := k) (by simpa [D.ip] using ha) (by simpa [D.ip] using hb) e1 e2
        simp only [PyData.eqv, z, D.lst.injEq]
    all_goals (simp only [toP, Option.map_eq_some_iff] at eb; first | (cases eb; simp [PyData.eqv]; done) | (obtain ⟨ps, _, rfl⟩ := eb; simp [PyData.eqv]))
  | 0, _, .tup _, _, _, _, h, _, _, _ => by simp [D.ip] at h
  | 0, _, .lst _, _, _, _, h, _, _, _ => by simp [D.ip] at h
  | n, _, .bl _, _, _, _, h, _, _, _ => by cases n <;> simp [D.ip] at h
  | n, _, .ty _, _, _, _, h, _, _, _ => by cases n <;> simp [D.ip] at h
  | n, _, .ref _, _, _, _, h, _, _, _ => by cases n <;> simp [D.ip] at h
  | n, _, .scr _, _, _, _, h, _, _, _ => by cases n <;> simp [D.ip] at h
  | n, _, .dct _ _, _, _, _, h, _, _, _ => by cases n <;> simp [D.ip] at h
  | n, _, .obj _ _, _, _, _, h, _, _, _ => by cases n <;> simp [D.ip] at h
  | n, _, .cell _, _, _, _, h, _, _, _ => by cases n <;> simp [D.ip] at h
theorem ipL_eqv : ∀ {n k : Nat} {a b : List D} {p q : List PyData}, D.ipL n a = true → D.ipL k b = true → toPL a = some p → toPL b = some q → (PyData.eqvAll p q = true ↔ a = b)
  | n, k, [], [], p, q, ha, hb, ea, eb => by cases ea; cases eb; simp [PyData.eqvAll]
  | n, k, [], b :: bs, p, q, ha, hb, ea, eb => by
    cases ea
    simp only [toPL] at eb
    split at eb
    · cases eb; simp [PyData.eqvAll]
    · cases eb
  | n, k, a :: as, [], p, q, ha, hb, ea, eb => by
    cases eb
    simp only [toPL] at ea
    split at ea
    · cases ea; simp [PyData.eqvAll]
    · cases ea
  | n, k, a :: as, b :: bs, p, q, ha, hb, ea, eb => by
    simp only [D.ipL, Bool.and_eq_true] at ha hb
    simp only [toPL] at ea eb
    split at ea
    · rename_i p1 ps1 h1 h2
      cases ea
      split at eb
      · rename_i q1 qs1 h3 h4
        cases eb
        have z1 := ip_eqv ha.1 hb.1 h1 h3
        have z2 := ipL_eqv ha.2 hb.2 h2 h4
        simp only [PyData.eqvAll, Bool.and_eq_true, z1, z2, List.cons.injEq]
      · cases eb
    · cases ea
end
section
variable {I : CI} {env : En} {c : Cs} {Q : QE} {X : QX} {m : Bool}
/-- what stands for d: a cell's list -/
def view (c : Cs) : D → Option D
  | .cell n => (lstC c[n]?).map .lst
  | d => some d
theorem toPc_view {d e : D} (h : view c d = some e) : toPc c d = toP e := by
  cases d with
  | cell n =>
    simp only [view, Option.map_eq_some_iff] at h
    obtain ⟨xs, h1, rfl⟩ := h
    show (match c[n]? with
      | some (.lst xs) => (toPL xs).map PyData.list
      | _ => none) = _
    cases hc : c[n]? with
    | none => rw [hc] at h1; cases h1
    | some x =>
      rw [hc] at h1
      cases x with
      | lst ys => cases h1; rfl
      | _ => cases h1
  | _ => cases h; rfl
theorem eqG_ip {f : Bool → Bool} {a b a' b' : D} (ha : view c a = some a') (hb : view c b = some b') (ia : D.ip 64 a' = true) (ib : D.ip 64 b' = true) (k : ∀ r : Bool, (r = true ↔ a' = b') → Q (.bl (f r)) c) : eqG c f Q (toPc c a) (toPc c b) := by
  rw [toPc_view ha, toPc_view hb]
  obtain ⟨p, e1, c1, d1⟩ := ip_toP ia
  obtain ⟨q, e2, c2, d2⟩ := ip_toP ib
  rw [e1, e2]
  exact ⟨by unfold SeqAt.shaped; rw [c1, decide_eq_true d1]; rfl, by unfold SeqAt.shaped; rw [c2, decide_eq_true d2]; rfl, k _ (ip_eqv ia ib e1 e2)⟩
theorem eqD_ip {f : Bool → Bool} {a b a' b' : D} (ha : view c a = some a') (hb : view c b = some b') (ia : D.ip 64 a' = true) (ib : D.ip 64 b' = true) (k : ∀ r : Bool, (r = true ↔ a' = b') → Q (.bl (f r)) c) : eqD c f Q a b := by
  unfold eqD
  split
  · cases ha; cases hb; exact k _ (by simp)
  · cases ha; cases ia
  · cases ha; cases hb; exact k _ (by simp)
  · exact eqG_ip ha hb ia ib k
theorem b_eq_ip {a b : D} (a' b' : D) (ha : view c a = some a') (hb : view c b = some b') (ia : D.ip 64 a' = true) (ib : D.ip 64 b' = true) (k : ∀ r : Bool, (r = true ↔ a' = b') → Q (.bl r) c) : wpB .eq m a b c Q := eqD_ip (f := fun b => b) ha hb ia ib k
theorem b_ne_ip {a b : D} (a' b' : D) (ha : view c a = some a') (hb : view c b = some b') (ia : D.ip 64 a' = true) (ib : D.ip 64 b' = true) (k : ∀ r : Bool, (r = true ↔ a' = b') → Q (.bl (!r)) c) : wpB .ne m a b c Q := eqD_ip (f := fun b => !b) ha hb ia ib k
theorem in_ip {f : Bool → Bool} {x : D} {ys : List D} (hx : D.ip 63 x = true) (hy : D.ipL 63 ys = true) (k : ∀ r : Bool, (r = true ↔ x ∈ ys) → Q (.bl (f r)) c) : inD c f Q x (some ys) := by
  obtain ⟨p, e1, c1, d1⟩ := ip_toP hx
  obtain ⟨q, e2, c2, d2⟩ := ipL_toP hy
  unfold inD
  dsimp only
  rw [e1, e2]
  refine ⟨by unfold SeqAt.shaped; rw [c1, decide_eq_true (show p.depth ≤ 64 by omega)]; rfl, by unfold SeqAt.shaped; simp only [PyData.canLay0, c2, PyData.depth, Bool.true_and]; exact decide_eq_true (by omega), k _ ?_⟩
  have main : ∀ {ys : List D} {q : List PyData}, D.ipL 63 ys = true → toPL ys = some q → ((q.any fun z => PyData.eqv z p) = true ↔ x ∈ ys) := by
    intro ys
    induction ys with
    | nil => intro q _ e; cases e; simp
    | cons y ys ih =>
      intro q h e
      simp only [D.ipL, Bool.and_eq_true] at h
      simp only [toPL] at e
      split at e
      · rename_i p1 ps1 h1 h2
        cases e
        have z := ip_eqv h.1 hx h1 e1
        simp only [List.any_cons, Bool.or_eq_true, z, ih h.2 h2, List.mem_cons]
        constructor
        · rintro (h | h)
          · exact .inl h.symm
          · exact .inr h
        · rintro (h | h)
          · exact .inl h.symm
          · exact .inr h
      · cases e
  exact main hy e2
theorem b_in {a b : D} : wpB .inn m a b c Q = inD c (fun b => b) Q a (getL c b) := rfl
theorem b_nin {a b : D} : wpB .nin m a b c Q = inD c (fun b => !b) Q a (getL c b) := rfl
theorem slc_lst {xs : List D} {lo hi : Option Int} : slcO m c Q (.lst xs) lo hi = newL m (cutD xs lo hi) c Q := slc_any rfl
theorem slc_scr {xs : List D} {lo hi : Option Int} : slcO m c Q (.scr xs) lo hi = newL m (cutD xs lo hi) c Q := slc_any rfl
theorem slc_c {n : Nat} {lo hi : Option Int} : slcO m c Q (.cell n) lo hi = onO (lstC c[n]?) fun xs => newL m (cutD xs lo hi) c Q := by
  rw [← getR_c]; rfl
theorem cutT {xs : List D} {i : Int} (h : 0 ≤ i) : cutD xs none (some i) = xs.take i.toNat := by
  obtain ⟨n, rfl⟩ := Int.eq_ofNat_of_zero_le h
  exact cut_take
theorem cutDr {xs : List D} {i : Int} (h : 0 ≤ i) : cutD xs (some i) none = xs.drop i.toNat := by
  obtain ⟨n, rfl⟩ := Int.eq_ofNat_of_zero_le h
  exact cut_drop
theorem cut_neg1 {xs : List D} : cutD xs none (some (-1)) = xs.dropLast := by
  unfold cutD
  simp only [HT.sIx, show ((-1 : Int) < 0) from by decide, if_true]
  rw [List.dropLast_eq_take]
  have e : (-1 + (xs.length : Int)).toNat = xs.length - 1 := by omega
  simp [e]
  try omega
theorem b_addl {xs ys : List D} : wpB .add m (.lst xs) (.lst ys) c Q = (xs.length + ys.length ≤ 16777216 ∧ newL m (xs ++ ys) c Q) := rfl
theorem b_addt {xs ys : List D} : wpB .add m (.tup xs) (.tup ys) c Q = (xs.length + ys.length ≤ 16777216 ∧ Q (.tup (xs ++ ys)) c) := rfl
theorem b_rep {xs : List D} {k : Int} : wpB .mul m (.lst xs) (.int k) c Q = ((-(2 ^ 63) ≤ k ∧ k < 2 ^ 63 ∧ xs.length * k.toNat ≤ 16777216) ∧ newL m (List.replicate k.toNat xs).flatten c Q) := rfl
theorem comp_pure {flds : Nat → List Str} {gd : List (Nat × List D)} {turn : D → (Option D → Cs → Prop) → Cs → Prop} {R : List D → Cs → Prop} {α : Type} (enc : α → D) (g : α → Option D) {xs : List α} (hg : gdOk c gd) (hl : xs.length ≤ 16777216)
    (h : ∀ x ∈ xs, ∀ K : Option D → Cs → Prop, K (g x) c → turn (enc x) K c) (k : R (xs.filterMap g) c) : compL flds false c.length gd turn R (xs.map enc) [] c := by
  have main : ∀ (xs : List α) (acc : List D), acc.length + xs.length ≤ 16777216 → (∀ x ∈ xs, ∀ K : Option D → Cs → Prop, K (g x) c → turn (enc x) K c) → R (acc ++ xs.filterMap g) c → compL flds false c.length gd turn R (xs.map enc) acc c := by
    intro xs
    induction xs with
    | nil => intro acc _ _ k; exact ⟨hg, by simpa using k⟩
    | cons x xs ih =>
      intro acc hl h k
      simp only [List.length_cons] at hl
      refine ⟨hg, by omega, h x (by simp) _ ?_⟩
      show clean flds c.length c _
      rw [clean_no rfl]
      cases e : g x with
      | none =>
        refine ih acc (by omega) (fun y hy => h y (by simp [hy])) ?_
        rw [List.filterMap_cons, e] at k
        exact k
      | some d =>
        refine ih (acc ++ [id d]) (by simp; omega) (fun y hy => h y (by simp [hy])) ?_
        rw [List.filterMap_cons, e] at k
        simpa using k
  exact main xs [] (by simpa using hl) h (by simpa using k)
theorem comp_map {flds : Nat → List Str} {gd : List (Nat × List D)} {turn : D → (Option D → Cs → Prop) → Cs → Prop} {R : List D → Cs → Prop} {α : Type} (enc g : α → D) {xs : List α} (hg : gdOk c gd) (hl : xs.length ≤ 16777216)
    (h : ∀ x ∈ xs, ∀ K : Option D → Cs → Prop, K (some (g x)) c → turn (enc x) K c) (k : R (xs.map g) c) : compL flds false c.length gd turn R (xs.map enc) [] c := by
  refine comp_pure enc (fun x => some (g x)) hg hl h ?_
  rwa [List.filterMap_eq_map']
/-- a comprehension whose turns change the store: what holds ahead of each turn -/
theorem comp_inv {flds : Nat → List Str} {np : Nat} {gd : List (Nat × List D)} {turn : D → (Option D → Cs → Prop) → Cs → Prop} {R : List D → Cs → Prop} (J : List D → List D → Cs → Prop) {xs acc : List D}
    (h0 : J xs acc c) (hlen : ∀ r a c', J r a c' → c'.length = np) (hgd : ∀ r a c', J r a c' → gdOk c' gd) (hac : ∀ x r a c', J (x :: r) a c' → a.length < 16777216)
    (step : ∀ x r a c', J (x :: r) a c' → ∀ K : Option D → Cs → Prop, (∀ d c2, J r (a ++ [d]) c2 → K (some d) c2) → (∀ c2, J r a c2 → K none c2) → turn x K c')
    (fin : ∀ a c', J [] a c' → R a c') : compL flds false np gd turn R xs acc c := by
  induction xs generalizing acc c with
  | nil => exact ⟨hgd _ _ _ h0, fin _ _ h0⟩
  | cons x r ih =>
    refine ⟨hgd _ _ _ h0, hac _ _ _ _ h0, step x r acc c h0 _ (fun d c2 h2 => ?_) (fun c2 h2 => ?_)⟩
    · show clean flds np c2 _
      rw [clean_no (hlen _ _ _ h2)]
      exact ih h2
    · show clean flds np c2 _
      rw [clean_no (hlen _ _ _ h2)]
      exact ih h2
theorem ty_non : tyD c .non = some (.bt "NoneType") := rfl
theorem ty_bl {b : Bool} : tyD c (.bl b) = some (.bt "bool") := rfl
theorem ty_int {i : Int} : tyD c (.int i) = some (.bt "int") := rfl
theorem ty_str {i : Str} : tyD c (.str i) = some (.bt "str") := rfl
theorem ty_tup {i : List D} : tyD c (.tup i) = some (.bt "tuple") := rfl
theorem ty_lst {i : List D} : tyD c (.lst i) = some (.bt "list") := rfl
theorem ty_dct {i j : List D} : tyD c (.dct i j) = some (.bt "dict") := rfl
theorem ty_obj {k : Nat} {j : List D} : tyD c (.obj k j) = some (.cls k) := rfl
def tyC : Option Cont → Option Ty
  | some (.lst _) => some (.bt "list")
  | some (.dct _ _) => some (.bt "dict")
  | some (.obj k _) => some (.cls k)
  | none => none
theorem ty_c {n : Nat} : tyD c (.cell n) = tyC c[n]? := by
  show (match c[n]? with
    | some (.lst _) => some (Ty.bt "list")
    | some (.dct _ _) => some (Ty.bt "dict")
    | some (.obj k _) => some (Ty.cls k)
    | none => none) = _
  cases c[n]? with
  | none => rfl
  | some x => cases x <;> rfl
theorem tyC_lst {xs : List D} : tyC (some (.lst xs)) = some (.bt "list") := rfl
theorem tyC_obj {k : Nat} {xs : List D} : tyC (some (.obj k xs)) = some (.cls k) := rfl
theorem tyIn_bt {x : String} (h : x ∈ tyNames) : tyIn I (.bt x) = true := decide_eq_true h
theorem sIf_join {α : Type} {r : Bool} {K : α → Prop} {a b : α} (h : K (if r = true then a else b)) : sIf r (K a) (K b) := by cases r <;> simpa [sIf] using h
theorem sIf_both {r : Bool} {A B : Prop} (ha : r = true → A) (hb : r = false → B) : sIf r A B := by cases r with | true => exact ha rfl | false => exact hb rfl
theorem view_lst {xs : List D} : view c (.lst xs) = some (.lst xs) := rfl
theorem view_tup {xs : List D} : view c (.tup xs) = some (.tup xs) := rfl
theorem view_int {i : Int} : view c (.int i) = some (.int i) := rfl
theorem view_c {n : Nat} {xs : List D} (h : c[n]? = some (.lst xs)) : view c (.cell n) = some (.lst xs) := by
  show (lstC c[n]?).map D.lst = _
  rw [h]; rfl
theorem map_int_nil {xs : List Int} : (D.lst (xs.map D.int) = D.lst []) ↔ xs = [] := by simp
theorem map_int_inj {xs ys : List Int} : (D.lst (xs.map D.int) = D.lst (ys.map D.int)) ↔ xs = ys := by
  constructor
  · intro h
    injection h with h
    induction xs generalizing ys with
    | nil => cases ys <;> first | rfl | simp at h
    | cons x xs ih =>
      cases ys with
      | nil => simp at h
      | cons y ys =>
        simp only [List.map_cons, List.cons.injEq, D.int.injEq] at h
        rw [h.1, ih h.2]
  · rintro rfl; rfl
theorem ret_last {flds : Nat → List Str} {d : D} (h : Q d c) : Ret flds c.length Q d c := ⟨[], h⟩
theorem ts_bt {x y : String} : tySub (.bt x) (.bt y) = (if x = y then true else if x = "bool" then decide (y = "int") else false) := rfl
theorem ts_cb {k : Nat} {y : String} : tySub (.cls k) (.bt y) = false := rfl
theorem ts_bc {k : Nat} {y : String} : tySub (.bt y) (.cls k) = false := rfl
theorem ts_cc {k j : Nat} : tySub (.cls k) (.cls j) = (k == j) := rfl
theorem ti_non : tyIn I (.bt "NoneType") = true := tyIn_bt (by decide)
theorem ti_bool : tyIn I (.bt "bool") = true := tyIn_bt (by decide)
theorem ti_int : tyIn I (.bt "int") = true := tyIn_bt (by decide)
theorem ti_str : tyIn I (.bt "str") = true := tyIn_bt (by decide)
theorem ti_tuple : tyIn I (.bt "tuple") = true := tyIn_bt (by decide)
theorem ti_list : tyIn I (.bt "list") = true := tyIn_bt (by decide)
theorem ti_dict : tyIn I (.bt "dict") = true := tyIn_bt (by decide)
theorem small_bd {m : Int} {k : Nat} (h0 : 0 ≤ m) (hb : m < 2 ^ k) (hk : k ≤ 9000) : m.natAbs < 2 ^ 9000 := by
  have e : m.natAbs < 2 ^ k := by
    have : ((m.natAbs : Nat) : Int) < ((2 ^ k : Nat) : Int) := by
      rw [Int.natAbs_of_nonneg h0]
      simpa using hb
    exact Int.ofNat_lt.mp this
  exact Nat.lt_of_lt_of_le e (Nat.pow_le_pow_right (by decide) hk)
theorem sub_ints {ρ : Nat → D} {xs : List Int} : D.subL ρ (xs.map D.int) = xs.map D.int := D.subL_nc (D.ncL_map fun _ => rfl)
theorem sub_scr {ρ : Nat → D} {xs : List Int} : D.sub ρ (.scr (xs.map D.int)) = .scr (xs.map D.int) := by simp only [D.sub, sub_ints]
theorem sub_lst {ρ : Nat → D} {xs : List Int} : D.sub ρ (.lst (xs.map D.int)) = .lst (xs.map D.int) := by simp only [D.sub, sub_ints]
end
end F

namespace F
open PySem PySem.Spec L2
section
variable {flds : Nat → List Str} {np : Nat} {gd : List (Nat × List D)} {turn : D → FEnds → En → Cs → Prop} {E : FEnds} {env : En} {c : Cs}
theorem for_nth (J : Nat → En → Cs → Prop) {xs : List D} (h0 : J 0 env c) (hgd : ∀ i e c', J i e c' → gdOk c' gd)
    (step : ∀ i x e c', xs[i]? = some x → J i e c' → ∀ E' : FEnds, (∀ e2 c2, clean flds np c2 (fun f c3 => J (i + 1) (e2.map (Option.map f)) c3) → E'.nx e2 c2) → (∀ e2 c2, clean flds np c2 (fun f c3 => J (i + 1) (e2.map (Option.map f)) c3) → E'.ct e2 c2) →
      (∀ d c2, E.rt d c2 → E'.rt d c2) → (∀ e2 c2, clean flds np c2 (fun f c3 => E.nx (e2.map (Option.map f)) c3) → E'.bk e2 c2) → turn x E' e c')
    (fin : ∀ e c', J xs.length e c' → E.nx e c') : forL flds false np gd turn E xs env c := by
  refine for_inv (fun r e c' => ∃ i, r = xs.drop i ∧ i ≤ xs.length ∧ J i e c') ⟨0, rfl, Nat.zero_le _, h0⟩ (fun r e c' ⟨i, _, _, h⟩ => hgd _ _ _ h) ?_ ?_
  · rintro x r e c' ⟨i, h, hi, hj⟩ E' h1 h2 h3 h4
    have hlt : i < xs.length := by
      rcases Nat.lt_or_ge i xs.length with h' | h'
      · exact h'
      · rw [List.drop_eq_nil_of_le h'] at h; cases h
    rw [List.drop_eq_getElem_cons hlt] at h
    injection h with ha hb
    refine step i x e c' (by rw [List.getElem?_eq_getElem hlt, ha]) hj E' (fun e2 c2 h => h1 _ _ (clean_mono h fun f c3 h => ⟨i + 1, hb, hlt, h⟩)) (fun e2 c2 h => h2 _ _ (clean_mono h fun f c3 h => ⟨i + 1, hb, hlt, h⟩)) h3 h4
  · rintro e c' ⟨i, h, hi, hj⟩
    have : i = xs.length := by
      rcases Nat.lt_or_ge i xs.length with h' | h'
      · rw [List.drop_eq_getElem_cons h'] at h; cases h
      · omega
    subst this
    exact fin _ _ hj
theorem for_list {α : Type} (enc : α → D) (J : Nat → En → Cs → Prop) {xs : List α} (h0 : J 0 env c) (hgd : ∀ i e c', J i e c' → gdOk c' gd)
    (step : ∀ i x e c', xs[i]? = some x → J i e c' → ∀ E' : FEnds, (∀ e2 c2, clean flds np c2 (fun f c3 => J (i + 1) (e2.map (Option.map f)) c3) → E'.nx e2 c2) → (∀ e2 c2, clean flds np c2 (fun f c3 => J (i + 1) (e2.map (Option.map f)) c3) → E'.ct e2 c2) →
      (∀ d c2, E.rt d c2 → E'.rt d c2) → (∀ e2 c2, clean flds np c2 (fun f c3 => E.nx (e2.map (Option.map f)) c3) → E'.bk e2 c2) → turn (enc x) E' e c')
    (fin : ∀ e c', J xs.length e c' → E.nx e c') : forL flds false np gd turn E (xs.map enc) env c := by
  refine for_nth J h0 hgd (fun i x e c' hx => ?_) (fun e c' h => fin _ _ (by rwa [List.length_map] at h))
  rw [List.getElem?_map, Option.map_eq_some_iff] at hx
  obtain ⟨y, hy, rfl⟩ := hx
  exact step i y e c' hy
theorem for_enum {α : Type} (enc : α → D) (J : Nat → En → Cs → Prop) {xs : List α} (h0 : J 0 env c) (hgd : ∀ i e c', J i e c' → gdOk c' gd)
    (step : ∀ i x e c', xs[i]? = some x → J i e c' → ∀ E' : FEnds, (∀ e2 c2, clean flds np c2 (fun f c3 => J (i + 1) (e2.map (Option.map f)) c3) → E'.nx e2 c2) → (∀ e2 c2, clean flds np c2 (fun f c3 => J (i + 1) (e2.map (Option.map f)) c3) → E'.ct e2 c2) →
      (∀ d c2, E.rt d c2 → E'.rt d c2) → (∀ e2 c2, clean flds np c2 (fun f c3 => E.nx (e2.map (Option.map f)) c3) → E'.bk e2 c2) → turn (.tup [.int i, enc x]) E' e c')
    (fin : ∀ e c', J xs.length e c' → E.nx e c') : forL flds false np gd turn E (enumL (xs.map enc) 0) env c := by
  refine for_nth J h0 hgd (fun i x e c' hx => ?_) (fun e c' h => fin _ _ (by rwa [enumL_len, List.length_map] at h))
  obtain ⟨y, hy, rfl⟩ := enumL_get hx
  rw [List.getElem?_map, Option.map_eq_some_iff] at hy
  obtain ⟨z, hz, rfl⟩ := hy
  rw [Nat.zero_add]
  exact step i z e c' hz
theorem for_zip {α β : Type} (ea : α → D) (eb : β → D) (J : Nat → En → Cs → Prop) {xs : List α} {ys : List β} (h0 : J 0 env c) (hgd : ∀ i e c', J i e c' → gdOk c' gd)
    (step : ∀ i x y e c', xs[i]? = some x → ys[i]? = some y → J i e c' → ∀ E' : FEnds, (∀ e2 c2, clean flds np c2 (fun f c3 => J (i + 1) (e2.map (Option.map f)) c3) → E'.nx e2 c2) → (∀ e2 c2, clean flds np c2 (fun f c3 => J (i + 1) (e2.map (Option.map f)) c3) → E'.ct e2 c2) →
      (∀ d c2, E.rt d c2 → E'.rt d c2) → (∀ e2 c2, clean flds np c2 (fun f c3 => E.nx (e2.map (Option.map f)) c3) → E'.bk e2 c2) → turn (.tup [ea x, eb y]) E' e c')
    (fin : ∀ e c', J (min xs.length ys.length) e c' → E.nx e c') : forL flds false np gd turn E (zipL (xs.map ea) (ys.map eb)) env c := by
  refine for_nth J h0 hgd (fun i x e c' hx => ?_) (fun e c' h => fin _ _ (by rwa [zipL_len, List.length_map, List.length_map] at h))
  obtain ⟨y, z, hy, hz, rfl⟩ := zipL_get hx
  rw [List.getElem?_map, Option.map_eq_some_iff] at hy hz
  obtain ⟨u, hu, rfl⟩ := hy
  obtain ⟨v, hv, rfl⟩ := hz
  exact step i u v e c' hu hv
theorem comp_pureN {turn : D → (Option D → Cs → Prop) → Cs → Prop} {R : List D → Cs → Prop} {α : Type} (enc : α → D) (g : α → Option D) {xs : List α} (hg : gdOk c gd) (hnp : c.length = np) (hl : xs.length ≤ 16777216)
    (h : ∀ x ∈ xs, ∀ K : Option D → Cs → Prop, K (g x) c → turn (enc x) K c) (k : R (xs.filterMap g) c) : compL flds false np gd turn R (xs.map enc) [] c := by
  subst hnp; exact comp_pure enc g hg hl h k
theorem comp_mapN {turn : D → (Option D → Cs → Prop) → Cs → Prop} {R : List D → Cs → Prop} {α : Type} (enc g : α → D) {xs : List α} (hg : gdOk c gd) (hnp : c.length = np) (hl : xs.length ≤ 16777216)
    (h : ∀ x ∈ xs, ∀ K : Option D → Cs → Prop, K (some (g x)) c → turn (enc x) K c) (k : R (xs.map g) c) : compL flds false np gd turn R (xs.map enc) [] c := by
  subst hnp; exact F.comp_map enc g hg hl h k
mutual
theorem D.sub_sub {ρ τ : Nat → D} : ∀ {d : D}, (d.sub ρ).sub τ = d.sub fun j => (ρ j).sub τ
  | .non | .bl _ | .int _ | .str _ | .ty _ | .ref _ => rfl
  | .tup _ => by simp only [D.sub]; rw [D.subL_subL]
  | .lst _ => by simp only [D.sub]; rw [D.subL_subL]
  | .scr _ => by simp only [D.sub]; rw [D.subL_subL]
  | .dct ks vs => by simp only [D.sub]; rw [D.subL_subL, D.subL_subL]
  | .obj _ _ => by simp only [D.sub]; rw [D.subL_subL]
  | .cell _ => rfl
theorem D.subL_subL {ρ τ : Nat → D} : ∀ {ds : List D}, D.subL τ (D.subL ρ ds) = D.subL (fun j => (ρ j).sub τ) ds
  | [] => rfl
  | d :: ds => by simp only [D.subL]; rw [D.sub_sub, D.subL_subL]
end
mutual
theorem D.sub_id : ∀ {d : D}, d.sub D.cell = d
  | .non | .bl _ | .int _ | .str _ | .ty _ | .ref _ => rfl
  | .tup _ => by simp only [D.sub]; rw [D.subL_id]
  | .lst _ => by simp only [D.sub]; rw [D.subL_id]
  | .scr _ => by simp only [D.sub]; rw [D.subL_id]
  | .dct ks vs => by simp only [D.sub]; rw [D.subL_id, D.subL_id]
  | .obj _ _ => by simp only [D.sub]; rw [D.subL_id]
  | .cell _ => rfl
theorem D.subL_id : ∀ {ds : List D}, D.subL D.cell ds = ds
  | [] => rfl
  | d :: ds => by simp only [D.subL]; rw [D.sub_id, D.subL_id]
end
def cleanR (flds : Nat → List Str) (np : Nat) (ys : Cs) (j : Nat) : D := if j < np then .cell j else (((ys[j - np]?).bind (Cont.fz flds)).getD (.cell (j - ys.length)))
theorem cleanR_lt {j : Nat} {ys : Cs} (h : j < np) : cleanR flds np ys j = .cell j := if_pos h
theorem cleanR_ge {j : Nat} {ys : Cs} {y : Cont} {u : D} (h : ys[j]? = some y) (hu : y.fz flds = some u) : cleanR flds np ys (np + j) = u := by
  unfold cleanR
  rw [if_neg (by omega), show np + j - np = j by omega, h]
  simp [hu]
theorem Wfc.apps (w : Wfc c) : ∀ {ys : Cs}, (∀ y ∈ ys, y.nc = true) → Wfc (c ++ ys) := by
  intro ys
  induction ys generalizing c with
  | nil => intro _; simpa using w
  | cons y ys ih =>
    intro h
    have z := ih (w.app (h y (by simp))) (fun z hz => h z (by simp [hz]))
    simpa using z
theorem fz_nc {y : Cont} {u : D} (h : y.nc = true) (hu : y.fz flds = some u) : u.nc = true := by
  cases y with
  | lst xs => cases hu; exact h
  | dct ks vs => cases hu; exact h
  | obj k fs =>
    simp only [Cont.fz] at hu
    split at hu
    · cases hu; exact h
    · cases hu
theorem clean_ncs (w : Wfc c) {ys : Cs} {K : (D → D) → Cs → Prop} (hy : ∀ y ∈ ys, y.nc = true ∧ (y.fz flds).isSome = true) (k : K (D.sub (cleanR flds c.length ys)) c) : clean flds c.length (c ++ ys) K := by
  unfold clean
  rw [List.length_append, Nat.add_sub_cancel_left]
  have main : ∀ (n : Nat) (ys : Cs) (K : (D → D) → Cs → Prop), ys.length = n → (∀ y ∈ ys, y.nc = true ∧ (y.fz flds).isSome = true) → K (D.sub (cleanR flds c.length ys)) c → cleanK flds n (c ++ ys) K := by
    intro n
    induction n with
    | zero =>
      intro ys K hl _ k
      have : ys = [] := List.length_eq_zero_iff.mp hl
      subst this
      show K id (c ++ [])
      rw [List.append_nil]
      have e : D.sub (cleanR flds c.length []) = id := by
        funext d
        have z : cleanR flds c.length [] = D.cell := by
          funext j
          unfold cleanR
          split
          · rfl
          · simp
        rw [z]; exact D.sub_id
      rwa [e] at k
    | succ n ih =>
      intro ys K hl hy k
      rcases List.eq_nil_or_concat ys with rfl | ⟨ys', y, rfl⟩
      · cases hl
      rw [List.concat_eq_append] at *
      have hl' : ys'.length = n := by simpa using hl
      obtain ⟨hn, hf⟩ := hy y (by simp)
      obtain ⟨u, hu⟩ := Option.isSome_iff_exists.mp hf
      have wf : Wfc (c ++ ys') := w.apps fun z hz => (hy z (by simp [hz])).1
      show frz1 flds ((c ++ (ys' ++ [y])).length - 1) (c ++ (ys' ++ [y])) _
      rw [← List.append_assoc, show ((c ++ ys') ++ [y]).length - 1 = (c ++ ys').length by simp, frz1_last (Cont.all_of_nc hn) (by rw [Cont.sub_nc hn]; exact hu), wf.sub]
      refine ih ys' _ hl' (fun z hz => hy z (by simp [hz])) ?_
      have e : (fun d => D.sub (cleanR flds c.length ys') (D.sub (sig (c ++ ys').length u) d)) = D.sub (cleanR flds c.length (ys' ++ [y])) := by
        funext d
        rw [D.sub_sub]
        congr 1
        funext j
        rw [List.length_append]
        unfold sig
        rcases Nat.lt_trichotomy j (c.length + ys'.length) with h | h | h
        · rw [if_neg (by omega), if_pos h]
          show cleanR flds c.length ys' j = _
          unfold cleanR
          split
          · rfl
          · rw [List.getElem?_append_left (by omega)]
            have hj : j - c.length < ys'.length := by omega
            have hz := hy ys'[j - c.length] (by simp)
            obtain ⟨u', hu'⟩ := Option.isSome_iff_exists.mp hz.2
            rw [List.getElem?_eq_getElem hj]
            simp [hu']
        · rw [if_pos h]
          rw [D.sub_nc (fz_nc hn hu)]
          unfold cleanR
          rw [if_neg (by omega), List.getElem?_append_right (by omega), show j - c.length - ys'.length = 0 by omega]
          simp [hu]
        · rw [if_neg (by omega), if_neg (by omega)]
          show cleanR flds c.length ys' (j - 1) = _
          unfold cleanR
          rw [if_neg (by omega), if_neg (by omega), List.getElem?_eq_none (by omega), List.getElem?_eq_none (by simp; omega)]
          simp; omega
      rw [e]
      exact k
  exact main ys.length ys K rfl hy k
theorem ret_ncs {Q : QE} {d : D} (w : Wfc c) {ys : Cs} (hy : ∀ y ∈ ys, y.nc = true ∧ (y.fz flds).isSome = true) (k : Q (D.sub (cleanR flds c.length ys) d) c) : Ret flds c.length Q d (c ++ ys) := by
  have main : ∀ {n : Nat} {d : D} {c : Cs} {np : Nat} {Q : QE}, np + n ≤ c.length → cleanK flds n c (fun f c' => Q (f d) c') → Ret flds np Q d c := by
    intro n
    induction n with
    | zero => intro d c np Q _ h; exact ⟨[], h⟩
    | succ n ih =>
      intro d c np Q hn h
      unfold cleanK frz1 at h
      cases hx : c[c.length - 1]? with
      | none => rw [hx] at h; exact h.elim
      | some x =>
        rw [hx] at h
        obtain ⟨h1, h2⟩ := h
        cases hu : (x.sub (sig (c.length - 1) .non)).fz flds with
        | none => rw [hu] at h2; exact h2.elim
        | some u =>
          rw [hu] at h2
          have hl : ((c.eraseIdx (c.length - 1)).map (Cont.sub (sig (c.length - 1) u))).length = c.length - 1 := by rw [List.length_map, List.length_eraseIdx_of_lt (show c.length - 1 < c.length by omega)]
          obtain ⟨is, hi⟩ := ih (np := np) (Q := Q) (c := (c.eraseIdx (c.length - 1)).map (Cont.sub (sig (c.length - 1) u))) (d := D.sub (sig (c.length - 1) u) d) (by rw [hl]; omega) h2
          refine ⟨(c.length - 1) :: is, by omega, ?_⟩
          unfold frz1
          rw [hx]
          refine ⟨h1, ?_⟩
          rw [hu]
          exact hi
  exact main (n := (c ++ ys).length - c.length) (by simp) (clean_ncs w hy k)
theorem ret_ncsN {Q : QE} {d : D} (hnp : c.length = np) (w : Wfc c) {ys : Cs} (hy : ∀ y ∈ ys, y.nc = true ∧ (y.fz flds).isSome = true) (k : Q (D.sub (cleanR flds np ys) d) c) : Ret flds np Q d (c ++ ys) := by
  subst hnp; exact ret_ncs w hy k
theorem clean_ncsN (hnp : c.length = np) (w : Wfc c) {ys : Cs} {K : (D → D) → Cs → Prop} (hy : ∀ y ∈ ys, y.nc = true ∧ (y.fz flds).isSome = true) (k : K (D.sub (cleanR flds np ys)) c) : clean flds np (c ++ ys) K := by
  subst hnp; exact clean_ncs w hy k
theorem cleanR0 {xs : List D} {r : Cs} : cleanR flds np (.lst xs :: r) np = .lst xs := by
  unfold cleanR
  rw [if_neg (by omega), Nat.sub_self]; rfl
theorem cleanR1 {y : Cont} {xs : List D} {r : Cs} : cleanR flds np (y :: .lst xs :: r) (np + 1) = .lst xs := by
  unfold cleanR
  rw [if_neg (by omega), Nat.add_sub_cancel_left]; rfl
theorem app_get0e {k : Nat} {x : Cont} {r : Cs} (h : c.length = k) : (c ++ x :: r)[k]? = some x := by subst h; exact app_get0
theorem app_set0e {k : Nat} {x y : Cont} {r : Cs} (h : c.length = k) : (c ++ x :: r).set k y = c ++ y :: r := by subst h; exact app_set0
theorem app_get1e {k : Nat} {x y : Cont} {r : Cs} (h : c.length = k) : (c ++ x :: y :: r)[k + 1]? = some y := by subst h; exact app_get1
theorem app_set1e {k : Nat} {x y z : Cont} {r : Cs} (h : c.length = k) : (c ++ x :: y :: r).set (k + 1) z = c ++ x :: z :: r := by subst h; exact app_set1
theorem get_app {n : Nat} {x : Cont} {ys : Cs} (hn : n < c.length) : (c.set n x ++ ys)[n]? = some x := by
  rw [app_getL (by simpa using hn)]; exact set_get hn
theorem mul_bd {a b A B : Int} (ha : 0 ≤ a ∧ a ≤ A) (hb : 0 ≤ b ∧ b ≤ B) : 0 ≤ a * b ∧ a * b ≤ A * B :=
  ⟨Int.mul_nonneg ha.1 hb.1, Int.mul_le_mul ha.2 hb.2 hb.1 (Int.le_trans ha.1 ha.2)⟩
def augM (I : CI) (o : B2) (e : FE) (i : Nat) (E : FEnds) (Y : EX) (env : En) (c : Cs) : Option (Option D) → Prop
  | some (some (.int k)) => wpE I e env c (fun y c1 => augI o k (fun z => E.nx (setE env i (.int z)) c1) y) (atE Y env)
  | _ => False
theorem s_augm {I : CI} {i : Nat} {o : B2} {m : Bool} {e : FE} {Y : EX} : wpS I (.aug i o m e) np E Y env c = augM I o e i E Y env c env[i]? := by
  unfold wpS augM
  rfl
theorem augM_int {I : CI} {i : Nat} {o : B2} {e : FE} {Y : EX} {k : Int} : augM I o e i E Y env c (some (some (.int k))) = wpE I e env c (fun y c1 => augI o k (fun z => E.nx (setE env i (.int z)) c1) y) (atE Y env) := rfl
theorem b_eqs {m : Bool} {i j : Str} {Q : QE} : wpB .eq m (.str i) (.str j) c Q = Q (.bl (decide (i = j))) c := rfl
theorem b_nes {m : Bool} {i j : Str} {Q : QE} : wpB .ne m (.str i) (.str j) c Q = Q (.bl (!decide (i = j))) c := rfl
theorem isN_non : isNon .non = true := rfl
theorem isN_int {i : Int} : isNon (.int i) = false := rfl
theorem isN_bl {i : Bool} : isNon (.bl i) = false := rfl
theorem isN_str {i : Str} : isNon (.str i) = false := rfl
theorem isN_tup {i : List D} : isNon (.tup i) = false := rfl
theorem isN_lst {i : List D} : isNon (.lst i) = false := rfl
theorem isN_obj {k : Nat} {i : List D} : isNon (.obj k i) = false := rfl
theorem isN_cell {k : Nat} : isNon (.cell k) = false := rfl
theorem int2_int {P : Int → Int → Prop} {i j : Int} : int2 P (.int i) (.int j) = P i j := rfl
theorem while_inv {I : CI} {t : FC} {b : FSs} {Y : EX} (J : Nat → En → Cs → Prop) (n : Nat) (h0 : J n env c) (step : ∀ n env c, np ≤ c.length → J n env c → wpC I t env c (fun k c1 => sIf k
      (wpSs I b np { E with nx := fun env' c' => ∃ m, m < n ∧ J m env' c', ct := fun env' c' => ∃ m, m < n ∧ J m env' c', bk := E.nx } Y env c1) (E.nx env c1)) (atE Y env)) : wpS I (.while_ t b) np E Y env c := by
  unfold wpS
  exact ⟨J, n, h0, step⟩
theorem map_id_en {e : En} : e.map (Option.map id) = e := by simp
theorem for_rngK (J : Nat → En → Cs → Prop) {lo : Int} {n : Nat} (h0 : J 0 env c)
    (step : ∀ i e c', i < n → J i e c' → ∀ E' : FEnds, (∀ e2 c2, J (i + 1) e2 c2 → E'.nx e2 c2) → (∀ e2 c2, J (i + 1) e2 c2 → E'.ct e2 c2) →
      (∀ d c2, E.rt d c2 → E'.rt d c2) → (∀ e2 c2, E.nx e2 c2 → E'.bk e2 c2) → turn (.int (lo + i)) E' e c')
    (fin : ∀ e c', J n e c' → E.nx e c') : forL flds true np [] turn E (rngL lo n) env c := by
  have main : ∀ (k i : Nat) (env : En) (c : Cs), i + k = n → J i env c → forL flds true np [] turn E (rngL (lo + i) k) env c := by
    intro k
    induction k with
    | zero =>
      intro i env c hk h
      have e : i = n := by omega
      subst e
      exact ⟨trivial, fin _ _ h⟩
    | succ k ih =>
      intro i env c hk h
      rw [rngL_succ]
      have nxt : ∀ (e2 : En) (c2 : Cs), J (i + 1) e2 c2 → cl flds true np c2 fun f c'' => forL flds true np [] turn E (rngL (lo + i + 1) k) (e2.map (Option.map f)) c'' := fun (e2 : En) (c2 : Cs) h2 => by
        show forL flds true np [] turn E (rngL (lo + i + 1) k) (e2.map (Option.map id)) c2
        rw [map_id_en]
        have z := ih (i + 1) _ c2 (by omega) h2
        rwa [show lo + ((i + 1 : Nat) : Int) = lo + i + 1 by omega] at z
      exact ⟨trivial, step i env c (by omega) h _ nxt nxt (fun d c2 h => h) (fun e2 c2 h => by
        show E.nx (e2.map (Option.map id)) c2
        rwa [map_id_en])⟩
  have z := main n 0 env c (by omega) h0
  simpa using z
theorem allB_nil : allB [] = some [] := rfl
theorem allB_cons {b : Bool} {r : List D} : allB (.bl b :: r) = (allB r).map (b :: ·) := rfl
theorem allI_nil : allI [] = some [] := rfl
theorem allI_cons {b : Int} {r : List D} : allI (.int b :: r) = (allI r).map (b :: ·) := rfl
def setFC (flds : Nat → List Str) (k j n : Nat) (v : D) (c : Cs) (K : Cs → Prop) : Option Cont → Prop
  | some (.obj k' fs) => k = k' ∧ j < (flds k).length ∧ fs.length ≤ (flds k).length ∧ (if j < fs.length then K (c.set n (.obj k (fs.set j v))) else j = fs.length ∧ K (c.set n (.obj k (fs ++ [v]))))
  | _ => False
theorem setF_c {k j n : Nat} {v : D} {K : Cs → Prop} : setF flds (.cell n) k j v c K = setFC flds k j n v c K c[n]? := by
  show (match c[n]? with
    | some (.obj k' fs) => k = k' ∧ j < (flds k).length ∧ fs.length ≤ (flds k).length ∧ (if j < fs.length then K (c.set n (.obj k (fs.set j v))) else j = fs.length ∧ K (c.set n (.obj k (fs ++ [v]))))
    | _ => False) = _
  cases c[n]? with
  | none => rfl
  | some x => cases x <;> rfl
theorem setFC_obj {k k' j n : Nat} {fs : List D} {v : D} {K : Cs → Prop} : setFC flds k j n v c K (some (.obj k' fs)) = (k = k' ∧ j < (flds k).length ∧ fs.length ≤ (flds k).length ∧ (if j < fs.length then K (c.set n (.obj k (fs.set j v))) else j = fs.length ∧ K (c.set n (.obj k (fs ++ [v]))))) := rfl
/-- the end of a def: all new cells are frozen -/
theorem ret_cleanK {flds : Nat → List Str} {np : Nat} {Q : QE} : ∀ {n : Nat} {d : D} {c : Cs}, np + n ≤ c.length → cleanK flds n c (fun f c' => Q (f d) c') → Ret flds np Q d c
  | 0, d, c, _, h => ⟨[], h⟩
  | n + 1, d, c, hn, h => by
    unfold cleanK frz1 at h
    cases hx : c[c.length - 1]? with
    | none => rw [hx] at h; exact h.elim
    | some x =>
      rw [hx] at h
      obtain ⟨h1, h2⟩ := h
      cases hu : (x.sub (sig (c.length - 1) .non)).fz flds with
      | none => rw [hu] at h2; exact h2.elim
      | some u =>
        rw [hu] at h2
        have hl : ((c.eraseIdx (c.length - 1)).map (Cont.sub (sig (c.length - 1) u))).length = c.length - 1 := by rw [List.length_map, List.length_eraseIdx_of_lt (show c.length - 1 < c.length by omega)]
        obtain ⟨is, hi⟩ := ret_cleanK (np := np) (Q := Q) (c := (c.eraseIdx (c.length - 1)).map (Cont.sub (sig (c.length - 1) u))) (d := D.sub (sig (c.length - 1) u) d) (n := n) (by rw [hl]; omega) h2
        refine ⟨(c.length - 1) :: is, by omega, ?_⟩
        unfold frz1
        rw [hx]
        refine ⟨h1, ?_⟩
        rw [hu]
        exact hi
theorem ret_clean {flds : Nat → List Str} {np : Nat} {Q : QE} {d : D} {c : Cs} (hn : np ≤ c.length) (h : clean flds np c (fun f c' => Q (f d) c')) : Ret flds np Q d c := ret_cleanK (by omega) h
theorem ret_1 {flds : Nat → List Str} {Q : QE} {d : D} {c : Cs} {x : Cont} {u : D} (w : Wfc c) (hx : x.nc = true) (hu : x.fz flds = some u) (k : Q (D.sub (sig c.length u) d) c) : Ret flds c.length Q d (c ++ [x]) :=
  ret_clean (by simp) (clean_1 w hx hu k)
end
end F

namespace Lw
open PySem F
abbrev prog : Program := PySem.Challenge.pw_stintwise_k26_whole_runs_have_long_stint
def top (i : Nat) : Stmt := prog.main.body.getD i (.Pass ⟨0, 0, 0, 0⟩)
def sub (s : Stmt) (j : Nat) : Stmt := match s with
  | .ClassDef _ _ _ b _ _ _ _ _ _ _ => b.getD j (.Pass ⟨0, 0, 0, 0⟩)
  | _ => .Pass ⟨0, 0, 0, 0⟩
def k_Machine : Nat := 0
def c_MOST : Nat := 0
def c_LONGEST : Nat := 1
def c_MOST_PIECES : Nat := 2
def i_l_open : Nat := 0
def i_l_draw : Nat := 1
def i_l_spec : Nat := 2
def i_is_whole : Nat := 3
def i_is_within : Nat := 4
def i_is_amount : Nat := 5
def i_is_piece : Nat := 6
def i_are_pieces : Nat := 7
def i_look_at : Nat := 8
def i_Machine_init : Nat := 9
def i_l_machine : Nat := 10
def i_l_state : Nat := 11
def i_l_row : Nat := 12
def i_l_due : Nat := 13
def i_may_be : Nat := 14
def i_state_after : Nat := 15
def i_run_fault : Nat := 16
def i_l_same_0 : Nat := 17
def i_l_same : Nat := 18
def i_l_by_stints : Nat := 19
def i_stints_of : Nat := 20
def i_look_through : Nat := 21
def i_run_state : Nat := 22
def i_law : Nat := 23
/- l_open: 0:script 1:place 2:cells 3:at 4:digits 5:cell -/
def r_l_open_0 : FSs := (.cons (.set (.nm 2) (.lst false (.cons (.lit (.int 0)) .nil))) .nil)
theorem q_l_open_0 {I : CI} {np : Nat} {E : FEnds} {Y : EX} {env : En} {c : Cs} : wpSs I r_l_open_0 np E Y env c = wpS I (.set (.nm 2) (.lst false (.cons (.lit (.int 0)) .nil))) np { E with nx := KS I .nil np E Y } Y env c := s_cons
def r_l_open_1 : FSs := (.cons (.set (.nm 4) (.bin .idx false (.var 2) (.var 3))) .nil)
theorem q_l_open_1 {I : CI} {np : Nat} {E : FEnds} {Y : EX} {env : En} {c : Cs} : wpSs I r_l_open_1 np E Y env c = wpS I (.set (.nm 4) (.bin .idx false (.var 2) (.var 3))) np { E with nx := KS I .nil np E Y } Y env c := s_cons
def r_l_open_7 : FSs := (.cons (.ret (.lst true (.cons (.var 4) (.cons (.bin .add false (.lit (.int 1)) (.bin .mul false (.lit (.int 101)) (.var 1))) (.cons (.bin .add false (.slc false (.var 2) (.cons (.var 3) .nil) .nil) (.slc false (.var 2) .nil (.cons (.var 3) .nil))) .nil))))) .nil)
theorem q_l_open_7 {I : CI} {np : Nat} {E : FEnds} {Y : EX} {env : En} {c : Cs} : wpSs I r_l_open_7 np E Y env c = wpS I (.ret (.lst true (.cons (.var 4) (.cons (.bin .add false (.lit (.int 1)) (.bin .mul false (.lit (.int 101)) (.var 1))) (.cons (.bin .add false (.slc false (.var 2) (.cons (.var 3) .nil) .nil) (.slc false (.var 2) .nil (.cons (.var 3) .nil))) .nil))))) np { E with nx := KS I .nil np E Y } Y env c := s_cons
def r_l_open_6 : FSs := (.cons (.ifs (.bop true (.cons (.val (.bin .ge false (.bin .idx false (.var 2) (.var 3)) (.bin .pow false (.lit (.int 10)) (.lit (.int 18))))) (.cons (.val (.bin .lt false (.var 1) (.bi .len false (.cons (.var 2) .nil)))) .nil))) r_l_open_1 .nil) r_l_open_7)
theorem q_l_open_6 {I : CI} {np : Nat} {E : FEnds} {Y : EX} {env : En} {c : Cs} : wpSs I r_l_open_6 np E Y env c = wpS I (.ifs (.bop true (.cons (.val (.bin .ge false (.bin .idx false (.var 2) (.var 3)) (.bin .pow false (.lit (.int 10)) (.lit (.int 18))))) (.cons (.val (.bin .lt false (.var 1) (.bi .len false (.cons (.var 2) .nil)))) .nil))) r_l_open_1 .nil) np { E with nx := KS I r_l_open_7 np E Y } Y env c := s_cons
def r_l_open_5 : FSs := (.cons (.set (.nm 4) (.lit (.int 0))) r_l_open_6)
theorem q_l_open_5 {I : CI} {np : Nat} {E : FEnds} {Y : EX} {env : En} {c : Cs} : wpSs I r_l_open_5 np E Y env c = wpS I (.set (.nm 4) (.lit (.int 0))) np { E with nx := KS I r_l_open_6 np E Y } Y env c := s_cons
def r_l_open_4 : FSs := (.cons (.set (.nm 3) (.bin .mod false (.var 1) (.bi .len false (.cons (.var 2) .nil)))) r_l_open_5)
theorem q_l_open_4 {I : CI} {np : Nat} {E : FEnds} {Y : EX} {env : En} {c : Cs} : wpSs I r_l_open_4 np E Y env c = wpS I (.set (.nm 3) (.bin .mod false (.var 1) (.bi .len false (.cons (.var 2) .nil)))) np { E with nx := KS I r_l_open_5 np E Y } Y env c := s_cons
def r_l_open_3 : FSs := (.cons (.ifs (.val (.bin .eq false (.var 2) (.lst false .nil))) r_l_open_0 .nil) r_l_open_4)
theorem q_l_open_3 {I : CI} {np : Nat} {E : FEnds} {Y : EX} {env : En} {c : Cs} : wpSs I r_l_open_3 np E Y env c = wpS I (.ifs (.val (.bin .eq false (.var 2) (.lst false .nil))) r_l_open_0 .nil) np { E with nx := KS I r_l_open_4 np E Y } Y env c := s_cons
def r_l_open_2 : FSs := (.cons (.setC 2 (.comp false false (.nm 5) (.ex (.slc false (.var 0) .nil (.cons (.lit (.int 63)) .nil))) .nil (.bi .abs false (.cons (.var 5) .nil)) [("_law_cell", 5)])) r_l_open_3)
theorem q_l_open_2 {I : CI} {np : Nat} {E : FEnds} {Y : EX} {env : En} {c : Cs} : wpSs I r_l_open_2 np E Y env c = wpS I (.setC 2 (.comp false false (.nm 5) (.ex (.slc false (.var 0) .nil (.cons (.lit (.int 63)) .nil))) .nil (.bi .abs false (.cons (.var 5) .nil)) [("_law_cell", 5)])) np { E with nx := KS I r_l_open_3 np E Y } Y env c := s_cons
def b_l_open : FSs := r_l_open_2
def d_l_open : DefT := ⟨.fn "_law_open", (top 27), "_law_open", ["_law_script", "_law_place", "_law_cells", "_law_at", "_law_digits", "_law_cell"], ["_law_script", "_law_place"], b_l_open⟩
/- l_draw: 0:hand 1:many 2:got 3:cell 4:number -/
def r_l_draw_2 : FSs := (.cons (.ret (.var 2)) .nil)
theorem q_l_draw_2 {I : CI} {np : Nat} {E : FEnds} {Y : EX} {env : En} {c : Cs} : wpSs I r_l_draw_2 np E Y env c = wpS I (.ret (.var 2)) np { E with nx := KS I .nil np E Y } Y env c := s_cons
def r_l_draw_1 : FSs := (.cons (.setI (.var 0) (.lit (.int 0)) (.bin .fdiv false (.bin .idx false (.var 0) (.lit (.int 0))) (.var 1))) r_l_draw_2)
theorem q_l_draw_1 {I : CI} {np : Nat} {E : FEnds} {Y : EX} {env : En} {c : Cs} : wpSs I r_l_draw_1 np E Y env c = wpS I (.setI (.var 0) (.lit (.int 0)) (.bin .fdiv false (.bin .idx false (.var 0) (.lit (.int 0))) (.var 1))) np { E with nx := KS I r_l_draw_2 np E Y } Y env c := s_cons
def r_l_draw_0 : FSs := (.cons (.set (.nm 2) (.bin .mod false (.bin .idx false (.var 0) (.lit (.int 0))) (.var 1))) r_l_draw_1)
theorem q_l_draw_0 {I : CI} {np : Nat} {E : FEnds} {Y : EX} {env : En} {c : Cs} : wpSs I r_l_draw_0 np E Y env c = wpS I (.set (.nm 2) (.bin .mod false (.bin .idx false (.var 0) (.lit (.int 0))) (.var 1))) np { E with nx := KS I r_l_draw_1 np E Y } Y env c := s_cons
def r_l_draw_9 : FSs := (.cons (.ret (.bin .mod false (.bin .fdiv false (.bin .mod false (.bin .mul false (.var 4) (.var 4)) (.lit (.int 1000000007))) (.lit (.int 64))) (.var 1))) .nil)
theorem q_l_draw_9 {I : CI} {np : Nat} {E : FEnds} {Y : EX} {env : En} {c : Cs} : wpSs I r_l_draw_9 np E Y env c = wpS I (.ret (.bin .mod false (.bin .fdiv false (.bin .mod false (.bin .mul false (.var 4) (.var 4)) (.lit (.int 1000000007))) (.lit (.int 64))) (.var 1))) np { E with nx := KS I .nil np E Y } Y env c := s_cons
def r_l_draw_8 : FSs := (.cons (.set (.nm 4) (.bin .mod false (.bin .add false (.bin .mul false (.var 4) (.lit (.int 40503203))) (.lit (.int 12345))) (.lit (.int 2147483647)))) r_l_draw_9)
theorem q_l_draw_8 {I : CI} {np : Nat} {E : FEnds} {Y : EX} {env : En} {c : Cs} : wpSs I r_l_draw_8 np E Y env c = wpS I (.set (.nm 4) (.bin .mod false (.bin .add false (.bin .mul false (.var 4) (.lit (.int 40503203))) (.lit (.int 12345))) (.lit (.int 2147483647)))) np { E with nx := KS I r_l_draw_9 np E Y } Y env c := s_cons
def r_l_draw_7 : FSs := (.cons (.set (.nm 4) (.bin .mod false (.bin .add false (.bin .mul false (.var 4) (.var 4)) (.bin .idx false (.var 0) (.lit (.int 1)))) (.lit (.int 998244353)))) r_l_draw_8)
theorem q_l_draw_7 {I : CI} {np : Nat} {E : FEnds} {Y : EX} {env : En} {c : Cs} : wpSs I r_l_draw_7 np E Y env c = wpS I (.set (.nm 4) (.bin .mod false (.bin .add false (.bin .mul false (.var 4) (.var 4)) (.bin .idx false (.var 0) (.lit (.int 1)))) (.lit (.int 998244353)))) np { E with nx := KS I r_l_draw_8 np E Y } Y env c := s_cons
def r_l_draw_6 : FSs := (.cons (.set (.nm 4) (.bin .mod false (.bin .add false (.bin .add false (.bin .mul false (.var 3) (.lit (.int 48271))) (.bin .mul false (.bin .idx false (.var 0) (.lit (.int 1))) (.lit (.int 7368787)))) (.lit (.int 11))) (.lit (.int 998244353)))) r_l_draw_7)
theorem q_l_draw_6 {I : CI} {np : Nat} {E : FEnds} {Y : EX} {env : En} {c : Cs} : wpSs I r_l_draw_6 np E Y env c = wpS I (.set (.nm 4) (.bin .mod false (.bin .add false (.bin .add false (.bin .mul false (.var 3) (.lit (.int 48271))) (.bin .mul false (.bin .idx false (.var 0) (.lit (.int 1))) (.lit (.int 7368787)))) (.lit (.int 11))) (.lit (.int 998244353)))) np { E with nx := KS I r_l_draw_7 np E Y } Y env c := s_cons
def r_l_draw_5 : FSs := (.cons (.set (.nm 3) (.bin .mod false (.bin .idx false (.bin .idx false (.var 0) (.lit (.int 2))) (.bin .mod false (.bin .idx false (.var 0) (.lit (.int 1))) (.bi .len false (.cons (.bin .idx false (.var 0) (.lit (.int 2))) .nil)))) (.lit (.int 2147483647)))) r_l_draw_6)
theorem q_l_draw_5 {I : CI} {np : Nat} {E : FEnds} {Y : EX} {env : En} {c : Cs} : wpSs I r_l_draw_5 np E Y env c = wpS I (.set (.nm 3) (.bin .mod false (.bin .idx false (.bin .idx false (.var 0) (.lit (.int 2))) (.bin .mod false (.bin .idx false (.var 0) (.lit (.int 1))) (.bi .len false (.cons (.bin .idx false (.var 0) (.lit (.int 2))) .nil)))) (.lit (.int 2147483647)))) np { E with nx := KS I r_l_draw_6 np E Y } Y env c := s_cons
def r_l_draw_4 : FSs := (.cons (.augI .add (.var 0) (.lit (.int 1)) (.lit (.int 1))) r_l_draw_5)
theorem q_l_draw_4 {I : CI} {np : Nat} {E : FEnds} {Y : EX} {env : En} {c : Cs} : wpSs I r_l_draw_4 np E Y env c = wpS I (.augI .add (.var 0) (.lit (.int 1)) (.lit (.int 1))) np { E with nx := KS I r_l_draw_5 np E Y } Y env c := s_cons
def r_l_draw_3 : FSs := (.cons (.ifs (.val (.bin .gt false (.bin .idx false (.var 0) (.lit (.int 0))) (.lit (.int 0)))) r_l_draw_0 .nil) r_l_draw_4)
theorem q_l_draw_3 {I : CI} {np : Nat} {E : FEnds} {Y : EX} {env : En} {c : Cs} : wpSs I r_l_draw_3 np E Y env c = wpS I (.ifs (.val (.bin .gt false (.bin .idx false (.var 0) (.lit (.int 0))) (.lit (.int 0)))) r_l_draw_0 .nil) np { E with nx := KS I r_l_draw_4 np E Y } Y env c := s_cons
def b_l_draw : FSs := r_l_draw_3
def d_l_draw : DefT := ⟨.fn "_law_draw", (top 28), "_law_draw", ["_law_hand", "_law_many", "_law_got", "_law_cell", "_law_number"], ["_law_hand", "_law_many"], b_l_draw⟩
/- l_spec: 0:hand 1:by 2:longest 3:up 4:down 5:costs 6:least 7:rate 8:pieces 9:k -/
def r_l_spec_1 : FSs := (.cons (.expr (.mt .append (.var 8) (.cons (.tup (.cons (.bin .mul false (.bin .idx false (.var 1) (.lit (.int 0))) (.bin .add false (.lit (.int 1)) (.call i_l_draw (.cons (.var 0) (.cons (.lit (.int 3)) .nil))))) (.cons (.var 7) .nil))) .nil))) .nil)
theorem q_l_spec_1 {I : CI} {np : Nat} {E : FEnds} {Y : EX} {env : En} {c : Cs} : wpSs I r_l_spec_1 np E Y env c = wpS I (.expr (.mt .append (.var 8) (.cons (.tup (.cons (.bin .mul false (.bin .idx false (.var 1) (.lit (.int 0))) (.bin .add false (.lit (.int 1)) (.call i_l_draw (.cons (.var 0) (.cons (.lit (.int 3)) .nil))))) (.cons (.var 7) .nil))) .nil))) np { E with nx := KS I .nil np E Y } Y env c := s_cons
def r_l_spec_0 : FSs := (.cons (.aug 7 .add false (.bin .mul false (.bin .idx false (.var 1) (.lit (.int 1))) (.call i_l_draw (.cons (.var 0) (.cons (.lit (.int 3)) .nil))))) r_l_spec_1)
theorem q_l_spec_0 {I : CI} {np : Nat} {E : FEnds} {Y : EX} {env : En} {c : Cs} : wpSs I r_l_spec_0 np E Y env c = wpS I (.aug 7 .add false (.bin .mul false (.bin .idx false (.var 1) (.lit (.int 1))) (.call i_l_draw (.cons (.var 0) (.cons (.lit (.int 3)) .nil))))) np { E with nx := KS I r_l_spec_1 np E Y } Y env c := s_cons
def r_l_spec_9 : FSs := (.cons (.ret (.lst false (.cons (.var 3) (.cons (.var 4) (.cons (.bin .idx false (.var 5) (.lit (.int 0))) (.cons (.bin .idx false (.var 5) (.lit (.int 1))) (.cons (.bin .idx false (.var 5) (.lit (.int 2))) (.cons (.var 6) (.cons (.var 8) .nil))))))))) .nil)
theorem q_l_spec_9 {I : CI} {np : Nat} {E : FEnds} {Y : EX} {env : En} {c : Cs} : wpSs I r_l_spec_9 np E Y env c = wpS I (.ret (.lst false (.cons (.var 3) (.cons (.var 4) (.cons (.bin .idx false (.var 5) (.lit (.int 0))) (.cons (.bin .idx false (.var 5) (.lit (.int 1))) (.cons (.bin .idx false (.var 5) (.lit (.int 2))) (.cons (.var 6) (.cons (.var 8) .nil))))))))) np { E with nx := KS I .nil np E Y } Y env c := s_cons
def r_l_spec_8 : FSs := (.cons (.for_ false (.nm 9) (.rng1 (.call i_l_draw (.cons (.var 0) (.cons (.lit (.int 5)) .nil)))) r_l_spec_0) r_l_spec_9)
theorem q_l_spec_8 {I : CI} {np : Nat} {E : FEnds} {Y : EX} {env : En} {c : Cs} : wpSs I r_l_spec_8 np E Y env c = wpS I (.for_ false (.nm 9) (.rng1 (.call i_l_draw (.cons (.var 0) (.cons (.lit (.int 5)) .nil)))) r_l_spec_0) np { E with nx := KS I r_l_spec_9 np E Y } Y env c := s_cons
def r_l_spec_7 : FSs := (.cons (.set (.nm 8) (.lst true .nil)) r_l_spec_8)
theorem q_l_spec_7 {I : CI} {np : Nat} {E : FEnds} {Y : EX} {env : En} {c : Cs} : wpSs I r_l_spec_7 np E Y env c = wpS I (.set (.nm 8) (.lst true .nil)) np { E with nx := KS I r_l_spec_8 np E Y } Y env c := s_cons
def r_l_spec_6 : FSs := (.cons (.set (.nm 7) (.lit (.int 0))) r_l_spec_7)
theorem q_l_spec_6 {I : CI} {np : Nat} {E : FEnds} {Y : EX} {env : En} {c : Cs} : wpSs I r_l_spec_6 np E Y env c = wpS I (.set (.nm 7) (.lit (.int 0))) np { E with nx := KS I r_l_spec_7 np E Y } Y env c := s_cons
def r_l_spec_5 : FSs := (.cons (.set (.nm 6) (.bin .mul false (.bin .idx false (.var 1) (.lit (.int 0))) (.call i_l_draw (.cons (.var 0) (.cons (.lit (.int 3)) .nil))))) r_l_spec_6)
theorem q_l_spec_5 {I : CI} {np : Nat} {E : FEnds} {Y : EX} {env : En} {c : Cs} : wpSs I r_l_spec_5 np E Y env c = wpS I (.set (.nm 6) (.bin .mul false (.bin .idx false (.var 1) (.lit (.int 0))) (.call i_l_draw (.cons (.var 0) (.cons (.lit (.int 3)) .nil))))) np { E with nx := KS I r_l_spec_6 np E Y } Y env c := s_cons
def r_l_spec_4 : FSs := (.cons (.set (.nm 5) (.lst false (.cons (.bin .mul false (.bin .idx false (.var 1) (.lit (.int 1))) (.call i_l_draw (.cons (.var 0) (.cons (.lit (.int 6)) .nil)))) (.cons (.bin .mul false (.bin .idx false (.var 1) (.lit (.int 1))) (.call i_l_draw (.cons (.var 0) (.cons (.lit (.int 4)) .nil)))) (.cons (.bin .mul false (.bin .idx false (.var 1) (.lit (.int 1))) (.call i_l_draw (.cons (.var 0) (.cons (.lit (.int 3)) .nil)))) .nil))))) r_l_spec_5)
theorem q_l_spec_4 {I : CI} {np : Nat} {E : FEnds} {Y : EX} {env : En} {c : Cs} : wpSs I r_l_spec_4 np E Y env c = wpS I (.set (.nm 5) (.lst false (.cons (.bin .mul false (.bin .idx false (.var 1) (.lit (.int 1))) (.call i_l_draw (.cons (.var 0) (.cons (.lit (.int 6)) .nil)))) (.cons (.bin .mul false (.bin .idx false (.var 1) (.lit (.int 1))) (.call i_l_draw (.cons (.var 0) (.cons (.lit (.int 4)) .nil)))) (.cons (.bin .mul false (.bin .idx false (.var 1) (.lit (.int 1))) (.call i_l_draw (.cons (.var 0) (.cons (.lit (.int 3)) .nil)))) .nil))))) np { E with nx := KS I r_l_spec_5 np E Y } Y env c := s_cons
def r_l_spec_3 : FSs := (.cons (.set (.nm 4) (.bin .add false (.lit (.int 1)) (.call i_l_draw (.cons (.var 0) (.cons (.var 2) .nil))))) r_l_spec_4)
theorem q_l_spec_3 {I : CI} {np : Nat} {E : FEnds} {Y : EX} {env : En} {c : Cs} : wpSs I r_l_spec_3 np E Y env c = wpS I (.set (.nm 4) (.bin .add false (.lit (.int 1)) (.call i_l_draw (.cons (.var 0) (.cons (.var 2) .nil))))) np { E with nx := KS I r_l_spec_4 np E Y } Y env c := s_cons
def r_l_spec_2 : FSs := (.cons (.set (.nm 3) (.bin .add false (.lit (.int 1)) (.call i_l_draw (.cons (.var 0) (.cons (.var 2) .nil))))) r_l_spec_3)
theorem q_l_spec_2 {I : CI} {np : Nat} {E : FEnds} {Y : EX} {env : En} {c : Cs} : wpSs I r_l_spec_2 np E Y env c = wpS I (.set (.nm 3) (.bin .add false (.lit (.int 1)) (.call i_l_draw (.cons (.var 0) (.cons (.var 2) .nil))))) np { E with nx := KS I r_l_spec_3 np E Y } Y env c := s_cons
def b_l_spec : FSs := r_l_spec_2
def d_l_spec : DefT := ⟨.fn "_law_spec", (top 29), "_law_spec", ["_law_hand", "_law_by", "_law_longest", "_law_up", "_law_down", "_law_costs", "_law_least", "_law_rate", "_law_pieces", "_law_k"], ["_law_hand", "_law_by", "_law_longest"], b_l_spec⟩
/- is_whole: 0:thing -/
def r_is_whole_0 : FSs := (.cons (.ret (.bop true (.cons (.isi (.var 0) [.bt "int"] false) (.cons (.un .not (.isi (.var 0) [.bt "bool"] false)) .nil)))) .nil)
theorem q_is_whole_0 {I : CI} {np : Nat} {E : FEnds} {Y : EX} {env : En} {c : Cs} : wpSs I r_is_whole_0 np E Y env c = wpS I (.ret (.bop true (.cons (.isi (.var 0) [.bt "int"] false) (.cons (.un .not (.isi (.var 0) [.bt "bool"] false)) .nil)))) np { E with nx := KS I .nil np E Y } Y env c := s_cons
def b_is_whole : FSs := r_is_whole_0
def d_is_whole : DefT := ⟨.fn "is_whole", (top 7), "is_whole", ["thing"], ["thing"], b_is_whole⟩
/- is_within: 0:thing 1:low 2:high -/
def r_is_within_0 : FSs := (.cons (.ret (.bop true (.cons (.call i_is_whole (.cons (.var 0) .nil)) (.cons (.chain .le .le (.var 1) (.var 0) (.var 2)) .nil)))) .nil)
theorem q_is_within_0 {I : CI} {np : Nat} {E : FEnds} {Y : EX} {env : En} {c : Cs} : wpSs I r_is_within_0 np E Y env c = wpS I (.ret (.bop true (.cons (.call i_is_whole (.cons (.var 0) .nil)) (.cons (.chain .le .le (.var 1) (.var 0) (.var 2)) .nil)))) np { E with nx := KS I .nil np E Y } Y env c := s_cons
def b_is_within : FSs := r_is_within_0
def d_is_within : DefT := ⟨.fn "is_within", (top 8), "is_within", ["thing", "low", "high"], ["thing", "low", "high"], b_is_within⟩
/- is_amount: 0:thing -/
def r_is_amount_0 : FSs := (.cons (.ret (.call i_is_within (.cons (.var 0) (.cons (.lit (.int 0)) (.cons (.con c_MOST) .nil))))) .nil)
theorem q_is_amount_0 {I : CI} {np : Nat} {E : FEnds} {Y : EX} {env : En} {c : Cs} : wpSs I r_is_amount_0 np E Y env c = wpS I (.ret (.call i_is_within (.cons (.var 0) (.cons (.lit (.int 0)) (.cons (.con c_MOST) .nil))))) np { E with nx := KS I .nil np E Y } Y env c := s_cons
def b_is_amount : FSs := r_is_amount_0
def d_is_amount : DefT := ⟨.fn "is_amount", (top 9), "is_amount", ["thing"], ["thing"], b_is_amount⟩
/- is_piece: 0:thing -/
def r_is_piece_0 : FSs := (.cons (.ret (.lit (.bl false))) .nil)
theorem q_is_piece_0 {I : CI} {np : Nat} {E : FEnds} {Y : EX} {env : En} {c : Cs} : wpSs I r_is_piece_0 np E Y env c = wpS I (.ret (.lit (.bl false))) np { E with nx := KS I .nil np E Y } Y env c := s_cons
def r_is_piece_2 : FSs := (.cons (.ret (.bop true (.cons (.call i_is_amount (.cons (.bin .idx false (.var 0) (.lit (.int 0))) .nil)) (.cons (.bin .gt false (.bin .idx false (.var 0) (.lit (.int 0))) (.lit (.int 0))) (.cons (.call i_is_amount (.cons (.bin .idx false (.var 0) (.lit (.int 1))) .nil)) .nil))))) .nil)
theorem q_is_piece_2 {I : CI} {np : Nat} {E : FEnds} {Y : EX} {env : En} {c : Cs} : wpSs I r_is_piece_2 np E Y env c = wpS I (.ret (.bop true (.cons (.call i_is_amount (.cons (.bin .idx false (.var 0) (.lit (.int 0))) .nil)) (.cons (.bin .gt false (.bin .idx false (.var 0) (.lit (.int 0))) (.lit (.int 0))) (.cons (.call i_is_amount (.cons (.bin .idx false (.var 0) (.lit (.int 1))) .nil)) .nil))))) np { E with nx := KS I .nil np E Y } Y env c := s_cons
def r_is_piece_1 : FSs := (.cons (.ifs (.bop false (.cons (.not (.val (.isi (.var 0) [.bt "tuple"] false))) (.cons (.val (.bin .ne false (.bi .len false (.cons (.var 0) .nil)) (.lit (.int 2)))) .nil))) r_is_piece_0 .nil) r_is_piece_2)
theorem q_is_piece_1 {I : CI} {np : Nat} {E : FEnds} {Y : EX} {env : En} {c : Cs} : wpSs I r_is_piece_1 np E Y env c = wpS I (.ifs (.bop false (.cons (.not (.val (.isi (.var 0) [.bt "tuple"] false))) (.cons (.val (.bin .ne false (.bi .len false (.cons (.var 0) .nil)) (.lit (.int 2)))) .nil))) r_is_piece_0 .nil) np { E with nx := KS I r_is_piece_2 np E Y } Y env c := s_cons
def b_is_piece : FSs := r_is_piece_1
def d_is_piece : DefT := ⟨.fn "is_piece", (top 20), "is_piece", ["thing"], ["thing"], b_is_piece⟩
/- are_pieces: 0:thing 1:rates 2:piece -/
def r_are_pieces_0 : FSs := (.cons (.ret (.lit (.bl false))) .nil)
theorem q_are_pieces_0 {I : CI} {np : Nat} {E : FEnds} {Y : EX} {env : En} {c : Cs} : wpSs I r_are_pieces_0 np E Y env c = wpS I (.ret (.lit (.bl false))) np { E with nx := KS I .nil np E Y } Y env c := s_cons
def r_are_pieces_1 : FSs := (.cons (.ret (.lit (.bl false))) .nil)
theorem q_are_pieces_1 {I : CI} {np : Nat} {E : FEnds} {Y : EX} {env : En} {c : Cs} : wpSs I r_are_pieces_1 np E Y env c = wpS I (.ret (.lit (.bl false))) np { E with nx := KS I .nil np E Y } Y env c := s_cons
def r_are_pieces_5 : FSs := (.cons (.ret (.bin .eq false (.var 1) (.bi .sorted false (.cons (.var 1) .nil)))) .nil)
theorem q_are_pieces_5 {I : CI} {np : Nat} {E : FEnds} {Y : EX} {env : En} {c : Cs} : wpSs I r_are_pieces_5 np E Y env c = wpS I (.ret (.bin .eq false (.var 1) (.bi .sorted false (.cons (.var 1) .nil)))) np { E with nx := KS I .nil np E Y } Y env c := s_cons
def r_are_pieces_4 : FSs := (.cons (.setC 1 (.comp false false (.nm 2) (.ex (.var 0)) .nil (.bin .idx false (.var 2) (.lit (.int 1))) [("piece", 2)])) r_are_pieces_5)
theorem q_are_pieces_4 {I : CI} {np : Nat} {E : FEnds} {Y : EX} {env : En} {c : Cs} : wpSs I r_are_pieces_4 np E Y env c = wpS I (.setC 1 (.comp false false (.nm 2) (.ex (.var 0)) .nil (.bin .idx false (.var 2) (.lit (.int 1))) [("piece", 2)])) np { E with nx := KS I r_are_pieces_5 np E Y } Y env c := s_cons
def r_are_pieces_3 : FSs := (.cons (.ifs (.not (.val (.bi .all false (.cons (.comp false false (.nm 2) (.ex (.var 0)) .nil (.call i_is_piece (.cons (.var 2) .nil)) [("piece", 2)]) .nil)))) r_are_pieces_1 .nil) r_are_pieces_4)
theorem q_are_pieces_3 {I : CI} {np : Nat} {E : FEnds} {Y : EX} {env : En} {c : Cs} : wpSs I r_are_pieces_3 np E Y env c = wpS I (.ifs (.not (.val (.bi .all false (.cons (.comp false false (.nm 2) (.ex (.var 0)) .nil (.call i_is_piece (.cons (.var 2) .nil)) [("piece", 2)]) .nil)))) r_are_pieces_1 .nil) np { E with nx := KS I r_are_pieces_4 np E Y } Y env c := s_cons
def r_are_pieces_2 : FSs := (.cons (.ifs (.bop false (.cons (.not (.val (.isi (.var 0) [.bt "list"] false))) (.cons (.val (.bin .gt false (.bi .len false (.cons (.var 0) .nil)) (.con c_MOST_PIECES))) .nil))) r_are_pieces_0 .nil) r_are_pieces_3)
theorem q_are_pieces_2 {I : CI} {np : Nat} {E : FEnds} {Y : EX} {env : En} {c : Cs} : wpSs I r_are_pieces_2 np E Y env c = wpS I (.ifs (.bop false (.cons (.not (.val (.isi (.var 0) [.bt "list"] false))) (.cons (.val (.bin .gt false (.bi .len false (.cons (.var 0) .nil)) (.con c_MOST_PIECES))) .nil))) r_are_pieces_0 .nil) np { E with nx := KS I r_are_pieces_3 np E Y } Y env c := s_cons
def b_are_pieces : FSs := r_are_pieces_2
def d_are_pieces : DefT := ⟨.fn "are_pieces", (top 21), "are_pieces", ["thing", "rates", "piece"], ["thing"], b_are_pieces⟩
/- look_at: 0:up 1:down 2:costs 3:pieces 4:at 5:hours 6:cost -/
def r_look_at_0 : FSs := (.cons .dead .nil)
theorem q_look_at_0 {I : CI} {np : Nat} {E : FEnds} {Y : EX} {env : En} {c : Cs} : wpSs I r_look_at_0 np E Y env c = wpS I .dead np { E with nx := KS I .nil np E Y } Y env c := s_cons
def r_look_at_1 : FSs := (.cons (.ifs (.not (.val (.call i_is_within (.cons (.var 5) (.cons (.lit (.int 1)) (.cons (.con c_LONGEST) .nil)))))) r_look_at_0 .nil) .nil)
theorem q_look_at_1 {I : CI} {np : Nat} {E : FEnds} {Y : EX} {env : En} {c : Cs} : wpSs I r_look_at_1 np E Y env c = wpS I (.ifs (.not (.val (.call i_is_within (.cons (.var 5) (.cons (.lit (.int 1)) (.cons (.con c_LONGEST) .nil)))))) r_look_at_0 .nil) np { E with nx := KS I .nil np E Y } Y env c := s_cons
def r_look_at_2 : FSs := (.cons .dead .nil)
theorem q_look_at_2 {I : CI} {np : Nat} {E : FEnds} {Y : EX} {env : En} {c : Cs} : wpSs I r_look_at_2 np E Y env c = wpS I .dead np { E with nx := KS I .nil np E Y } Y env c := s_cons
def r_look_at_3 : FSs := (.cons (.ifs (.not (.val (.call i_is_amount (.cons (.var 6) .nil)))) r_look_at_2 .nil) .nil)
theorem q_look_at_3 {I : CI} {np : Nat} {E : FEnds} {Y : EX} {env : En} {c : Cs} : wpSs I r_look_at_3 np E Y env c = wpS I (.ifs (.not (.val (.call i_is_amount (.cons (.var 6) .nil)))) r_look_at_2 .nil) np { E with nx := KS I .nil np E Y } Y env c := s_cons
def r_look_at_4 : FSs := (.cons .dead .nil)
theorem q_look_at_4 {I : CI} {np : Nat} {E : FEnds} {Y : EX} {env : En} {c : Cs} : wpSs I r_look_at_4 np E Y env c = wpS I .dead np { E with nx := KS I .nil np E Y } Y env c := s_cons
def r_look_at_7 : FSs := (.cons (.ifs (.not (.val (.call i_are_pieces (.cons (.var 3) .nil)))) r_look_at_4 .nil) .nil)
theorem q_look_at_7 {I : CI} {np : Nat} {E : FEnds} {Y : EX} {env : En} {c : Cs} : wpSs I r_look_at_7 np E Y env c = wpS I (.ifs (.not (.val (.call i_are_pieces (.cons (.var 3) .nil)))) r_look_at_4 .nil) np { E with nx := KS I .nil np E Y } Y env c := s_cons
def r_look_at_6 : FSs := (.cons (.for_ false (.tp (.cons (.nm 4) (.cons (.nm 6) .nil))) (.enum (.var 2)) r_look_at_3) r_look_at_7)
theorem q_look_at_6 {I : CI} {np : Nat} {E : FEnds} {Y : EX} {env : En} {c : Cs} : wpSs I r_look_at_6 np E Y env c = wpS I (.for_ false (.tp (.cons (.nm 4) (.cons (.nm 6) .nil))) (.enum (.var 2)) r_look_at_3) np { E with nx := KS I r_look_at_7 np E Y } Y env c := s_cons
def r_look_at_5 : FSs := (.cons (.for_ false (.tp (.cons (.nm 4) (.cons (.nm 5) .nil))) (.enum (.tup (.cons (.var 0) (.cons (.var 1) .nil)))) r_look_at_1) r_look_at_6)
theorem q_look_at_5 {I : CI} {np : Nat} {E : FEnds} {Y : EX} {env : En} {c : Cs} : wpSs I r_look_at_5 np E Y env c = wpS I (.for_ false (.tp (.cons (.nm 4) (.cons (.nm 5) .nil))) (.enum (.tup (.cons (.var 0) (.cons (.var 1) .nil)))) r_look_at_1) np { E with nx := KS I r_look_at_6 np E Y } Y env c := s_cons
def b_look_at : FSs := r_look_at_5
def d_look_at : DefT := ⟨.fn "look_at", (top 22), "look_at", ["up", "down", "costs", "pieces", "at", "hours", "cost"], ["up", "down", "costs", "pieces"], b_look_at⟩
/- Machine_init: 0:self 1:up 2:down 3:begin 4:run 5:rest 6:least 7:pieces -/
def r_Machine_init_7 : FSs := (.cons (.setA (.var 0) k_Machine 6 (.bi .list false (.cons (.var 7) .nil))) .nil)
theorem q_Machine_init_7 {I : CI} {np : Nat} {E : FEnds} {Y : EX} {env : En} {c : Cs} : wpSs I r_Machine_init_7 np E Y env c = wpS I (.setA (.var 0) k_Machine 6 (.bi .list false (.cons (.var 7) .nil))) np { E with nx := KS I .nil np E Y } Y env c := s_cons
def r_Machine_init_6 : FSs := (.cons (.setA (.var 0) k_Machine 5 (.var 6)) r_Machine_init_7)
theorem q_Machine_init_6 {I : CI} {np : Nat} {E : FEnds} {Y : EX} {env : En} {c : Cs} : wpSs I r_Machine_init_6 np E Y env c = wpS I (.setA (.var 0) k_Machine 5 (.var 6)) np { E with nx := KS I r_Machine_init_7 np E Y } Y env c := s_cons
def r_Machine_init_5 : FSs := (.cons (.setA (.var 0) k_Machine 4 (.var 5)) r_Machine_init_6)
theorem q_Machine_init_5 {I : CI} {np : Nat} {E : FEnds} {Y : EX} {env : En} {c : Cs} : wpSs I r_Machine_init_5 np E Y env c = wpS I (.setA (.var 0) k_Machine 4 (.var 5)) np { E with nx := KS I r_Machine_init_6 np E Y } Y env c := s_cons
def r_Machine_init_4 : FSs := (.cons (.setA (.var 0) k_Machine 3 (.var 4)) r_Machine_init_5)
theorem q_Machine_init_4 {I : CI} {np : Nat} {E : FEnds} {Y : EX} {env : En} {c : Cs} : wpSs I r_Machine_init_4 np E Y env c = wpS I (.setA (.var 0) k_Machine 3 (.var 4)) np { E with nx := KS I r_Machine_init_5 np E Y } Y env c := s_cons
def r_Machine_init_3 : FSs := (.cons (.setA (.var 0) k_Machine 2 (.var 3)) r_Machine_init_4)
theorem q_Machine_init_3 {I : CI} {np : Nat} {E : FEnds} {Y : EX} {env : En} {c : Cs} : wpSs I r_Machine_init_3 np E Y env c = wpS I (.setA (.var 0) k_Machine 2 (.var 3)) np { E with nx := KS I r_Machine_init_4 np E Y } Y env c := s_cons
def r_Machine_init_2 : FSs := (.cons (.setA (.var 0) k_Machine 1 (.var 2)) r_Machine_init_3)
theorem q_Machine_init_2 {I : CI} {np : Nat} {E : FEnds} {Y : EX} {env : En} {c : Cs} : wpSs I r_Machine_init_2 np E Y env c = wpS I (.setA (.var 0) k_Machine 1 (.var 2)) np { E with nx := KS I r_Machine_init_3 np E Y } Y env c := s_cons
def r_Machine_init_1 : FSs := (.cons (.setA (.var 0) k_Machine 0 (.var 1)) r_Machine_init_2)
theorem q_Machine_init_1 {I : CI} {np : Nat} {E : FEnds} {Y : EX} {env : En} {c : Cs} : wpSs I r_Machine_init_1 np E Y env c = wpS I (.setA (.var 0) k_Machine 0 (.var 1)) np { E with nx := KS I r_Machine_init_2 np E Y } Y env c := s_cons
def r_Machine_init_0 : FSs := (.cons (.expr (.call i_look_at (.cons (.var 1) (.cons (.var 2) (.cons (.tup (.cons (.var 3) (.cons (.var 4) (.cons (.var 5) (.cons (.var 6) .nil))))) (.cons (.var 7) .nil)))))) r_Machine_init_1)
theorem q_Machine_init_0 {I : CI} {np : Nat} {E : FEnds} {Y : EX} {env : En} {c : Cs} : wpSs I r_Machine_init_0 np E Y env c = wpS I (.expr (.call i_look_at (.cons (.var 1) (.cons (.var 2) (.cons (.tup (.cons (.var 3) (.cons (.var 4) (.cons (.var 5) (.cons (.var 6) .nil))))) (.cons (.var 7) .nil)))))) np { E with nx := KS I r_Machine_init_1 np E Y } Y env c := s_cons
def b_Machine_init : FSs := r_Machine_init_0
def d_Machine_init : DefT := ⟨.ini k_Machine "Machine", (sub (top 23) 0), "Machine.__init__", ["self", "up", "down", "begin", "run", "rest", "least", "pieces"], ["self", "up", "down", "begin", "run", "rest", "least", "pieces"], b_Machine_init⟩
/- l_machine: 0:spec_here -/
def r_l_machine_0 : FSs := (.cons (.ret (.frz (.make k_Machine i_Machine_init (.cons (.bin .idx false (.var 0) (.lit (.int 0))) (.cons (.bin .idx false (.var 0) (.lit (.int 1))) (.cons (.bin .idx false (.var 0) (.lit (.int 2))) (.cons (.bin .idx false (.var 0) (.lit (.int 3))) (.cons (.bin .idx false (.var 0) (.lit (.int 4))) (.cons (.bin .idx false (.var 0) (.lit (.int 5))) (.cons (.bi .list false (.cons (.bin .idx false (.var 0) (.lit (.int 6))) .nil)) .nil)))))))))) .nil)
theorem q_l_machine_0 {I : CI} {np : Nat} {E : FEnds} {Y : EX} {env : En} {c : Cs} : wpSs I r_l_machine_0 np E Y env c = wpS I (.ret (.frz (.make k_Machine i_Machine_init (.cons (.bin .idx false (.var 0) (.lit (.int 0))) (.cons (.bin .idx false (.var 0) (.lit (.int 1))) (.cons (.bin .idx false (.var 0) (.lit (.int 2))) (.cons (.bin .idx false (.var 0) (.lit (.int 3))) (.cons (.bin .idx false (.var 0) (.lit (.int 4))) (.cons (.bin .idx false (.var 0) (.lit (.int 5))) (.cons (.bi .list false (.cons (.bin .idx false (.var 0) (.lit (.int 6))) .nil)) .nil)))))))))) np { E with nx := KS I .nil np E Y } Y env c := s_cons
def b_l_machine : FSs := r_l_machine_0
def d_l_machine : DefT := ⟨.fn "_law_machine", (top 30), "_law_machine", ["_law_spec_here"], ["_law_spec_here"], b_l_machine⟩
/- l_state: 0:hand 1:spec_here -/
def r_l_state_0 : FSs := (.cons (.ret (.tup (.cons (.lit (.int 1)) (.cons (.call i_l_draw (.cons (.var 0) (.cons (.bin .idx false (.var 1) (.lit (.int 0))) .nil))) .nil)))) .nil)
theorem q_l_state_0 {I : CI} {np : Nat} {E : FEnds} {Y : EX} {env : En} {c : Cs} : wpSs I r_l_state_0 np E Y env c = wpS I (.ret (.tup (.cons (.lit (.int 1)) (.cons (.call i_l_draw (.cons (.var 0) (.cons (.bin .idx false (.var 1) (.lit (.int 0))) .nil))) .nil)))) np { E with nx := KS I .nil np E Y } Y env c := s_cons
def r_l_state_1 : FSs := (.cons (.ret (.tup (.cons (.lit (.int 0)) (.cons (.call i_l_draw (.cons (.var 0) (.cons (.lit (.int 60)) .nil))) .nil)))) .nil)
theorem q_l_state_1 {I : CI} {np : Nat} {E : FEnds} {Y : EX} {env : En} {c : Cs} : wpSs I r_l_state_1 np E Y env c = wpS I (.ret (.tup (.cons (.lit (.int 0)) (.cons (.call i_l_draw (.cons (.var 0) (.cons (.lit (.int 60)) .nil))) .nil)))) np { E with nx := KS I .nil np E Y } Y env c := s_cons
def r_l_state_4 : FSs := (.cons (.ret (.tup (.cons (.lit (.int 0)) (.cons (.call i_l_draw (.cons (.var 0) (.cons (.bin .idx false (.var 1) (.lit (.int 1))) .nil))) .nil)))) .nil)
theorem q_l_state_4 {I : CI} {np : Nat} {E : FEnds} {Y : EX} {env : En} {c : Cs} : wpSs I r_l_state_4 np E Y env c = wpS I (.ret (.tup (.cons (.lit (.int 0)) (.cons (.call i_l_draw (.cons (.var 0) (.cons (.bin .idx false (.var 1) (.lit (.int 1))) .nil))) .nil)))) np { E with nx := KS I .nil np E Y } Y env c := s_cons
def r_l_state_3 : FSs := (.cons (.ifs (.val (.bin .eq false (.call i_l_draw (.cons (.var 0) (.cons (.lit (.int 8)) .nil))) (.lit (.int 7)))) r_l_state_1 .nil) r_l_state_4)
theorem q_l_state_3 {I : CI} {np : Nat} {E : FEnds} {Y : EX} {env : En} {c : Cs} : wpSs I r_l_state_3 np E Y env c = wpS I (.ifs (.val (.bin .eq false (.call i_l_draw (.cons (.var 0) (.cons (.lit (.int 8)) .nil))) (.lit (.int 7)))) r_l_state_1 .nil) np { E with nx := KS I r_l_state_4 np E Y } Y env c := s_cons
def r_l_state_2 : FSs := (.cons (.ifs (.val (.bin .eq false (.call i_l_draw (.cons (.var 0) (.cons (.lit (.int 2)) .nil))) (.lit (.int 0)))) r_l_state_0 .nil) r_l_state_3)
theorem q_l_state_2 {I : CI} {np : Nat} {E : FEnds} {Y : EX} {env : En} {c : Cs} : wpSs I r_l_state_2 np E Y env c = wpS I (.ifs (.val (.bin .eq false (.call i_l_draw (.cons (.var 0) (.cons (.lit (.int 2)) .nil))) (.lit (.int 0)))) r_l_state_0 .nil) np { E with nx := KS I r_l_state_3 np E Y } Y env c := s_cons
def b_l_state : FSs := r_l_state_2
def d_l_state : DefT := ⟨.fn "_law_state", (top 31), "_law_state", ["_law_hand", "_law_spec_here"], ["_law_hand", "_law_spec_here"], b_l_state⟩
/- l_row: 0:hand 1:spec_here 2:state_here 3:on 4:due_here 5:run 6:k 7:many -/
def r_l_row_0 : FSs := (.cons (.set (.nm 4) (.bin .idx false (.lst false (.cons (.bin .idx false (.var 1) (.lit (.int 1))) (.cons (.bin .idx false (.var 1) (.lit (.int 0))) .nil))) (.var 3))) .nil)
theorem q_l_row_0 {I : CI} {np : Nat} {E : FEnds} {Y : EX} {env : En} {c : Cs} : wpSs I r_l_row_0 np E Y env c = wpS I (.set (.nm 4) (.bin .idx false (.lst false (.cons (.bin .idx false (.var 1) (.lit (.int 1))) (.cons (.bin .idx false (.var 1) (.lit (.int 0))) .nil))) (.var 3))) np { E with nx := KS I .nil np E Y } Y env c := s_cons
def r_l_row_4 : FSs := (.cons (.set (.nm 4) (.bin .idx false (.lst false (.cons (.bin .idx false (.var 1) (.lit (.int 1))) (.cons (.bin .idx false (.var 1) (.lit (.int 0))) .nil))) (.var 3))) .nil)
theorem q_l_row_4 {I : CI} {np : Nat} {E : FEnds} {Y : EX} {env : En} {c : Cs} : wpSs I r_l_row_4 np E Y env c = wpS I (.set (.nm 4) (.bin .idx false (.lst false (.cons (.bin .idx false (.var 1) (.lit (.int 1))) (.cons (.bin .idx false (.var 1) (.lit (.int 0))) .nil))) (.var 3))) np { E with nx := KS I .nil np E Y } Y env c := s_cons
def r_l_row_3 : FSs := (.cons (.set (.nm 3) (.bin .sub false (.lit (.int 1)) (.var 3))) r_l_row_4)
theorem q_l_row_3 {I : CI} {np : Nat} {E : FEnds} {Y : EX} {env : En} {c : Cs} : wpSs I r_l_row_3 np E Y env c = wpS I (.set (.nm 3) (.bin .sub false (.lit (.int 1)) (.var 3))) np { E with nx := KS I r_l_row_4 np E Y } Y env c := s_cons
def r_l_row_2 : FSs := (.cons (.set (.nm 5) (.bin .add false (.var 5) (.bin .mul false (.lst false (.cons (.var 3) .nil)) (.var 7)))) r_l_row_3)
theorem q_l_row_2 {I : CI} {np : Nat} {E : FEnds} {Y : EX} {env : En} {c : Cs} : wpSs I r_l_row_2 np E Y env c = wpS I (.set (.nm 5) (.bin .add false (.var 5) (.bin .mul false (.lst false (.cons (.var 3) .nil)) (.var 7)))) np { E with nx := KS I r_l_row_3 np E Y } Y env c := s_cons
def r_l_row_1 : FSs := (.cons (.set (.nm 7) (.bi .max false (.cons (.lit (.int 1)) (.cons (.bin .sub false (.bin .add false (.var 4) (.call i_l_draw (.cons (.var 0) (.cons (.lit (.int 3)) .nil)))) (.bin .idx false (.lst false (.cons (.lit (.int 0)) (.cons (.lit (.int 1)) .nil))) (.bin .fdiv false (.call i_l_draw (.cons (.var 0) (.cons (.lit (.int 5)) .nil))) (.lit (.int 4))))) .nil)))) r_l_row_2)
theorem q_l_row_1 {I : CI} {np : Nat} {E : FEnds} {Y : EX} {env : En} {c : Cs} : wpSs I r_l_row_1 np E Y env c = wpS I (.set (.nm 7) (.bi .max false (.cons (.lit (.int 1)) (.cons (.bin .sub false (.bin .add false (.var 4) (.call i_l_draw (.cons (.var 0) (.cons (.lit (.int 3)) .nil)))) (.bin .idx false (.lst false (.cons (.lit (.int 0)) (.cons (.lit (.int 1)) .nil))) (.bin .fdiv false (.call i_l_draw (.cons (.var 0) (.cons (.lit (.int 5)) .nil))) (.lit (.int 4))))) .nil)))) np { E with nx := KS I r_l_row_2 np E Y } Y env c := s_cons
def r_l_row_10 : FSs := (.cons (.ret (.slc false (.var 5) .nil (.cons (.bin .sub false (.lit (.int 48)) (.call i_l_draw (.cons (.var 0) (.cons (.lit (.int 3)) .nil)))) .nil))) .nil)
theorem q_l_row_10 {I : CI} {np : Nat} {E : FEnds} {Y : EX} {env : En} {c : Cs} : wpSs I r_l_row_10 np E Y env c = wpS I (.ret (.slc false (.var 5) .nil (.cons (.bin .sub false (.lit (.int 48)) (.call i_l_draw (.cons (.var 0) (.cons (.lit (.int 3)) .nil)))) .nil))) np { E with nx := KS I .nil np E Y } Y env c := s_cons
def r_l_row_9 : FSs := (.cons (.for_ false (.nm 6) (.rng1 (.call i_l_draw (.cons (.var 0) (.cons (.bin .idx false (.lst false (.cons (.lit (.int 7)) (.cons (.lit (.int 7)) (.cons (.lit (.int 7)) (.cons (.lit (.int 49)) .nil))))) (.call i_l_draw (.cons (.var 0) (.cons (.lit (.int 4)) .nil)))) .nil)))) r_l_row_1) r_l_row_10)
theorem q_l_row_9 {I : CI} {np : Nat} {E : FEnds} {Y : EX} {env : En} {c : Cs} : wpSs I r_l_row_9 np E Y env c = wpS I (.for_ false (.nm 6) (.rng1 (.call i_l_draw (.cons (.var 0) (.cons (.bin .idx false (.lst false (.cons (.lit (.int 7)) (.cons (.lit (.int 7)) (.cons (.lit (.int 7)) (.cons (.lit (.int 49)) .nil))))) (.call i_l_draw (.cons (.var 0) (.cons (.lit (.int 4)) .nil)))) .nil)))) r_l_row_1) np { E with nx := KS I r_l_row_10 np E Y } Y env c := s_cons
def r_l_row_8 : FSs := (.cons (.set (.nm 5) (.lst false .nil)) r_l_row_9)
theorem q_l_row_8 {I : CI} {np : Nat} {E : FEnds} {Y : EX} {env : En} {c : Cs} : wpSs I r_l_row_8 np E Y env c = wpS I (.set (.nm 5) (.lst false .nil)) np { E with nx := KS I r_l_row_9 np E Y } Y env c := s_cons
def r_l_row_7 : FSs := (.cons (.ifs (.bop true (.cons (.val (.bin .ne false (.var 3) (.bin .idx false (.var 2) (.lit (.int 0))))) (.cons (.val (.bin .eq false (.call i_l_draw (.cons (.var 0) (.cons (.lit (.int 2)) .nil))) (.lit (.int 0)))) .nil))) r_l_row_0 .nil) r_l_row_8)
theorem q_l_row_7 {I : CI} {np : Nat} {E : FEnds} {Y : EX} {env : En} {c : Cs} : wpSs I r_l_row_7 np E Y env c = wpS I (.ifs (.bop true (.cons (.val (.bin .ne false (.var 3) (.bin .idx false (.var 2) (.lit (.int 0))))) (.cons (.val (.bin .eq false (.call i_l_draw (.cons (.var 0) (.cons (.lit (.int 2)) .nil))) (.lit (.int 0)))) .nil))) r_l_row_0 .nil) np { E with nx := KS I r_l_row_8 np E Y } Y env c := s_cons
def r_l_row_6 : FSs := (.cons (.set (.nm 4) (.bin .idx false (.var 2) (.lit (.int 1)))) r_l_row_7)
theorem q_l_row_6 {I : CI} {np : Nat} {E : FEnds} {Y : EX} {env : En} {c : Cs} : wpSs I r_l_row_6 np E Y env c = wpS I (.set (.nm 4) (.bin .idx false (.var 2) (.lit (.int 1)))) np { E with nx := KS I r_l_row_7 np E Y } Y env c := s_cons
def r_l_row_5 : FSs := (.cons (.set (.nm 3) (.bin .idx false (.lst false (.cons (.bin .idx false (.var 2) (.lit (.int 0))) (.cons (.bin .sub false (.lit (.int 1)) (.bin .idx false (.var 2) (.lit (.int 0)))) .nil))) (.bin .fdiv false (.call i_l_draw (.cons (.var 0) (.cons (.lit (.int 4)) .nil))) (.lit (.int 3))))) r_l_row_6)
theorem q_l_row_5 {I : CI} {np : Nat} {E : FEnds} {Y : EX} {env : En} {c : Cs} : wpSs I r_l_row_5 np E Y env c = wpS I (.set (.nm 3) (.bin .idx false (.lst false (.cons (.bin .idx false (.var 2) (.lit (.int 0))) (.cons (.bin .sub false (.lit (.int 1)) (.bin .idx false (.var 2) (.lit (.int 0)))) .nil))) (.bin .fdiv false (.call i_l_draw (.cons (.var 0) (.cons (.lit (.int 4)) .nil))) (.lit (.int 3))))) np { E with nx := KS I r_l_row_6 np E Y } Y env c := s_cons
def b_l_row : FSs := r_l_row_5
def d_l_row : DefT := ⟨.fn "_law_row", (top 35), "_law_row", ["_law_hand", "_law_spec_here", "_law_state_here", "_law_on", "_law_due_here", "_law_run", "_law_k", "_law_many"], ["_law_hand", "_law_spec_here", "_law_state_here"], b_l_row⟩
/- l_due: 0:spec_here 1:state_here 2:run 3:on 4:left 5:hour -/
def r_l_due_0 : FSs := (.cons (.ret (.lst false (.cons (.var 5) (.cons (.lit .non) .nil)))) .nil)
theorem q_l_due_0 {I : CI} {np : Nat} {E : FEnds} {Y : EX} {env : En} {c : Cs} : wpSs I r_l_due_0 np E Y env c = wpS I (.ret (.lst false (.cons (.var 5) (.cons (.lit .non) .nil)))) np { E with nx := KS I .nil np E Y } Y env c := s_cons
def r_l_due_3 : FSs := (.cons (.set (.nm 4) (.bin .idx false (.lst false (.cons (.bin .idx false (.var 0) (.lit (.int 1))) (.cons (.bin .idx false (.var 0) (.lit (.int 0))) .nil))) (.var 3))) .nil)
theorem q_l_due_3 {I : CI} {np : Nat} {E : FEnds} {Y : EX} {env : En} {c : Cs} : wpSs I r_l_due_3 np E Y env c = wpS I (.set (.nm 4) (.bin .idx false (.lst false (.cons (.bin .idx false (.var 0) (.lit (.int 1))) (.cons (.bin .idx false (.var 0) (.lit (.int 0))) .nil))) (.var 3))) np { E with nx := KS I .nil np E Y } Y env c := s_cons
def r_l_due_2 : FSs := (.cons (.set (.nm 3) (.bin .idx false (.var 2) (.var 5))) r_l_due_3)
theorem q_l_due_2 {I : CI} {np : Nat} {E : FEnds} {Y : EX} {env : En} {c : Cs} : wpSs I r_l_due_2 np E Y env c = wpS I (.set (.nm 3) (.bin .idx false (.var 2) (.var 5))) np { E with nx := KS I r_l_due_3 np E Y } Y env c := s_cons
def r_l_due_1 : FSs := (.cons (.ifs (.val (.bin .gt false (.var 4) (.lit (.int 0)))) r_l_due_0 .nil) r_l_due_2)
theorem q_l_due_1 {I : CI} {np : Nat} {E : FEnds} {Y : EX} {env : En} {c : Cs} : wpSs I r_l_due_1 np E Y env c = wpS I (.ifs (.val (.bin .gt false (.var 4) (.lit (.int 0)))) r_l_due_0 .nil) np { E with nx := KS I r_l_due_2 np E Y } Y env c := s_cons
def r_l_due_5 : FSs := (.cons (.set (.nm 4) (.bi .max false (.cons (.lit (.int 0)) (.cons (.bin .sub false (.var 4) (.lit (.int 1))) .nil)))) .nil)
theorem q_l_due_5 {I : CI} {np : Nat} {E : FEnds} {Y : EX} {env : En} {c : Cs} : wpSs I r_l_due_5 np E Y env c = wpS I (.set (.nm 4) (.bi .max false (.cons (.lit (.int 0)) (.cons (.bin .sub false (.var 4) (.lit (.int 1))) .nil)))) np { E with nx := KS I .nil np E Y } Y env c := s_cons
def r_l_due_4 : FSs := (.cons (.ifs (.val (.bin .ne false (.bin .idx false (.var 2) (.var 5)) (.var 3))) r_l_due_1 .nil) r_l_due_5)
theorem q_l_due_4 {I : CI} {np : Nat} {E : FEnds} {Y : EX} {env : En} {c : Cs} : wpSs I r_l_due_4 np E Y env c = wpS I (.ifs (.val (.bin .ne false (.bin .idx false (.var 2) (.var 5)) (.var 3))) r_l_due_1 .nil) np { E with nx := KS I r_l_due_5 np E Y } Y env c := s_cons
def r_l_due_8 : FSs := (.cons (.ret (.lst false (.cons (.lit .non) (.cons (.tup (.cons (.var 3) (.cons (.var 4) .nil))) .nil)))) .nil)
theorem q_l_due_8 {I : CI} {np : Nat} {E : FEnds} {Y : EX} {env : En} {c : Cs} : wpSs I r_l_due_8 np E Y env c = wpS I (.ret (.lst false (.cons (.lit .non) (.cons (.tup (.cons (.var 3) (.cons (.var 4) .nil))) .nil)))) np { E with nx := KS I .nil np E Y } Y env c := s_cons
def r_l_due_7 : FSs := (.cons (.for_ false (.nm 5) (.rng1 (.bi .len false (.cons (.var 2) .nil))) r_l_due_4) r_l_due_8)
theorem q_l_due_7 {I : CI} {np : Nat} {E : FEnds} {Y : EX} {env : En} {c : Cs} : wpSs I r_l_due_7 np E Y env c = wpS I (.for_ false (.nm 5) (.rng1 (.bi .len false (.cons (.var 2) .nil))) r_l_due_4) np { E with nx := KS I r_l_due_8 np E Y } Y env c := s_cons
def r_l_due_6 : FSs := (.cons (.set (.tp (.cons (.nm 3) (.cons (.nm 4) .nil))) (.var 1)) r_l_due_7)
theorem q_l_due_6 {I : CI} {np : Nat} {E : FEnds} {Y : EX} {env : En} {c : Cs} : wpSs I r_l_due_6 np E Y env c = wpS I (.set (.tp (.cons (.nm 3) (.cons (.nm 4) .nil))) (.var 1)) np { E with nx := KS I r_l_due_7 np E Y } Y env c := s_cons
def b_l_due : FSs := r_l_due_6
def d_l_due : DefT := ⟨.fn "_law_due", (top 36), "_law_due", ["_law_spec_here", "_law_state_here", "_law_run", "_law_on", "_law_left", "_law_hour"], ["_law_spec_here", "_law_state_here", "_law_run"], b_l_due⟩
/- may_be: 0:machine 1:state 2:on -/
def r_may_be_0 : FSs := (.cons (.ret (.bop false (.cons (.bin .eq false (.var 2) (.bin .idx false (.var 1) (.lit (.int 0)))) (.cons (.bin .eq false (.bin .idx false (.var 1) (.lit (.int 1))) (.lit (.int 0))) .nil)))) .nil)
theorem q_may_be_0 {I : CI} {np : Nat} {E : FEnds} {Y : EX} {env : En} {c : Cs} : wpSs I r_may_be_0 np E Y env c = wpS I (.ret (.bop false (.cons (.bin .eq false (.var 2) (.bin .idx false (.var 1) (.lit (.int 0)))) (.cons (.bin .eq false (.bin .idx false (.var 1) (.lit (.int 1))) (.lit (.int 0))) .nil)))) np { E with nx := KS I .nil np E Y } Y env c := s_cons
def b_may_be : FSs := r_may_be_0
def d_may_be : DefT := ⟨.fn "may_be", (top 11), "may_be", ["machine", "state", "on"], ["machine", "state", "on"], b_may_be⟩
/- state_after: 0:machine 1:state 2:on -/
def r_state_after_0 : FSs := (.cons .dead .nil)
theorem q_state_after_0 {I : CI} {np : Nat} {E : FEnds} {Y : EX} {env : En} {c : Cs} : wpSs I r_state_after_0 np E Y env c = wpS I .dead np { E with nx := KS I .nil np E Y } Y env c := s_cons
def r_state_after_1 : FSs := (.cons (.ret (.tup (.cons (.var 2) (.cons (.bi .max false (.cons (.lit (.int 0)) (.cons (.bin .sub false (.bin .idx false (.var 1) (.lit (.int 1))) (.lit (.int 1))) .nil))) .nil)))) .nil)
theorem q_state_after_1 {I : CI} {np : Nat} {E : FEnds} {Y : EX} {env : En} {c : Cs} : wpSs I r_state_after_1 np E Y env c = wpS I (.ret (.tup (.cons (.var 2) (.cons (.bi .max false (.cons (.lit (.int 0)) (.cons (.bin .sub false (.bin .idx false (.var 1) (.lit (.int 1))) (.lit (.int 1))) .nil))) .nil)))) np { E with nx := KS I .nil np E Y } Y env c := s_cons
def r_state_after_2 : FSs := (.cons (.ret (.tup (.cons (.lit (.int 1)) (.cons (.bin .sub false (.attr (.var 0) k_Machine 0) (.lit (.int 1))) .nil)))) .nil)
theorem q_state_after_2 {I : CI} {np : Nat} {E : FEnds} {Y : EX} {env : En} {c : Cs} : wpSs I r_state_after_2 np E Y env c = wpS I (.ret (.tup (.cons (.lit (.int 1)) (.cons (.bin .sub false (.attr (.var 0) k_Machine 0) (.lit (.int 1))) .nil)))) np { E with nx := KS I .nil np E Y } Y env c := s_cons
def r_state_after_6 : FSs := (.cons (.ret (.tup (.cons (.lit (.int 0)) (.cons (.bin .sub false (.attr (.var 0) k_Machine 1) (.lit (.int 1))) .nil)))) .nil)
theorem q_state_after_6 {I : CI} {np : Nat} {E : FEnds} {Y : EX} {env : En} {c : Cs} : wpSs I r_state_after_6 np E Y env c = wpS I (.ret (.tup (.cons (.lit (.int 0)) (.cons (.bin .sub false (.attr (.var 0) k_Machine 1) (.lit (.int 1))) .nil)))) np { E with nx := KS I .nil np E Y } Y env c := s_cons
def r_state_after_5 : FSs := (.cons (.ifs (.val (.bin .eq false (.var 2) (.lit (.int 1)))) r_state_after_2 .nil) r_state_after_6)
theorem q_state_after_5 {I : CI} {np : Nat} {E : FEnds} {Y : EX} {env : En} {c : Cs} : wpSs I r_state_after_5 np E Y env c = wpS I (.ifs (.val (.bin .eq false (.var 2) (.lit (.int 1)))) r_state_after_2 .nil) np { E with nx := KS I r_state_after_6 np E Y } Y env c := s_cons
def r_state_after_4 : FSs := (.cons (.ifs (.val (.bin .eq false (.var 2) (.bin .idx false (.var 1) (.lit (.int 0))))) r_state_after_1 .nil) r_state_after_5)
theorem q_state_after_4 {I : CI} {np : Nat} {E : FEnds} {Y : EX} {env : En} {c : Cs} : wpSs I r_state_after_4 np E Y env c = wpS I (.ifs (.val (.bin .eq false (.var 2) (.bin .idx false (.var 1) (.lit (.int 0))))) r_state_after_1 .nil) np { E with nx := KS I r_state_after_5 np E Y } Y env c := s_cons
def r_state_after_3 : FSs := (.cons (.ifs (.not (.val (.call i_may_be (.cons (.var 0) (.cons (.var 1) (.cons (.var 2) .nil)))))) r_state_after_0 .nil) r_state_after_4)
theorem q_state_after_3 {I : CI} {np : Nat} {E : FEnds} {Y : EX} {env : En} {c : Cs} : wpSs I r_state_after_3 np E Y env c = wpS I (.ifs (.not (.val (.call i_may_be (.cons (.var 0) (.cons (.var 1) (.cons (.var 2) .nil)))))) r_state_after_0 .nil) np { E with nx := KS I r_state_after_4 np E Y } Y env c := s_cons
def b_state_after : FSs := r_state_after_3
def d_state_after : DefT := ⟨.fn "state_after", (top 12), "state_after", ["machine", "state", "on"], ["machine", "state", "on"], b_state_after⟩
/- run_fault: 0:machine 1:state 2:run 3:hour 4:on -/
def r_run_fault_0 : FSs := (.cons (.ret (.var 3)) .nil)
theorem q_run_fault_0 {I : CI} {np : Nat} {E : FEnds} {Y : EX} {env : En} {c : Cs} : wpSs I r_run_fault_0 np E Y env c = wpS I (.ret (.var 3)) np { E with nx := KS I .nil np E Y } Y env c := s_cons
def r_run_fault_2 : FSs := (.cons (.set (.nm 1) (.call i_state_after (.cons (.var 0) (.cons (.var 1) (.cons (.var 4) .nil))))) .nil)
theorem q_run_fault_2 {I : CI} {np : Nat} {E : FEnds} {Y : EX} {env : En} {c : Cs} : wpSs I r_run_fault_2 np E Y env c = wpS I (.set (.nm 1) (.call i_state_after (.cons (.var 0) (.cons (.var 1) (.cons (.var 4) .nil))))) np { E with nx := KS I .nil np E Y } Y env c := s_cons
def r_run_fault_1 : FSs := (.cons (.ifs (.not (.val (.call i_may_be (.cons (.var 0) (.cons (.var 1) (.cons (.var 4) .nil)))))) r_run_fault_0 .nil) r_run_fault_2)
theorem q_run_fault_1 {I : CI} {np : Nat} {E : FEnds} {Y : EX} {env : En} {c : Cs} : wpSs I r_run_fault_1 np E Y env c = wpS I (.ifs (.not (.val (.call i_may_be (.cons (.var 0) (.cons (.var 1) (.cons (.var 4) .nil)))))) r_run_fault_0 .nil) np { E with nx := KS I r_run_fault_2 np E Y } Y env c := s_cons
def r_run_fault_4 : FSs := (.cons (.ret (.lit .non)) .nil)
theorem q_run_fault_4 {I : CI} {np : Nat} {E : FEnds} {Y : EX} {env : En} {c : Cs} : wpSs I r_run_fault_4 np E Y env c = wpS I (.ret (.lit .non)) np { E with nx := KS I .nil np E Y } Y env c := s_cons
def r_run_fault_3 : FSs := (.cons (.for_ false (.tp (.cons (.nm 3) (.cons (.nm 4) .nil))) (.enum (.var 2)) r_run_fault_1) r_run_fault_4)
theorem q_run_fault_3 {I : CI} {np : Nat} {E : FEnds} {Y : EX} {env : En} {c : Cs} : wpSs I r_run_fault_3 np E Y env c = wpS I (.for_ false (.tp (.cons (.nm 3) (.cons (.nm 4) .nil))) (.enum (.var 2)) r_run_fault_1) np { E with nx := KS I r_run_fault_4 np E Y } Y env c := s_cons
def b_run_fault : FSs := r_run_fault_3
def d_run_fault : DefT := ⟨.fn "run_fault", (top 14), "run_fault", ["machine", "state", "run", "hour", "on"], ["machine", "state", "run"], b_run_fault⟩
/- l_same_0: 0:one 1:due_here 2:k -/
def r_l_same_0_0 : FSs := (.cons (.ret (.lit (.bl false))) .nil)
theorem q_l_same_0_0 {I : CI} {np : Nat} {E : FEnds} {Y : EX} {env : En} {c : Cs} : wpSs I r_l_same_0_0 np E Y env c = wpS I (.ret (.lit (.bl false))) np { E with nx := KS I .nil np E Y } Y env c := s_cons
def r_l_same_0_2 : FSs := (.cons .dead .nil)
theorem q_l_same_0_2 {I : CI} {np : Nat} {E : FEnds} {Y : EX} {env : En} {c : Cs} : wpSs I r_l_same_0_2 np E Y env c = wpS I .dead np { E with nx := KS I .nil np E Y } Y env c := s_cons
def r_l_same_0_1 : FSs := (.cons (.ifs (.bop false (.cons (.val (.bin .ne false (.isi (.var 0) [.bt "list"] false) (.isi (.var 1) [.bt "list"] false))) (.cons (.val (.bin .ne false (.isi (.var 0) [.bt "tuple"] false) (.isi (.var 1) [.bt "tuple"] false))) .nil))) r_l_same_0_0 .nil) r_l_same_0_2)
theorem q_l_same_0_1 {I : CI} {np : Nat} {E : FEnds} {Y : EX} {env : En} {c : Cs} : wpSs I r_l_same_0_1 np E Y env c = wpS I (.ifs (.bop false (.cons (.val (.bin .ne false (.isi (.var 0) [.bt "list"] false) (.isi (.var 1) [.bt "list"] false))) (.cons (.val (.bin .ne false (.isi (.var 0) [.bt "tuple"] false) (.isi (.var 1) [.bt "tuple"] false))) .nil))) r_l_same_0_0 .nil) np { E with nx := KS I r_l_same_0_2 np E Y } Y env c := s_cons
def r_l_same_0_3 : FSs := (.cons (.ret (.bop true (.cons (.isi (.var 0) [.bt "bool"] false) (.cons (.isi (.var 1) [.bt "bool"] false) (.cons (.bin .eq false (.var 0) (.var 1)) .nil))))) .nil)
theorem q_l_same_0_3 {I : CI} {np : Nat} {E : FEnds} {Y : EX} {env : En} {c : Cs} : wpSs I r_l_same_0_3 np E Y env c = wpS I (.ret (.bop true (.cons (.isi (.var 0) [.bt "bool"] false) (.cons (.isi (.var 1) [.bt "bool"] false) (.cons (.bin .eq false (.var 0) (.var 1)) .nil))))) np { E with nx := KS I .nil np E Y } Y env c := s_cons
def r_l_same_0_4 : FSs := (.cons (.ret (.bop true (.cons (.isi (.var 0) [.bt "int"] false) (.cons (.bin .eq false (.var 0) (.var 1)) .nil)))) .nil)
theorem q_l_same_0_4 {I : CI} {np : Nat} {E : FEnds} {Y : EX} {env : En} {c : Cs} : wpSs I r_l_same_0_4 np E Y env c = wpS I (.ret (.bop true (.cons (.isi (.var 0) [.bt "int"] false) (.cons (.bin .eq false (.var 0) (.var 1)) .nil)))) np { E with nx := KS I .nil np E Y } Y env c := s_cons
def r_l_same_0_5 : FSs := (.cons (.ret (.bop true (.cons (.isi (.var 0) [.bt "str"] false) (.cons (.bin .eq false (.var 0) (.var 1)) .nil)))) .nil)
theorem q_l_same_0_5 {I : CI} {np : Nat} {E : FEnds} {Y : EX} {env : En} {c : Cs} : wpSs I r_l_same_0_5 np E Y env c = wpS I (.ret (.bop true (.cons (.isi (.var 0) [.bt "str"] false) (.cons (.bin .eq false (.var 0) (.var 1)) .nil)))) np { E with nx := KS I .nil np E Y } Y env c := s_cons
def r_l_same_0_10 : FSs := (.cons (.ret (.bop true (.cons (.bin .is false (.var 0) (.lit .non)) (.cons (.bin .is false (.var 1) (.lit .non)) .nil)))) .nil)
theorem q_l_same_0_10 {I : CI} {np : Nat} {E : FEnds} {Y : EX} {env : En} {c : Cs} : wpSs I r_l_same_0_10 np E Y env c = wpS I (.ret (.bop true (.cons (.bin .is false (.var 0) (.lit .non)) (.cons (.bin .is false (.var 1) (.lit .non)) .nil)))) np { E with nx := KS I .nil np E Y } Y env c := s_cons
def r_l_same_0_9 : FSs := (.cons (.ifs (.val (.isi (.var 1) [.bt "str"] false)) r_l_same_0_5 .nil) r_l_same_0_10)
theorem q_l_same_0_9 {I : CI} {np : Nat} {E : FEnds} {Y : EX} {env : En} {c : Cs} : wpSs I r_l_same_0_9 np E Y env c = wpS I (.ifs (.val (.isi (.var 1) [.bt "str"] false)) r_l_same_0_5 .nil) np { E with nx := KS I r_l_same_0_10 np E Y } Y env c := s_cons
def r_l_same_0_8 : FSs := (.cons (.ifs (.val (.isi (.var 1) [.bt "int"] false)) r_l_same_0_4 .nil) r_l_same_0_9)
theorem q_l_same_0_8 {I : CI} {np : Nat} {E : FEnds} {Y : EX} {env : En} {c : Cs} : wpSs I r_l_same_0_8 np E Y env c = wpS I (.ifs (.val (.isi (.var 1) [.bt "int"] false)) r_l_same_0_4 .nil) np { E with nx := KS I r_l_same_0_9 np E Y } Y env c := s_cons
def r_l_same_0_7 : FSs := (.cons (.ifs (.bop false (.cons (.val (.isi (.var 0) [.bt "bool"] false)) (.cons (.val (.isi (.var 1) [.bt "bool"] false)) .nil))) r_l_same_0_3 .nil) r_l_same_0_8)
theorem q_l_same_0_7 {I : CI} {np : Nat} {E : FEnds} {Y : EX} {env : En} {c : Cs} : wpSs I r_l_same_0_7 np E Y env c = wpS I (.ifs (.bop false (.cons (.val (.isi (.var 0) [.bt "bool"] false)) (.cons (.val (.isi (.var 1) [.bt "bool"] false)) .nil))) r_l_same_0_3 .nil) np { E with nx := KS I r_l_same_0_8 np E Y } Y env c := s_cons
def r_l_same_0_6 : FSs := (.cons (.ifs (.val (.isi (.var 1) [.bt "list", .bt "tuple"] true)) r_l_same_0_1 .nil) r_l_same_0_7)
theorem q_l_same_0_6 {I : CI} {np : Nat} {E : FEnds} {Y : EX} {env : En} {c : Cs} : wpSs I r_l_same_0_6 np E Y env c = wpS I (.ifs (.val (.isi (.var 1) [.bt "list", .bt "tuple"] true)) r_l_same_0_1 .nil) np { E with nx := KS I r_l_same_0_7 np E Y } Y env c := s_cons
def b_l_same_0 : FSs := r_l_same_0_6
def d_l_same_0 : DefT := ⟨.fn "_law_same", (top 34), "_law_same", ["_law_one", "_law_due_here", "_law_k"], ["_law_one", "_law_due_here"], b_l_same_0⟩
/- l_same: 0:one 1:due_here 2:k -/
def r_l_same_0 : FSs := (.cons (.ret (.lit (.bl false))) .nil)
theorem q_l_same_0 {I : CI} {np : Nat} {E : FEnds} {Y : EX} {env : En} {c : Cs} : wpSs I r_l_same_0 np E Y env c = wpS I (.ret (.lit (.bl false))) np { E with nx := KS I .nil np E Y } Y env c := s_cons
def r_l_same_2 : FSs := (.cons (.ret (.bop true (.cons (.bin .eq false (.bi .len false (.cons (.var 0) .nil)) (.bi .len false (.cons (.var 1) .nil))) (.cons (.bi .all false (.cons (.comp false false (.nm 2) (.rng1 (.bi .len false (.cons (.var 1) .nil))) .nil (.call i_l_same_0 (.cons (.bin .idx false (.var 0) (.var 2)) (.cons (.bin .idx false (.var 1) (.var 2)) .nil))) [("_law_k", 2)]) .nil)) .nil)))) .nil)
theorem q_l_same_2 {I : CI} {np : Nat} {E : FEnds} {Y : EX} {env : En} {c : Cs} : wpSs I r_l_same_2 np E Y env c = wpS I (.ret (.bop true (.cons (.bin .eq false (.bi .len false (.cons (.var 0) .nil)) (.bi .len false (.cons (.var 1) .nil))) (.cons (.bi .all false (.cons (.comp false false (.nm 2) (.rng1 (.bi .len false (.cons (.var 1) .nil))) .nil (.call i_l_same_0 (.cons (.bin .idx false (.var 0) (.var 2)) (.cons (.bin .idx false (.var 1) (.var 2)) .nil))) [("_law_k", 2)]) .nil)) .nil)))) np { E with nx := KS I .nil np E Y } Y env c := s_cons
def r_l_same_1 : FSs := (.cons (.ifs (.bop false (.cons (.val (.bin .ne false (.isi (.var 0) [.bt "list"] false) (.isi (.var 1) [.bt "list"] false))) (.cons (.val (.bin .ne false (.isi (.var 0) [.bt "tuple"] false) (.isi (.var 1) [.bt "tuple"] false))) .nil))) r_l_same_0 .nil) r_l_same_2)
theorem q_l_same_1 {I : CI} {np : Nat} {E : FEnds} {Y : EX} {env : En} {c : Cs} : wpSs I r_l_same_1 np E Y env c = wpS I (.ifs (.bop false (.cons (.val (.bin .ne false (.isi (.var 0) [.bt "list"] false) (.isi (.var 1) [.bt "list"] false))) (.cons (.val (.bin .ne false (.isi (.var 0) [.bt "tuple"] false) (.isi (.var 1) [.bt "tuple"] false))) .nil))) r_l_same_0 .nil) np { E with nx := KS I r_l_same_2 np E Y } Y env c := s_cons
def r_l_same_3 : FSs := (.cons (.ret (.bop true (.cons (.isi (.var 0) [.bt "bool"] false) (.cons (.isi (.var 1) [.bt "bool"] false) (.cons (.bin .eq false (.var 0) (.var 1)) .nil))))) .nil)
theorem q_l_same_3 {I : CI} {np : Nat} {E : FEnds} {Y : EX} {env : En} {c : Cs} : wpSs I r_l_same_3 np E Y env c = wpS I (.ret (.bop true (.cons (.isi (.var 0) [.bt "bool"] false) (.cons (.isi (.var 1) [.bt "bool"] false) (.cons (.bin .eq false (.var 0) (.var 1)) .nil))))) np { E with nx := KS I .nil np E Y } Y env c := s_cons
def r_l_same_4 : FSs := (.cons (.ret (.bop true (.cons (.isi (.var 0) [.bt "int"] false) (.cons (.bin .eq false (.var 0) (.var 1)) .nil)))) .nil)
theorem q_l_same_4 {I : CI} {np : Nat} {E : FEnds} {Y : EX} {env : En} {c : Cs} : wpSs I r_l_same_4 np E Y env c = wpS I (.ret (.bop true (.cons (.isi (.var 0) [.bt "int"] false) (.cons (.bin .eq false (.var 0) (.var 1)) .nil)))) np { E with nx := KS I .nil np E Y } Y env c := s_cons
def r_l_same_5 : FSs := (.cons (.ret (.bop true (.cons (.isi (.var 0) [.bt "str"] false) (.cons (.bin .eq false (.var 0) (.var 1)) .nil)))) .nil)
theorem q_l_same_5 {I : CI} {np : Nat} {E : FEnds} {Y : EX} {env : En} {c : Cs} : wpSs I r_l_same_5 np E Y env c = wpS I (.ret (.bop true (.cons (.isi (.var 0) [.bt "str"] false) (.cons (.bin .eq false (.var 0) (.var 1)) .nil)))) np { E with nx := KS I .nil np E Y } Y env c := s_cons
def r_l_same_10 : FSs := (.cons (.ret (.bop true (.cons (.bin .is false (.var 0) (.lit .non)) (.cons (.bin .is false (.var 1) (.lit .non)) .nil)))) .nil)
theorem q_l_same_10 {I : CI} {np : Nat} {E : FEnds} {Y : EX} {env : En} {c : Cs} : wpSs I r_l_same_10 np E Y env c = wpS I (.ret (.bop true (.cons (.bin .is false (.var 0) (.lit .non)) (.cons (.bin .is false (.var 1) (.lit .non)) .nil)))) np { E with nx := KS I .nil np E Y } Y env c := s_cons
def r_l_same_9 : FSs := (.cons (.ifs (.val (.isi (.var 1) [.bt "str"] false)) r_l_same_5 .nil) r_l_same_10)
theorem q_l_same_9 {I : CI} {np : Nat} {E : FEnds} {Y : EX} {env : En} {c : Cs} : wpSs I r_l_same_9 np E Y env c = wpS I (.ifs (.val (.isi (.var 1) [.bt "str"] false)) r_l_same_5 .nil) np { E with nx := KS I r_l_same_10 np E Y } Y env c := s_cons
def r_l_same_8 : FSs := (.cons (.ifs (.val (.isi (.var 1) [.bt "int"] false)) r_l_same_4 .nil) r_l_same_9)
theorem q_l_same_8 {I : CI} {np : Nat} {E : FEnds} {Y : EX} {env : En} {c : Cs} : wpSs I r_l_same_8 np E Y env c = wpS I (.ifs (.val (.isi (.var 1) [.bt "int"] false)) r_l_same_4 .nil) np { E with nx := KS I r_l_same_9 np E Y } Y env c := s_cons
def r_l_same_7 : FSs := (.cons (.ifs (.bop false (.cons (.val (.isi (.var 0) [.bt "bool"] false)) (.cons (.val (.isi (.var 1) [.bt "bool"] false)) .nil))) r_l_same_3 .nil) r_l_same_8)
theorem q_l_same_7 {I : CI} {np : Nat} {E : FEnds} {Y : EX} {env : En} {c : Cs} : wpSs I r_l_same_7 np E Y env c = wpS I (.ifs (.bop false (.cons (.val (.isi (.var 0) [.bt "bool"] false)) (.cons (.val (.isi (.var 1) [.bt "bool"] false)) .nil))) r_l_same_3 .nil) np { E with nx := KS I r_l_same_8 np E Y } Y env c := s_cons
def r_l_same_6 : FSs := (.cons (.ifs (.val (.isi (.var 1) [.bt "list", .bt "tuple"] true)) r_l_same_1 .nil) r_l_same_7)
theorem q_l_same_6 {I : CI} {np : Nat} {E : FEnds} {Y : EX} {env : En} {c : Cs} : wpSs I r_l_same_6 np E Y env c = wpS I (.ifs (.val (.isi (.var 1) [.bt "list", .bt "tuple"] true)) r_l_same_1 .nil) np { E with nx := KS I r_l_same_7 np E Y } Y env c := s_cons
def b_l_same : FSs := r_l_same_6
def d_l_same : DefT := ⟨.fn "_law_same", (top 34), "_law_same", ["_law_one", "_law_due_here", "_law_k"], ["_law_one", "_law_due_here"], b_l_same⟩
/- l_by_stints: 0:spec_here 1:state_here 2:stints 3:wanted 4:k 5:on 6:first 7:many -/
def r_l_by_stints_0 : FSs := (.cons (.ret (.lit (.int 0))) .nil)
theorem q_l_by_stints_0 {I : CI} {np : Nat} {E : FEnds} {Y : EX} {env : En} {c : Cs} : wpSs I r_l_by_stints_0 np E Y env c = wpS I (.ret (.lit (.int 0))) np { E with nx := KS I .nil np E Y } Y env c := s_cons
def r_l_by_stints_2 : FSs := (.cons (.set (.nm 3) (.bin .idx false (.lst false (.cons (.bin .idx false (.var 0) (.lit (.int 1))) (.cons (.bin .idx false (.var 0) (.lit (.int 0))) .nil))) (.var 5))) .nil)
theorem q_l_by_stints_2 {I : CI} {np : Nat} {E : FEnds} {Y : EX} {env : En} {c : Cs} : wpSs I r_l_by_stints_2 np E Y env c = wpS I (.set (.nm 3) (.bin .idx false (.lst false (.cons (.bin .idx false (.var 0) (.lit (.int 1))) (.cons (.bin .idx false (.var 0) (.lit (.int 0))) .nil))) (.var 5))) np { E with nx := KS I .nil np E Y } Y env c := s_cons
def r_l_by_stints_1 : FSs := (.cons (.ifs (.val (.bin .gt false (.var 3) (.lit (.int 0)))) r_l_by_stints_0 .nil) r_l_by_stints_2)
theorem q_l_by_stints_1 {I : CI} {np : Nat} {E : FEnds} {Y : EX} {env : En} {c : Cs} : wpSs I r_l_by_stints_1 np E Y env c = wpS I (.ifs (.val (.bin .gt false (.var 3) (.lit (.int 0)))) r_l_by_stints_0 .nil) np { E with nx := KS I r_l_by_stints_2 np E Y } Y env c := s_cons
def r_l_by_stints_3 : FSs := (.cons (.set (.nm 3) (.bin .idx false (.lst false (.cons (.bin .idx false (.var 0) (.lit (.int 1))) (.cons (.bin .idx false (.var 0) (.lit (.int 0))) .nil))) (.var 5))) .nil)
theorem q_l_by_stints_3 {I : CI} {np : Nat} {E : FEnds} {Y : EX} {env : En} {c : Cs} : wpSs I r_l_by_stints_3 np E Y env c = wpS I (.set (.nm 3) (.bin .idx false (.lst false (.cons (.bin .idx false (.var 0) (.lit (.int 1))) (.cons (.bin .idx false (.var 0) (.lit (.int 0))) .nil))) (.var 5))) np { E with nx := KS I .nil np E Y } Y env c := s_cons
def r_l_by_stints_4 : FSs := (.cons (.ret (.bin .add false (.var 6) (.var 7))) .nil)
theorem q_l_by_stints_4 {I : CI} {np : Nat} {E : FEnds} {Y : EX} {env : En} {c : Cs} : wpSs I r_l_by_stints_4 np E Y env c = wpS I (.ret (.bin .add false (.var 6) (.var 7))) np { E with nx := KS I .nil np E Y } Y env c := s_cons
def r_l_by_stints_8 : FSs := (.cons (.ifs (.bop true (.cons (.val (.bin .lt false (.var 7) (.var 3))) (.cons (.val (.bin .lt false (.bin .add false (.var 4) (.lit (.int 1))) (.bi .len false (.cons (.var 2) .nil)))) .nil))) r_l_by_stints_4 .nil) .nil)
theorem q_l_by_stints_8 {I : CI} {np : Nat} {E : FEnds} {Y : EX} {env : En} {c : Cs} : wpSs I r_l_by_stints_8 np E Y env c = wpS I (.ifs (.bop true (.cons (.val (.bin .lt false (.var 7) (.var 3))) (.cons (.val (.bin .lt false (.bin .add false (.var 4) (.lit (.int 1))) (.bi .len false (.cons (.var 2) .nil)))) .nil))) r_l_by_stints_4 .nil) np { E with nx := KS I .nil np E Y } Y env c := s_cons
def r_l_by_stints_7 : FSs := (.cons (.ifs (.val (.bin .gt false (.var 4) (.lit (.int 0)))) r_l_by_stints_3 .nil) r_l_by_stints_8)
theorem q_l_by_stints_7 {I : CI} {np : Nat} {E : FEnds} {Y : EX} {env : En} {c : Cs} : wpSs I r_l_by_stints_7 np E Y env c = wpS I (.ifs (.val (.bin .gt false (.var 4) (.lit (.int 0)))) r_l_by_stints_3 .nil) np { E with nx := KS I r_l_by_stints_8 np E Y } Y env c := s_cons
def r_l_by_stints_6 : FSs := (.cons (.ifs (.bop true (.cons (.val (.bin .eq false (.var 4) (.lit (.int 0)))) (.cons (.val (.bin .ne false (.var 5) (.bin .idx false (.var 1) (.lit (.int 0))))) .nil))) r_l_by_stints_1 .nil) r_l_by_stints_7)
theorem q_l_by_stints_6 {I : CI} {np : Nat} {E : FEnds} {Y : EX} {env : En} {c : Cs} : wpSs I r_l_by_stints_6 np E Y env c = wpS I (.ifs (.bop true (.cons (.val (.bin .eq false (.var 4) (.lit (.int 0)))) (.cons (.val (.bin .ne false (.var 5) (.bin .idx false (.var 1) (.lit (.int 0))))) .nil))) r_l_by_stints_1 .nil) np { E with nx := KS I r_l_by_stints_7 np E Y } Y env c := s_cons
def r_l_by_stints_5 : FSs := (.cons (.set (.tp (.cons (.nm 5) (.cons (.nm 6) (.cons (.nm 7) .nil)))) (.bin .idx false (.var 2) (.var 4))) r_l_by_stints_6)
theorem q_l_by_stints_5 {I : CI} {np : Nat} {E : FEnds} {Y : EX} {env : En} {c : Cs} : wpSs I r_l_by_stints_5 np E Y env c = wpS I (.set (.tp (.cons (.nm 5) (.cons (.nm 6) (.cons (.nm 7) .nil)))) (.bin .idx false (.var 2) (.var 4))) np { E with nx := KS I r_l_by_stints_6 np E Y } Y env c := s_cons
def r_l_by_stints_11 : FSs := (.cons (.ret (.lit .non)) .nil)
theorem q_l_by_stints_11 {I : CI} {np : Nat} {E : FEnds} {Y : EX} {env : En} {c : Cs} : wpSs I r_l_by_stints_11 np E Y env c = wpS I (.ret (.lit .non)) np { E with nx := KS I .nil np E Y } Y env c := s_cons
def r_l_by_stints_10 : FSs := (.cons (.for_ false (.nm 4) (.rng1 (.bi .len false (.cons (.var 2) .nil))) r_l_by_stints_5) r_l_by_stints_11)
theorem q_l_by_stints_10 {I : CI} {np : Nat} {E : FEnds} {Y : EX} {env : En} {c : Cs} : wpSs I r_l_by_stints_10 np E Y env c = wpS I (.for_ false (.nm 4) (.rng1 (.bi .len false (.cons (.var 2) .nil))) r_l_by_stints_5) np { E with nx := KS I r_l_by_stints_11 np E Y } Y env c := s_cons
def r_l_by_stints_9 : FSs := (.cons (.set (.nm 3) (.bin .idx false (.var 1) (.lit (.int 1)))) r_l_by_stints_10)
theorem q_l_by_stints_9 {I : CI} {np : Nat} {E : FEnds} {Y : EX} {env : En} {c : Cs} : wpSs I r_l_by_stints_9 np E Y env c = wpS I (.set (.nm 3) (.bin .idx false (.var 1) (.lit (.int 1)))) np { E with nx := KS I r_l_by_stints_10 np E Y } Y env c := s_cons
def b_l_by_stints : FSs := r_l_by_stints_9
def d_l_by_stints : DefT := ⟨.fn "_law_by_stints", (top 37), "_law_by_stints", ["_law_spec_here", "_law_state_here", "_law_stints", "_law_wanted", "_law_k", "_law_on", "_law_first", "_law_many"], ["_law_spec_here", "_law_state_here", "_law_stints"], b_l_by_stints⟩
/- stints_of: 0:run 1:stints 2:hour 3:on 4:ahead -/
def r_stints_of_1 : FSs := (.cons (.expr (.mt .append (.var 1) (.cons (.tup (.cons (.var 3) (.cons (.bin .idx false (.var 4) (.lit (.int 1))) (.cons (.bin .add false (.bin .idx false (.var 4) (.lit (.int 2))) (.lit (.int 1))) .nil)))) .nil))) .nil)
theorem q_stints_of_1 {I : CI} {np : Nat} {E : FEnds} {Y : EX} {env : En} {c : Cs} : wpSs I r_stints_of_1 np E Y env c = wpS I (.expr (.mt .append (.var 1) (.cons (.tup (.cons (.var 3) (.cons (.bin .idx false (.var 4) (.lit (.int 1))) (.cons (.bin .add false (.bin .idx false (.var 4) (.lit (.int 2))) (.lit (.int 1))) .nil)))) .nil))) np { E with nx := KS I .nil np E Y } Y env c := s_cons
def r_stints_of_0 : FSs := (.cons (.set (.nm 4) (.mt .pop (.var 1) .nil)) r_stints_of_1)
theorem q_stints_of_0 {I : CI} {np : Nat} {E : FEnds} {Y : EX} {env : En} {c : Cs} : wpSs I r_stints_of_0 np E Y env c = wpS I (.set (.nm 4) (.mt .pop (.var 1) .nil)) np { E with nx := KS I r_stints_of_1 np E Y } Y env c := s_cons
def r_stints_of_2 : FSs := (.cons (.expr (.mt .append (.var 1) (.cons (.tup (.cons (.var 3) (.cons (.var 2) (.cons (.lit (.int 1)) .nil)))) .nil))) .nil)
theorem q_stints_of_2 {I : CI} {np : Nat} {E : FEnds} {Y : EX} {env : En} {c : Cs} : wpSs I r_stints_of_2 np E Y env c = wpS I (.expr (.mt .append (.var 1) (.cons (.tup (.cons (.var 3) (.cons (.var 2) (.cons (.lit (.int 1)) .nil)))) .nil))) np { E with nx := KS I .nil np E Y } Y env c := s_cons
def r_stints_of_3 : FSs := (.cons (.ifs (.bop true (.cons (.val (.bin .gt false (.var 2) (.lit (.int 0)))) (.cons (.val (.bin .eq false (.var 3) (.bin .idx false (.var 0) (.bin .sub false (.var 2) (.lit (.int 1)))))) .nil))) r_stints_of_0 r_stints_of_2) .nil)
theorem q_stints_of_3 {I : CI} {np : Nat} {E : FEnds} {Y : EX} {env : En} {c : Cs} : wpSs I r_stints_of_3 np E Y env c = wpS I (.ifs (.bop true (.cons (.val (.bin .gt false (.var 2) (.lit (.int 0)))) (.cons (.val (.bin .eq false (.var 3) (.bin .idx false (.var 0) (.bin .sub false (.var 2) (.lit (.int 1)))))) .nil))) r_stints_of_0 r_stints_of_2) np { E with nx := KS I .nil np E Y } Y env c := s_cons
def r_stints_of_6 : FSs := (.cons (.ret (.var 1)) .nil)
theorem q_stints_of_6 {I : CI} {np : Nat} {E : FEnds} {Y : EX} {env : En} {c : Cs} : wpSs I r_stints_of_6 np E Y env c = wpS I (.ret (.var 1)) np { E with nx := KS I .nil np E Y } Y env c := s_cons
def r_stints_of_5 : FSs := (.cons (.for_ false (.tp (.cons (.nm 2) (.cons (.nm 3) .nil))) (.enum (.var 0)) r_stints_of_3) r_stints_of_6)
theorem q_stints_of_5 {I : CI} {np : Nat} {E : FEnds} {Y : EX} {env : En} {c : Cs} : wpSs I r_stints_of_5 np E Y env c = wpS I (.for_ false (.tp (.cons (.nm 2) (.cons (.nm 3) .nil))) (.enum (.var 0)) r_stints_of_3) np { E with nx := KS I r_stints_of_6 np E Y } Y env c := s_cons
def r_stints_of_4 : FSs := (.cons (.set (.nm 1) (.lst true .nil)) r_stints_of_5)
theorem q_stints_of_4 {I : CI} {np : Nat} {E : FEnds} {Y : EX} {env : En} {c : Cs} : wpSs I r_stints_of_4 np E Y env c = wpS I (.set (.nm 1) (.lst true .nil)) np { E with nx := KS I r_stints_of_5 np E Y } Y env c := s_cons
def b_stints_of : FSs := r_stints_of_4
def d_stints_of : DefT := ⟨.fn "stints_of", (top 25), "stints_of", ["run", "stints", "hour", "on", "ahead"], ["run"], b_stints_of⟩
/- look_through: 0:machine 1:state 2:run 3:fault -/
def r_look_through_0 : FSs := (.cons .dead .nil)
theorem q_look_through_0 {I : CI} {np : Nat} {E : FEnds} {Y : EX} {env : En} {c : Cs} : wpSs I r_look_through_0 np E Y env c = wpS I .dead np { E with nx := KS I .nil np E Y } Y env c := s_cons
def r_look_through_2 : FSs := (.cons (.ifs (.val (.bin .isn false (.var 3) (.lit .non))) r_look_through_0 .nil) .nil)
theorem q_look_through_2 {I : CI} {np : Nat} {E : FEnds} {Y : EX} {env : En} {c : Cs} : wpSs I r_look_through_2 np E Y env c = wpS I (.ifs (.val (.bin .isn false (.var 3) (.lit .non))) r_look_through_0 .nil) np { E with nx := KS I .nil np E Y } Y env c := s_cons
def r_look_through_1 : FSs := (.cons (.set (.nm 3) (.call i_run_fault (.cons (.var 0) (.cons (.var 1) (.cons (.var 2) .nil))))) r_look_through_2)
theorem q_look_through_1 {I : CI} {np : Nat} {E : FEnds} {Y : EX} {env : En} {c : Cs} : wpSs I r_look_through_1 np E Y env c = wpS I (.set (.nm 3) (.call i_run_fault (.cons (.var 0) (.cons (.var 1) (.cons (.var 2) .nil))))) np { E with nx := KS I r_look_through_2 np E Y } Y env c := s_cons
def b_look_through : FSs := r_look_through_1
def d_look_through : DefT := ⟨.fn "look_through", (top 15), "look_through", ["machine", "state", "run", "fault"], ["machine", "state", "run"], b_look_through⟩
/- run_state: 0:machine 1:state 2:run 3:on -/
def r_run_state_0 : FSs := (.cons (.set (.nm 1) (.call i_state_after (.cons (.var 0) (.cons (.var 1) (.cons (.var 3) .nil))))) .nil)
theorem q_run_state_0 {I : CI} {np : Nat} {E : FEnds} {Y : EX} {env : En} {c : Cs} : wpSs I r_run_state_0 np E Y env c = wpS I (.set (.nm 1) (.call i_state_after (.cons (.var 0) (.cons (.var 1) (.cons (.var 3) .nil))))) np { E with nx := KS I .nil np E Y } Y env c := s_cons
def r_run_state_3 : FSs := (.cons (.ret (.var 1)) .nil)
theorem q_run_state_3 {I : CI} {np : Nat} {E : FEnds} {Y : EX} {env : En} {c : Cs} : wpSs I r_run_state_3 np E Y env c = wpS I (.ret (.var 1)) np { E with nx := KS I .nil np E Y } Y env c := s_cons
def r_run_state_2 : FSs := (.cons (.for_ false (.nm 3) (.ex (.var 2)) r_run_state_0) r_run_state_3)
theorem q_run_state_2 {I : CI} {np : Nat} {E : FEnds} {Y : EX} {env : En} {c : Cs} : wpSs I r_run_state_2 np E Y env c = wpS I (.for_ false (.nm 3) (.ex (.var 2)) r_run_state_0) np { E with nx := KS I r_run_state_3 np E Y } Y env c := s_cons
def r_run_state_1 : FSs := (.cons (.expr (.call i_look_through (.cons (.var 0) (.cons (.var 1) (.cons (.var 2) .nil))))) r_run_state_2)
theorem q_run_state_1 {I : CI} {np : Nat} {E : FEnds} {Y : EX} {env : En} {c : Cs} : wpSs I r_run_state_1 np E Y env c = wpS I (.expr (.call i_look_through (.cons (.var 0) (.cons (.var 1) (.cons (.var 2) .nil))))) np { E with nx := KS I r_run_state_2 np E Y } Y env c := s_cons
def b_run_state : FSs := r_run_state_1
def d_run_state : DefT := ⟨.fn "run_state", (top 16), "run_state", ["machine", "state", "run", "on"], ["machine", "state", "run"], b_run_state⟩
/- law: 0:script 1:place 2:hand 3:spec_here 4:machine_here 5:state_here 6:run 7:fault 8:behind 9:found -/
def r_law_0 : FSs := (.cons (.ret (.lit (.bl false))) .nil)
theorem q_law_0 {I : CI} {np : Nat} {E : FEnds} {Y : EX} {env : En} {c : Cs} : wpSs I r_law_0 np E Y env c = wpS I (.ret (.lit (.bl false))) np { E with nx := KS I .nil np E Y } Y env c := s_cons
def r_law_1 : FSs := (.cons (.ret (.lit (.bl false))) .nil)
theorem q_law_1 {I : CI} {np : Nat} {E : FEnds} {Y : EX} {env : En} {c : Cs} : wpSs I r_law_1 np E Y env c = wpS I (.ret (.lit (.bl false))) np { E with nx := KS I .nil np E Y } Y env c := s_cons
def r_law_10 : FSs := (.cons (.ifs (.bop true (.cons (.val (.bin .is false (.var 7) (.lit .non))) (.cons (.not (.val (.call i_l_same (.cons (.call i_run_state (.cons (.var 4) (.cons (.var 5) (.cons (.bi .list false (.cons (.var 6) .nil)) .nil)))) (.cons (.var 8) .nil))))) .nil))) r_law_1 .nil) .nil)
theorem q_law_10 {I : CI} {np : Nat} {E : FEnds} {Y : EX} {env : En} {c : Cs} : wpSs I r_law_10 np E Y env c = wpS I (.ifs (.bop true (.cons (.val (.bin .is false (.var 7) (.lit .non))) (.cons (.not (.val (.call i_l_same (.cons (.call i_run_state (.cons (.var 4) (.cons (.var 5) (.cons (.bi .list false (.cons (.var 6) .nil)) .nil)))) (.cons (.var 8) .nil))))) .nil))) r_law_1 .nil) np { E with nx := KS I .nil np E Y } Y env c := s_cons
def r_law_9 : FSs := (.cons (.ifs (.bop false (.cons (.not (.val (.call i_l_same (.cons (.var 9) (.cons (.var 7) .nil))))) (.cons (.val (.bin .ne false (.call i_l_by_stints (.cons (.var 3) (.cons (.var 5) (.cons (.frz (.call i_stints_of (.cons (.bi .list false (.cons (.var 6) .nil)) .nil))) .nil)))) (.var 7))) .nil))) r_law_0 .nil) r_law_10)
theorem q_law_9 {I : CI} {np : Nat} {E : FEnds} {Y : EX} {env : En} {c : Cs} : wpSs I r_law_9 np E Y env c = wpS I (.ifs (.bop false (.cons (.not (.val (.call i_l_same (.cons (.var 9) (.cons (.var 7) .nil))))) (.cons (.val (.bin .ne false (.call i_l_by_stints (.cons (.var 3) (.cons (.var 5) (.cons (.frz (.call i_stints_of (.cons (.bi .list false (.cons (.var 6) .nil)) .nil))) .nil)))) (.var 7))) .nil))) r_law_0 .nil) np { E with nx := KS I r_law_10 np E Y } Y env c := s_cons
def r_law_8 : FSs := (.cons (.set (.nm 9) (.call i_run_fault (.cons (.var 4) (.cons (.var 5) (.cons (.bi .list false (.cons (.var 6) .nil)) .nil))))) r_law_9)
theorem q_law_8 {I : CI} {np : Nat} {E : FEnds} {Y : EX} {env : En} {c : Cs} : wpSs I r_law_8 np E Y env c = wpS I (.set (.nm 9) (.call i_run_fault (.cons (.var 4) (.cons (.var 5) (.cons (.bi .list false (.cons (.var 6) .nil)) .nil))))) np { E with nx := KS I r_law_9 np E Y } Y env c := s_cons
def r_law_7 : FSs := (.cons (.set (.tp (.cons (.nm 7) (.cons (.nm 8) .nil))) (.call i_l_due (.cons (.var 3) (.cons (.var 5) (.cons (.var 6) .nil))))) r_law_8)
theorem q_law_7 {I : CI} {np : Nat} {E : FEnds} {Y : EX} {env : En} {c : Cs} : wpSs I r_law_7 np E Y env c = wpS I (.set (.tp (.cons (.nm 7) (.cons (.nm 8) .nil))) (.call i_l_due (.cons (.var 3) (.cons (.var 5) (.cons (.var 6) .nil))))) np { E with nx := KS I r_law_8 np E Y } Y env c := s_cons
def r_law_6 : FSs := (.cons (.set (.nm 6) (.call i_l_row (.cons (.var 2) (.cons (.var 3) (.cons (.var 5) .nil))))) r_law_7)
theorem q_law_6 {I : CI} {np : Nat} {E : FEnds} {Y : EX} {env : En} {c : Cs} : wpSs I r_law_6 np E Y env c = wpS I (.set (.nm 6) (.call i_l_row (.cons (.var 2) (.cons (.var 3) (.cons (.var 5) .nil))))) np { E with nx := KS I r_law_7 np E Y } Y env c := s_cons
def r_law_5 : FSs := (.cons (.set (.nm 5) (.call i_l_state (.cons (.var 2) (.cons (.var 3) .nil)))) r_law_6)
theorem q_law_5 {I : CI} {np : Nat} {E : FEnds} {Y : EX} {env : En} {c : Cs} : wpSs I r_law_5 np E Y env c = wpS I (.set (.nm 5) (.call i_l_state (.cons (.var 2) (.cons (.var 3) .nil)))) np { E with nx := KS I r_law_6 np E Y } Y env c := s_cons
def r_law_4 : FSs := (.cons (.set (.nm 4) (.call i_l_machine (.cons (.var 3) .nil))) r_law_5)
theorem q_law_4 {I : CI} {np : Nat} {E : FEnds} {Y : EX} {env : En} {c : Cs} : wpSs I r_law_4 np E Y env c = wpS I (.set (.nm 4) (.call i_l_machine (.cons (.var 3) .nil))) np { E with nx := KS I r_law_5 np E Y } Y env c := s_cons
def r_law_3 : FSs := (.cons (.set (.nm 3) (.frz (.call i_l_spec (.cons (.var 2) (.cons (.lst false (.cons (.lit (.int 1)) (.cons (.lit (.int 1)) .nil))) (.cons (.bin .idx false (.lst false (.cons (.lit (.int 3)) (.cons (.lit (.int 12)) .nil))) (.call i_l_draw (.cons (.var 2) (.cons (.lit (.int 2)) .nil)))) .nil)))))) r_law_4)
theorem q_law_3 {I : CI} {np : Nat} {E : FEnds} {Y : EX} {env : En} {c : Cs} : wpSs I r_law_3 np E Y env c = wpS I (.set (.nm 3) (.frz (.call i_l_spec (.cons (.var 2) (.cons (.lst false (.cons (.lit (.int 1)) (.cons (.lit (.int 1)) .nil))) (.cons (.bin .idx false (.lst false (.cons (.lit (.int 3)) (.cons (.lit (.int 12)) .nil))) (.call i_l_draw (.cons (.var 2) (.cons (.lit (.int 2)) .nil)))) .nil)))))) np { E with nx := KS I r_law_4 np E Y } Y env c := s_cons
def r_law_2 : FSs := (.cons (.set (.nm 2) (.call i_l_open (.cons (.var 0) (.cons (.var 1) .nil)))) r_law_3)
theorem q_law_2 {I : CI} {np : Nat} {E : FEnds} {Y : EX} {env : En} {c : Cs} : wpSs I r_law_2 np E Y env c = wpS I (.set (.nm 2) (.call i_l_open (.cons (.var 0) (.cons (.var 1) .nil)))) np { E with nx := KS I r_law_3 np E Y } Y env c := s_cons
def r_law_12 : FSs := (.cons (.ret (.lit (.bl true))) .nil)
theorem q_law_12 {I : CI} {np : Nat} {E : FEnds} {Y : EX} {env : En} {c : Cs} : wpSs I r_law_12 np E Y env c = wpS I (.ret (.lit (.bl true))) np { E with nx := KS I .nil np E Y } Y env c := s_cons
def r_law_11 : FSs := (.cons (.for_ false (.nm 1) (.rng1 (.bi .max false (.cons (.lit (.int 8)) (.cons (.bi .min false (.cons (.bi .len false (.cons (.var 0) .nil)) (.cons (.lit (.int 16)) .nil))) .nil)))) r_law_2) r_law_12)
theorem q_law_11 {I : CI} {np : Nat} {E : FEnds} {Y : EX} {env : En} {c : Cs} : wpSs I r_law_11 np E Y env c = wpS I (.for_ false (.nm 1) (.rng1 (.bi .max false (.cons (.lit (.int 8)) (.cons (.bi .min false (.cons (.bi .len false (.cons (.var 0) .nil)) (.cons (.lit (.int 16)) .nil))) .nil)))) r_law_2) np { E with nx := KS I r_law_12 np E Y } Y env c := s_cons
def b_law : FSs := r_law_11
def d_law : DefT := ⟨.fn "law", (top 38), "law", ["_law_script", "_law_place", "_law_hand", "_law_spec_here", "_law_machine_here", "_law_state_here", "_law_run", "_law_fault", "_law_behind", "_law_found"], ["_law_script"], b_law⟩
def tab : TabT := ⟨[d_l_open, d_l_draw, d_l_spec, d_is_whole, d_is_within, d_is_amount, d_is_piece, d_are_pieces, d_look_at, d_Machine_init, d_l_machine, d_l_state, d_l_row, d_l_due, d_may_be, d_state_after, d_run_fault, d_l_same_0, d_l_same, d_l_by_stints, d_stints_of, d_look_through, d_run_state, d_law], [("MOST", 1000000000000), ("LONGEST", 12), ("MOST_PIECES", 4)], [("Machine", ["up", "down", "begin", "run", "rest", "least", "pieces"])]⟩
end Lw
namespace Lw
open PySem F L2
local macro_rules | `(tactic| walk_at "fw") => `(tactic| try simp -implicitDefEqProofs only [wpDef, s_cons, s_nil, ks_nil, s_expr, s_set, s_setC, s_par, s_setI, s_augI, s_setA, s_ifs, s_for, s_ret, s_retN, s_brk, s_cnt, s_pass, s_forget,
    e_lit, e_con, e_neg, e_not, e_bin, e_bop, e_chain, e_ife, e_tup, e_lst, e_slc, e_attr, e_call, e_meth, e_make, e_bi, e_mt, e_isi, e_comp, e_frz, e_dct0, e_dct1, a_nil, a_cons, bop_one, bop_and, bop_or,
    c_val, c_not, c_bop, cb_one, cb_and, cb_or, cs_nil, cs_one, i_ex, i_rng1, i_rng2, i_enum, i_zip, t_nm, t_tp, ts_nil, ts_cons,
    b_add, b_sub, b_mul, b_fdiv, b_mod, b_pow, b_lt, b_le, b_gt, b_ge, b_eq, b_ne, b_eqb, b_neb, b_is, b_isn, b_isb, b_isnb, e_rev, bi_sorted, isN_non, isN_int, isN_bl, isN_str, isN_tup, isN_lst, isN_obj, isN_cell, b_idx,
    negK_int, notK_bl, chK2_bl, attK_obj, makK_non, bopK_bl, valK_bl, rngK_int, agK_int, onI_int, aug_add, aug_sub, getL_lst, getR_lst, getR_scr, getS_lst, getS_scr, getS_tup, gdOf_lst, gdOf_scr, gdOf_tup, onO_some,
    sIf_true, sIf_false, newL_f, newL_t, newD_f, newD_t, bi_len, bi_abs, bi_max, bi_min, bi_sum, bi_all, bi_any, bi_int, bi_intb, bi_list, bi_tuple, F.mt_app, F.mt_pop, F.mt_clear, allI_map, allB_map, slc_tup, slc_lst, slc_scr, slc_c, b_addl, b_addt, b_rep, b_in, b_nin, ty_non, ty_bl, ty_int, ty_str, ty_tup, ty_lst, ty_dct, ty_obj, ty_c, tyC_lst, tyC_obj, part0, part1, atE, setE, Lt.d,
    v0, vS, idx0, idx1, idx2, idx3, idx4, idx5, idx6, sIf_dec, ix0, ix1, getL_c, getR_c, getS_c, lstC_lst, setD_c, gdOf_c, gdC_lst, attK_c, attC_obj, app_get0, app_get1, app_get2, app_set0, app_set1, app_set2, app_app, List.set_set, List.length_set, List.length_map,
    List.getElem?_cons_zero, List.getElem?_cons_succ, List.map_cons, List.map_nil, List.cons_append, List.nil_append, List.set_cons_zero, List.set_cons_succ, List.length_cons, List.length_nil, List.replicate_succ, List.replicate_zero, app_len0, app_len1, Nat.reduceAdd, Nat.reduceLT, Nat.reduceLeDiff, true_and, sIf_not, ts_bt, ts_cb, ts_bc, ts_cc, ti_non, ti_bool, ti_int, ti_str, ti_tuple, ti_list, ti_dict, String.reduceEq, if_true, if_false, decide_true, decide_false, Bool.or_false, Bool.false_or, Bool.or_true, Bool.true_or, Bool.not_true, Bool.not_false, Nat.reduceSub, reduceIte, List.any_cons, List.any_nil, wipeE, Int.cast_ofNat_Int, Int.reduceEq, Int.reduceLT, Int.reduceLE, s_augm, augM_int, b_eqs, b_nes, eq_self, int2_int, setF_c, setFC_obj, app_get0e, app_set0e, app_get1e, app_set1e, allB_nil, allB_cons, allI_nil, allI_cons, Option.map_some, List.all_cons, List.all_nil, id, Bool.and_true, Bool.true_and, Bool.and_false, Bool.false_and, q_l_open_0, q_l_open_1, q_l_open_7, q_l_open_6, q_l_open_5, q_l_open_4, q_l_open_3, q_l_open_2, q_l_draw_2, q_l_draw_1, q_l_draw_0, q_l_draw_9, q_l_draw_8, q_l_draw_7, q_l_draw_6, q_l_draw_5, q_l_draw_4, q_l_draw_3, q_l_spec_1, q_l_spec_0, q_l_spec_9, q_l_spec_8, q_l_spec_7, q_l_spec_6, q_l_spec_5, q_l_spec_4, q_l_spec_3, q_l_spec_2, q_is_whole_0, q_is_within_0, q_is_amount_0, q_is_piece_0, q_is_piece_2, q_is_piece_1, q_are_pieces_0, q_are_pieces_1, q_are_pieces_5, q_are_pieces_4, q_are_pieces_3, q_are_pieces_2, q_look_at_0, q_look_at_1, q_look_at_2, q_look_at_3, q_look_at_4, q_look_at_7, q_look_at_6, q_look_at_5, q_Machine_init_7, q_Machine_init_6, q_Machine_init_5, q_Machine_init_4, q_Machine_init_3, q_Machine_init_2, q_Machine_init_1, q_Machine_init_0, q_l_machine_0, q_l_state_0, q_l_state_1, q_l_state_4, q_l_state_3, q_l_state_2, q_l_row_0, q_l_row_4, q_l_row_3, q_l_row_2, q_l_row_1, q_l_row_10, q_l_row_9, q_l_row_8, q_l_row_7, q_l_row_6, q_l_row_5, q_l_due_0, q_l_due_3, q_l_due_2, q_l_due_1, q_l_due_5, q_l_due_4, q_l_due_8, q_l_due_7, q_l_due_6, q_may_be_0, q_state_after_0, q_state_after_1, q_state_after_2, q_state_after_6, q_state_after_5, q_state_after_4, q_state_after_3, q_run_fault_0, q_run_fault_2, q_run_fault_1, q_run_fault_4, q_run_fault_3, q_l_same_0_0, q_l_same_0_2, q_l_same_0_1, q_l_same_0_3, q_l_same_0_4, q_l_same_0_5, q_l_same_0_10, q_l_same_0_9, q_l_same_0_8, q_l_same_0_7, q_l_same_0_6, q_l_same_0, q_l_same_2, q_l_same_1, q_l_same_3, q_l_same_4, q_l_same_5, q_l_same_10, q_l_same_9, q_l_same_8, q_l_same_7, q_l_same_6, q_l_by_stints_0, q_l_by_stints_2, q_l_by_stints_1, q_l_by_stints_3, q_l_by_stints_4, q_l_by_stints_8, q_l_by_stints_7, q_l_by_stints_6, q_l_by_stints_5, q_l_by_stints_11, q_l_by_stints_10, q_l_by_stints_9, q_stints_of_1, q_stints_of_0, q_stints_of_2, q_stints_of_3, q_stints_of_6, q_stints_of_5, q_stints_of_4, q_look_through_0, q_look_through_2, q_look_through_1, q_run_state_0, q_run_state_3, q_run_state_2, q_run_state_1, q_law_0, q_law_1, q_law_10, q_law_9, q_law_8, q_law_7, q_law_6, q_law_5, q_law_4, q_law_3, q_law_2, q_law_12, q_law_11])
local macro_rules | `(tactic| walk_at "fh") => do
  let a := Lean.mkIdent `hc
  let b := Lean.mkIdent `hn
  `(tactic| try simp -implicitDefEqProofs only [$a:ident, $b:ident, set_get, app_getL, app_setL,
    wpDef, s_cons, s_nil, ks_nil, s_expr, s_set, s_setC, s_par, s_setI, s_augI, s_setA, s_ifs, s_for, s_ret, s_retN, s_brk, s_cnt, s_pass, s_forget,
    e_lit, e_con, e_neg, e_not, e_bin, e_bop, e_chain, e_ife, e_tup, e_lst, e_slc, e_attr, e_call, e_meth, e_make, e_bi, e_mt, e_isi, e_comp, e_frz, e_dct0, e_dct1, a_nil, a_cons, bop_one, bop_and, bop_or,
    c_val, c_not, c_bop, cb_one, cb_and, cb_or, cs_nil, cs_one, i_ex, i_rng1, i_rng2, i_enum, i_zip, t_nm, t_tp, ts_nil, ts_cons,
    b_add, b_sub, b_mul, b_fdiv, b_mod, b_pow, b_lt, b_le, b_gt, b_ge, b_eq, b_ne, b_eqb, b_neb, b_is, b_isn, b_isb, b_isnb, e_rev, bi_sorted, isN_non, isN_int, isN_bl, isN_str, isN_tup, isN_lst, isN_obj, isN_cell, b_idx,
    negK_int, notK_bl, chK2_bl, attK_obj, makK_non, bopK_bl, valK_bl, rngK_int, agK_int, onI_int, aug_add, aug_sub, getL_lst, getR_lst, getR_scr, getS_lst, getS_scr, getS_tup, gdOf_lst, gdOf_scr, gdOf_tup, onO_some,
    sIf_true, sIf_false, newL_f, newL_t, newD_f, newD_t, bi_len, bi_abs, bi_max, bi_min, bi_sum, bi_all, bi_any, bi_int, bi_intb, bi_list, bi_tuple, F.mt_app, F.mt_pop, F.mt_clear, allI_map, allB_map, slc_tup, slc_lst, slc_scr, slc_c, b_addl, b_addt, b_rep, b_in, b_nin, ty_non, ty_bl, ty_int, ty_str, ty_tup, ty_lst, ty_dct, ty_obj, ty_c, tyC_lst, tyC_obj, part0, part1, atE, setE, Lt.d,
    v0, vS, idx0, idx1, idx2, idx3, idx4, idx5, idx6, sIf_dec, ix0, ix1, getL_c, getR_c, getS_c, lstC_lst, setD_c, gdOf_c, gdC_lst, attK_c, attC_obj, app_get0, app_get1, app_get2, app_set0, app_set1, app_set2, app_app, List.set_set, List.length_set, List.length_map,
    List.getElem?_cons_zero, List.getElem?_cons_succ, List.map_cons, List.map_nil, List.cons_append, List.nil_append, List.set_cons_zero, List.set_cons_succ, List.length_cons, List.length_nil, List.replicate_succ, List.replicate_zero, app_len0, app_len1, Nat.reduceAdd, Nat.reduceLT, Nat.reduceLeDiff, true_and, sIf_not, ts_bt, ts_cb, ts_bc, ts_cc, ti_non, ti_bool, ti_int, ti_str, ti_tuple, ti_list, ti_dict, String.reduceEq, if_true, if_false, decide_true, decide_false, Bool.or_false, Bool.false_or, Bool.or_true, Bool.true_or, Bool.not_true, Bool.not_false, Nat.reduceSub, reduceIte, List.any_cons, List.any_nil, wipeE, Int.cast_ofNat_Int, Int.reduceEq, Int.reduceLT, Int.reduceLE, s_augm, augM_int, b_eqs, b_nes, eq_self, int2_int, setF_c, setFC_obj, app_get0e, app_set0e, app_get1e, app_set1e, allB_nil, allB_cons, allI_nil, allI_cons, Option.map_some, List.all_cons, List.all_nil, id, Bool.and_true, Bool.true_and, Bool.and_false, Bool.false_and, q_l_open_0, q_l_open_1, q_l_open_7, q_l_open_6, q_l_open_5, q_l_open_4, q_l_open_3, q_l_open_2, q_l_draw_2, q_l_draw_1, q_l_draw_0, q_l_draw_9, q_l_draw_8, q_l_draw_7, q_l_draw_6, q_l_draw_5, q_l_draw_4, q_l_draw_3, q_l_spec_1, q_l_spec_0, q_l_spec_9, q_l_spec_8, q_l_spec_7, q_l_spec_6, q_l_spec_5, q_l_spec_4, q_l_spec_3, q_l_spec_2, q_is_whole_0, q_is_within_0, q_is_amount_0, q_is_piece_0, q_is_piece_2, q_is_piece_1, q_are_pieces_0, q_are_pieces_1, q_are_pieces_5, q_are_pieces_4, q_are_pieces_3, q_are_pieces_2, q_look_at_0, q_look_at_1, q_look_at_2, q_look_at_3, q_look_at_4, q_look_at_7, q_look_at_6, q_look_at_5, q_Machine_init_7, q_Machine_init_6, q_Machine_init_5, q_Machine_init_4, q_Machine_init_3, q_Machine_init_2, q_Machine_init_1, q_Machine_init_0, q_l_machine_0, q_l_state_0, q_l_state_1, q_l_state_4, q_l_state_3, q_l_state_2, q_l_row_0, q_l_row_4, q_l_row_3, q_l_row_2, q_l_row_1, q_l_row_10, q_l_row_9, q_l_row_8, q_l_row_7, q_l_row_6, q_l_row_5, q_l_due_0, q_l_due_3, q_l_due_2, q_l_due_1, q_l_due_5, q_l_due_4, q_l_due_8, q_l_due_7, q_l_due_6, q_may_be_0, q_state_after_0, q_state_after_1, q_state_after_2, q_state_after_6, q_state_after_5, q_state_after_4, q_state_after_3, q_run_fault_0, q_run_fault_2, q_run_fault_1, q_run_fault_4, q_run_fault_3, q_l_same_0_0, q_l_same_0_2, q_l_same_0_1, q_l_same_0_3, q_l_same_0_4, q_l_same_0_5, q_l_same_0_10, q_l_same_0_9, q_l_same_0_8, q_l_same_0_7, q_l_same_0_6, q_l_same_0, q_l_same_2, q_l_same_1, q_l_same_3, q_l_same_4, q_l_same_5, q_l_same_10, q_l_same_9, q_l_same_8, q_l_same_7, q_l_same_6, q_l_by_stints_0, q_l_by_stints_2, q_l_by_stints_1, q_l_by_stints_3, q_l_by_stints_4, q_l_by_stints_8, q_l_by_stints_7, q_l_by_stints_6, q_l_by_stints_5, q_l_by_stints_11, q_l_by_stints_10, q_l_by_stints_9, q_stints_of_1, q_stints_of_0, q_stints_of_2, q_stints_of_3, q_stints_of_6, q_stints_of_5, q_stints_of_4, q_look_through_0, q_look_through_2, q_look_through_1, q_run_state_0, q_run_state_3, q_run_state_2, q_run_state_1, q_law_0, q_law_1, q_law_10, q_law_9, q_law_8, q_law_7, q_law_6, q_law_5, q_law_4, q_law_3, q_law_2, q_law_12, q_law_11])
local macro_rules | `(tactic| walk_at "fd") => `(tactic| repeat ((with_reducible refine And.intro ?l ?_); (case l => first | decide | omega | exact mulOk_r (by omega) (by omega) | exact mulOk_l (by omega) (by omega))))
local macro_rules | `(tactic| walk_at "fn") => `(tactic| ((try dsimp only); rw [ks_run]; walk_at "fw"))
local macro_rules | `(tactic| walk_at "fm") => `(tactic| ((try dsimp only); rw [ks_run]; walk_at "fh"))
local macro_rules | `(tactic| walk_at "fz") => `(tactic| ((try dsimp only); walk_at "fh"; (try (rw [ks_run]; walk_at "fh"))))
/-- a hand -/
structure Hand where
  dg : Int
  cnt : Int
  cells : List Int
  ne : cells ≠ []
def Hand.c (h : Hand) : Cont := .lst [.int h.dg, .int h.cnt, .lst (h.cells.map D.int)]
theorem Hand.nc (h : Hand) : h.c.nc = true := by
  show (true && (true && (D.ncL _ && true))) = true
  rw [D.ncL_map (fun _ => rfl)]; rfl
def p_l_draw : Phi := fun as c Q _ => ∃ n h many, as = [.cell n, .int many] ∧ c[n]? = some (Hand.c h) ∧ 0 < many ∧ many.natAbs < 2 ^ 9000 ∧ ∀ r (h' : Hand), 0 ≤ r → r < many → Q (.int r) (c.set n h'.c)
def p_l_open : Phi := fun as c Q _ => ∃ (ns : List Int) (k : Int), as = [.scr (ns.map D.int), .int k] ∧ 0 ≤ k ∧ ∀ h : Hand, Q (.cell c.length) (c ++ [h.c])
def Thing (d : D) : Prop := (∃ i, d = .int i) ∨ (∃ b, d = .bl b) ∨ (d.nc = true ∧ ∃ t, t ∈ ["NoneType", "str", "tuple", "list", "dict"] ∧ ∀ c, tyD c d = some (.bt t))
def isB (P : Int → Bool) : D → Bool
  | .int i => P i
  | _ => false
def p_is_whole : Phi := fun as c Q _ => ∃ d, as = [d] ∧ Thing d ∧ Q (.bl (isB (fun _ => true) d)) c
def p_is_within : Phi := fun as c Q _ => ∃ d lo hi, as = [d, .int lo, .int hi] ∧ Thing d ∧ Q (.bl (isB (fun i => decide (lo ≤ i) && decide (i ≤ hi)) d)) c
def amo : D → Bool := isB fun i => decide (0 ≤ i) && decide (i ≤ 1000000000000)
def p_is_amount : Phi := fun as c Q _ => ∃ d, as = [d] ∧ Thing d ∧ Q (.bl (amo d)) c
/-- a machine's values -/
structure Spec where
  up : Int
  down : Int
  bg : Int
  rn : Int
  rs : Int
  lt : Int
  ps : List (Int × Int)
def Am (i : Int) : Prop := 0 ≤ i ∧ i ≤ 1000000000000
structure Spec.Ok (s : Spec) : Prop where
  up : 1 ≤ s.up ∧ s.up ≤ 12
  down : 1 ≤ s.down ∧ s.down ≤ 12
  bg : Am s.bg
  rn : Am s.rn
  rs : Am s.rs
  lt : Am s.lt
  n : s.ps.length ≤ 4
  am : ∀ p ∈ s.ps, 0 < p.1 ∧ Am p.1 ∧ Am p.2
  so : (s.ps.map (·.2)).Pairwise (· ≤ ·)
def encP (p : Int × Int) : D := .tup [.int p.1, .int p.2]
def encSp (s : Spec) : D := .lst [.int s.up, .int s.down, .int s.bg, .int s.rn, .int s.rs, .int s.lt, .lst (s.ps.map encP)]
def encMf (s : Spec) : List D := [.int s.up, .int s.down, .int s.bg, .int s.rn, .int s.rs, .int s.lt, .lst (s.ps.map encP)]
def encM (s : Spec) : D := .obj k_Machine (encMf s)
def p_is_piece : Phi := fun as c Q _ => ∃ p : Int × Int, as = [encP p] ∧ 0 < p.1 ∧ Am p.1 ∧ Am p.2 ∧ Q (.bl true) c
def p_are_pieces : Phi := fun as c Q _ => ∃ (x : D) (ps : List (Int × Int)), as = [x] ∧ (x = .lst (ps.map encP) ∨ ∃ n, x = .cell n ∧ c[n]? = some (.lst (ps.map encP))) ∧ ps.length ≤ 4 ∧ (∀ p ∈ ps, 0 < p.1 ∧ Am p.1 ∧ Am p.2) ∧ (ps.map (·.2)).Pairwise (· ≤ ·) ∧ Q (.bl true) c
def p_look_at : Phi := fun as c Q _ => ∃ (x : D) (s : Spec), as = [.int s.up, .int s.down, .tup [.int s.bg, .int s.rn, .int s.rs, .int s.lt], x] ∧ (x = .lst (s.ps.map encP) ∨ ∃ n, x = .cell n ∧ c[n]? = some (.lst (s.ps.map encP))) ∧ s.Ok ∧ Q .non c
def p_Machine_init : Phi := fun as c Q _ => ∃ (n : Nat) (x : D) (s : Spec), as = [.cell n, .int s.up, .int s.down, .int s.bg, .int s.rn, .int s.rs, .int s.lt, x] ∧ c[n]? = some (.obj k_Machine []) ∧ (x = .lst (s.ps.map encP) ∨ ∃ n, x = .cell n ∧ c[n]? = some (.lst (s.ps.map encP))) ∧ s.Ok ∧ Q .non (c.set n (.obj k_Machine (encMf s)))
def p_l_spec : Phi := fun as c Q _ => ∃ n h b0 b1 l, as = [.cell n, .lst [.int b0, .int b1], .int l] ∧ c[n]? = some (Hand.c h) ∧ (1 ≤ b0 ∧ b0 ≤ 50000000000) ∧ (1 ≤ b1 ∧ b1 ≤ 50000000000) ∧ (1 ≤ l ∧ l ≤ 12) ∧ ∀ (s : Spec) (h' : Hand), s.Ok → Q (encSp s) (c.set n h'.c)
def p_l_machine : Phi := fun as c Q _ => ∃ s : Spec, as = [encSp s] ∧ s.Ok ∧ Q (encM s) c
def encSt (st : Int × Int) : D := .tup [.int st.1, .int st.2]
def StOk (s : Spec) (st : Int × Int) : Prop := (st.1 = 1 ∧ 0 ≤ st.2 ∧ st.2 < s.up) ∨ (st.1 = 0 ∧ 0 ≤ st.2 ∧ st.2 ≤ 59)
def after (s : Spec) (st : Int × Int) (on : Int) : Option (Int × Int) :=
  if on = st.1 then some (on, if st.2 - 1 > 0 then st.2 - 1 else 0) else if st.2 = 0 then some (on, (if on = 1 then s.up else s.down) - 1) else none
def encO : Option (Int × Int) → D
  | some st => encSt st
  | none => .non
theorem StOk.after {s : Spec} {st st' : Int × Int} {on : Int} (ok : s.Ok) (h : StOk s st) (ho : on = 0 ∨ on = 1) (e : after s st on = some st') : StOk s st' := by
  have hu := ok.up
  have hd := ok.down
  unfold Lw.after at e
  split at e
  · rename_i h1
    injection e with e
    subst e
    unfold StOk at *
    dsimp only
    split <;> omega
  · split at e
    · injection e with e
      subst e
      unfold StOk at *
      dsimp only
      rcases ho with rfl | rfl
      · right; refine ⟨rfl, ?_, ?_⟩ <;> simp <;> omega
      · left; refine ⟨rfl, ?_, ?_⟩ <;> simp <;> omega
    · cases e
def p_l_state : Phi := fun as c Q _ => ∃ n h s, as = [.cell n, encSp s] ∧ c[n]? = some (Hand.c h) ∧ s.Ok ∧ ∀ st (h' : Hand), StOk s st → Q (encSt st) (c.set n h'.c)
def p_l_after : Phi := fun as c Q _ => ∃ s st on, as = [encSp s, encSt st, .int on] ∧ StOk s st ∧ (on = 0 ∨ on = 1) ∧ Q (encO (after s st on)) c
def p_may_be : Phi := fun as c Q _ => ∃ s st on, as = [encM s, encSt st, .int on] ∧ Q (.bl (after s st on).isSome) c
def p_state_after : Phi := fun as c Q _ => ∃ s st on st', as = [encM s, encSt st, .int on] ∧ (on = 0 ∨ on = 1) ∧ after s st on = some st' ∧ Q (encSt st') c
/-- data that _law_same looks through, k deep -/
def Pl : Nat → D → Prop
  | _, .non => True
  | _, .bl _ => True
  | _, .int _ => True
  | _, .str _ => True
  | k + 1, .tup ds => ds.length ≤ 16777216 ∧ ∀ d ∈ ds, Pl k d
  | k + 1, .lst ds => ds.length ≤ 16777216 ∧ ∀ d ∈ ds, Pl k d
  | _, _ => False
def p_same (k : Nat) : Phi := fun as c Q _ => ∃ a b d, as = [a, b] ∧ view c a = some d ∧ view c b = some d ∧ Pl k d ∧ Q (.bl true) c
def Bits (xs : List Int) : Prop := ∀ x ∈ xs, x = 0 ∨ x = 1
def fault (s : Spec) : (Int × Int) → Nat → List Int → Option Nat
  | _, _, [] => none
  | st, i, on :: r => match after s st on with
    | none => some i
    | some st' => fault s st' (i + 1) r
def encF : Option Nat → D
  | some i => .int i
  | none => .non
def p_run_fault : Phi := fun as c Q _ => ∃ s st x xs, as = [encM s, encSt st, x] ∧ view c x = some (.lst (xs.map D.int)) ∧ xs.length ≤ 48 ∧ s.Ok ∧ StOk s st ∧ Bits xs ∧ Q (encF (fault s st 0 xs)) c
/-- stints that are laid -/
inductive Good : List Int → List (Int × Nat × Nat) → Prop
  | nil : Good [] []
  | snoc {xs S o m} : Good xs S → (o = 0 ∨ o = 1) → (∀ a, S.getLast? = some a → a.1 ≠ o) → 1 ≤ m → Good (xs ++ List.replicate m o) (S ++ [(o, xs.length, m)])
theorem Good.nn {xs S} (h : Good xs S) : S = [] → xs = [] := by
  intro e
  cases h with
  | nil => rfl
  | snoc => simp at e
theorem Good.len {xs S} (h : Good xs S) : S.length ≤ xs.length := by
  induction h with
  | nil => simp
  | snoc _ _ _ _ ih => simp only [List.length_append, List.length_replicate, List.length_cons, List.length_nil]; omega
theorem Good.at {xs S} (h : Good xs S) : ∀ j a, S[j]? = some a → ∃ ys, Good ys (S.take j) ∧ (a.1 = 0 ∨ a.1 = 1) ∧ (∀ b, (S.take j).getLast? = some b → b.1 ≠ a.1) ∧ a.2.1 = ys.length ∧ 1 ≤ a.2.2 ∧ ys.length + a.2.2 ≤ xs.length ∧ Good (ys ++ List.replicate a.2.2 a.1) (S.take (j + 1)) := by
  induction h with
  | nil => intro j a h; simp at h
  | @snoc xs S o m g ho hl hm ih =>
    intro j a h
    rcases Nat.lt_or_ge j S.length with hj | hj
    · rw [List.getElem?_append_left hj] at h
      obtain ⟨ys, h1, h2, h3, h4, h5, h6, h7⟩ := ih j a h
      refine ⟨ys, ?_, h2, ?_, h4, h5, ?_, ?_⟩
      · rwa [List.take_append_of_le_length (by omega)]
      · rwa [List.take_append_of_le_length (by omega)]
      · rw [List.length_append]; omega
      · rwa [List.take_append_of_le_length (by omega)]
    · have e : j = S.length := by
        have := (List.getElem?_eq_some_iff.mp h).1
        simp at this; omega
      subst e
      rw [List.getElem?_append_right (Nat.le_refl _), Nat.sub_self] at h
      simp only [List.getElem?_cons_zero, Option.some.injEq] at h
      subst h
      refine ⟨xs, ?_, ho, ?_, rfl, hm, ?_, ?_⟩
      · simpa using g
      · simpa using hl
      · simp
      · rw [List.take_of_length_le (by simp)]
        exact .snoc g ho hl hm
theorem Good.uniq {xs ys S} (h : Good xs S) (h' : Good ys S) : xs = ys := by
  induction h generalizing ys with
  | nil => exact (h'.nn rfl).symm
  | @snoc xs S o m g ho hl hm ih =>
    generalize hT : S ++ [(o, xs.length, m)] = T at h'
    cases h' with
    | nil => simp at hT
    | @snoc xs' S' o' m' g' _ _ _ =>
      have h1 := List.append_inj' hT rfl
      obtain ⟨rfl, h2⟩ := h1
      simp only [List.cons.injEq, Prod.mk.injEq, and_true] at h2
      obtain ⟨rfl, _, rfl⟩ := h2
      rw [ih g']
theorem Good.last {xs S} {a : Int × Nat × Nat} (h : Good xs (S ++ [a])) : xs.getLast? = some a.1 := by
  generalize hT : S ++ [a] = T at h
  cases h with
  | nil => simp at hT
  | @snoc xs' S' o' m' g' _ _ hm =>
    have h1 := List.append_inj' hT rfl
    obtain ⟨rfl, h2⟩ := h1
    simp only [List.cons.injEq, and_true] at h2
    subst h2
    obtain ⟨k, rfl⟩ : ∃ k, m' = k + 1 := ⟨m' - 1, by omega⟩
    rw [List.replicate_succ', ← List.append_assoc, List.getLast?_append]
    simp
theorem Good.grow {xs S} {a : Int × Nat × Nat} (h : Good xs (S ++ [a])) : Good (xs ++ [a.1]) (S ++ [(a.1, a.2.1, a.2.2 + 1)]) := by
  generalize hT : S ++ [a] = T at h
  cases h with
  | nil => simp at hT
  | @snoc xs' S' o' m' g' ho hl hm =>
    have h1 := List.append_inj' hT rfl
    obtain ⟨rfl, h2⟩ := h1
    simp only [List.cons.injEq, and_true] at h2
    subst h2
    have z := Good.snoc (m := m' + 1) g' ho hl (by omega)
    rwa [List.replicate_succ', ← List.append_assoc] at z
def encS (a : Int × Nat × Nat) : D := .tup [.int a.1, .int a.2.1, .int a.2.2]
def p_stints_of : Phi := fun as c Q _ => ∃ xs : List Int, as = [.lst (xs.map D.int)] ∧ Bits xs ∧ xs.length ≤ 48 ∧ ∀ S, Good xs S → Q (.cell c.length) (c ++ [.lst (S.map encS)])
def p_l_same_0 : Phi := p_same 0
def p_l_same : Phi := p_same 1
def runst (s : Spec) : (Int × Int) → List Int → Option (Int × Int)
  | st, [] => some st
  | st, on :: r => match after s st on with
    | none => none
    | some st' => runst s st' r
theorem runst_fault {s : Spec} : ∀ {xs : List Int} {st : Int × Int} {i : Nat}, (runst s st xs).isSome = (fault s st i xs).isNone
  | [], _, _ => rfl
  | on :: r, st, i => by
    simp only [runst, fault]
    cases after s st on with
    | none => rfl
    | some st' => exact runst_fault
def p_l_row : Phi := fun as c Q _ => ∃ n h s st, as = [.cell n, encSp s, encSt st] ∧ c[n]? = some (Hand.c h) ∧ s.Ok ∧ StOk s st ∧ ∀ (xs : List Int) (h' : Hand), Bits xs → xs.length ≤ 48 → Q (.lst (xs.map D.int)) (c.set n h'.c)
def p_l_due : Phi := fun as c Q _ => ∃ s st xs, as = [encSp s, encSt st, .lst (xs.map D.int)] ∧ s.Ok ∧ StOk s st ∧ Bits xs ∧ xs.length ≤ 48 ∧ Q (.lst [encF (fault s st 0 xs), encO (runst s st xs)]) c
def p_l_by_stints : Phi := fun as c Q _ => ∃ s st S xs, as = [encSp s, encSt st, .lst (S.map encS)] ∧ s.Ok ∧ StOk s st ∧ Good xs S ∧ xs.length ≤ 48 ∧ Q (encF (fault s st 0 xs)) c
def p_look_through : Phi := fun as c Q _ => ∃ s st x xs, as = [encM s, encSt st, x] ∧ view c x = some (.lst (xs.map D.int)) ∧ xs.length ≤ 48 ∧ s.Ok ∧ StOk s st ∧ Bits xs ∧ fault s st 0 xs = none ∧ Q .non c
def p_run_state : Phi := fun as c Q _ => ∃ s st x xs st', as = [encM s, encSt st, x] ∧ view c x = some (.lst (xs.map D.int)) ∧ xs.length ≤ 48 ∧ s.Ok ∧ StOk s st ∧ Bits xs ∧ runst s st xs = some st' ∧ Q (encSt st') c
def p_law : Phi := fun as c Q _ => ∃ ns : List Int, as = [.scr (ns.map D.int)] ∧ ns.length ≤ 63 ∧ Q (.bl true) c
def phi : Nat → Phi := fun i => match i with
  | 0 => p_l_open
  | 1 => p_l_draw
  | 2 => p_l_spec
  | 3 => p_is_whole
  | 4 => p_is_within
  | 5 => p_is_amount
  | 6 => p_is_piece
  | 7 => p_are_pieces
  | 8 => p_look_at
  | 9 => p_Machine_init
  | 10 => p_l_machine
  | 11 => p_l_state
  | 12 => p_l_row
  | 13 => p_l_due
  | 14 => p_may_be
  | 15 => p_state_after
  | 16 => p_run_fault
  | 17 => p_l_same_0
  | 18 => p_l_same
  | 19 => p_l_by_stints
  | 20 => p_stints_of
  | 21 => p_look_through
  | 22 => p_run_state
  | 23 => p_law
  | _ => fun _ _ _ _ => False
abbrev I0 : CI := tab.ci phi
theorem fl_Machine : (I0.flds k_Machine).length = 7 := rfl
theorem ph_l_open : I0.phi i_l_open = p_l_open := rfl
theorem ph_l_draw : I0.phi i_l_draw = p_l_draw := rfl
theorem ph_l_spec : I0.phi i_l_spec = p_l_spec := rfl
theorem ph_is_whole : I0.phi i_is_whole = p_is_whole := rfl
theorem ph_is_within : I0.phi i_is_within = p_is_within := rfl
theorem ph_is_amount : I0.phi i_is_amount = p_is_amount := rfl
theorem ph_is_piece : I0.phi i_is_piece = p_is_piece := rfl
theorem ph_are_pieces : I0.phi i_are_pieces = p_are_pieces := rfl
theorem ph_look_at : I0.phi i_look_at = p_look_at := rfl
theorem ph_Machine_init : I0.phi i_Machine_init = p_Machine_init := rfl
theorem ph_l_machine : I0.phi i_l_machine = p_l_machine := rfl
theorem ph_l_state : I0.phi i_l_state = p_l_state := rfl
theorem ph_l_row : I0.phi i_l_row = p_l_row := rfl
theorem ph_l_due : I0.phi i_l_due = p_l_due := rfl
theorem ph_may_be : I0.phi i_may_be = p_may_be := rfl
theorem ph_state_after : I0.phi i_state_after = p_state_after := rfl
theorem ph_run_fault : I0.phi i_run_fault = p_run_fault := rfl
theorem ph_l_same_0 : I0.phi i_l_same_0 = p_l_same_0 := rfl
theorem ph_l_same : I0.phi i_l_same = p_l_same := rfl
theorem ph_l_by_stints : I0.phi i_l_by_stints = p_l_by_stints := rfl
theorem ph_stints_of : I0.phi i_stints_of = p_stints_of := rfl
theorem ph_look_through : I0.phi i_look_through = p_look_through := rfl
theorem ph_run_state : I0.phi i_run_state = p_run_state := rfl
theorem ph_law : I0.phi i_law = p_law := rfl
theorem w_l_draw : ∀ ds c Q X, ds.length = d_l_draw.ps.length → Wfc c → p_l_draw ds c Q X → wpDef I0 d_l_draw.N.length d_l_draw.body ds c Q X := by
  intro ds c Q X _ wf ⟨n, h, many, e, hc, h0, hb, k⟩
  subst e
  have hn := lt_of_get hc
  show wpDef I0 5 b_l_draw _ _ _ _
  unfold b_l_draw
  obtain ⟨dg, cnt, cells, ne⟩ := h
  simp only [Hand.c] at hc
  walk_at "fh"
  split
  · refine ⟨h0, ?_⟩
    walk_at "fm"
    refine ⟨⟨h0, hb⟩, ?_⟩
    walk_at "fm"
    exact ret_same (k _ ⟨_, _, _, ne⟩ (Int.emod_nonneg _ (by omega)) (Int.emod_lt_of_pos _ h0))
  · have hl : 0 < (cells.length : Int) := by
      have := List.length_pos_iff.mpr ne
      omega
    walk_at "fm"
    walk_at "fm"
    refine ⟨hl, idx_ints (Int.emod_nonneg _ (by omega)) (Int.emod_lt_of_pos _ hl) fun z _ => ?_⟩
    walk_at "fh"
    walk_at "fd"
    walk_at "fm"
    walk_at "fd"
    walk_at "fm"
    walk_at "fd"
    walk_at "fm"
    walk_at "fd"
    walk_at "fm"
    walk_at "fd"
    exact ret_same (k _ ⟨_, _, _, ne⟩ (Int.emod_nonneg _ (by omega)) (Int.emod_lt_of_pos _ h0))
theorem take_map63 {ns : List Int} : cutD (ns.map D.int) none (some 63) = (ns.take 63).map D.int := by
  rw [cutT (by decide), List.map_take]; rfl
theorem w_l_open : ∀ ds c Q X, ds.length = d_l_open.ps.length → Wfc c → p_l_open ds c Q X → wpDef I0 d_l_open.N.length d_l_open.body ds c Q X := by
  intro ds c Q X _ wf ⟨ns, k, e, h0, q⟩
  subst e
  show wpDef I0 6 b_l_open _ _ _ _
  unfold b_l_open
  walk_at "fw"
  rw [take_map63]
  refine comp_map D.int (fun x => D.int (if x < 0 then -x else x)) trivial (by rw [List.length_take]; omega) (fun x _ K k => ?_) ?_
  · walk_at "fw"
    exact k
  generalize hcs : (ns.take 63).map (fun x => if x < 0 then -x else x) = cs
  have ecs : (ns.take 63).map (fun x => D.int (if x < 0 then -x else x)) = cs.map D.int := by rw [← hcs, List.map_map]; rfl
  have hl : cs.length ≤ 63 := by rw [← hcs, List.length_map, List.length_take]; omega
  rw [ecs]
  walk_at "fn"
  refine b_eq_ip (.lst _) (.lst []) rfl rfl (show D.ipL 63 _ = true from D.ipL_ints) rfl fun r hr => ?_
  rw [map_int_nil] at hr
  walk_at "fw"
  rw [show ([D.int 0] : List D) = ([0] : List Int).map D.int from rfl]
  refine sIf_join (K := fun cs : List Int => KS _ _ _ _ _ [_, _, some (.lst (cs.map D.int)), _, _, _] _) ?_
  have hne : (if r = true then [0] else cs) ≠ [] := by
    cases r with
    | true => simp
    | false => simpa using hr
  have hl2 : (if r = true then [0] else cs).length ≤ 63 := by cases r <;> simp [hl]
  generalize (if r = true then [0] else cs) = zs at hne hl2
  have hz : 0 < (zs.length : Int) := by
    have := List.length_pos_iff.mpr hne
    omega
  have h1 := Int.emod_nonneg k (show (zs.length : Int) ≠ 0 by omega)
  have h2 := Int.emod_lt_of_pos k hz
  have fin : ∀ d, KS I0 (.cons (.ret (.lst true (.cons (.var 4) (.cons (.bin .add false (.lit (.int 1)) (.bin .mul false (.lit (.int 101)) (.var 1))) (.cons (.bin .add false (.slc false (.var 2) (.cons (.var 3) .nil) .nil) (.slc false (.var 2) .nil (.cons (.var 3) .nil))) .nil))))) .nil) c.length
      ⟨fun x c' => Ret I0.flds c.length Q .non c', fun d c' => Ret I0.flds c.length Q d c', fun x x_1 => False, fun x x_1 => False⟩ (fun k fs x c' => clean I0.flds c.length c' fun f c'' => X k (List.map f fs) c'')
      [some (.scr (ns.map D.int)), some (.int k), some (.lst (zs.map D.int)), some (.int (k % zs.length)), some (.int d), none] c := fun d => by
    walk_at "fn"
    rw [cutT h1, cutDr h1, ← List.map_drop, ← List.map_take, ← List.map_append]
    walk_at "fd"
    refine ⟨by simp only [List.length_map, List.length_drop, List.length_take]; omega, ret_same (q ⟨d, 1 + 101 * k, zs.drop (k % zs.length).toNat ++ zs.take (k % zs.length).toNat, ?_⟩)⟩
    intro z
    have := congrArg List.length z
    simp only [List.length_append, List.length_drop, List.length_take, List.length_nil] at this
    omega
  walk_at "fn"
  refine ⟨hz, ?_⟩
  walk_at "fn"
  walk_at "fn"
  refine idx_ints h1 h2 fun z hz => ?_
  walk_at "fw"
  walk_at "fd"
  split
  · split
    · refine idx_ints h1 h2 fun z hz => ?_
      walk_at "fw"
      exact fin _
    · exact fin _
  · exact fin _
theorem draw_ok {n : Nat} {h : Hand} {m : Int} {c : Cs} {Q : QE} {X : QX} (hc : c[n]? = some h.c) (h0 : 0 < m) (hb : m < 2 ^ 400) (k : ∀ r (h' : Hand), 0 ≤ r → r < m → Q (.int r) (c.set n h'.c)) : I0.phi i_l_draw [.cell n, .int m] c Q X :=
  ⟨n, h, m, rfl, hc, h0, small_bd (by omega) hb (by decide), k⟩
theorem dr_ok {n : Nat} {h : Hand} {m : Int} {c : Cs} {Q : QE} {X : QX} (hc : c[n]? = some h.c) (h0 : 0 < m) (hb : m < 1000000000000000000) (k : ∀ r (h' : Hand), 0 ≤ r → r < m → Q (.int r) (c.set n h'.c)) : I0.phi i_l_draw [.cell n, .int m] c Q X :=
  draw_ok hc h0 (Int.lt_trans hb (by decide)) k
theorem w_is_whole : ∀ ds c Q X, ds.length = d_is_whole.ps.length → Wfc c → p_is_whole ds c Q X → wpDef I0 d_is_whole.N.length d_is_whole.body ds c Q X := by
  intro ds c Q X _ wf ⟨d, e, hd, q⟩
  subst e
  show wpDef I0 1 b_is_whole _ _ _ _
  unfold b_is_whole
  rcases hd with ⟨i, rfl⟩ | ⟨b, rfl⟩ | ⟨nc, t, ht, hc⟩
  · walk_at "fw"
    exact ret_same q
  · walk_at "fw"
    exact ret_same q
  · walk_at "fw"
    simp only [hc]
    walk_at "fw"
    have q' : Q (.bl false) c := by
      have e : isB (fun _ => true) d = false := by
        cases d <;> first | rfl | (have z := hc []; simp [tyD] at z; subst z; simp at ht)
      rw [← e]; exact q
    simp only [List.mem_cons, List.not_mem_nil, or_false] at ht
    rcases ht with rfl | rfl | rfl | rfl | rfl <;> (walk_at "fw"; exact ret_same q')
theorem w_is_within : ∀ ds c Q X, ds.length = d_is_within.ps.length → Wfc c → p_is_within ds c Q X → wpDef I0 d_is_within.N.length d_is_within.body ds c Q X := by
  intro ds c Q X _ wf ⟨d, lo, hi, e, hd, q⟩
  subst e
  show wpDef I0 3 b_is_within _ _ _ _
  unfold b_is_within
  walk_at "fw"
  refine ⟨d, rfl, hd, ?_⟩
  walk_at "fw"
  cases d <;> (simp only [isB] at q ⊢; walk_at "fw") <;> first | exact ret_same q | skip
  split
  · rename_i h
    simp only [h, decide_true, Bool.true_and] at q
    exact ret_same q
  · rename_i h
    simp only [h, decide_false, Bool.false_and] at q
    exact ret_same q
theorem w_is_amount : ∀ ds c Q X, ds.length = d_is_amount.ps.length → Wfc c → p_is_amount ds c Q X → wpDef I0 d_is_amount.N.length d_is_amount.body ds c Q X := by
  intro ds c Q X _ wf ⟨d, e, hd, q⟩
  subst e
  show wpDef I0 1 b_is_amount _ _ _ _
  unfold b_is_amount
  walk_at "fw"
  exact ⟨d, 0, 1000000000000, rfl, hd, ret_same q⟩
theorem encM_nc {s : Spec} : (encM s).nc = true := by
  show D.ncL (encMf s) = true
  show (true && (true && (true && (true && (true && (true && (D.ncL _ && true))))))) = true
  rw [D.ncL_map (fun _ => rfl)]; rfl
theorem encSp_nc {s : Spec} : (encSp s).nc = true := by
  show (true && (true && (true && (true && (true && (true && (D.ncL _ && true))))))) = true
  rw [D.ncL_map (fun _ => rfl)]; rfl
theorem w_is_piece : ∀ ds c Q X, ds.length = d_is_piece.ps.length → Wfc c → p_is_piece ds c Q X → wpDef I0 d_is_piece.N.length d_is_piece.body ds c Q X := by
  intro ds c Q X _ wf ⟨⟨a, r⟩, e, h0, ha, hr, q⟩
  subst e
  show wpDef I0 1 b_is_piece _ _ _ _
  unfold b_is_piece
  simp only [encP]
  walk_at "fw"
  walk_at "fn"
  refine ⟨.int a, rfl, .inl ⟨_, rfl⟩, ?_⟩
  have e1 : amo (.int a) = true := by simp only [amo, isB, Bool.and_eq_true, decide_eq_true_eq]; exact ha
  have e2 : amo (.int r) = true := by simp only [amo, isB, Bool.and_eq_true, decide_eq_true_eq]; exact hr
  rw [e1]
  walk_at "fw"
  rw [if_pos h0]
  refine ⟨.int r, rfl, .inl ⟨_, rfl⟩, ?_⟩
  rw [e2]
  exact ret_same q
theorem sorted_same {xs ms : List Int} (h : xs.Pairwise (· ≤ ·)) (hp : ms.Perm xs) (hs : ms.Pairwise (· ≤ ·)) : ms = xs :=
  List.Perm.eq_of_pairwise (fun a b _ _ h1 h2 => Int.le_antisymm h1 h2) hs h hp
theorem pv {c : Cs} {x : D} {ps : List (Int × Int)} (h : x = .lst (ps.map encP) ∨ ∃ n, x = .cell n ∧ c[n]? = some (.lst (ps.map encP))) : getS c x = some (ps.map encP) ∧ getR c x = some (ps.map encP) ∧ tyD c x = some (.bt "list") ∧ gdOk c (gdOf c x) := by
  rcases h with rfl | ⟨n, rfl, h⟩
  · exact ⟨rfl, rfl, rfl, trivial⟩
  · refine ⟨getS_cell h, getR_cell h, ?_, ?_⟩
    · rw [ty_c, h]; rfl
    · rw [gdOf_cell h]; exact ⟨h, trivial⟩
theorem w_are_pieces : ∀ ds c Q X, ds.length = d_are_pieces.ps.length → Wfc c → p_are_pieces ds c Q X → wpDef I0 d_are_pieces.N.length d_are_pieces.body ds c Q X := by
  intro ds c Q X _ wf ⟨x, ps, e, hx, hn, ha, hs, q⟩
  subst e
  obtain ⟨g1, g2, g3, g4⟩ := pv hx
  show wpDef I0 3 b_are_pieces _ _ _ _
  unfold b_are_pieces
  walk_at "fw"
  simp only [g1, g2, g3]
  walk_at "fw"
  rw [show I0.cval c_MOST_PIECES = 4 from rfl, if_neg (by omega)]
  walk_at "fn"
  simp only [g1]
  walk_at "fw"
  refine F.comp_map encP (fun _ => D.bl true) g4 (by omega) (fun p hp K k => ⟨p, rfl, (ha p hp).1, (ha p hp).2.1, (ha p hp).2.2, k⟩) ?_
  rw [show (ps.map fun _ => D.bl true) = (ps.map fun _ => true).map D.bl by rw [List.map_map]; rfl]
  walk_at "fw"
  rw [show (ps.map fun _ => true).all id = true by simp]
  walk_at "fw"
  walk_at "fn"
  simp only [g1]
  walk_at "fw"
  refine F.comp_map encP (fun p => D.int p.2) g4 (by omega) (fun p hp K k => ?_) ?_
  · simp only [encP]
    walk_at "fw"
    exact k
  rw [show (ps.map fun p => D.int p.2) = (ps.map (·.2)).map D.int by rw [List.map_map]; rfl]
  walk_at "fd"
  walk_at "fn"
  intro ms hp hm
  have := sorted_same hs hp hm
  subst this
  refine b_eq_ip _ _ view_lst view_lst (show D.ipL 63 _ = true from D.ipL_ints) (show D.ipL 63 _ = true from D.ipL_ints) fun r hr => ?_
  have : r = true := hr.mpr rfl
  subst this
  exact ret_same q
theorem in_am {i : Int} (h : Am i) : amo (.int i) = true := by simp only [amo, isB, Bool.and_eq_true, decide_eq_true_eq]; exact h
theorem i_in {i lo hi : Int} (h : lo ≤ i ∧ i ≤ hi) : isB (fun i => decide (lo ≤ i) && decide (i ≤ hi)) (.int i) = true := by simp only [isB, Bool.and_eq_true, decide_eq_true_eq]; exact h
theorem w_look_at : ∀ ds c Q X, ds.length = d_look_at.ps.length → Wfc c → p_look_at ds c Q X → wpDef I0 d_look_at.N.length d_look_at.body ds c Q X := by
  intro ds c Q X _ wf ⟨x, s, e, hx, ok, q⟩
  subst e
  show wpDef I0 7 b_look_at _ _ _ _
  unfold b_look_at
  walk_at "fw"
  refine for_enum D.int (xs := [s.up, s.down]) (fun i e c' => ∃ o4 o5, e = [some (.int s.up), some (.int s.down), some (.tup [.int s.bg, .int s.rn, .int s.rs, .int s.lt]), some x, o4, o5, none] ∧ c' = c) ⟨none, none, rfl, rfl⟩ (fun _ _ _ _ => trivial) ?_ ?_
  · rintro i v e c' hv ⟨o4, o5, rfl, rfl⟩ E' hnx _ _ _
    have hv12 : 1 ≤ v ∧ v ≤ 12 := by
      match i, hv with
      | 0, h => cases h; exact ok.up
      | 1, h => cases h; exact ok.down
      | n + 2, h => cases h
    walk_at "fw"
    walk_at "fd"
    refine ⟨_, 1, 12, rfl, .inl ⟨_, rfl⟩, ?_⟩
    rw [i_in hv12]
    walk_at "fw"
    exact hnx _ _ (clean_0 rfl ⟨_, _, rfl, rfl⟩)
  rintro e c' ⟨o4, o5, rfl, rfl⟩
  walk_at "fn"
  refine for_enum D.int (xs := [s.bg, s.rn, s.rs, s.lt]) (fun i e c'' => ∃ o4 o5 o6, e = [some (.int s.up), some (.int s.down), some (.tup [.int s.bg, .int s.rn, .int s.rs, .int s.lt]), some x, o4, o5, o6] ∧ c'' = c') ⟨_, _, none, rfl, rfl⟩ (fun _ _ _ _ => trivial) ?_ ?_
  · rintro i v e c'' hv ⟨o4, o5, o6, rfl, rfl⟩ E' hnx _ _ _
    have hv12 : Am v := by
      match i, hv with
      | 0, h => cases h; exact ok.bg
      | 1, h => cases h; exact ok.rn
      | 2, h => cases h; exact ok.rs
      | 3, h => cases h; exact ok.lt
      | n + 4, h => cases h
    walk_at "fw"
    walk_at "fd"
    refine ⟨_, rfl, .inl ⟨_, rfl⟩, ?_⟩
    rw [in_am hv12]
    walk_at "fw"
    exact hnx _ _ (clean_0 rfl ⟨_, _, _, rfl, rfl⟩)
  rintro e c'' ⟨o4, o5, o6, rfl, rfl⟩
  walk_at "fn"
  refine ⟨x, s.ps, rfl, hx, ok.n, ok.am, ok.so, ?_⟩
  walk_at "fw"
  exact ret_same q
theorem w_Machine_init : ∀ ds c Q X, ds.length = d_Machine_init.ps.length → Wfc c → p_Machine_init ds c Q X → wpDef I0 d_Machine_init.N.length d_Machine_init.body ds c Q X := by
  intro ds c Q X _ wf ⟨n, x, s, e, hc, hx, ok, q⟩
  subst e
  have hn := lt_of_get hc
  show wpDef I0 8 b_Machine_init _ _ _ _
  unfold b_Machine_init
  walk_at "fh"
  refine ⟨x, s, rfl, hx, ok, ?_⟩
  walk_at "fm"
  simp only [fl_Machine]
  walk_at "fd"
  walk_at "fm"
  simp only [fl_Machine]
  walk_at "fd"
  walk_at "fm"
  simp only [fl_Machine]
  walk_at "fd"
  walk_at "fm"
  simp only [fl_Machine]
  walk_at "fd"
  walk_at "fm"
  simp only [fl_Machine]
  walk_at "fd"
  walk_at "fm"
  simp only [fl_Machine]
  walk_at "fd"
  walk_at "fm"
  have hx2 : getS (c.set n (.obj k_Machine [.int s.up, .int s.down, .int s.bg, .int s.rn, .int s.rs, .int s.lt])) x = some (s.ps.map encP) := by
    rcases hx with rfl | ⟨m, rfl, h⟩
    · rfl
    · have : n ≠ m := fun e => by subst e; rw [hc] at h; cases h
      refine getS_cell ?_
      rw [List.getElem?_set_ne this]
      exact h
  simp only [hx2, fl_Machine]
  exact ⟨by decide, by decide, ret_same q⟩
theorem make_ok {x : D} {s : Spec} {c : Cs} {Q : QE} {X : QX} (wf : Wfc c) (hx : x = .lst (s.ps.map encP) ∨ ∃ n, x = .cell n ∧ c[n]? = some (.lst (s.ps.map encP))) (ok : s.Ok) (q : Q (encM s) c) :
    I0.phi i_Machine_init [.cell c.length, .int s.up, .int s.down, .int s.bg, .int s.rn, .int s.rs, .int s.lt, x] (c ++ [.obj k_Machine []]) (makK c.length fun d c1 => clean I0.flds c.length c1 fun f c2 => Q (f d) c2) X := by
  refine ⟨c.length, x, s, rfl, app_get0, ?_, ok, ?_⟩
  · rcases hx with rfl | ⟨n, rfl, h⟩
    · exact .inl rfl
    · exact .inr ⟨n, rfl, by rw [app_getL (lt_of_get h)]; exact h⟩
  · rw [app_set0, makK_non]
    refine clean_1 (u := encM s) wf encM_nc rfl ?_
    show Q (D.sub _ (.cell c.length)) c
    rw [show D.sub (sig c.length (encM s)) (.cell c.length) = encM s from if_pos rfl]
    exact q
theorem encSp_eq {s : Spec} : encSp s = .lst [.int s.up, .int s.down, .int s.bg, .int s.rn, .int s.rs, .int s.lt, .lst (s.ps.map encP)] := rfl
theorem encM_eq {s : Spec} : encM s = .obj k_Machine [.int s.up, .int s.down, .int s.bg, .int s.rn, .int s.rs, .int s.lt, .lst (s.ps.map encP)] := rfl
theorem w_l_machine : ∀ ds c Q X, ds.length = d_l_machine.ps.length → Wfc c → p_l_machine ds c Q X → wpDef I0 d_l_machine.N.length d_l_machine.body ds c Q X := by
  intro ds c Q X _ wf ⟨s, e, ok, q⟩
  subst e
  show wpDef I0 1 b_l_machine _ _ _ _
  unfold b_l_machine
  rw [encSp_eq]
  walk_at "fw"
  exact make_ok wf (.inl rfl) ok (ret_same q)
theorem w_l_spec : ∀ ds c Q X, ds.length = d_l_spec.ps.length → Wfc c → p_l_spec ds c Q X → wpDef I0 d_l_spec.N.length d_l_spec.body ds c Q X := by
  intro ds c Q X _ wf ⟨n, h, b0, b1, l, e, hc, hb0, hb1, hl, q⟩
  subst e
  have hn := lt_of_get hc
  show wpDef I0 10 b_l_spec _ _ _ _
  unfold b_l_spec
  walk_at "fh"
  refine dr_ok hc (by omega) (by omega) fun up h1 u0 u1 => ?_
  walk_at "fz"
  refine dr_ok (set_get hn) (by omega) (by omega) fun down h2 d0 d1 => ?_
  walk_at "fz"
  refine dr_ok (set_get hn) (by omega) (by omega) fun r1 h3 r10 r11 => ?_
  walk_at "fz"
  walk_at "fd"
  refine dr_ok (set_get hn) (by omega) (by omega) fun r2 h4 r20 r21 => ?_
  walk_at "fz"
  walk_at "fd"
  refine dr_ok (set_get hn) (by omega) (by omega) fun r3 h5 r30 r31 => ?_
  walk_at "fz"
  walk_at "fd"
  walk_at "fz"
  refine dr_ok (set_get hn) (by omega) (by omega) fun r4 h6 r40 r41 => ?_
  walk_at "fz"
  walk_at "fd"
  walk_at "fz"
  walk_at "fz"
  walk_at "fd"
  walk_at "fz"
  refine dr_ok (get_app hn) (by omega) (by omega) fun r5 h7 r50 r51 => ?_
  walk_at "fz"
  refine ⟨by unfold small; omega, ?_⟩
  have k1 := mul_bd (A := 50000000000) (B := 5) (a := b1) (b := r1) (by omega) (by omega)
  have k2 := mul_bd (A := 50000000000) (B := 5) (a := b1) (b := r2) (by omega) (by omega)
  have k3 := mul_bd (A := 50000000000) (B := 5) (a := b1) (b := r3) (by omega) (by omega)
  have k4 := mul_bd (A := 50000000000) (B := 5) (a := b0) (b := r4) (by omega) (by omega)
  refine for_rng (fun i e c' => ∃ (h : Hand) (rate : Int) (ps : List (Int × Int)) (o9 : Option D), e = [some (.cell n), some (.lst [.int b0, .int b1]), some (.int l), some (.int (1 + up)), some (.int (1 + down)), some (.lst [.int (b1 * r1), .int (b1 * r2), .int (b1 * r3)]), some (.int (b0 * r4)), some (.int rate), some (.cell c.length), o9] ∧
    c' = c.set n h.c ++ [.lst (ps.map encP)] ∧ 0 ≤ rate ∧ rate ≤ i * 250000000000 ∧ ps.length = i ∧ (∀ p ∈ ps, 0 < p.1 ∧ Am p.1 ∧ 0 ≤ p.2 ∧ p.2 ≤ rate) ∧ (ps.map (·.2)).Pairwise (· ≤ ·)) ⟨h7, 0, [], none, rfl, rfl, by decide, by decide, rfl, by simp, .nil⟩ ?_ ?_
  · rintro i e c' hi ⟨h8, rate, ps, o9, rfl, rfl, q0, q1, ql, qa, qs⟩ E' hnx _ _ _
    walk_at "fz"
    walk_at "fd"
    refine dr_ok (get_app hn) (by omega) (by omega) fun r6 h9 r60 r61 => ?_
    walk_at "fz"
    walk_at "fd"
    walk_at "fz"
    refine dr_ok (get_app hn) (by omega) (by omega) fun r7 h10 r70 r71 => ?_
    walk_at "fz"
    walk_at "fd"
    have k6 := mul_bd (A := 50000000000) (B := 5) (a := b1) (b := r6) (by omega) (by omega)
    have k7 := mul_bd (A := 50000000000) (B := 5) (a := b0) (b := 1 + r7) (by omega) (by omega)
    have k8 : 0 < b0 * (1 + r7) := Int.mul_pos (by omega) (by omega)
    refine hnx _ _ (clean_0 (by simp) ⟨h10, rate + b1 * r6, ps ++ [(b0 * (1 + r7), rate + b1 * r6)], _, rfl, by simp [encP], by omega, by omega, by simp [ql], ?_, ?_⟩)
    · intro p hp
      rcases List.mem_append.mp hp with hp | hp
      · obtain ⟨z1, z2, z3, z4⟩ := qa p hp
        exact ⟨z1, z2, z3, by omega⟩
      · have : p = (b0 * (1 + r7), rate + b1 * r6) := by simpa using hp
        subst this
        exact ⟨k8, ⟨by dsimp only; omega, by dsimp only; omega⟩, by dsimp only; omega, by dsimp only; omega⟩
    · rw [List.map_append, List.pairwise_append]
      refine ⟨qs, by simp, fun a ha b hb => ?_⟩
      obtain ⟨p, hp, rfl⟩ := List.mem_map.mp ha
      have : b = rate + b1 * r6 := by simpa using hb
      subst this
      have := (qa p hp).2.2.2
      omega
  · rintro e c' ⟨h8, rate, ps, o9, rfl, rfl, q0, q1, ql, qa, qs⟩
    walk_at "fz"
    refine ret_ncsN (by simp) (wf.set h8.nc) (fun y hy => ?_) ?_
    · have : y = .lst (ps.map encP) := by simpa using hy
      subst this
      exact ⟨D.ncL_map (fun _ => rfl), rfl⟩
    · simp only [D.sub, D.subL, cleanR0]
      refine q ⟨1 + up, 1 + down, b1 * r1, b1 * r2, b1 * r3, b0 * r4, ps⟩ h8 ⟨?_, ?_, ?_, ?_, ?_, ?_, ?_, fun p hp => ?_, qs⟩
      · dsimp only; omega
      · dsimp only; omega
      · dsimp only [Am]; omega
      · dsimp only [Am]; omega
      · dsimp only [Am]; omega
      · dsimp only [Am]; omega
      · dsimp only; omega
      · obtain ⟨z1, z2, z3, z4⟩ := qa p hp
        exact ⟨z1, z2, z3, by omega⟩
theorem w_l_state : ∀ ds c Q X, ds.length = d_l_state.ps.length → Wfc c → p_l_state ds c Q X → wpDef I0 d_l_state.N.length d_l_state.body ds c Q X := by
  intro ds c Q X _ wf ⟨n, h, s, e, hc, ok, q⟩
  subst e
  have hn := lt_of_get hc
  have hu := ok.up
  have hd := ok.down
  show wpDef I0 2 b_l_state _ _ _ _
  unfold b_l_state
  rw [encSp_eq]
  walk_at "fh"
  refine dr_ok hc (by omega) (by omega) fun r h1 r0 r1 => ?_
  walk_at "fh"
  split
  · refine dr_ok (set_get hn) (by omega) (by omega) fun r2 h2 r20 r21 => ?_
    walk_at "fh"
    walk_at "fd"
    exact ret_same (q (1, r2) _ (.inl ⟨rfl, r20, r21⟩))
  · walk_at "fm"
    refine dr_ok (set_get hn) (by omega) (by omega) fun r2 h2 r20 r21 => ?_
    walk_at "fh"
    split
    · refine dr_ok (set_get hn) (by omega) (by omega) fun r3 h3 r30 r31 => ?_
      walk_at "fh"
      walk_at "fd"
      exact ret_same (q (0, r3) _ (.inr ⟨rfl, r30, by dsimp only; omega⟩))
    · walk_at "fm"
      refine dr_ok (set_get hn) (by omega) (by omega) fun r3 h3 r30 r31 => ?_
      walk_at "fh"
      walk_at "fd"
      exact ret_same (q (0, r3) _ (.inr ⟨rfl, r30, by dsimp only; omega⟩))
theorem w_may_be : ∀ ds c Q X, ds.length = d_may_be.ps.length → Wfc c → p_may_be ds c Q X → wpDef I0 d_may_be.N.length d_may_be.body ds c Q X := by
  intro ds c Q X _ wf ⟨s, st, on, e, q⟩
  subst e
  show wpDef I0 3 b_may_be _ _ _ _
  unfold b_may_be
  unfold encSt
  unfold after at q
  walk_at "fw"
  split
  · rename_i h
    rw [if_pos h] at q
    exact ret_same q
  · rename_i h
    rw [if_neg h] at q
    by_cases h0 : st.2 = 0
    · rw [if_pos h0] at q
      rw [decide_eq_true h0]; exact ret_same q
    · rw [if_neg h0] at q
      rw [decide_eq_false h0]; exact ret_same q
theorem w_state_after : ∀ ds c Q X, ds.length = d_state_after.ps.length → Wfc c → p_state_after ds c Q X → wpDef I0 d_state_after.N.length d_state_after.body ds c Q X := by
  intro ds c Q X _ wf ⟨s, st, on, st', e, ho, ha, q⟩
  subst e
  show wpDef I0 3 b_state_after _ _ _ _
  unfold b_state_after
  walk_at "fw"
  refine ⟨s, st, on, rfl, ?_⟩
  rw [ha]
  walk_at "fw"
  walk_at "fn"
  unfold after at ha
  unfold encSt
  walk_at "fw"
  split
  · rename_i h
    rw [if_pos h] at ha
    injection ha with ha
    subst ha
    walk_at "fd"
    exact ret_same q
  · rename_i h
    rw [if_neg h] at ha
    split at ha
    · injection ha with ha
      subst ha
      walk_at "fn"
      rcases ho with rfl | rfl
      · simp only [show ¬ ((0 : Int) = 1) by decide, if_false] at *
        walk_at "fn"
        rw [encM_eq]
        simp only [attK_obj, onO_some]
        walk_at "fw"
        walk_at "fd"
        exact ret_same q
      · simp only [if_true] at *
        rw [encM_eq]
        simp only [attK_obj, onO_some]
        walk_at "fw"
        walk_at "fd"
        exact ret_same q
    · cases ha
theorem w_l_same_0 : ∀ ds c Q X, ds.length = d_l_same_0.ps.length → Wfc c → p_l_same_0 ds c Q X → wpDef I0 d_l_same_0.N.length d_l_same_0.body ds c Q X := by
  intro ds c Q X _ wf ⟨a, b, d, e, ha, hb, hd, q⟩
  subst e
  show wpDef I0 3 b_l_same_0 _ _ _ _
  unfold b_l_same_0
  have at_ : (∃ i, d = .int i) ∨ (∃ i, d = .bl i) ∨ (∃ i, d = .str i) ∨ d = .non := by
    cases d <;> first | exact .inl ⟨_, rfl⟩ | exact .inr (.inl ⟨_, rfl⟩) | exact .inr (.inr (.inl ⟨_, rfl⟩)) | exact .inr (.inr (.inr rfl)) | exact hd.elim
  have un : ∀ x, view c x = some d → x = d := fun x hx => by
    cases x with
    | cell n =>
      simp only [view, Option.map_eq_some_iff] at hx
      obtain ⟨xs, _, rfl⟩ := hx
      rcases at_ with ⟨_, h⟩ | ⟨_, h⟩ | ⟨_, h⟩ | h <;> cases h
    | _ => cases hx; rfl
  have e1 := un a ha
  have e2 := un b hb
  subst e1; subst e2
  rcases at_ with ⟨i, rfl⟩ | ⟨i, rfl⟩ | ⟨i, rfl⟩ | rfl
  · walk_at "fw"
    walk_at "fn"
    walk_at "fn"
    exact ret_same q
  · walk_at "fw"
    walk_at "fn"
    exact ret_same q
  · walk_at "fw"
    walk_at "fn"
    walk_at "fn"
    walk_at "fn"
    exact ret_same q
  · walk_at "fw"
    walk_at "fn"
    walk_at "fn"
    walk_at "fn"
    walk_at "fn"
    exact ret_same q
theorem viewS {c : Cs} {x : D} {ds : List D} (h : view c x = some (.lst ds)) : getS c x = some ds ∧ tyD c x = some (.bt "list") := by
  cases x <;> try (simp only [view, Option.some.injEq] at h; cases h)
  · exact ⟨rfl, rfl⟩
  · rename_i n
    simp only [view, Option.map_eq_some_iff] at h
    obtain ⟨ys, h1, h2⟩ := h
    cases h2
    cases hc : c[n]? with
    | none => rw [hc] at h1; cases h1
    | some z =>
      rw [hc] at h1
      cases z with
      | lst zs =>
        cases h1
        exact ⟨getS_cell hc, by rw [ty_c, hc]; rfl⟩
      | _ => cases h1
theorem viewT {c : Cs} {x : D} {ds : List D} (h : view c x = some (.tup ds)) : x = .tup ds := by
  cases x <;> try (simp only [view, Option.some.injEq] at h; cases h)
  · rfl
  · simp only [view, Option.map_eq_some_iff] at h
    obtain ⟨ys, h1, h2⟩ := h
    cases h2
theorem viewA {c : Cs} {x d : D} (h : view c x = some d) (hd : ∀ ds, d ≠ .lst ds) : x = d := by
  cases x <;> try (simp only [view, Option.some.injEq] at h; exact h)
  · simp only [view, Option.map_eq_some_iff] at h
    obtain ⟨ys, h1, h2⟩ := h
    exact absurd h2.symm (hd _)
theorem view_nc {c : Cs} {d : D} (h : ∀ n, d ≠ .cell n) : view c d = some d := by
  cases d <;> first | rfl | exact absurd rfl (h _)
theorem Pl.ncell {k n : Nat} {d : D} (h : Pl k d) : d ≠ .cell n := by
  rintro rfl
  cases k <;> exact h.elim
theorem w_l_same : ∀ ds c Q X, ds.length = d_l_same.ps.length → Wfc c → p_l_same ds c Q X → wpDef I0 d_l_same.N.length d_l_same.body ds c Q X := by
  intro ds c Q X _ wf ⟨a, b, d, e, ha, hb, hd, q⟩
  subst e
  show wpDef I0 3 b_l_same _ _ _ _
  unfold b_l_same
  cases d with
  | int i =>
    have e1 := viewA ha (by simp)
    have e2 := viewA hb (by simp)
    subst e1; subst e2
    walk_at "fw"
    walk_at "fn"
    walk_at "fn"
    exact ret_same q
  | bl i =>
    have e1 := viewA ha (by simp)
    have e2 := viewA hb (by simp)
    subst e1; subst e2
    walk_at "fw"
    walk_at "fn"
    exact ret_same q
  | str i =>
    have e1 := viewA ha (by simp)
    have e2 := viewA hb (by simp)
    subst e1; subst e2
    walk_at "fw"
    walk_at "fn"
    walk_at "fn"
    walk_at "fn"
    exact ret_same q
  | non =>
    have e1 := viewA ha (by simp)
    have e2 := viewA hb (by simp)
    subst e1; subst e2
    walk_at "fw"
    walk_at "fn"
    walk_at "fn"
    walk_at "fn"
    walk_at "fn"
    exact ret_same q
  | tup es =>
    have e1 := viewT ha
    have e2 := viewT hb
    subst e1; subst e2
    obtain ⟨hl, he⟩ := hd
    walk_at "fw"
    walk_at "fn"
    refine ⟨by unfold small; omega, ?_⟩
    show compL _ _ _ _ _ _ ((List.range (Int.toNat es.length)).map fun (i : Nat) => D.int (0 + (i : Int))) _ _
    refine F.comp_map (fun (i : Nat) => D.int (0 + (i : Int))) (fun _ => D.bl true) trivial (by simp; omega) (fun i hi K k => ?_) ?_
    · have hi' : i < es.length := by simpa using hi
      walk_at "fw"
      rw [idx_some (atI_pos (d := es[i]) (by omega) (by rw [show ((0 : Int) + (i : Int)).toNat = i by omega]; exact List.getElem?_eq_getElem hi'))]
      rw [idx_some (atI_pos (d := es[i]) (by omega) (by rw [show ((0 : Int) + (i : Int)).toNat = i by omega]; exact List.getElem?_eq_getElem hi'))]
      have hp := he es[i] (by simp)
      exact ⟨_, _, es[i], rfl, view_nc fun _ => hp.ncell, view_nc fun _ => hp.ncell, hp, k⟩
    · rw [show ((List.range (Int.toNat es.length)).map fun _ => D.bl true) = ((List.range (Int.toNat es.length)).map fun _ => true).map D.bl by rw [List.map_map]; rfl]
      walk_at "fw"
      rw [show ((List.range (Int.toNat es.length)).map fun _ => true).all id = true by simp]
      exact ret_same q
  | lst es =>
    obtain ⟨a1, a2⟩ := viewS ha
    obtain ⟨b1, b2⟩ := viewS hb
    obtain ⟨hl, he⟩ := hd
    walk_at "fw"
    simp only [a1, a2, b1, b2]
    walk_at "fw"
    walk_at "fn"
    simp only [a1, a2, b1, b2]
    walk_at "fw"
    refine ⟨by unfold small; omega, ?_⟩
    show compL _ _ _ _ _ _ ((List.range (Int.toNat es.length)).map fun (i : Nat) => D.int (0 + (i : Int))) _ _
    refine F.comp_map (fun (i : Nat) => D.int (0 + (i : Int))) (fun _ => D.bl true) trivial (by simp; omega) (fun i hi K k => ?_) ?_
    · have hi' : i < es.length := by simpa using hi
      walk_at "fw"
      simp only [a1, b1]
      rw [idx_some (atI_pos (d := es[i]) (by omega) (by rw [show ((0 : Int) + (i : Int)).toNat = i by omega]; exact List.getElem?_eq_getElem hi'))]
      simp only [a1, b1]
      rw [idx_some (atI_pos (d := es[i]) (by omega) (by rw [show ((0 : Int) + (i : Int)).toNat = i by omega]; exact List.getElem?_eq_getElem hi'))]
      have hp := he es[i] (by simp)
      exact ⟨_, _, es[i], rfl, view_nc fun _ => hp.ncell, view_nc fun _ => hp.ncell, hp, k⟩
    · rw [show ((List.range (Int.toNat es.length)).map fun _ => D.bl true) = ((List.range (Int.toNat es.length)).map fun _ => true).map D.bl by rw [List.map_map]; rfl]
      walk_at "fw"
      rw [show ((List.range (Int.toNat es.length)).map fun _ => true).all id = true by simp]
      exact ret_same q
  | _ => exact hd.elim
theorem viewI {c : Cs} {x : D} {xs : List Int} (h : view c x = some (.lst (xs.map D.int))) : getS c x = some (xs.map D.int) ∧ gdOk c (gdOf c x) := by
  cases x <;> try (simp only [view, Option.some.injEq] at h; cases h)
  · exact ⟨rfl, trivial⟩
  · rename_i n
    simp only [view, Option.map_eq_some_iff] at h
    obtain ⟨ys, h1, h2⟩ := h
    cases h2
    cases hc : c[n]? with
    | none => rw [hc] at h1; cases h1
    | some z =>
      rw [hc] at h1
      cases z with
      | lst zs =>
        cases h1
        exact ⟨getS_cell hc, by rw [gdOf_cell hc]; exact ⟨hc, trivial⟩⟩
      | _ => cases h1
theorem w_run_fault : ∀ ds c Q X, ds.length = d_run_fault.ps.length → Wfc c → p_run_fault ds c Q X → wpDef I0 d_run_fault.N.length d_run_fault.body ds c Q X := by
  intro ds c Q X _ wf ⟨s, st, x, xs, e, hx, hxl, ok, so, hb, q⟩
  subst e
  obtain ⟨g1, g2⟩ := viewI hx
  show wpDef I0 5 b_run_fault _ _ _ _
  unfold b_run_fault
  walk_at "fw"
  simp only [g1]
  walk_at "fw"
  refine for_enum D.int (fun i e c' => ∃ st' o3 o4, e = [some (encM s), some (encSt st'), some x, o3, o4] ∧ c' = c ∧ StOk s st' ∧ fault s st 0 xs = fault s st' i (xs.drop i)) ⟨st, none, none, rfl, rfl, so, rfl⟩ (fun _ _ _ ⟨_, _, _, _, e, _⟩ => by subst e; exact g2) ?_ ?_
  · rintro i on e c' hi ⟨st', o3, o4, rfl, rfl, so', hf⟩ E' hnx _ hrt _
    have ho := hb on (List.mem_of_getElem? hi)
    have hd : xs.drop i = on :: xs.drop (i + 1) := by
      obtain ⟨h1, h2⟩ := List.getElem?_eq_some_iff.mp hi
      rw [List.drop_eq_getElem_cons h1, h2]
    rw [hd] at hf
    simp only [fault] at hf
    walk_at "fw"
    walk_at "fd"
    refine ⟨s, st', on, rfl, ?_⟩
    cases ha : after s st' on with
    | none =>
      rw [ha] at hf
      walk_at "fw"
      rw [hf] at q
      exact hrt _ _ (ret_same q)
    | some st2 =>
      rw [ha] at hf
      walk_at "fw"
      walk_at "fn"
      refine ⟨s, st', on, st2, rfl, ho, ha, ?_⟩
      walk_at "fd"
      walk_at "fw"
      exact hnx _ _ (clean_0 rfl ⟨st2, _, _, rfl, rfl, so'.after ok ho ha, hf⟩)
  · rintro e c' ⟨st', o3, o4, rfl, rfl, so', hf⟩
    rw [List.drop_length] at hf
    rw [hf] at q
    walk_at "fn"
    exact ret_same q
theorem w_stints_of : ∀ ds c Q X, ds.length = d_stints_of.ps.length → Wfc c → p_stints_of ds c Q X → wpDef I0 d_stints_of.N.length d_stints_of.body ds c Q X := by
  intro ds c Q X _ wf ⟨xs, e, hb, hl, q⟩
  subst e
  show wpDef I0 5 b_stints_of _ _ _ _
  unfold b_stints_of
  walk_at "fw"
  walk_at "fd"
  walk_at "fn"
  refine for_enum D.int (fun i e c' => ∃ S o2 o3 o4, e = [some (.lst (xs.map D.int)), some (.cell c.length), o2, o3, o4] ∧ c' = c ++ [.lst (S.map encS)] ∧ Good (xs.take i) S) ⟨[], none, none, none, rfl, rfl, .nil⟩ (fun _ _ _ _ => trivial) ?_ ?_
  · rintro i x e c' hx ⟨S, o2, o3, o4, rfl, rfl, g⟩ E' hnx _ _ _
    have hi := (List.getElem?_eq_some_iff.mp hx).1
    walk_at "fw"
    walk_at "fd"
    have ht : xs.take (i + 1) = xs.take i ++ [x] := by rw [List.take_add_one, hx]; rfl
    have hx01 : x = 0 ∨ x = 1 := hb x (List.mem_of_getElem? hx)
    have hlen : (xs.take i).length = i := by rw [List.length_take]; omega
    have hS := g.len
    have fresh : (∀ a, S.getLast? = some a → a.1 ≠ x) → S.length < 16777216 ∧ E'.nx [some (D.lst (List.map D.int xs)), some (D.cell (List.length c)), some (D.int i), some (D.int x), o4] (c ++ [Cont.lst (List.map encS S ++ [D.tup [D.int x, D.int i, D.int 1]])]) := fun hne => by
      refine ⟨by omega, hnx _ _ (clean_0 (by simp) ⟨S ++ [(x, i, 1)], _, _, _, rfl, by simp [encS], ?_⟩)⟩
      rw [ht]
      have z := Good.snoc (m := 1) g hx01 hne (Nat.le_refl _)
      rwa [hlen] at z
    split
    · rename_i hi0
      obtain ⟨k, rfl⟩ : ∃ k, i = k + 1 := ⟨i - 1, by omega⟩
      refine idx_ints (by omega) (by omega) fun z hz => ?_
      have hz' : (xs.take (k + 1)).getLast? = some z := by
        have e : (((k + 1 : Nat) : Int) - 1).toNat = k := by omega
        rw [e] at hz
        rw [List.take_add_one, hz, List.getLast?_append]; rfl
      walk_at "fw"
      split
      · rename_i hxz
        subst hxz
        rcases List.eq_nil_or_concat S with rfl | ⟨S', a, rfl⟩
        · have := g.nn rfl
          rw [this] at hz'; cases hz'
        · rw [List.concat_eq_append] at *
          have ga := g.last
          rw [hz', Option.some.injEq] at ga
          rw [List.map_append, List.map_cons, List.map_nil, List.getLast?_append, List.dropLast_concat]
          simp only [List.getLast?_singleton, Option.some_or]
          walk_at "fw"
          walk_at "fn"
          simp only [encS]
          walk_at "fw"
          rw [List.length_append] at hS
          refine ⟨by omega, hnx _ _ (clean_0 (by simp) ⟨S' ++ [(a.1, a.2.1, a.2.2 + 1)], _, _, _, rfl, ?_, ?_⟩)⟩
          · rw [ga]; simp [encS]
          · rw [ht, ga]; exact g.grow
      · rename_i hxz
        walk_at "fw"
        refine fresh fun a ha => ?_
        rcases List.eq_nil_or_concat S with rfl | ⟨S', a', rfl⟩
        · cases ha
        · rw [List.concat_eq_append] at g ha
          have ga := g.last
          rw [List.getLast?_append] at ha
          simp at ha
          subst ha
          rw [hz'] at ga
          injection ga with ga
          rw [← ga]; exact fun e => hxz e.symm
    · rename_i hi0
      have : i = 0 := by omega
      subst this
      refine fresh fun a ha => ?_
      rw [List.take_zero] at g
      have := g.len
      cases S with
      | nil => cases ha
      | cons => simp at this
  · rintro e c' ⟨S, o2, o3, o4, rfl, rfl, g⟩
    rw [List.take_length] at g
    walk_at "fn"
    exact ret_same (q S g)
theorem rep1 {o : Int} {k : Nat} : (List.replicate k [D.int o]).flatten = (List.replicate k o).map D.int := by
  induction k with
  | zero => rfl
  | succ k ih => rw [List.replicate_succ, List.flatten_cons, ih, List.replicate_succ, List.map_cons]; rfl
theorem Bits.rep {k : Nat} {o : Int} (h : o = 0 ∨ o = 1) : Bits (List.replicate k o) := fun x hx => by rw [List.eq_of_mem_replicate hx]; exact h
theorem Bits.app {xs ys : List Int} (h : Bits xs) (h' : Bits ys) : Bits (xs ++ ys) := fun x hx => by
  rcases List.mem_append.mp hx with hx | hx
  · exact h x hx
  · exact h' x hx
theorem pick4 {Q : QE} {c : Cs} {r a0 a1 a2 a3 : Int} (h0 : 0 ≤ r) (h1 : r < 4) (k : ∀ z : Int, z = a0 ∨ z = a1 ∨ z = a2 ∨ z = a3 → Q (.int z) c) : idxS c Q r (some [.int a0, .int a1, .int a2, .int a3]) := by
  have hr : r = 0 ∨ r = 1 ∨ r = 2 ∨ r = 3 := by omega
  rcases hr with rfl | rfl | rfl | rfl
  · rw [idx0]; exact k _ (by simp)
  · rw [idx1]; exact k _ (by simp)
  · rw [idx2]; exact k _ (by simp)
  · rw [idx3]; exact k _ (by simp)
theorem w_look_through : ∀ ds c Q X, ds.length = d_look_through.ps.length → Wfc c → p_look_through ds c Q X → wpDef I0 d_look_through.N.length d_look_through.body ds c Q X := by
  intro ds c Q X _ wf ⟨s, st, x, xs, e, hx, hl, ok, so, hb, hf, q⟩
  subst e
  show wpDef I0 4 b_look_through _ _ _ _
  unfold b_look_through
  walk_at "fw"
  refine ⟨s, st, x, xs, rfl, hx, hl, ok, so, hb, ?_⟩
  rw [hf]
  simp only [encF]
  walk_at "fd"
  walk_at "fn"
  exact ret_same q
theorem w_run_state : ∀ ds c Q X, ds.length = d_run_state.ps.length → Wfc c → p_run_state ds c Q X → wpDef I0 d_run_state.N.length d_run_state.body ds c Q X := by
  intro ds c Q X _ wf ⟨s, st, x, xs, st', e, hx, hl, ok, so, hb, hr, q⟩
  subst e
  obtain ⟨g1, g2⟩ := viewI hx
  show wpDef I0 4 b_run_state _ _ _ _
  unfold b_run_state
  walk_at "fw"
  have hf : fault s st 0 xs = none := by
    have := runst_fault (s := s) (xs := xs) (st := st) (i := 0)
    rw [hr] at this
    simpa using this.symm
  refine ⟨s, st, x, xs, rfl, hx, hl, ok, so, hb, hf, ?_⟩
  walk_at "fn"
  simp only [g1]
  walk_at "fw"
  refine for_list D.int (fun i e c' => ∃ st2 o3, e = [some (encM s), some (encSt st2), some x, o3] ∧ c' = c ∧ runst s st2 (xs.drop i) = some st') ⟨st, none, rfl, rfl, by rw [List.drop_zero]; exact hr⟩ (fun _ _ _ ⟨_, _, _, e, _⟩ => by subst e; exact g2) ?_ ?_
  · rintro i on e c' hi ⟨st2, o3, rfl, rfl, hr2⟩ E' hnx _ _ _
    have ho := hb on (List.mem_of_getElem? hi)
    have hd : xs.drop i = on :: xs.drop (i + 1) := by
      obtain ⟨h1, h2⟩ := List.getElem?_eq_some_iff.mp hi
      rw [List.drop_eq_getElem_cons h1, h2]
    rw [hd] at hr2
    simp only [runst] at hr2
    cases ha : after s st2 on with
    | none => rw [ha] at hr2; cases hr2
    | some st3 =>
      rw [ha] at hr2
      walk_at "fw"
      walk_at "fd"
      refine ⟨s, st2, on, st3, rfl, ho, ha, ?_⟩
      walk_at "fd"
      walk_at "fw"
      exact hnx _ _ (clean_0 rfl ⟨st3, _, rfl, rfl, hr2⟩)
  · rintro e c' ⟨st2, o3, rfl, rfl, hr2⟩
    rw [List.drop_length] at hr2
    simp only [runst, Option.some.injEq] at hr2
    subst hr2
    walk_at "fn"
    exact ret_same q
theorem idx_pick {α : Type} {c : Cs} {Q : QE} (enc : α → D) {a b : α} {k : Int} (hk : k = 0 ∨ k = 1) : idxS c Q k (some [enc a, enc b]) = Q (enc (if k = 0 then a else b)) c := by
  rcases hk with rfl | rfl
  · rw [idx0]; rfl
  · rw [idx1]; rfl
theorem w_l_due : ∀ ds c Q X, ds.length = d_l_due.ps.length → Wfc c → p_l_due ds c Q X → wpDef I0 d_l_due.N.length d_l_due.body ds c Q X := by
  intro ds c Q X _ wf ⟨s, st, xs, e, ok, so, hb, hl, q⟩
  subst e
  have hu := ok.up
  have hdn := ok.down
  show wpDef I0 6 b_l_due _ _ _ _
  unfold b_l_due
  unfold encSt
  walk_at "fw"
  walk_at "fd"
  walk_at "fn"
  refine ⟨by unfold small; omega, ?_⟩
  rw [Int.toNat_natCast]
  refine for_rng (fun i e c' => ∃ st2 o5, e = [some (encSp s), some (.tup [.int st.1, .int st.2]), some (.lst (xs.map D.int)), some (.int st2.1), some (.int st2.2), o5] ∧ c' = c ∧ StOk s st2 ∧ fault s st 0 xs = fault s st2 i (xs.drop i) ∧ runst s st xs = runst s st2 (xs.drop i)) ⟨st, none, rfl, rfl, so, rfl, rfl⟩ ?_ ?_
  · rintro i e c' hi ⟨st2, o5, rfl, rfl, so2, hf, hr⟩ E' hnx _ hrt _
    have hx1 : xs[i]? = some xs[i] := List.getElem?_eq_getElem hi
    have ho := hb xs[i] (by simp)
    have hd : xs.drop i = xs[i] :: xs.drop (i + 1) := List.drop_eq_getElem_cons hi
    rw [hd] at hf hr
    simp only [fault, runst] at hf hr
    generalize xs[i] = on at *
    have hp : 0 ≤ st2.2 := by unfold StOk at so2; omega
    have pk : ∀ {c : Cs} {Q : QE}, idxS c Q ((0 : Int) + (i : Int)) (some (xs.map D.int)) = Q (.int on) c := fun {c Q} => by
      refine idx_some (atI_pos (by omega) ?_)
      rw [show ((0 : Int) + (i : Int)).toNat = i by omega, List.getElem?_map, hx1]; rfl
    walk_at "fw"
    walk_at "fd"
    rw [pk]
    walk_at "fw"
    split
    · rename_i h
      have ha : after s st2 on = some (on, if st2.2 - 1 > 0 then st2.2 - 1 else 0) := by unfold after; rw [if_pos h]
      rw [ha] at hf hr
      walk_at "fn"
      rw [← h]
      exact hnx _ _ (clean_0 rfl ⟨_, _, rfl, rfl, so2.after ok ho ha, hf, hr⟩)
    · rename_i h
      split
      · rename_i h2
        have ha : after s st2 on = none := by unfold after; rw [if_neg h, if_neg (by omega)]
        rw [ha] at hf hr
        dsimp only at hf hr
        rw [hf, hr] at q
        walk_at "fd"
        rw [show (0 : Int) + (i : Int) = i by omega]
        exact hrt _ _ (ret_same q)
      · rename_i h2
        have ha : after s st2 on = some (on, (if on = 1 then s.up else s.down) - 1) := by unfold after; rw [if_neg h, if_pos (by omega)]
        rw [ha] at hf hr
        walk_at "fn"
        rw [pk]
        walk_at "fw"
        walk_at "fd"
        walk_at "fn"
        unfold encSp
        walk_at "fw"
        rw [idx_pick D.int ho]
        walk_at "fd"
        walk_at "fn"
        have e1 : (if (if on = 0 then s.down else s.up) - 1 > 0 then (if on = 0 then s.down else s.up) - 1 else 0) = (if on = 1 then s.up else s.down) - 1 := by
          rcases ho with rfl | rfl
          · simp only [if_true, show ¬ ((0 : Int) = 1) by decide, if_false]; split <;> omega
          · simp only [if_true, show ¬ ((1 : Int) = 0) by decide, if_false]; split <;> omega
        rw [e1]
        exact hnx _ _ (clean_0 rfl ⟨_, _, rfl, rfl, so2.after ok ho ha, hf, hr⟩)
  · rintro e c' ⟨st2, o5, rfl, rfl, so2, hf, hr⟩
    rw [List.drop_length] at hf hr
    simp only [fault, runst] at hf hr
    rw [hf, hr] at q
    walk_at "fn"
    walk_at "fd"
    exact ret_same q
theorem w_l_row : ∀ ds c Q X, ds.length = d_l_row.ps.length → Wfc c → p_l_row ds c Q X → wpDef I0 d_l_row.N.length d_l_row.body ds c Q X := by
  intro ds c Q X _ wf ⟨n, h, s, st, e, hc, ok, so, q⟩
  subst e
  have hn := lt_of_get hc
  have hu := ok.up
  have hdn := ok.down
  show wpDef I0 8 b_l_row _ _ _ _
  unfold b_l_row
  unfold encSt encSp
  walk_at "fh"
  refine dr_ok hc (by omega) (by omega) fun r h1 r0 r1 => ?_
  walk_at "fh"
  refine ⟨by decide, ?_⟩
  rw [idx_pick D.int (by omega)]
  walk_at "fm"
  have hon : (if r / 3 = 0 then st.1 else 1 - st.1) = 0 ∨ (if r / 3 = 0 then st.1 else 1 - st.1) = 1 := by
    unfold StOk at so
    split <;> omega
  generalize (if r / 3 = 0 then st.1 else 1 - st.1) = on at hon ⊢
  have fin : ∀ (due : Int) (h : Hand), 0 ≤ due → due ≤ 60 → KS I0 r_l_row_8 c.length
      { nx := fun x c' => Ret I0.flds c.length Q D.non c', rt := fun d c' => Ret I0.flds c.length Q d c', bk := fun x x_1 => False, ct := fun x x_1 => False }
      (fun k fs x c' => clean I0.flds c.length c' fun f c'' => X k (List.map f fs) c'')
      [some (.cell n), some (.lst [.int s.up, .int s.down, .int s.bg, .int s.rn, .int s.rs, .int s.lt, .lst (s.ps.map encP)]), some (.tup [.int st.1, .int st.2]), some (.int on), some (.int due), none, none, none] (c.set n h.c) := fun due h d0 d1 => by
    walk_at "fm"
    walk_at "fd"
    walk_at "fm"
    refine dr_ok (set_get hn) (by omega) (by omega) fun r2 h2 r20 r21 => ?_
    walk_at "fh"
    refine pick4 r20 r21 fun z hz => ?_
    refine dr_ok (set_get hn) (by omega) (by omega) fun r3 h3 r30 r31 => ?_
    walk_at "fh"
    refine ⟨by unfold small; omega, ?_⟩
    refine for_rng (fun i e c' => ∃ (h : Hand) (xs : List Int) (o d : Int) (o6 o7 : Option D), e = [some (.cell n), some (.lst [.int s.up, .int s.down, .int s.bg, .int s.rn, .int s.rs, .int s.lt, .lst (s.ps.map encP)]), some (.tup [.int st.1, .int st.2]), some (.int o), some (.int d), some (.lst (xs.map D.int)), o6, o7] ∧ c' = c.set n h.c ∧ Bits xs ∧ (o = 0 ∨ o = 1) ∧ 0 ≤ d ∧ d ≤ 60 ∧ xs.length ≤ 70 * i) ⟨h3, [], on, due, none, none, rfl, rfl, fun _ h => (by cases h), hon, d0, d1, by simp⟩ ?_ ?_
    · rintro i e c' hi ⟨h5, xs, o, d, o6, o7, rfl, rfl, hb, ho, d0, d1, hl⟩ E' hnx _ _ _
      walk_at "fh"
      walk_at "fd"
      refine dr_ok (set_get hn) (by omega) (by omega) fun r5 h6 r50 r51 => ?_
      walk_at "fh"
      walk_at "fd"
      refine dr_ok (set_get hn) (by omega) (by omega) fun r6 h7 r60 r61 => ?_
      walk_at "fh"
      refine ⟨by decide, ?_⟩
      rw [idx_pick D.int (by omega)]
      walk_at "fh"
      have hm : ∃ m : Int, (if d + r5 - (if r6 / 4 = 0 then 0 else 1) > 1 then d + r5 - (if r6 / 4 = 0 then 0 else 1) else 1) = m ∧ 1 ≤ m ∧ m ≤ 64 := ⟨_, rfl, by split <;> omega, by split <;> split <;> omega⟩
      obtain ⟨m, em, m0, m1⟩ := hm
      rw [em]
      walk_at "fm"
      rw [rep1, ← List.map_append]
      simp only [List.length_replicate, List.length_map]
      refine ⟨⟨by omega, by omega, by omega⟩, by omega, ?_⟩
      walk_at "fm"
      walk_at "fd"
      walk_at "fm"
      walk_at "fd"
      rw [idx_pick D.int (by omega)]
      refine hnx _ _ (clean_0 (by simp) ⟨h7, _, _, _, _, _, rfl, rfl, hb.app (.rep ho), by omega, ?_, ?_, ?_⟩)
      · split <;> omega
      · split <;> omega
      · simp only [List.length_append, List.length_replicate]; omega
    · rintro e c' ⟨h5, xs, o, d, o6, o7, rfl, rfl, hb, ho, d0, d1, hl⟩
      walk_at "fm"
      refine dr_ok (set_get hn) (by omega) (by omega) fun r5 h6 r50 r51 => ?_
      walk_at "fh"
      rw [cutT (by omega), ← List.map_take]
      refine ret_same (q _ h6 (fun x hx => hb x (List.mem_of_mem_take hx)) ?_)
      rw [List.length_take]
      omega
  have s0 : 0 ≤ st.2 ∧ st.2 ≤ 60 := by unfold StOk at so; omega
  walk_at "fm"
  split
  · exact fin _ _ s0.1 s0.2
  · refine dr_ok (set_get hn) (by omega) (by omega) fun r2 h2 r20 r21 => ?_
    walk_at "fh"
    split
    · walk_at "fd"
      rw [idx_pick D.int hon]
      refine fin _ _ ?_ ?_ <;> split <;> omega
    · exact fin _ _ s0.1 s0.2
/-- stints from the front -/
inductive Fr : Nat → Option Int → List (Int × Nat × Nat) → List Int → Prop
  | nil {i p} : Fr i p [] []
  | cons {i p o m S xs} : (o = 0 ∨ o = 1) → p ≠ some o → 1 ≤ m → Fr (i + m) (some o) S xs → Fr i p ((o, i, m) :: S) (List.replicate m o ++ xs)
theorem Fr.snoc {i p S xs o m} (h : Fr i p S xs) (ho : o = 0 ∨ o = 1) (hl : ∀ a, S.getLast? = some a → a.1 ≠ o) (hp : S = [] → p ≠ some o) (hm : 1 ≤ m) : Fr i p (S ++ [(o, i + xs.length, m)]) (xs ++ List.replicate m o) := by
  induction h with
  | @nil i p =>
    have z := Fr.cons (i := i) (p := p) (S := []) (xs := []) ho (hp rfl) hm .nil
    simpa using z
  | @cons i p o' m' S xs ho' hp' hm' hf ih =>
    have z := ih (fun a ha => hl a (by
      cases S with
      | nil => cases ha
      | cons b r => rw [List.getLast?_cons_cons]; exact ha)) (fun e => by
      subst e
      intro e2
      injection e2 with e2
      exact hl _ rfl e2)
    have z2 := Fr.cons (i := i) (p := p) ho' hp' hm' z
    rw [List.cons_append, List.append_assoc]
    rw [show i + (List.replicate m' o' ++ xs).length = i + m' + xs.length by simp; omega]
    exact z2
theorem Good.fr {xs S} (h : Good xs S) : Fr 0 none S xs := by
  induction h with
  | nil => exact .nil
  | snoc g ho hl hm ih =>
    have z := ih.snoc ho hl (fun _ => by simp) hm
    rwa [Nat.zero_add] at z
def Wt (s : Spec) (o : Int) : Int := if o = 0 then s.down else s.up
def sb (d : Int) (m : Nat) : Int := if d - m > 0 then d - m else 0
def byT (s : Spec) : Int → List (Int × Nat × Nat) → Option Nat
  | _, [] => none
  | d, (o, f, m) :: S => if d > 0 then some f else byT s (sb (Wt s o) m) S
theorem fault_rep {s : Spec} {o : Int} {r : List Int} : ∀ {m i : Nat} {d : Int}, 0 ≤ d → fault s (o, d) i (List.replicate m o ++ r) = fault s (o, sb d m) (i + m) r
  | 0, i, d, h => by
    have : sb d 0 = d := by unfold sb; split <;> omega
    rw [this]; rfl
  | m + 1, i, d, h => by
    rw [List.replicate_succ, List.cons_append]
    simp only [fault]
    have ha : after s (o, d) o = some (o, if d - 1 > 0 then d - 1 else 0) := by unfold after; rw [if_pos rfl]
    rw [ha]
    dsimp only
    rw [fault_rep (m := m) (by split <;> omega)]
    have e : sb (if d - 1 > 0 then d - 1 else 0) m = sb d (m + 1) := by
      unfold sb
      split <;> split <;> split <;> omega
    rw [e, show i + 1 + m = i + (m + 1) by omega]
theorem fault_byT {s : Spec} (ok : s.Ok) {i p S xs} (h : Fr i p S xs) : ∀ {o' : Int} {d : Int}, p = some o' ∨ (p = none ∧ ∀ a r, S = a :: r → a.1 ≠ o') → 0 ≤ d → fault s (o', d) i xs = byT s d S := by
  have hu := ok.up
  have hdn := ok.down
  induction h with
  | nil => intros; rfl
  | @cons i p o m S xs ho hp hm hf ih =>
    intro o' d hpo hd
    have hne : o ≠ o' := by
      rcases hpo with rfl | ⟨_, h⟩
      · exact fun e => hp (by rw [e])
      · exact h _ _ rfl
    obtain ⟨k, rfl⟩ : ∃ k, m = k + 1 := ⟨m - 1, by omega⟩
    rw [List.replicate_succ, List.cons_append]
    simp only [fault, byT]
    unfold after
    rw [if_neg hne]
    by_cases h0 : d = 0
    · rw [if_pos h0]
      dsimp only
      have eW : (if o = 1 then s.up else s.down) = Wt s o := by
        unfold Wt
        rcases ho with rfl | rfl <;> rfl
      have hW : 1 ≤ Wt s o := by unfold Wt; split <;> omega
      rw [eW, if_neg (show ¬ d > 0 by omega), fault_rep (by omega), show i + 1 + k = i + (k + 1) by omega]
      have e : sb (Wt s o - 1) k = sb (Wt s o) (k + 1) := by
        unfold sb
        split <;> split <;> omega
      rw [e]
      refine ih (.inl rfl) ?_
      unfold sb; split <;> omega
    · rw [if_neg h0, if_pos (by omega)]
theorem Fr.get {i p S xs} (h : Fr i p S xs) : ∀ {j a b}, S[j]? = some a → S[j + 1]? = some b → b.2.1 = a.2.1 + a.2.2 := by
  induction h with
  | nil => intro j a b h; simp at h
  | @cons i p o m S xs ho hp hm hf ih =>
    intro j a b ha hb
    cases j with
    | zero =>
      simp only [List.getElem?_cons_zero, Option.some.injEq] at ha
      subst ha
      rw [List.getElem?_cons_succ] at hb
      cases hf with
      | nil => simp at hb
      | cons _ _ _ _ =>
        simp only [List.getElem?_cons_zero, Option.some.injEq] at hb
        subst hb
        rfl
    | succ j =>
      rw [List.getElem?_cons_succ] at ha hb
      exact ih ha hb
theorem first_same {s : Spec} (ok : s.Ok) {o f m S xs} {d : Int} (h : Fr 0 none ((o, f, m) :: S) xs) (hd : 0 ≤ d) : fault s (o, d) 0 xs = byT s (sb d m) S := by
  cases h with
  | cons ho hp hm hf =>
    rw [fault_rep hd]
    refine fault_byT ok hf (.inl rfl) ?_
    unfold sb; split <;> omega
theorem first_zero {o f m S xs} (h : Fr 0 none ((o, f, m) :: S) xs) : f = 0 := by
  cases h; rfl
theorem w_l_by_stints : ∀ ds c Q X, ds.length = d_l_by_stints.ps.length → Wfc c → p_l_by_stints ds c Q X → wpDef I0 d_l_by_stints.N.length d_l_by_stints.body ds c Q X := by
  intro ds c Q X _ wf ⟨s, st, S, xs, e, ok, so, hg, hl, q⟩
  subst e
  have hu := ok.up
  have hdn := ok.down
  have hfr := hg.fr
  have hSl := hg.len
  have s2 : 0 ≤ st.2 := by unfold StOk at so; omega
  generalize hF : fault s st 0 xs = F at q
  show wpDef I0 8 b_l_by_stints _ _ _ _
  unfold b_l_by_stints
  unfold encSt encSp
  walk_at "fw"
  walk_at "fn"
  refine ⟨by unfold small; omega, ?_⟩
  rw [Int.toNat_natCast]
  refine for_rng (fun i e c' => ∃ (w : Int) (o4 o5 o6 o7 : Option D), e = [some (.lst [.int s.up, .int s.down, .int s.bg, .int s.rn, .int s.rs, .int s.lt, .lst (s.ps.map encP)]), some (.tup [.int st.1, .int st.2]), some (.lst (S.map encS)), some (.int w), o4, o5, o6, o7] ∧ c' = c ∧ (i = 0 → w = st.2) ∧ (0 < i → F = byT s 0 (S.drop i))) ⟨st.2, none, none, none, none, rfl, rfl, fun _ => rfl, fun h => absurd h (by decide)⟩ ?_ ?_
  · rintro i e c' hi ⟨w, o4, o5, o6, o7, rfl, rfl, hw0, hw1⟩ E' hnx _ hrt _
    have hx1 : S[i]? = some S[i] := List.getElem?_eq_getElem hi
    have hd : S.drop i = S[i] :: S.drop (i + 1) := List.drop_eq_getElem_cons hi
    obtain ⟨ys, _, ho, _, _, hm1, hm2, _⟩ := hg.at i S[i] hx1
    have hmx : S[i].2.2 ≤ 48 := by omega
    rw [hd] at hw1
    have hnext : ∀ b r, S.drop (i + 1) = b :: r → b.2.1 = S[i].2.1 + S[i].2.2 := fun b r h => by
      refine hfr.get hx1 (b := b) ?_
      have := congrArg (fun l => l[0]?) h
      simpa using this
    have hlast : S.drop (i + 1) = [] ↔ ¬ (i + 1 < S.length) := by rw [List.drop_eq_nil_iff]; omega
    have pk : ∀ {c : Cs} {Q : QE}, idxS c Q ((0 : Int) + (i : Int)) (some (S.map encS)) = Q (encS S[i]) c := fun {c Q} => by
      refine idx_some (atI_pos (by omega) ?_)
      rw [show ((0 : Int) + (i : Int)).toNat = i by omega, List.getElem?_map, hx1]; rfl
    generalize S[i] = a at *
    obtain ⟨o, f, m⟩ := a
    dsimp only at ho hm1 hmx hnext
    walk_at "fw"
    walk_at "fd"
    rw [pk]
    have eS : encS (o, f, m) = .tup [.int o, .int f, .int m] := rfl
    rw [eS]
    walk_at "fw"
    walk_at "fd"
    have fin : ∀ w : Int, 0 ≤ w → F = byT s (sb w m) (S.drop (i + 1)) → KS I0 r_l_by_stints_8 c'.length E' (fun k fs x c'_1 => clean I0.flds c'.length c'_1 fun f c'' => X k (List.map f fs) c'')
        [some (.lst [.int s.up, .int s.down, .int s.bg, .int s.rn, .int s.rs, .int s.lt, .lst (s.ps.map encP)]), some (.tup [.int st.1, .int st.2]), some (.lst (S.map encS)), some (.int w), some (.int (0 + (i : Int))), some (.int o), some (.int f), some (.int m)] c' := fun w hw hFw => by
      walk_at "fn"
      have nx : F = byT s 0 (S.drop (i + 1)) → E'.nx [some (.lst [.int s.up, .int s.down, .int s.bg, .int s.rn, .int s.rs, .int s.lt, .lst (s.ps.map encP)]), some (.tup [.int st.1, .int st.2]), some (.lst (S.map encS)), some (.int w), some (.int (0 + (i : Int))), some (.int o), some (.int f), some (.int m)] c' := fun h0 =>
        hnx _ _ (clean_0 rfl ⟨w, _, _, _, _, rfl, rfl, fun h => absurd h (by omega), fun _ => h0⟩)
      split
      · rename_i hmw
        split
        · rename_i hlt
          cases hS : S.drop (i + 1) with
          | nil => exact absurd (by omega) (hlast.mp hS)
          | cons b r =>
            have hb := hnext b r hS
            obtain ⟨bo, bf, bm⟩ := b
            dsimp only at hb
            rw [hS] at hFw
            simp only [byT] at hFw
            rw [if_pos (by unfold sb; split <;> omega), hb] at hFw
            rw [hFw] at q
            refine hrt _ _ (ret_same ?_)
            rw [show (f : Int) + (m : Int) = ((f + m : Nat) : Int) by omega]
            exact q
        · rename_i hlt
          have hS := hlast.mpr (by omega)
          rw [hS] at hFw
          refine nx ?_
          rw [hS, hFw]; rfl
      · rename_i hmw
        refine nx ?_
        rw [hFw]
        congr 1
        unfold sb; rw [if_neg (by omega)]
    have hWt : 0 ≤ Wt s o := by unfold Wt; split <;> omega
    rcases Nat.eq_zero_or_pos i with h0 | h0
    · subst h0
      have hw := hw0 rfl
      subst hw
      rw [List.drop_zero] at hd
      have hfr0 := hfr
      rw [hd] at hfr0
      have hf0 := first_zero hfr0
      walk_at "fn"
      rw [if_pos (by omega)]
      by_cases ho1 : o = st.1
      · rw [if_pos ho1]
        have e1 := first_same ok (d := st.2) hfr0 s2
        rw [ho1, hF] at e1
        walk_at "fn"
        rw [if_neg (by omega)]
        exact fin _ s2 e1
      · rw [if_neg ho1]
        have e1 : F = byT s st.2 ((o, f, m) :: S.drop (0 + 1)) := by
          rw [← hF]
          exact fault_byT ok hfr0 (.inr ⟨rfl, fun a r e => by injection e with e; rw [← e]; exact ho1⟩) s2
        simp only [byT] at e1
        split
        · rename_i hp
          rw [if_pos (by omega)] at e1
          rw [e1, hf0] at q
          exact hrt _ _ (ret_same q)
        · rename_i hp
          rw [if_neg (by omega)] at e1
          walk_at "fn"
          rw [idx_pick D.int ho]
          walk_at "fw"
          walk_at "fn"
          rw [if_neg (by omega)]
          exact fin _ hWt e1
    · have e1 := hw1 h0
      simp only [byT] at e1
      rw [if_neg (by decide)] at e1
      walk_at "fn"
      rw [if_neg (by omega)]
      walk_at "fn"
      rw [if_pos (by omega)]
      rw [idx_pick D.int ho]
      walk_at "fw"
      exact fin _ hWt e1
  · rintro e c' ⟨w, o4, o5, o6, o7, rfl, rfl, hw0, hw1⟩
    have : F = none := by
      rcases Nat.eq_zero_or_pos S.length with h | h
      · have hS : S = [] := List.length_eq_zero_iff.mp h
        subst hS
        have hx := hg.nn rfl
        subst hx
        rw [← hF]; rfl
      · rw [hw1 h, List.drop_length]; rfl
    rw [this] at q
    walk_at "fn"
    exact ret_same q
theorem Pl_F {k : Nat} {f : Option Nat} : Pl k (encF f) := by cases f <;> cases k <;> exact trivial
theorem encF_nc {c : Cs} {f : Option Nat} : view c (encF f) = some (encF f) := by cases f <;> rfl
theorem same_F {f : Option Nat} {c : Cs} {Q : QE} {X : QX} (q : Q (.bl true) c) : I0.phi i_l_same [encF f, encF f] c Q X := ⟨_, _, _, rfl, encF_nc, encF_nc, Pl_F, q⟩
theorem same_St {st : Int × Int} {c : Cs} {Q : QE} {X : QX} (q : Q (.bl true) c) : I0.phi i_l_same [encSt st, encSt st] c Q X := ⟨_, _, _, rfl, rfl, rfl, ⟨by simp, fun d hd => by
  have : d = .int st.1 ∨ d = .int st.2 := by simpa using hd
  rcases this with rfl | rfl <;> exact trivial⟩, q⟩
theorem encS_nc {S : List (Int × Nat × Nat)} : (Cont.lst (S.map encS)).nc = true := D.ncL_map fun _ => rfl
theorem ip_F {n : Nat} {f : Option Nat} : D.ip n (encF f) = true := by cases f <;> cases n <;> rfl
theorem w_law : ∀ ds c Q X, ds.length = d_law.ps.length → Wfc c → p_law ds c Q X → wpDef I0 d_law.N.length d_law.body ds c Q X := by
  intro ds c Q X _ wf ⟨ns, e, hl, q⟩
  subst e
  show wpDef I0 10 b_law _ _ _ _
  unfold b_law
  walk_at "fw"
  refine ⟨by unfold small; split <;> split <;> omega, ?_⟩
  refine for_rng (fun i e c' => ∃ o1 o2 o3 o4 o5 o6 o7 o8 o9, e = [some (.scr (ns.map D.int)), o1, o2, o3, o4, o5, o6, o7, o8, o9] ∧ c' = c) ⟨none, none, none, none, none, none, none, none, none, rfl, rfl⟩ ?_ ?_
  · rintro i e c' _ ⟨o1, o2, o3, o4, o5, o6, o7, o8, o9, rfl, rfl⟩ E' hnx _ _ _
    walk_at "fw"
    refine ⟨ns, _, rfl, by omega, fun h => ?_⟩
    walk_at "fw"
    walk_at "fn"
    refine dr_ok app_get0 (by omega) (by omega) fun r h1 r0 r1 => ?_
    walk_at "fw"
    rw [idx_pick D.int (by omega)]
    walk_at "fw"
    refine ⟨_, h1, 1, 1, _, rfl, app_get0, by decide, by decide, by split <;> decide, fun s h2 ok => ?_⟩
    walk_at "fw"
    refine clean_0 (by simp) ?_
    walk_at "fw"
    walk_at "fn"
    refine ⟨s, rfl, ok, ?_⟩
    walk_at "fw"
    walk_at "fn"
    refine ⟨_, h2, s, rfl, app_get0, ok, fun st h3 so => ?_⟩
    walk_at "fw"
    walk_at "fn"
    refine ⟨_, h3, s, st, rfl, app_get0, ok, so, fun xs h4 hb hxl => ?_⟩
    walk_at "fw"
    walk_at "fn"
    refine ⟨s, st, xs, rfl, ok, so, hb, hxl, ?_⟩
    walk_at "fw"
    walk_at "fd"
    walk_at "fn"
    refine ⟨s, st, _, xs, rfl, view_lst, hxl, ok, so, hb, ?_⟩
    walk_at "fw"
    walk_at "fn"
    refine same_F ?_
    walk_at "fw"
    refine ⟨xs, rfl, hb, hxl, fun S hg => ?_⟩
    refine clean_ncsN (by simp) (wf.app h4.nc) (fun y hy => (by have : y = .lst (S.map encS) := (by simpa using hy); subst this; exact ⟨encS_nc, rfl⟩)) ?_
    rw [app_len0, show D.sub (cleanR I0.flds (c'.length + 1) [Cont.lst (S.map encS)]) (.cell (c'.length + 1)) = .lst (S.map encS) from cleanR0]
    refine ⟨s, st, S, xs, rfl, ok, so, hg, hxl, ?_⟩
    refine b_ne_ip _ _ encF_nc encF_nc ip_F ip_F fun r hr => ?_
    have : r = true := hr.mpr rfl
    subst this
    have nx : ∀ o7 o8 o9, E'.nx [some (.scr (ns.map D.int)), some (.int (0 + (i : Int))), some (.cell c'.length), some (encSp s), some (encM s), some (encSt st), some (.lst (xs.map D.int)), o7, o8, o9] (c' ++ [h4.c]) := fun o7 o8 o9 => by
      refine hnx _ _ (clean_1 wf h4.nc rfl ?_)
      simp only [List.map_cons, List.map_nil, Option.map_some, sub_scr]
      exact ⟨_, _, _, _, _, _, _, _, _, rfl, trivial⟩
    walk_at "fw"
    walk_at "fn"
    have hrf := runst_fault (s := s) (xs := xs) (st := st) (i := 0)
    cases hF : fault s st 0 xs with
    | some f =>
      simp only [encF]
      walk_at "fw"
      exact nx _ _ _
    | none =>
      rw [hF] at hrf
      obtain ⟨st', hst⟩ := Option.isSome_iff_exists.mp hrf
      simp only [encF]
      walk_at "fw"
      refine ⟨s, st, _, xs, st', rfl, view_lst, hxl, ok, so, hb, hst, ?_⟩
      rw [hst]
      refine same_St ?_
      walk_at "fw"
      exact nx _ _ _
  · rintro e c' ⟨o1, o2, o3, o4, o5, o6, o7, o8, o9, rfl, rfl⟩
    walk_at "fn"
    exact ret_same q
theorem law_true (ns : List Int) (hl : ns.length ≤ 63) : phi 23 [.scr (ns.map D.int)] [] (fun d _ => d = .bl true) (fun _ _ _ => False) := ⟨ns, rfl, hl, rfl⟩
end Lw
namespace Lw
open PySem F L2
theorem D_l_open : DefOk tab phi 0 d_l_open := ⟨⟨rfl, rfl, rfl, by decide +kernel, rfl, by decide +kernel, by decide +kernel⟩, by decide +kernel, (fun _ _ _ _ _ _ us hl => match us, hl with | [_, _], _ => rfl), w_l_open⟩
theorem D_l_draw : DefOk tab phi 1 d_l_draw := ⟨⟨rfl, rfl, rfl, by decide +kernel, rfl, by decide +kernel, by decide +kernel⟩, by decide +kernel, (fun _ _ _ _ _ _ us hl => match us, hl with | [_, _], _ => rfl), w_l_draw⟩
theorem D_l_spec : DefOk tab phi 2 d_l_spec := ⟨⟨rfl, rfl, rfl, by decide +kernel, rfl, by decide +kernel, by decide +kernel⟩, by decide +kernel, (fun _ _ _ _ _ _ us hl => match us, hl with | [_, _, _], _ => rfl), w_l_spec⟩
theorem D_is_whole : DefOk tab phi 3 d_is_whole := ⟨⟨rfl, rfl, rfl, by decide +kernel, rfl, by decide +kernel, by decide +kernel⟩, by decide +kernel, (fun _ _ _ _ _ _ us hl => match us, hl with | [_], _ => rfl), w_is_whole⟩
theorem D_is_within : DefOk tab phi 4 d_is_within := ⟨⟨rfl, rfl, rfl, by decide +kernel, rfl, by decide +kernel, by decide +kernel⟩, by decide +kernel, (fun _ _ _ _ _ _ us hl => match us, hl with | [_, _, _], _ => rfl), w_is_within⟩
theorem D_is_amount : DefOk tab phi 5 d_is_amount := ⟨⟨rfl, rfl, rfl, by decide +kernel, rfl, by decide +kernel, by decide +kernel⟩, by decide +kernel, (fun _ _ _ _ _ _ us hl => match us, hl with | [_], _ => rfl), w_is_amount⟩
theorem D_is_piece : DefOk tab phi 6 d_is_piece := ⟨⟨rfl, rfl, rfl, by decide +kernel, rfl, by decide +kernel, by decide +kernel⟩, by decide +kernel, (fun _ _ _ _ _ _ us hl => match us, hl with | [_], _ => rfl), w_is_piece⟩
theorem D_are_pieces : DefOk tab phi 7 d_are_pieces := ⟨⟨rfl, rfl, rfl, by decide +kernel, rfl, by decide +kernel, by decide +kernel⟩, by decide +kernel, (fun _ _ _ _ _ _ us hl => match us, hl with | [_], _ => rfl), w_are_pieces⟩
theorem D_look_at : DefOk tab phi 8 d_look_at := ⟨⟨rfl, rfl, rfl, by decide +kernel, rfl, by decide +kernel, by decide +kernel⟩, by decide +kernel, (fun _ _ _ _ _ _ us hl => match us, hl with | [_, _, _, _], _ => rfl), w_look_at⟩
theorem D_Machine_init : DefOk tab phi 9 d_Machine_init := ⟨⟨rfl, rfl, rfl, by decide +kernel, rfl, by decide +kernel, by decide +kernel⟩, by decide +kernel, (fun _ _ _ _ _ _ us hl => match us, hl with | [_, _, _, _, _, _, _, _], _ => rfl), w_Machine_init⟩
theorem D_l_machine : DefOk tab phi 10 d_l_machine := ⟨⟨rfl, rfl, rfl, by decide +kernel, rfl, by decide +kernel, by decide +kernel⟩, by decide +kernel, (fun _ _ _ _ _ _ us hl => match us, hl with | [_], _ => rfl), w_l_machine⟩
theorem D_l_state : DefOk tab phi 11 d_l_state := ⟨⟨rfl, rfl, rfl, by decide +kernel, rfl, by decide +kernel, by decide +kernel⟩, by decide +kernel, (fun _ _ _ _ _ _ us hl => match us, hl with | [_, _], _ => rfl), w_l_state⟩
theorem D_l_row : DefOk tab phi 12 d_l_row := ⟨⟨rfl, rfl, rfl, by decide +kernel, rfl, by decide +kernel, by decide +kernel⟩, by decide +kernel, (fun _ _ _ _ _ _ us hl => match us, hl with | [_, _, _], _ => rfl), w_l_row⟩
theorem D_l_due : DefOk tab phi 13 d_l_due := ⟨⟨rfl, rfl, rfl, by decide +kernel, rfl, by decide +kernel, by decide +kernel⟩, by decide +kernel, (fun _ _ _ _ _ _ us hl => match us, hl with | [_, _, _], _ => rfl), w_l_due⟩
theorem D_may_be : DefOk tab phi 14 d_may_be := ⟨⟨rfl, rfl, rfl, by decide +kernel, rfl, by decide +kernel, by decide +kernel⟩, by decide +kernel, (fun _ _ _ _ _ _ us hl => match us, hl with | [_, _, _], _ => rfl), w_may_be⟩
theorem D_state_after : DefOk tab phi 15 d_state_after := ⟨⟨rfl, rfl, rfl, by decide +kernel, rfl, by decide +kernel, by decide +kernel⟩, by decide +kernel, (fun _ _ _ _ _ _ us hl => match us, hl with | [_, _, _], _ => rfl), w_state_after⟩
theorem D_run_fault : DefOk tab phi 16 d_run_fault := ⟨⟨rfl, rfl, rfl, by decide +kernel, rfl, by decide +kernel, by decide +kernel⟩, by decide +kernel, (fun _ _ _ _ _ _ us hl => match us, hl with | [_, _, _], _ => rfl), w_run_fault⟩
theorem D_l_same_0 : DefOk tab phi 17 d_l_same_0 := ⟨⟨rfl, rfl, rfl, by decide +kernel, rfl, by decide +kernel, by decide +kernel⟩, by decide +kernel, (fun _ _ _ _ _ _ us hl => match us, hl with | [_, _], _ => rfl), w_l_same_0⟩
theorem D_l_same : DefOk tab phi 18 d_l_same := ⟨⟨rfl, rfl, rfl, by decide +kernel, rfl, by decide +kernel, by decide +kernel⟩, by decide +kernel, (fun _ _ _ _ _ _ us hl => match us, hl with | [_, _], _ => rfl), w_l_same⟩
theorem D_l_by_stints : DefOk tab phi 19 d_l_by_stints := ⟨⟨rfl, rfl, rfl, by decide +kernel, rfl, by decide +kernel, by decide +kernel⟩, by decide +kernel, (fun _ _ _ _ _ _ us hl => match us, hl with | [_, _, _], _ => rfl), w_l_by_stints⟩
theorem D_stints_of : DefOk tab phi 20 d_stints_of := ⟨⟨rfl, rfl, rfl, by decide +kernel, rfl, by decide +kernel, by decide +kernel⟩, by decide +kernel, (fun _ _ _ _ _ _ us hl => match us, hl with | [_], _ => rfl), w_stints_of⟩
theorem D_look_through : DefOk tab phi 21 d_look_through := ⟨⟨rfl, rfl, rfl, by decide +kernel, rfl, by decide +kernel, by decide +kernel⟩, by decide +kernel, (fun _ _ _ _ _ _ us hl => match us, hl with | [_, _, _], _ => rfl), w_look_through⟩
theorem D_run_state : DefOk tab phi 22 d_run_state := ⟨⟨rfl, rfl, rfl, by decide +kernel, rfl, by decide +kernel, by decide +kernel⟩, by decide +kernel, (fun _ _ _ _ _ _ us hl => match us, hl with | [_, _, _], _ => rfl), w_run_state⟩
theorem D_law : DefOk tab phi 23 d_law := ⟨⟨rfl, rfl, rfl, by decide +kernel, rfl, by decide +kernel, by decide +kernel⟩, by decide +kernel, (fun _ _ _ _ _ _ us hl => match us, hl with | [_], _ => rfl), w_law⟩
theorem all_defs : ∀ (i : Nat) (d : DefT), tab.defs[i]? = some d → DefOk tab phi i d := fun i d h => by
  have hi : i < 24 := (List.getElem?_eq_some_iff.mp h).1
  match i, hi, h with
  | 0, _, h => cases h; exact D_l_open
  | 1, _, h => cases h; exact D_l_draw
  | 2, _, h => cases h; exact D_l_spec
  | 3, _, h => cases h; exact D_is_whole
  | 4, _, h => cases h; exact D_is_within
  | 5, _, h => cases h; exact D_is_amount
  | 6, _, h => cases h; exact D_is_piece
  | 7, _, h => cases h; exact D_are_pieces
  | 8, _, h => cases h; exact D_look_at
  | 9, _, h => cases h; exact D_Machine_init
  | 10, _, h => cases h; exact D_l_machine
  | 11, _, h => cases h; exact D_l_state
  | 12, _, h => cases h; exact D_l_row
  | 13, _, h => cases h; exact D_l_due
  | 14, _, h => cases h; exact D_may_be
  | 15, _, h => cases h; exact D_state_after
  | 16, _, h => cases h; exact D_run_fault
  | 17, _, h => cases h; exact D_l_same_0
  | 18, _, h => cases h; exact D_l_same
  | 19, _, h => cases h; exact D_l_by_stints
  | 20, _, h => cases h; exact D_stints_of
  | 21, _, h => cases h; exact D_look_through
  | 22, _, h => cases h; exact D_run_state
  | 23, _, h => cases h; exact D_law
  | i + 24, hi, _ => exact absurd hi (by omega)
abbrev R : PySem.W.OpenRow := PySem.W.OpenLaw.row PySem.Challenge.rw_stintwise_k26_whole_runs_have_long_stint
def nm0 : List PySem.Str := ["_wall", "StintError", "Wrong", "NotNow", "MOST", "is_whole", "is_within", "is_amount", "may_be", "state_after", "run_fault", "look_through", "run_state", "LONGEST", "MOST_PIECES", "is_piece", "are_pieces", "look_at", "Machine", "stints_of", "_law_open", "_law_draw", "_law_spec", "_law_machine", "_law_state", "_law_after", "_law_whole", "_law_same", "_law_row", "_law_due", "_law_by_stints"]
def nms : List PySem.Str := nm0
set_option maxHeartbeats 0 in
theorem run (w : World) : HandSHeadRun.RunEq R (PySem.W.view R.prog [38]) (hookT 5 tab) (obT 5 tab) 2840 nms w := by
  intro os
  kernel_rfl
end Lw
open PySem PySem.W PySem.Calls PyProof.Rows
set_option maxHeartbeats 0 in
theorem PySem.Challenge.cw_stintwise_k26_whole_runs_have_long_stint_holds : PySem.Challenge.rw_stintwise_k26_whole_runs_have_long_stint.Holds := by
  w_on; o_law
  refine HandSHeadRun.head_any (r := Lw.R) (q := view Lw.R.prog [38]) (H := F.hookT 5 Lw.tab) (ob := F.obT 5 Lw.tab) (M := 2840) (loose := Lw.nms) (d := HandSHeadRun.topDef Lw.R.prog 38) (kwd := []) (F.obT_eq 5 Lw.tab)
    (by kernel_rfl) (fun s => by kernel_rfl) Lw.run (by kernel_rfl) (by kernel_rfl) (by kernel_rfl) (by rfl) (by first | assumption | decide +kernel) (by decide +kernel) ⟨rfl, rfl, rfl, rfl, rfl, by decide +kernel⟩ ?hw ?hc
  case hw => w_witness2
  case hc =>
    refine F.law_end (l := PySem.Challenge.rw_stintwise_k26_whole_runs_have_long_stint) (n := 63) (k := 48) (x := "_law_script") rfl (by decide) (by kernel_rfl) ⟨rfl, by decide, by decide⟩ ?_
    intro w mg fa h Y G hm0
    obtain ⟨K, KX, c⟩ := Y
    have hm : mg ("law" : PySem.Str) = some (.ref fa) := by
      have e : (HandSHeadRun.topDef Lw.R.prog 38).name = ("law" : PySem.Str) := by kernel_rfl
      rw [← e]; exact hm0
    obtain ⟨fd, hb, hF⟩ := F.law_fd (T := Lw.tab) (phi := Lw.phi) (f := 23) (x := "_law_script") KX G c (by decide +kernel) Lw.all_defs (d := Lw.d_law) rfl rfl rfl hm
    exact ⟨K, fd, F.spF (F.T_gi Lw.tab K mg) 1 (Lw.phi 23), ⟨KX, hb⟩, fun H a ns hl only sq => F.script_ok only sq (Lw.law_true ns hl), fun base => hF _ w base⟩
