import PyProof.Rows.All
import Wide.All
import OpenK.AllK
import Wide.FinOn
import KE.KStateDown
import HandS.ForMost
import HandS.Exc
import KE.KeyNested
import KE.KDictKeyed
import HandS.SortOrd
import HandS.SortRule
import HandS.TupSets
import KE.SortData
import KE.DataMinMax
import KE.KDictCopyH
import KE.KDictDisplayH
import KE.KDictSum
import KE.GoesDict
import KE.KDictPairs
import HandS.TupLen
import HandS.ListEq
import HandS.DictTup
import PyProof.Claim2Refuses
import KE.GoesNew
import KE.GoesMore
import HandS.TupMul
import HandS.Wide
import HandS.TupAny
import HandS.Deep
import HandS.Style
import HandS.SortInts
import HandS.More
import KE.KTupSum
import KE.LtSeq
import HandS.ExcOwn
import HandS.Zip
import HandS.IsInst
import HandS.ExcInit
import HandS.ExcField
import HandS.Defaults
import HandS.HeadHook1
import KE.KExcIs
import HandS.Iter
import HandS.Flow
import HandS.Conv
import KE.KDictWalk
import HandS.Sort
import KE.KDictZip
import KE.KItemsList
import PyProof.ListNew
import PyProof.ExcBaseAll.ValueError
import HandS.TryMany
import HandS.Words
import HandS.Head0
import HandS.Head1
import HandS.Head2
import HandS.HeadEnd
import HandS.HeadHook2
import PySem.Challenge.RW_stintwise_k19_refusals_apart
set_option Elab.async false
set_option linter.all false
set_option maxRecDepth 100000
set_option maxHeartbeats 8000000
namespace F
open PySem PySem.Spec L2

/-- a value: frozen data (never changed again), or a cell (a list, dict or object that may change) -/
inductive D where
  | non | bl (b : Bool) | int (i : Int) | str (x : Str) | ty (n : String) | ref (a : Addr)
  | tup (xs : List D) | lst (xs : List D) | scr (xs : List D) | dct (ks vs : List D) | obj (k : Nat) (fs : List D)
  | cell (n : Nat)
  deriving Inhabited

/-- what a cell holds -/
inductive Cont where
  | lst (xs : List D) | dct (ks vs : List D) | obj (k : Nat) (fs : List D)
  deriving Inhabited

/-- own classes: their places, their fields' names -/
structure GI where
  K : PySem.W.Frag
  w : World
  mg : Str → Option Value
  cls : Nat → Addr
  flds : Nat → List Str
  exc : Nat → Addr
  exf : Nat → List Str

/-- a world: the abstract heap, the cells' places, what is frozen -/
structure Wd where
  H : Hp
  as : List Addr
  Fz : Addr → Prop

/-- a list of the written part -/
def KList (K : PySem.W.Frag) (a : Addr) (xs : List V) : Prop :=
  ∃ (o : Obj) (its : Array Value) (n : Nat), K.lookup a = some o ∧ o.cls = .type "list" ∧ o.dict = none ∧ o.data = .seq its n ∧ its.size ≤ sizeLine ∧ Vals xs its.toList
def KTup (K : PySem.W.Frag) (a : Addr) (xs : List V) : Prop :=
  ∃ (o : Obj) (its : Array Value) (n : Nat), K.lookup a = some o ∧ o.cls = .type "tuple" ∧ o.data = .seq its n ∧ its.size ≤ sizeLine ∧ Vals xs its.toList
def FzL (W : Wd) (a : Addr) (xs : List V) : Prop := W.Fz a ∧ W.H a = some (.lst xs)
/-- the script -/
def ScL (K : PySem.W.Frag) (W : Wd) (a : Addr) (xs : List V) : Prop := (W.Fz a ∧ ∃ o, W.H a = some (.frz o (.lst xs))) ∨ KList K a xs
def TupAt (K : PySem.W.Frag) (W : Wd) (a : Addr) (xs : List V) : Prop := W.H a = some (.tup xs) ∨ KTup K a xs
theorem FzL.seq {K : PySem.W.Frag} {W : Wd} {a : Addr} {xs : List V} (h : FzL W a xs) : SqL K W.H a xs := .inl (.inl h.2)
theorem ScL.seq {K : PySem.W.Frag} {W : Wd} {a : Addr} {xs : List V} (h : ScL K W a xs) : SqL K W.H a xs := by
  rcases h with ⟨_, o, h⟩ | h
  · exact .inl (.inr ⟨o, h⟩)
  · exact .inr h
theorem TupAt.seq {K : PySem.W.Frag} {W : Wd} {a : Addr} {xs : List V} (h : TupAt K W a xs) : SqT K W.H a xs := by
  rcases h with h | h
  · exact .inl (.inl h)
  · exact .inr h

mutual
/-- a value as a key -/
def keyN : D → Option NestedKey
  | .int i => some (.num i)
  | .bl b => some (.num (if b = true then 1 else 0))
  | .str x => some (.text x)
  | .non => some .none
  | .tup ds => (keysN ds).map .tup
  | _ => none
def keysN : List D → Option (List NestedKey)
  | [] => some []
  | d :: ds => match keyN d, keysN ds with
    | some k, some ks => some (k :: ks)
    | _, _ => none
end
def isTupN : NestedKey → Bool
  | .tup ks => decide (NestedKey.depth (.tup ks) ≤ 8)
  | _ => false
def isKey : D → Bool
  | .int _ => true
  | .str _ => true
  | _ => false
def isTupD (d : D) : Bool := match keyN d with
  | some n => isTupN n
  | none => false
/-- what stands for a dict: its very object, its keys, its values -/
structure DRep where
  o : Obj
  keys : List V
  vals : List V
namespace DRep
def ho (a : Addr) (r : DRep) : HO := .ext fun h => h.get? a = some r.o
def ok (w : World) (a : Addr) (ks : List D) (r : DRep) : Prop := r.o.ExactDict ∧ (a == sysModules) = false ∧ ∃ es ep nks, r.o.data = .dict es ep ∧ es.size ≤ sizeLine ∧ Vals r.keys (es.toList.map (·.key)) ∧ Vals r.vals (es.toList.map (·.val)) ∧
  keysN ks = some nks ∧ nks.Nodup ∧ es.toList.map (·.hash) = nks.map (NestedKey.hash w) ∧ (ks.all isKey = true ∨ ks.all isTupD = true)
theorem ho_tup {a : Addr} {r : DRep} {xs : List V} : r.ho a ≠ .tup xs := fun z => nomatch z
theorem ho_mut {a : Addr} {r : DRep} : Mut (some (r.ho a)) := trivial
end DRep

mutual
/-- the value v stands for d -/
inductive Den (G : GI) (W : Wd) : V → D → Prop
  | non : Den G W .non .non
  | bl {b} : Den G W (.bl b) (.bl b)
  | int {i} : Den G W (.int i) (.int i)
  | str {x} : Den G W (.str x) (.str x)
  | ty {n} : Den G W (.ty n) (.ty n)
  | ref {a} : Den G W (.ref a) (.ref a)
  | tup {a vs ds} : TupAt G.K W a vs → DenL G W vs ds → Den G W (.ref a) (.tup ds)
  | lst {a vs ds} : FzL W a vs → DenL G W vs ds → Den G W (.ref a) (.lst ds)
  | scr {a vs ds} : ScL G.K W a vs → DenL G W vs ds → Den G W (.ref a) (.scr ds)
  | dctK {a ks ds} {r : DRep} : W.Fz a → W.H a = some (r.ho a) → r.ok G.w a ks → DenL G W r.keys ks → DenL G W r.vals ds → Den G W (.ref a) (.dct ks ds)
  | obj {a k dx gs fs} : W.Fz a → W.H a = some (.ins (G.cls k) dx gs) → gs.map (·.1) = (G.flds k).take fs.length → DenL G W (gs.map (·.2)) fs → Den G W (.ref a) (.obj k fs)
  | cell {a n} : W.as[n]? = some a → Den G W (.ref a) (.cell n)
inductive DenL (G : GI) (W : Wd) : List V → List D → Prop
  | nil : DenL G W [] []
  | cons {v d vs ds} : Den G W v d → DenL G W vs ds → DenL G W (v :: vs) (d :: ds)
end

def CellAt (G : GI) (W : Wd) (a : Addr) : Cont → Prop
  | .lst ds => ∃ vs, W.H a = some (.lst vs) ∧ DenL G W vs ds
  | .dct ks ds => ∃ r : DRep, W.H a = some (r.ho a) ∧ r.ok G.w a ks ∧ DenL G W r.keys ks ∧ DenL G W r.vals ds
  | .obj k fs => ∃ dx gs, W.H a = some (.ins (G.cls k) dx gs) ∧ gs.map (·.1) = (G.flds k).take fs.length ∧ DenL G W (gs.map (·.2)) fs

structure Ok (G : GI) (W : Wd) (c : List Cont) : Prop where
  len : W.as.length = c.length
  nd : W.as.Nodup
  fz : ∀ b, W.Fz b → b ∉ W.as
  fzt : ∀ b, W.Fz b → ∃ o, W.H b = some o
  cell : ∀ (n : Nat) (a : Addr) (x : Cont), W.as[n]? = some a → c[n]? = some x → CellAt G W a x

/-- from one world to a later one -/
structure Fr (W W' : Wd) : Prop where
  tup : ∀ b xs, W.H b = some (.tup xs) → W'.H b = some (.tup xs)
  keep : ∀ b o, W.H b = some o → b ∉ W.as → W'.H b = some o
  fz : ∀ b, W.Fz b → W'.Fz b
  trk : ∀ b, W'.H b = none → W.H b = none
  new : ∀ b, b ∈ W'.as → b ∈ W.as ∨ W.H b = none
  fzn : ∀ b, W'.Fz b → W.Fz b ∨ W.H b = none ∨ b ∈ W.as
/-- .. where the cells stay, in their places -/
structure Ext (W W' : Wd) : Prop extends Fr W W' where
  as : W.as <+: W'.as

theorem Fr.refl (W : Wd) : Fr W W := ⟨fun _ _ h => h, fun _ _ h _ => h, fun _ h => h, fun _ h => h, fun _ h => .inl h, fun _ h => .inl h⟩
theorem Fr.trans {W W' W'' : Wd} (x : Fr W W') (y : Fr W' W'') : Fr W W'' where
  tup := fun b xs h => y.tup b xs (x.tup b xs h)
  keep := fun b o h hb => y.keep b o (x.keep b o h hb) fun h' => by
    rcases x.new b h' with z | z
    · exact hb z
    · rw [h] at z; cases z
  fz := fun b h => y.fz b (x.fz b h)
  trk := fun b h => x.trk b (y.trk b h)
  new := fun b h => by
    rcases y.new b h with z | z
    · exact x.new b z
    · exact .inr (x.trk b z)
  fzn := fun b h => by
    rcases y.fzn b h with z | z | z
    · exact x.fzn b z
    · exact .inr (.inl (x.trk b z))
    · rcases x.new b z with q | q
      · exact .inr (.inr q)
      · exact .inr (.inl q)
theorem Ext.refl (W : Wd) : Ext W W := ⟨Fr.refl W, List.prefix_refl _⟩
theorem Ext.trans {W W' W'' : Wd} (x : Ext W W') (y : Ext W' W'') : Ext W W'' := ⟨x.toFr.trans y.toFr, x.as.trans y.as⟩
theorem Ext.get {W W' : Wd} (x : Ext W W') {n : Nat} {a : Addr} (h : W.as[n]? = some a) : W'.as[n]? = some a := by
  obtain ⟨t, e⟩ := x.as
  rw [← e, List.getElem?_append_left (List.getElem?_eq_some_iff.mp h).1]
  exact h

section
variable {G : GI} {W W' : Wd} {c c' : List Cont}

theorem DenL.length : ∀ {vs : List V} {ds : List D}, DenL G W vs ds → vs.length = ds.length
  | _, _, .nil => rfl
  | _, _, .cons _ t => by rw [List.length_cons, List.length_cons, DenL.length t]
theorem DenL.get : ∀ {vs : List V} {ds : List D} {i : Nat} {d : D}, DenL G W vs ds → ds[i]? = some d → ∃ v, vs[i]? = some v ∧ Den G W v d
  | _, _, _, _, .nil, e => by simp at e
  | _, _, 0, _, .cons r _, e => by simp at e; subst e; exact ⟨_, rfl, r⟩
  | _, _, i + 1, d, .cons _ t, e => by
    obtain ⟨v, h1, h2⟩ := DenL.get (i := i) (d := d) t (by simpa using e)
    exact ⟨v, by simpa using h1, h2⟩
theorem DenL.getV : ∀ {vs : List V} {ds : List D} {i : Nat} {v : V}, DenL G W vs ds → vs[i]? = some v → ∃ d, ds[i]? = some d ∧ Den G W v d
  | _, _, _, _, .nil, e => by simp at e
  | _, _, 0, _, .cons r _, e => by simp at e; subst e; exact ⟨_, rfl, r⟩
  | _, _, i + 1, d, .cons _ t, e => by
    obtain ⟨v, h1, h2⟩ := DenL.getV (i := i) t (by simpa using e)
    exact ⟨v, by simpa using h1, h2⟩
theorem DenL.append : ∀ {vs ws : List V} {ds es : List D}, DenL G W vs ds → DenL G W ws es → DenL G W (vs ++ ws) (ds ++ es)
  | _, _, _, _, .nil, s => s
  | _, _, _, _, .cons r t, s => .cons r (DenL.append t s)
theorem DenL.take : ∀ {vs : List V} {ds : List D} (n : Nat), DenL G W vs ds → DenL G W (vs.take n) (ds.take n)
  | _, _, 0, _ => by simp; exact .nil
  | _, _, _ + 1, .nil => .nil
  | _, _, n + 1, .cons r t => .cons r (DenL.take n t)
theorem DenL.drop : ∀ {vs : List V} {ds : List D} (n : Nat), DenL G W vs ds → DenL G W (vs.drop n) (ds.drop n)
  | _, _, 0, r => r
  | _, _, _ + 1, .nil => .nil
  | _, _, n + 1, .cons _ t => DenL.drop n t
theorem DenL.set {v : V} {d : D} (r : Den G W v d) : ∀ {vs : List V} {ds : List D} (i : Nat), DenL G W vs ds → DenL G W (vs.set i v) (ds.set i d)
  | _, _, _, .nil => .nil
  | _, _, 0, .cons _ t => .cons r t
  | _, _, i + 1, .cons q t => .cons q (DenL.set r i t)
theorem DenL.reverse : ∀ {vs : List V} {ds : List D}, DenL G W vs ds → DenL G W vs.reverse ds.reverse
  | _, _, .nil => .nil
  | _, _, .cons r t => by
    rw [List.reverse_cons, List.reverse_cons]
    exact (DenL.reverse t).append (.cons r .nil)
theorem DenL.ints {vs : List V} {ns : List Int} (h : DenL G W vs (ns.map D.int)) : vs = ns.map V.int := by
  induction ns generalizing vs with
  | nil => cases h; rfl
  | cons n r ih =>
    cases h with
    | cons x t => cases x; rw [ih t]; rfl
theorem DenL.of_ints : ∀ {ns : List Int}, DenL G W (ns.map V.int) (ns.map D.int)
  | [] => .nil
  | _ :: _ => .cons .int DenL.of_ints

/-- what frozen data leans on stays -/
structure Mv (W W' : Wd) : Prop where
  tup : ∀ b xs, W.H b = some (.tup xs) → W'.H b = some (.tup xs)
  fzk : ∀ b o, W.Fz b → W.H b = some o → W'.H b = some o
  fz : ∀ b, W.Fz b → W'.Fz b
theorem Fr.mv (x : Fr W W') (fzk : ∀ b, W.Fz b → b ∉ W.as) : Mv W W' := ⟨x.tup, fun b o f h => x.keep b o h (fzk b f), x.fz⟩
theorem FzL.mono {a : Addr} {xs : List V} (x : Mv W W') (h : FzL W a xs) : FzL W' a xs := ⟨x.fz a h.1, x.fzk a _ h.1 h.2⟩
theorem ScL.mono {a : Addr} {xs : List V} (x : Mv W W') (h : ScL G.K W a xs) : ScL G.K W' a xs := by
  rcases h with ⟨f, o, h⟩ | h
  · exact .inl ⟨x.fz a f, o, x.fzk a _ f h⟩
  · exact .inr h
theorem TupAt.mono {a : Addr} {xs : List V} (x : Mv W W') (h : TupAt G.K W a xs) : TupAt G.K W' a xs := by
  rcases h with h | h
  · exact .inl (x.tup a xs h)
  · exact .inr h
mutual
/-- the cells replaced -/
def D.sub (ρ : Nat → D) : D → D
  | .tup xs => .tup (D.subL ρ xs)
  | .lst xs => .lst (D.subL ρ xs)
  | .scr xs => .scr (D.subL ρ xs)
  | .dct ks vs => .dct (D.subL ρ ks) (D.subL ρ vs)
  | .obj k fs => .obj k (D.subL ρ fs)
  | .cell n => ρ n
  | .non => .non
  | .bl b => .bl b
  | .int i => .int i
  | .str x => .str x
  | .ty n => .ty n
  | .ref a => .ref a
def D.subL (ρ : Nat → D) : List D → List D
  | [] => []
  | d :: ds => D.sub ρ d :: D.subL ρ ds
end
mutual
/-- no cell within -/
def D.nc : D → Bool
  | .tup xs => D.ncL xs
  | .lst xs => D.ncL xs
  | .scr xs => D.ncL xs
  | .dct ks vs => D.ncL ks && D.ncL vs
  | .obj _ fs => D.ncL fs
  | .cell _ => false
  | .non => true
  | .bl _ => true
  | .int _ => true
  | .str _ => true
  | .ty _ => true
  | .ref _ => true
def D.ncL : List D → Bool
  | [] => true
  | d :: ds => D.nc d && D.ncL ds
end
mutual
/-- every cell within holds p -/
def D.all (p : Nat → Bool) : D → Bool
  | .tup xs => D.allL p xs
  | .lst xs => D.allL p xs
  | .scr xs => D.allL p xs
  | .dct ks vs => D.allL p ks && D.allL p vs
  | .obj _ fs => D.allL p fs
  | .cell n => p n
  | .non => true
  | .bl _ => true
  | .int _ => true
  | .str _ => true
  | .ty _ => true
  | .ref _ => true
def D.allL (p : Nat → Bool) : List D → Bool
  | [] => true
  | d :: ds => D.all p d && D.allL p ds
end
mutual
theorem D.all_of_nc {p : Nat → Bool} : ∀ {d : D}, d.nc = true → d.all p = true
  | .non, _ | .bl _, _ | .int _, _ | .str _, _ | .ty _, _ | .ref _, _ => rfl
  | .tup _, h => D.allL_of_nc (by simpa [D.nc] using h)
  | .lst _, h => D.allL_of_nc (by simpa [D.nc] using h)
  | .scr _, h => D.allL_of_nc (by simpa [D.nc] using h)
  | .dct ks vs, h => by
    simp only [D.nc, Bool.and_eq_true] at h
    simp only [D.all, Bool.and_eq_true]
    exact ⟨D.allL_of_nc h.1, D.allL_of_nc h.2⟩
  | .obj _ _, h => D.allL_of_nc (by simpa [D.nc] using h)
  | .cell _, h => by simp [D.nc] at h
theorem D.allL_of_nc {p : Nat → Bool} : ∀ {ds : List D}, D.ncL ds = true → D.allL p ds = true
  | [], _ => rfl
  | d :: ds, h => by
    simp only [D.ncL, Bool.and_eq_true] at h
    simp only [D.allL, Bool.and_eq_true]
    exact ⟨D.all_of_nc h.1, D.allL_of_nc h.2⟩
end
mutual
theorem D.sub_nc {ρ : Nat → D} : ∀ {d : D}, d.nc = true → d.sub ρ = d
  | .non, _ | .bl _, _ | .int _, _ | .str _, _ | .ty _, _ | .ref _, _ => rfl
  | .tup _, h => by simp only [D.sub]; rw [D.subL_nc (by simpa [D.nc] using h)]
  | .lst _, h => by simp only [D.sub]; rw [D.subL_nc (by simpa [D.nc] using h)]
  | .scr _, h => by simp only [D.sub]; rw [D.subL_nc (by simpa [D.nc] using h)]
  | .dct ks vs, h => by
    simp only [D.nc, Bool.and_eq_true] at h
    simp only [D.sub]; rw [D.subL_nc h.1, D.subL_nc h.2]
  | .obj _ _, h => by simp only [D.sub]; rw [D.subL_nc (by simpa [D.nc] using h)]
  | .cell _, h => by simp [D.nc] at h
theorem D.subL_nc {ρ : Nat → D} : ∀ {ds : List D}, D.ncL ds = true → D.subL ρ ds = ds
  | [], _ => rfl
  | d :: ds, h => by
    simp only [D.ncL, Bool.and_eq_true] at h
    simp only [D.subL]; rw [D.sub_nc h.1, D.subL_nc h.2]
end
theorem D.subL_eq {ρ : Nat → D} : ∀ {ds : List D}, D.subL ρ ds = ds.map (D.sub ρ)
  | [] => rfl
  | d :: ds => by simp only [D.subL, List.map_cons]; rw [D.subL_eq]
theorem D.ncL_eq : ∀ {ds : List D}, D.ncL ds = ds.all D.nc
  | [] => rfl
  | d :: ds => by simp only [D.ncL, List.all_cons]; rw [D.ncL_eq]
theorem D.ncL_map {α : Type} {f : α → D} (h : ∀ x, (f x).nc = true) : ∀ {xs : List α}, D.ncL (xs.map f) = true
  | [] => rfl
  | x :: xs => by simp only [List.map_cons, D.ncL, h x, Bool.true_and]; exact D.ncL_map h
theorem D.ncL_append : ∀ {xs ys : List D}, D.ncL (xs ++ ys) = (D.ncL xs && D.ncL ys)
  | [], ys => by simp [D.ncL]
  | x :: xs, ys => by simp only [List.cons_append, D.ncL]; rw [D.ncL_append, Bool.and_assoc]
theorem D.subL_append {ρ : Nat → D} {xs ys : List D} : D.subL ρ (xs ++ ys) = D.subL ρ xs ++ D.subL ρ ys := by
  rw [D.subL_eq, D.subL_eq, D.subL_eq, List.map_append]

mutual
theorem keyN_nc : ∀ {d : D} {k : NestedKey}, keyN d = some k → d.nc = true
  | .non, _, _ | .bl _, _, _ | .int _, _, _ | .str _, _, _ => rfl
  | .tup ds, k, h => by
    simp only [keyN] at h
    obtain ⟨ks, h1, _⟩ := Option.map_eq_some_iff.mp h
    simp only [D.nc]
    exact keysN_nc h1
  | .lst _, _, h | .scr _, _, h | .dct _ _, _, h | .obj _ _, _, h | .cell _, _, h | .ref _, _, h | .ty _, _, h => by simp [keyN] at h
theorem keysN_nc : ∀ {ds : List D} {ks : List NestedKey}, keysN ds = some ks → D.ncL ds = true
  | [], _, _ => rfl
  | d :: ds, ks, h => by
    simp only [keysN] at h
    cases h1 : keyN d with
    | none => rw [h1] at h; cases h
    | some k =>
      cases h2 : keysN ds with
      | none => rw [h1, h2] at h; cases h
      | some l =>
        simp only [D.ncL, Bool.and_eq_true]
        exact ⟨keyN_nc h1, keysN_nc h2⟩
end
theorem DRep.ok_sub {ρ : Nat → D} {w : World} {r : DRep} {a : Addr} {ks : List D} (h : r.ok w a ks) : r.ok w a (D.subL ρ ks) := by
  have h' := h
  obtain ⟨_, _, es, ep, nks, _, _, _, _, h5, _⟩ := h'
  rw [D.subL_nc (keysN_nc h5)]
  exact h
mutual
theorem Den.sub {ρ : Nat → D} {p : Nat → Bool} (x : Mv W W') (has : ∀ (n : Nat) (a : Addr), p n = true → W.as[n]? = some a → Den G W' (.ref a) (ρ n)) : ∀ {v : V} {d : D}, d.all p = true → Den G W v d → Den G W' v (d.sub ρ)
  | _, _, _, .non => .non
  | _, _, _, .bl => .bl
  | _, _, _, .int => .int
  | _, _, _, .str => .str
  | _, _, _, .ty => .ty
  | _, _, _, .ref => .ref
  | _, _, q, .tup h t => by simp only [D.all] at q; simp only [D.sub]; exact .tup (h.mono x) (DenL.sub x has q t)
  | _, _, q, .lst h t => by simp only [D.all] at q; simp only [D.sub]; exact .lst (h.mono x) (DenL.sub x has q t)
  | _, _, q, .scr h t => by simp only [D.all] at q; simp only [D.sub]; exact .scr (h.mono x) (DenL.sub x has q t)
  | _, _, q, .dctK f h ho t u => by
    simp only [D.all, Bool.and_eq_true] at q; simp only [D.sub]
    exact .dctK (x.fz _ f) (x.fzk _ _ f h) (DRep.ok_sub ho) (DenL.sub x has q.1 t) (DenL.sub x has q.2 u)
  | _, _, q, .obj f h e t => by simp only [D.all] at q; simp only [D.sub]; exact .obj (x.fz _ f) (x.fzk _ _ f h) (by rw [D.subL_eq, List.length_map]; exact e) (DenL.sub x has q t)
  | _, _, q, .cell h => by simp only [D.all] at q; exact has _ _ q h
theorem DenL.sub {ρ : Nat → D} {p : Nat → Bool} (x : Mv W W') (has : ∀ (n : Nat) (a : Addr), p n = true → W.as[n]? = some a → Den G W' (.ref a) (ρ n)) : ∀ {vs : List V} {ds : List D}, D.allL p ds = true → DenL G W vs ds → DenL G W' vs (D.subL ρ ds)
  | _, _, _, .nil => .nil
  | _, _, q, .cons r t => by
    simp only [D.allL, Bool.and_eq_true] at q
    simp only [D.subL]
    exact .cons (Den.sub x has q.1 r) (DenL.sub x has q.2 t)
end
mutual
theorem D.all_true : ∀ {d : D}, d.all (fun _ => true) = true
  | .non | .bl _ | .int _ | .str _ | .ty _ | .ref _ | .cell _ => rfl
  | .tup _ | .lst _ | .scr _ | .obj _ _ => by simp only [D.all]; exact D.allL_true
  | .dct _ _ => by simp only [D.all, Bool.and_eq_true]; exact ⟨D.allL_true, D.allL_true⟩
theorem D.allL_true : ∀ {ds : List D}, D.allL (fun _ => true) ds = true
  | [] => rfl
  | d :: ds => by simp only [D.allL, Bool.and_eq_true]; exact ⟨D.all_true, D.allL_true⟩
end
mutual
theorem D.all_imp {p q : Nat → Bool} (h : ∀ j, p j = true → q j = true) : ∀ {d : D}, d.all p = true → d.all q = true
  | .non, _ | .bl _, _ | .int _, _ | .str _, _ | .ty _, _ | .ref _, _ => rfl
  | .cell n, x => h n x
  | .tup _, x => by simp only [D.all] at x ⊢; exact D.allL_imp h x
  | .lst _, x => by simp only [D.all] at x ⊢; exact D.allL_imp h x
  | .scr _, x => by simp only [D.all] at x ⊢; exact D.allL_imp h x
  | .obj _ _, x => by simp only [D.all] at x ⊢; exact D.allL_imp h x
  | .dct _ _, x => by simp only [D.all, Bool.and_eq_true] at x ⊢; exact ⟨D.allL_imp h x.1, D.allL_imp h x.2⟩
theorem D.allL_imp {p q : Nat → Bool} (h : ∀ j, p j = true → q j = true) : ∀ {ds : List D}, D.allL p ds = true → D.allL q ds = true
  | [], _ => rfl
  | _ :: _, x => by simp only [D.allL, Bool.and_eq_true] at x ⊢; exact ⟨D.all_imp h x.1, D.allL_imp h x.2⟩
end
mutual
theorem Den.mono0 (x : Mv W W') (has : ∀ (n : Nat) (a : Addr), W.as[n]? = some a → W'.as[n]? = some a) : ∀ {v : V} {d : D}, Den G W v d → Den G W' v d
  | _, _, .non => .non
  | _, _, .bl => .bl
  | _, _, .int => .int
  | _, _, .str => .str
  | _, _, .ty => .ty
  | _, _, .ref => .ref
  | _, _, .tup h t => .tup (h.mono x) (DenL.mono0 x has t)
  | _, _, .lst h t => .lst (h.mono x) (DenL.mono0 x has t)
  | _, _, .scr h t => .scr (h.mono x) (DenL.mono0 x has t)
  | _, _, .dctK f h ho t u => .dctK (x.fz _ f) (x.fzk _ _ f h) ho (DenL.mono0 x has t) (DenL.mono0 x has u)
  | _, _, .obj f h e t => .obj (x.fz _ f) (x.fzk _ _ f h) e (DenL.mono0 x has t)
  | _, _, .cell h => .cell (has _ _ h)
theorem DenL.mono0 (x : Mv W W') (has : ∀ (n : Nat) (a : Addr), W.as[n]? = some a → W'.as[n]? = some a) : ∀ {vs : List V} {ds : List D}, DenL G W vs ds → DenL G W' vs ds
  | _, _, .nil => .nil
  | _, _, .cons r t => .cons (Den.mono0 x has r) (DenL.mono0 x has t)
end
theorem Den.mono (ok : Ok G W c) (x : Ext W W') {v : V} {d : D} (h : Den G W v d) : Den G W' v d := Den.mono0 (x.toFr.mv ok.fz) (fun _ _ e => x.get e) h
theorem DenL.mono (ok : Ok G W c) (x : Ext W W') {vs : List V} {ds : List D} (h : DenL G W vs ds) : DenL G W' vs ds := DenL.mono0 (x.toFr.mv ok.fz) (fun _ _ e => x.get e) h
end
end F

namespace F
open PySem PySem.Spec PyProof.Rows L2
/-- one tuple of ints ahead of another -/
def lexL : List Int → List Int → Bool
  | _, [] => false
  | [], _ :: _ => true
  | x :: xs, y :: ys => if x = y then lexL xs ys else decide (x < y)
theorem lexL_asym : ∀ {a b : List Int}, lexL a b = true → lexL b a = false
  | [], [], _ => rfl
  | [], _ :: _, _ => rfl
  | _ :: _, [], h => by cases h
  | x :: xs, y :: ys, h => by
    unfold lexL at h ⊢
    by_cases e : x = y
    · rw [if_pos e] at h
      rw [if_pos e.symm]
      exact lexL_asym h
    · rw [if_neg e] at h
      rw [if_neg (fun z => e z.symm)]
      have := of_decide_eq_true h
      exact decide_eq_false (by omega)
theorem lexL_tr : ∀ {a b c : List Int}, lexL a b = false → lexL b c = false → lexL a c = false
  | [], _, [], _, _ => rfl
  | _ :: _, _, [], _, _ => rfl
  | [], [], _ :: _, _, h => by cases h
  | [], _ :: _, _ :: _, h, _ => by cases h
  | _ :: _, [], _ :: _, _, h => by cases h
  | x :: xs, y :: ys, z :: zs, h1, h2 => by
    unfold lexL at h1 h2 ⊢
    by_cases e1 : x = y
    · rw [if_pos e1] at h1
      by_cases e2 : y = z
      · rw [if_pos e2] at h2
        rw [if_pos (e1.trans e2)]
        exact lexL_tr h1 h2
      · rw [if_neg e2] at h2
        rw [if_neg (by omega), e1]
        exact h2
    · rw [if_neg e1] at h1
      have a := of_decide_eq_false h1
      by_cases e2 : y = z
      · rw [if_neg (by omega), ← e2]
        exact h1
      · rw [if_neg e2] at h2
        have b := of_decide_eq_false h2
        rw [if_neg (by omega)]
        exact decide_eq_false (by omega)
theorem lexL_swo (k : Value → List Int) : SrtO.Swo fun v u => lexL (k v) (k u) := ⟨fun x y h => lexL_asym h, fun x y z h1 h2 => lexL_tr h2 h1⟩
section
variable {prog : Program} {w : World} {A : Around} {E : Value → Shared → Prop} {s : Shared} {Q : Bool → Shared → Prop}
theorem kat_ints {b fin : Bool} {xs ys : List Value} {ns ms : List Int} (i : Nat) (hx : IntsAre xs ns) (hy : IntsAre ys ms) (hf : fin = decide (ns.length < ms.length)) (h : Q (lexL ns ms) s) : PySem.W.KatLex prog w A b fin Q (xs.zip ys) i s := by
  induction hx generalizing ys ms i with
  | nil =>
    cases hy with
    | nil => exact PySem.W.kat_nil (by rw [hf]; exact h)
    | cons q u hy => exact PySem.W.kat_nil (by rw [hf]; exact h)
  | @cons p t xs ns hx ih =>
    cases hy with
    | nil => exact PySem.W.kat_nil (by rw [hf]; exact h)
    | @cons q u ys ms hy =>
      show PySem.W.KatLex prog w A b fin Q ((Value.int p t, Value.int q u) :: xs.zip ys) i s
      refine PySem.W.kat_cons (wpAny_eqBool_int ?_)
      unfold lexL at h
      by_cases e : p = q
      · subst e
        rw [beq_self_eq_true]
        rw [if_pos rfl] at h
        refine PySem.W.kat_yes (ih (i + 1) hy ?_ h)
        rw [hf]
        exact decide_eq_decide.mpr (by simp)
      · rw [show (p == q) = false from beq_eq_false_iff_ne.mpr e]
        rw [if_neg e] at h
        exact PySem.W.kat_no (TS.oneLt_ints _ h)
end
section
variable {prog : Program} {w : World} {A : Around} {E : Value → Shared → Prop} {s : Shared}
theorem ints_cmp {vs : List Value} {k : Value → List Int} (hp : ∀ v ∈ vs, TS.TupInts s.heap v (k v)) : SrtO.Cmp prog w A s (tuples' true) (fun p => p.1 ∈ vs) (SrtO.lt2 fun v u => lexL (k v) (k u)) := by
  intro p q hm hm'
  have h1 := hp _ hm
  have h2 := hp _ hm'
  show wpAny (model prog w) A (keyLt' (tuples' true) p.1 q.1) (fun r s' => s' = s ∧ r = lexL (k p.1) (k q.1)) (fun _ _ => False) s
  obtain ⟨a, xs, e1, ⟨o, ho, hc, n, hdt⟩, i⟩ := h1
  obtain ⟨a', ys, e2, ⟨o', ho', hc', n', hdt'⟩, i'⟩ := h2
  generalize k p.1 = ns at i ⊢
  generalize k q.1 = ms at i' ⊢
  rw [e1, e2]
  refine PySem.W.kat_lt ho hdt ho' hdt' ?_
  refine kat_ints 0 i i' ?_ ⟨rfl, rfl⟩
  have l1 := i.length
  have l2 := i'.length
  rw [Array.length_toList] at l1 l2
  rw [l1, l2]
theorem ints_firsts {h : Heap} {k : Value → List Int} : ∀ vs : List Value, (∀ v ∈ vs, TS.TupInts h v (k v) ∧ k v ≠ []) → ∃ fs, PySem.W.KatTups h vs fs ∧ fs.length = vs.length ∧ ∀ f, f ∈ fs → ∃ n t, f = Value.int n t
  | [], _ => ⟨[], PySem.W.KatTups.nil, rfl, fun f hf => by simp at hf⟩
  | v :: vs, x => by
    obtain ⟨fs, kt, hl, hi⟩ := ints_firsts vs fun u hu => x u (List.mem_cons_of_mem _ hu)
    obtain ⟨⟨a, xs, rfl, ⟨o, ho, hc, n, hdt⟩, i⟩, hne⟩ := x v (List.mem_cons_self ..)
    generalize hns : k (.ref a) = ns at i hne
    have i2 : ∃ l, xs.toList = l ∧ IntsAre l ns := ⟨_, rfl, i⟩
    obtain ⟨l, el, il⟩ := i2
    cases il with
    | nil => exact absurd rfl hne
    | @cons m t vs' ns' il =>
      have h0 : xs[0]? = some (.int m t) := by
        have : xs.toList[0]? = some (Value.int m t) := by rw [el]; rfl
        simpa using this
      refine ⟨.int m t :: fs, PySem.W.KatTups.cons ho hc hdt h0 kt, by rw [List.length_cons, List.length_cons, hl], fun f hf => ?_⟩
      rcases List.mem_cons.mp hf with rfl | hf
      · exact ⟨m, t, rfl⟩
      · exact hi f hf
theorem ints_sortable {a : Addr} {vs : List Value} {k : Value → List Int} (h0 : 0 < vs.length) (hp : ∀ v ∈ vs, TS.TupInts s.heap v (k v) ∧ k v ≠ []) (ha : ∀ o, s.heap.get? a = some o → o.cls ≠ .type "tuple") : SrtO.SortableO prog w A s a vs fun v u => lexL (k v) (k u) := by
  intro h' keep
  have hp' : ∀ v ∈ vs, TS.TupInts h' v (k v) ∧ k v ≠ [] := fun v hm => ⟨(hp v hm).1.keeps fun b o e c => keep b o (fun z => by subst z; exact ha o e c) e, (hp v hm).2⟩
  obtain ⟨fs, h1, h2, h3⟩ := ints_firsts vs hp'
  refine ⟨tuples' true, fun Q E hq => ?_, ints_cmp fun v hm => (hp' v hm).1⟩
  refine PySem.W.kat_kind (T := .type "int") h1 (by omega) (fun f hm => ?_) (by rfl) ?_
  · obtain ⟨x, t, rfl⟩ := h3 f hm
    exact PySem.W.Looks.of_pure rfl
  · have e : (Value.type "int" != Value.type "tuple") = true := by first | decide +kernel | rfl | decide
    rw [e]
    exact hq
end
end F
namespace L2
open PySem PySem.Spec PyProof.Rows F
/-- x before y, both tuples of ints -/
abbrev ltL (k : V → List Int) (x y : V) : Bool := lexL (k x) (k y)
theorem ltL_swo (k : V → List Int) : SrtO.Swo (ltL k) := ⟨fun x y h => lexL_asym h, fun x y z h1 h2 => lexL_tr h2 h1⟩
def rSortedL (K : PySem.W.Frag) : List V → Hp → VK → Prop := fun vs H Q => ∃ (a : Addr) (xs : List V) (k : V → List Int), vs = [V.ref a] ∧ SqL K H a xs ∧ (∀ x ∈ xs, ∃ t, x = V.ref t ∧ SqT K H t ((k x).map V.int) ∧ k x ≠ []) ∧
  ∀ ys p, SrtO.Srtd (ltL k) ys → SrtO.Stb (ltL k) ys xs → H p = none → Q (.ref p) (upd H p (.lst ys))
section
variable {X : Cx}
theorem cr_sortedL : CallR X (.builtin "sorted") (rSortedL X.K) := by
  intro pins s σ H vs us Q I r h
  obtain ⟨a, xs, k, rfl, hs, hx, q⟩ := h
  obtain ⟨its, rv, hl, hz⟩ := I.list hs
  obtain ⟨u, rfl, ru⟩ := vals1 r
  obtain rfl : u = Value.ref a := ru
  obtain ⟨e1, e2⟩ := refs_back rv fun x m => by
    obtain ⟨t, e, _⟩ := hx x m
    exact ⟨t, e⟩
  have hz' : its.length ≤ sizeLine := by rw [← rv.length]; exact hz
  refine SrtO.sorted_ord (F.lexL_swo fun u => k (backV u)) hl.isList hz' (fun h2 h₁ a' ha kk => ?_) fun out h1 h2 => ?_
  · refine F.ints_sortable (k := fun u => k (backV u)) (s := { s with heap := h₁ }) (by omega) (fun v hv => ?_) fun o e => ?_
    · obtain ⟨t, rfl⟩ := e2 v hv
      have hm : V.ref t ∈ xs := by rw [e1]; exact List.mem_map.mpr ⟨_, hv, rfl⟩
      obtain ⟨t', e, ht, hne⟩ := hx _ hm
      cases e
      exact ⟨(tupI_raw I ht).keeps fun b o e _ => (kk b o e).2, hne⟩
    · have e' : some o = some (seqObj "list" its.toArray 0) := e.symm.trans ha
      cases e'
      intro c
      exact absurd (Value.type.inj c) (by decide)
  · have h3 : ∀ u ∈ out, ∃ a, u = Value.ref a := fun u hu => e2 u (h2.perm.mem_iff.mp hu)
    have hb : SrtO.Stb (ltL k) (out.map backV) xs := by
      rw [e1]
      exact SrtO.Stb.map (ltL_swo k) backV h2
    obtain ⟨n, hn⟩ := sortedAll_at s.heap its out.toArray
    have hn' : (sortedAll s.heap its out.toArray).get? (s.heap.objs.size + 1) = some (seqObj "list" out.toArray n) := hn
    refine ⟨.ref (s.heap.objs.size + 1), upd H (s.heap.objs.size + 1) (.lst (out.map backV)), I.laid (t' := s.toks) (fun b o e => sortedAll_old e) (Nat.le_succ _) ⟨?_, out, n, vals_back h3, hn'⟩, rfl, q _ _ (SrtO.srtd_map h1) hb (I.hok.fresh (Nat.le_succ _))⟩
    rw [hb.len]
    exact hz
end
end L2

namespace F
open PySem PySem.Spec L2

abbrev Cs := List Cont
abbrev QE := D → Cs → Prop
/-- an exception's wish: its class, its fields -/
abbrev QX := Nat → List D → Cs → Prop
abbrev En := List (Option D)
/-- a promise: the arguments, the cells handed in, what is wanted behind -/
abbrev Phi := List D → Cs → QE → QX → Prop

inductive Lt where | int (i : Int) | bl (b : Bool) | non | str (x : Str)
def Lt.d : Lt → D
  | .int i => .int i
  | .bl b => .bl b
  | .non => .non
  | .str x => .str x
inductive B2 where | add | sub | mul | fdiv | mod | pow | lt | le | gt | ge | eq | ne | is | isn | inn | nin | idx | innN | innO (k : Nat) | ne0 | ltL | neC | eqO (k : Nat)
  deriving DecidableEq
inductive U1 where | neg | not
  deriving DecidableEq
/-- built-in functions called by name -/
inductive Bi where | len | abs | max | min | sum | all | any | int | list | tuple | sorted | str | dict
  deriving DecidableEq
/-- built-in methods -/
inductive Mt where | append | extend | pop | popAt | clear | insert
  deriving DecidableEq
/-- what isinstance asks for -/
inductive Ty where | bt (x : String) | cls (k : Nat)
  deriving DecidableEq

mutual
inductive FE where
  | var (i : Nat) | lit (l : Lt) | con (k : Nat)
  | un (o : U1) (a : FE) | bin (o : B2) (m : Bool) (a b : FE)
  | bop (isAnd : Bool) (es : FA)
  | chain (o p : B2) (a b c : FE)
  | ife (c : FC) (a b : FE)
  | tup (es : FA) | lst (m : Bool) (es : FA)
  | slc (m : Bool) (a : FE) (lo hi : FA)
  | attr (a : FE) (k j : Nat)
  | call (f : Nat) (es : FA)
  | meth (f : Nat) (a : FE) (es : FA)
  | make (k f : Nat) (es : FA)
  | bi (o : Bi) (m : Bool) (es : FA)
  | mt (o : Mt) (a : FE) (es : FA)
  | isi (a : FE) (ts : List Ty) (tupled : Bool)
  | comp (m keep : Bool) (t : FT) (it : FI) (cond : FCs) (e : FE) (vs : List (Str × Nat))
  | frz (a : FE) | dead | rev (m : Bool) (a : FE)
  | dct0 (m : Bool) | dct1 (m tk : Bool) (k v : FE) | dct2 (m : Bool) (k v k' v' : FE)
  /-- d.get(k), d.get(k, x) -/
  | dget (a k : FE) (x : FA)
  /-- sorted(d.items()), min(d.values()) -/
  | srtI (m : Bool) (a : FE) | minV (a : FE)
  /-- list(range(a, b)), list(zip(a, b, c)) -/
  | rngE (m : Bool) (a b : FE) | zipE (m : Bool) (a b c : FE)
  /-- dict(pairs) -/
  | dctL (m : Bool) (a : FE)
  /-- a or b, a a list -/
  | orL (a b : FE)
  /-- sorted(set(pairs of small ints)) -/
  | srtS (m : Bool) (a : FE)
  | lenS (a : FE)
  | dupd (a b : FE)
inductive FA where | nil | cons (e : FE) (es : FA)
/-- tests -/
inductive FC where | val (e : FE) | not (c : FC) | bop (isAnd : Bool) (cs : FCs)
inductive FCs where | nil | cons (c : FC) (cs : FCs)
/-- what is walked -/
inductive FI where | ex (e : FE) | rng1 (a : FE) | rng2 (a b : FE) | rng3 (a b c : FE) | enum (a : FE) | zip (a b : FE) | zip3 (a b c : FE) | items (a : FE)
/-- targets -/
inductive FT where | nm (i : Nat) | tp (ts : FTs)
inductive FTs where | nil | cons (t : FT) (ts : FTs)
end

inductive HA where | lit (l : Lt) | neg (i : Int) | fld (f : Str)
mutual
inductive HC where
  /-- isinstance(e, ..): own classes of exceptions, ValueError -/
  | isi (ts : List (Option Nat)) (tupled : Bool)
  /-- own(e.f): the own def tells whole numbers -/
  | wh (g : Nat) (f : Str)
  | eqI (f : Str) (i : Int) | not (c : HC) | bop (isAnd : Bool) (cs : HCs)
inductive HCs where | nil | cons (c : HC) (cs : HCs)
end
inductive HV where | at (x : HA) | tup (xs : List HA) | lsts (xs : List HA)
  /-- [x, y][int(p != s[q])], p and s names -/
  | pick (x y : HA) (p s q : Nat)
  /-- [x, y][int(isinstance(e, ts))] -/
  | pic (x y : HA) (ts : List (Option Nat)) (tp : Bool)
inductive HSt where | ifr (c : HC) (v : HV) | ret (v : HV)
  /-- xj = [isinstance(e, ..), ..]; return xj + [..] -/
  | two (j : Nat) (as bs : List (List (Option Nat) × Bool))
/-- a clause: the name or none, the class, the suite -/
structure Cl where
  nm : Option Nat
  k : Nat
  hs : List HSt

mutual
inductive FS where
  | expr (e : FE) | set (t : FT) (e : FE) | setC (i : Nat) (e : FE)
  | par (i j : Nat) (a b : FE)
  | aug (i : Nat) (o : B2) (m : Bool) (e : FE)
  | setI (o i v : FE) | augI (o : B2) (a i v : FE)
  /-- o[i:] = v, v an empty list -/
  | trunc (o i v : FE)
  | setA (a : FE) (k j : Nat) (v : FE)
  | augA (a : FE) (k j : Nat) (o : B2) (v : FE)
  | ifs (c : FC) (a b : FSs) | for_ (keep : Bool) (t : FT) (it : FI) (b : FSs) | while_ (c : FC) (b : FSs)
  | ret (e : FE) | retN | brk | cnt | pass
  | rais (k f : Nat) (es : FA)
  | frz (i : Nat) | forget (i : Nat) | dead
  /-- all cells behind i's are frozen -/
  | cln (i : Nat)
  | clnA
  | try_ (b : FSs) (i k0 : Nat) (hs : List HSt)
  | tryM (b : FSs) (cs : List Cl)
inductive FSs where | nil | cons (s : FS) (ss : FSs)
end

/-- how a def is called: by its name, as a method of class k, as the maker of class k -/
inductive FK where | fn (x : Str) | mth (k : Nat) (x : Str) | ini (k : Nat) (x : Str)
/-- what a def's check and walk know of the others -/
structure CI where
  kind : Nat → FK
  np : Nat → Nat
  phi : Nat → Phi
  /-- module constants (ints) -/
  nc : Nat
  cname : Nat → Str
  cval : Nat → Int
  /-- own classes, their names, fields -/
  nk : Nat
  kname : Nat → Str
  flds : Nat → List Str
  /-- exceptions -/
  ne : Nat
  ename : Nat → Str
  exf : Nat → List Str
  esub : Nat → Nat → Bool
  /-- own defs that tell whole numbers -/
  whole : Nat → Bool
def fldV (I : CI) (k : Nat) (fs : List D) (f : Str) : Option D := if I.exf k = [f] then fs[0]? else none
def haV (I : CI) (k : Nat) (fs : List D) : HA → Option D
  | .lit l => some l.d
  | .neg i => some (.int (-i))
  | .fld f => fldV I k fs f
def haL (I : CI) (k : Nat) (fs : List D) : List HA → Option (List D)
  | [] => some []
  | x :: xs => match haV I k fs x, haL I k fs xs with
    | some d, some ds => some (d :: ds)
    | _, _ => none
mutual
def hcV (I : CI) (k : Nat) (fs : List D) : HC → Option Bool
  | .isi ts _ => some (ts.any fun t => match t with
    | none => true
    | some j => I.esub k j)
  | .wh _ f => match fldV I k fs f with
    | some (.int _) => some true
    | _ => none
  | .eqI f i => match fldV I k fs f with
    | some (.int z) => some (decide (z = i))
    | _ => none
  | .not c => (hcV I k fs c).map (!·)
  | .bop b cs => hcsV I k fs b cs
def hcsV (I : CI) (k : Nat) (fs : List D) (b : Bool) : HCs → Option Bool
  | .nil => none
  | .cons c .nil => hcV I k fs c
  | .cons c (.cons c' cs) => match hcV I k fs c with
    | some r => if r = b then hcsV I k fs b (.cons c' cs) else some r
    | none => none
end
def objIs (c : List Cont) (k : FK) : D → Bool
  | .obj k' _ => match k with
    | .mth j _ => k' == j
    | _ => false
  | .cell n => match c[n]? with
    | some (.obj k' _) => match k with
      | .mth j _ => k' == j
      | _ => false
    | _ => false
  | _ => false

def getL (c : Cs) : D → Option (List D)
  | .lst xs => some xs
  | .cell n => match c[n]? with
    | some (.lst xs) => some xs
    | _ => none
  | _ => none
def getR (c : Cs) : D → Option (List D)
  | .scr xs => some xs
  | d => getL c d
def getS (c : Cs) : D → Option (List D)
  | .tup xs => some xs
  | .scr xs => some xs
  | d => getL c d
mutual
def toP : D → Option PyData
  | .non => some .none
  | .bl b => some (.bool b)
  | .int i => some (.int i)
  | .str x => some (.str x)
  | .tup xs => (toPL xs).map .tuple
  | .lst xs => (toPL xs).map .list
  | _ => none
def toPL : List D → Option (List PyData)
  | [] => some []
  | d :: ds => match toP d, toPL ds with
    | some p, some ps => some (p :: ps)
    | _, _ => none
end
def mapO {α : Type} (f : D → Option α) : List D → Option (List α)
  | [] => some []
  | d :: ds => match f d, mapO f ds with
    | some p, some ps => some (p :: ps)
    | _, _ => none
/-- data, cells looked into (k deep) -/
def toPk (c : Cs) : Nat → D → Option PyData
  | k + 1, .cell n => match c[n]? with
    | some (.lst xs) => (mapO (toPk c k) xs).map .list
    | _ => none
  | k + 1, .lst xs => (mapO (toPk c k) xs).map .list
  | k + 1, .tup xs => (mapO (toPk c k) xs).map .tuple
  | _, d => toP d
def toPc (c : Cs) (d : D) : Option PyData := toPk c 4 d

def getC (c : Cs) : D → Option (List D × List D)
  | .dct ks vs => some (ks, vs)
  | .cell n => match c[n]? with
    | some (.dct ks vs) => some (ks, vs)
    | _ => none
  | _ => none
def dGet : List D → List D → D → Option D
  | x :: ks, v :: vs, k => if keyN x = keyN k then some v else dGet ks vs k
  | _, _, _ => none
def dHas (ks : List D) (k : D) : Bool := ks.any fun x => decide (keyN x = keyN k)
def dRep (k y : D) : List D → List D → List D
  | x :: ks, v :: vs => (if keyN x = keyN k then y else v) :: dRep k y ks vs
  | _, _ => []
def dPutK (ks : List D) (k : D) : List D := if dHas ks k = true then ks else ks ++ [k]
def dPutV (ks vs : List D) (k y : D) : List D := if dHas ks k = true then dRep k y ks vs else vs ++ [y]
/-- the key is of the kind of the dict's keys -/
def kOk (ks : List D) (k : D) : Bool := (isKey k && ks.all isKey) || (isTupD k && ks.all isTupD)
def dMrg : List D → List D → List D → List D → List D × List D
  | ks, vs, k :: ks', v :: vs' => dMrg (dPutK ks k) (dPutV ks vs k v) ks' vs'
  | ks, vs, _, _ => (ks, vs)
/-- pairs, taken apart -/
def pairsD : List D → Option (List D × List D)
  | [] => some ([], [])
  | .tup [a, b] :: r => (pairsD r).map fun p => (a :: p.1, b :: p.2)
  | _ => none
def zipL : List D → List D → List D
  | x :: xs, y :: ys => .tup [x, y] :: zipL xs ys
  | _, _ => []
def zip3L : List D → List D → List D → List D
  | x :: xs, y :: ys, z :: zs => .tup [x, y, z] :: zip3L xs ys zs
  | _, _, _ => []
def ltD (a b : D) : Bool := match toP a, toP b with
  | some p, some q => PySem.W.dataLt p q
  | _, _ => false
mutual
def noLst : PyData → Bool
  | .list _ => false
  | .tuple xs => noLsts xs
  | .dict _ => false
  | _ => true
def noLsts : List PyData → Bool
  | [] => true
  | x :: xs => noLst x && noLsts xs
end
/-- data that the model sorts -/
def srtOk (ps : List PyData) : Prop := PySem.W.AllAlike ps ∧ PySem.W.Sortable ps ∧ ∀ p ∈ ps, p.depth ≤ 60

def newL (m : Bool) (xs : List D) (c : Cs) (Q : QE) : Prop := match m with
  | true => Q (.cell c.length) (c ++ [.lst xs])
  | false => Q (.lst xs) c
/-- an if that whnf leaves alone where its test is open -/
def sIf (b : Bool) (A B : Prop) : Prop := match b with
  | true => A
  | false => B
/-- a product that the model lets by: one factor below 2^64, or both below 2^400000 -/
def mulOk (i j : Int) : Prop := (-(2 ^ 64) < i ∧ i < 2 ^ 64) ∨ (-(2 ^ 64) < j ∧ j < 2 ^ 64) ∨ (i.natAbs < 2 ^ 400 ∧ j.natAbs < 2 ^ 400)

def addD (m : Bool) (c : Cs) (Q : QE) : D → D → Prop
  | .int i, .int j => Q (.int (i + j)) c
  | .str x, .str y => x.length + y.length ≤ 16777216 ∧ Q (.str (x ++ y)) c
  | .tup xs, .tup ys => xs.length + ys.length ≤ 16777216 ∧ Q (.tup (xs ++ ys)) c
  | a, b => match getL c a with
    | some xs => match getL c b with
      | some ys => xs.length + ys.length ≤ 16777216 ∧ newL m (xs ++ ys) c Q
      | none => False
    | none => False
def repL (m : Bool) (c : Cs) (Q : QE) (k : Int) : Option (List D) → Prop
  | some xs => (-(2 ^ 63) ≤ k ∧ k < 2 ^ 63 ∧ xs.length * k.toNat ≤ 16777216) ∧ newL m (List.replicate k.toNat xs).flatten c Q
  | none => False
def mulD (m : Bool) (c : Cs) (Q : QE) : D → D → Prop
  | .int i, .int j => mulOk i j ∧ Q (.int (i * j)) c
  | .tup xs, .int k => (xs.length ≤ 1000 ∧ -(2 ^ 63) ≤ k ∧ k ≤ 1000) ∧ Q (.tup (List.replicate k.toNat xs).flatten) c
  | a, .int k => repL m c Q k (getL c a)
  | _, _ => False
def int2 (P : Int → Int → Prop) : D → D → Prop
  | .int i, .int j => P i j
  | _, _ => False
def eqG (c : Cs) (f : Bool → Bool) (Q : QE) : Option PyData → Option PyData → Prop
  | some d, some e => SeqAt.shaped d = true ∧ SeqAt.shaped e = true ∧ Q (.bl (f (PyData.eqv d e))) c
  | _, _ => False
def eqD (c : Cs) (f : Bool → Bool) (Q : QE) : D → D → Prop
  | .int i, .int j => Q (.bl (f (decide (i = j)))) c
  | .bl i, .bl j => Q (.bl (f (decide (i = j)))) c
  | .str i, .str j => Q (.bl (f (decide (i = j)))) c
  | .dct [] [], .dct [] [] => Q (.bl (f true)) c
  | a, b => eqG c f Q (toPc c a) (toPc c b)
/-- a != d, where it is told -/
def isE0 : D → Bool
  | .dct [] [] => true
  | _ => false
def neG : Option PyData → Option PyData → Option Bool
  | some x, some y => if SeqAt.shaped x && SeqAt.shaped y then some (!PyData.eqv x y) else none
  | _, _ => none
def neV (c : Cs) (a d : D) : Option Bool := if isE0 a && isE0 d then some false else neG (toPc c a) (toPc c d)
def pickB (c : Cs) (ev : En) (p s q : Nat) : Option Bool := match ev[p]?, ev[s]? with
  | some (some a), some (some b) => match getS c b with
    | some ds => match ds[q]? with
      | some d => neV c a d
      | none => none
    | none => none
  | _, _ => none
def isiV (I : CI) (k : Nat) (ts : List (Option Nat)) : Bool := ts.any fun t => match t with
  | none => true
  | some j => I.esub k j
def hvV (I : CI) (k : Nat) (fs : List D) (ev : En) (c : Cs) : HV → Option D
  | .at x => haV I k fs x
  | .tup xs => (haL I k fs xs).map .tup
  | .lsts xs => (haL I k fs xs).map .lst
  | .pic x y ts _ => match haV I k fs x, haV I k fs y with
    | some u, some v => some (if isiV I k ts then v else u)
    | _, _ => none
  | .pick x y p s q => match pickB c ev p s q, haV I k fs x, haV I k fs y with
    | some b, some u, some v => some (if b then v else u)
    | _, _, _ => none
/-- what the suite hands back, if anything -/
def hsV (I : CI) (k : Nat) (fs : List D) (ev : En) (c : List Cont) : List HSt → Option (Option D)
  | [] => some none
  | .ret v :: _ => (hvV I k fs ev c v).map some
  | .two _ as bs :: _ => some (some (.lst (as.map (fun t => .bl (isiV I k t.1)) ++ bs.map fun t => .bl (isiV I k t.1))))
  | .ifr t v :: r => match hcV I k fs t with
    | some true => (hvV I k fs ev c v).map some
    | some false => hsV I k fs ev c r
    | none => none
def isNon : D → Bool
  | .non => true
  | _ => false
def isD (c : Cs) (f : Bool → Bool) (Q : QE) : D → D → Prop
  | a, .non => Q (.bl (f (isNon a))) c
  | .bl i, .bl j => Q (.bl (f (decide (i = j)))) c
  | _, _ => False
def idxS (c : Cs) (Q : QE) (i : Int) : Option (List D) → Prop
  | some xs => match atI xs i with
    | some d => Q d c
    | none => False
  | none => False
def dgetD (c : Cs) (Q : QE) (k : D) : Option (List D × List D) → Prop
  | some kv => kOk kv.1 k = true ∧ match dGet kv.1 kv.2 k with
    | some d => Q d c
    | none => False
  | none => False
/-- a[b] -/
def idxA (c : Cs) (Q : QE) (a b : D) : Option (List D) → Prop
  | some xs => match b with
    | .int i => idxS c Q i (some xs)
    | _ => False
  | none => dgetD c Q b (getC c a)
def inD (c : Cs) (f : Bool → Bool) (Q : QE) (x : D) : Option (List D) → Prop
  | some ys => match toP x, toPL ys with
    | some d, some es => SeqAt.shaped d = true ∧ SeqAt.shaped (.list es) = true ∧ Q (.bl (f (es.any fun z => PyData.eqv z d))) c
    | _, _ => False
  | none => False
def inK (c : Cs) (f : Bool → Bool) (Q : QE) (x : D) : Option (List D × List D) → Prop
  | some kv => kOk kv.1 x = true ∧ Q (.bl (f (dHas kv.1 x))) c
  | none => False
def inA (c : Cs) (f : Bool → Bool) (Q : QE) (x y : D) : Option (List D) → Prop
  | some ys => inD c f Q x (some ys)
  | none => inK c f Q x (getC c y)
def onO {α : Type} (o : Option α) (P : α → Prop) : Prop := match o with
  | some x => P x
  | none => False
/-- None, or a dict -/
def nonD : D → Bool
  | .non => true
  | .dct _ _ => true
  | _ => false
/-- None, or an object of one of the first k classes -/
def nonO (k : Nat) : D → Bool
  | .non => true
  | .obj j _ => decide (j < k)
  | _ => false
/-- None in b, a list of dicts (objects) and None -/
def innD (p : D → Bool) (c : Cs) (Q : QE) : D → D → Prop
  | .non, b => onO (getL c b) fun ys => ys.all p = true ∧ Q (.bl (ys.any isNon)) c
  | _, _ => False
/-- lists of ints, as Python orders them -/
def ltLI : List Int → List Int → Bool
  | _, [] => false
  | [], _ :: _ => true
  | x :: xs, y :: ys => if x = y then ltLI xs ys else decide (x < y)
def isCl : D → Bool
  | .cell _ => true
  | _ => false
/-- lists of the very same objects -/
def neCD (c : Cs) (Q : QE) (a b : D) : Prop := ∃ xs, getL c a = some xs ∧ getL c b = some xs ∧ xs.all isCl = true ∧ Q (.bl false) c
/-- the very same object -/
def eqOD (k : Nat) (c : Cs) (Q : QE) (a b : D) : Prop := ∃ n j fs, a = .cell n ∧ b = .cell n ∧ c[n]? = some (.obj j fs) ∧ j < k ∧ Q (.bl true) c
/-- o[i:] = [] -/
def truD (c : Cs) (K : Cs → Prop) : D → D → D → Prop
  | .cell n, .int j, .lst [] => onO (getL c (.cell n)) fun xs => (0 ≤ j ∧ j ≤ xs.length ∧ xs.length ≤ 16777216) ∧ K (c.set n (.lst (xs.take j.toNat)))
  | _, _, _ => False
def ltLD (c : Cs) (Q : QE) (a b : D) : Prop := ∃ is js : List Int, getL c a = some (is.map D.int) ∧ getL c b = some (js.map D.int) ∧ Q (.bl (ltLI is js)) c
def ne0D (c : Cs) (Q : QE) (a b : D) : Prop := onO (getL c a) fun xs => onO (getL c b) fun ys => ys = [] ∧ Q (.bl (!xs.isEmpty)) c
def wpB (o : B2) (m : Bool) (a b : D) (c : Cs) (Q : QE) : Prop := match o with
  | .add => addD m c Q a b
  | .sub => int2 (fun i j => Q (.int (i - j)) c) a b
  | .mul => mulD m c Q a b
  | .fdiv => int2 (fun i j => (0 < j ∧ j.natAbs < 2 ^ 9000) ∧ Q (.int (i / j)) c) a b
  | .mod => int2 (fun i j => 0 < j ∧ Q (.int (i % j)) c) a b
  | .pow => int2 (fun i j => (0 ≤ j ∧ j ≤ 1000000 ∧ i.natAbs < 2 ^ 64) ∧ Q (.int (i ^ j.toNat)) c) a b
  | .lt => int2 (fun i j => Q (.bl (decide (i < j))) c) a b
  | .le => int2 (fun i j => Q (.bl (decide (i ≤ j))) c) a b
  | .gt => int2 (fun i j => Q (.bl (decide (j < i))) c) a b
  | .ge => int2 (fun i j => Q (.bl (decide (j ≤ i))) c) a b
  | .eq => eqD c (fun b => b) Q a b
  | .ne => eqD c (fun b => !b) Q a b
  | .is => isD c (fun b => b) Q a b
  | .isn => isD c (fun b => !b) Q a b
  | .inn => inA c (fun b => b) Q a b (getS c b)
  | .nin => inA c (fun b => !b) Q a b (getS c b)
  | .idx => idxA c Q a b (getS c a)
  | .innN => innD nonD c Q a b
  | .innO k => innD (nonO k) c Q a b
  | .ne0 => ne0D c Q a b
  | .ltL => ltLD c Q a b
  | .neC => neCD c Q a b
  | .eqO k => eqOD k c Q a b

def sumI : List D → Option Int
  | [] => some 0
  | .int i :: r => (sumI r).map (i + ·)
  | _ => none
def allB : List D → Option (List Bool)
  | [] => some []
  | .bl b :: r => (allB r).map (b :: ·)
  | _ => none
def allI : List D → Option (List Int)
  | [] => some []
  | .int i :: r => (allI r).map (i :: ·)
  | _ => none
/-- tuples of ints, none of them empty -/
def allT : List D → Option (List (List Int))
  | [] => some []
  | .tup (d :: ds) :: r => match allI (d :: ds), allT r with
    | some ns, some rs => some (ns :: rs)
    | _, _ => none
  | _ => none
def tupI (ns : List Int) : D := .tup (ns.map D.int)
def srtG (m : Bool) (c : Cs) (Q : QE) (xs : List D) : Prop := onO (toPL xs) fun ps => srtOk ps ∧ ∀ ms : List D, ms.Perm xs → ms.Pairwise (fun a b => ltD b a = false) → newL m ms c Q
def srtT (m : Bool) (c : Cs) (Q : QE) (xs : List D) : Option (List (List Int)) → Prop
  | some ns => ∀ ms : List (List Int), ms.Perm ns → ms.Pairwise (fun a b => lexL b a = false) → newL m (ms.map tupI) c Q
  | none => srtG m c Q xs
def srtD (m : Bool) (c : Cs) (Q : QE) (xs : List D) : Prop := match allI xs with
  | some ns => ∀ ms : List Int, ms.Perm ns → ms.Pairwise (· ≤ ·) → newL m (ms.map D.int) c Q
  | none => srtT m c Q xs (allT xs)
def srtK (m : Bool) (c : Cs) (Q : QE) (xs : List D) : Option (List Int) → Prop
  | some ns => ∀ ms : List Int, ms.Perm ns → ms.Pairwise (· ≤ ·) → newL m (ms.map D.int) c Q
  | none => srtG m c Q xs
def srtA (m : Bool) (c : Cs) (Q : QE) (a : D) : Option (List D) → Prop
  | some xs => srtD m c Q xs
  | none => onO (getC c a) fun kv => srtK m c Q kv.1 (allI kv.1)
def lenA (c : Cs) (Q : QE) (a : D) : Option (List D) → Prop
  | some xs => Q (.int xs.length) c
  | none => onO (getC c a) fun kv => Q (.int kv.1.length) c
def minG (c : Cs) (Q : QE) (xs : List D) : Option (List PyData) → Prop
  | some (p :: ps) => PySem.W.AlikeAll (p :: ps) ∧ PyData.depthAll (p :: ps) ≤ 60 ∧ ∀ d ∈ xs, toP d = some (PySem.W.minD p ps) → Q d c
  | _ => False
def minA (c : Cs) (Q : QE) (xs : List D) : Option (List Int) → Prop
  | some (n :: ns) => ∀ m ∈ n :: ns, (∀ y ∈ n :: ns, m ≤ y) → Q (.int m) c
  | _ => minG c Q xs (toPL xs)
def minI (c : Cs) (Q : QE) : Option (List Int) → Prop
  | some (n :: ns) => ∀ m ∈ n :: ns, (∀ y ∈ n :: ns, m ≤ y) → Q (.int m) c
  | _ => False
def maxA (c : Cs) (Q : QE) : Option (List Int) → Prop
  | some (n :: ns) => ∀ m ∈ n :: ns, (∀ y ∈ n :: ns, y ≤ m) → Q (.int m) c
  | _ => False
def prD (t : Int × Int) : D := .tup [.int t.1, .int t.2]
def updC (n : Nat) (c : Cs) (Q : QE) (ks2 ds2 : List D) : Option Cont → Prop
  | some (.dct ks ds) => ks.all isTupD = true ∧ ks2.all isTupD = true ∧ ks ≠ [] ∧ ks.length + ks2.length < 16777216 ∧ Q .non (c.set n (.dct (dMrg ks ds ks2 ds2).1 (dMrg ks ds ks2 ds2).2))
  | _ => False
def updW : D → D → Cs → QE → Prop
  | .cell n, .dct ks2 ds2, c, Q => updC n c Q ks2 ds2 c[n]?
  | _, _, _, _ => False
def lenSW (xs : List D) (c : Cs) (Q : QE) : Prop := ∃ ts : List (Int × Int), xs = ts.map prD ∧ ts.length < 64 ∧ ∀ us : List (Int × Int), us.Nodup → (∀ t, t ∈ us ↔ t ∈ ts) → Q (.int us.length) c
def srtSW (m : Bool) (xs : List D) (c : Cs) (Q : QE) : Prop := ∃ ts : List (Int × Int), xs = ts.map prD ∧ ts.length < 64 ∧ (∀ t ∈ ts, 0 ≤ t.1 ∧ t.1 < 64 ∧ 0 ≤ t.2 ∧ t.2 < 64) ∧ ∀ ms : List (Int × Int), ms.Nodup → (∀ t, t ∈ ms ↔ t ∈ ts) → ms.Pairwise (fun a b => a.1 * 64 + a.2 ≤ b.1 * 64 + b.2) → newL m (ms.map prD) c Q
def newD (m : Bool) (ks vs : List D) (c : Cs) (Q : QE) : Prop := match m with
  | true => Q (.cell c.length) (c ++ [.dct ks vs])
  | false => Q (.dct ks vs) c

def dictA (m : Bool) (c : Cs) (Q : QE) : Option (List D × List D) → Prop
  | some kv => (kv.1.all isKey = true ∨ kv.1.all isTupD = true) ∧ newD m (dMrg [] [] kv.1 kv.2).1 (dMrg [] [] kv.1 kv.2).2 c Q
  | none => False
def wpBi (o : Bi) (m : Bool) (as : List D) (c : Cs) (Q : QE) : Prop := match o, as with
  | .len, [a] => lenA c Q a (getS c a)
  | .abs, [.int i] => Q (.int (if i < 0 then -i else i)) c
  | .max, [.int i, .int j] => Q (.int (if j > i then j else i)) c
  | .min, [.int i, .int j] => Q (.int (if j < i then j else i)) c
  | .max, [a] => onO (getR c a) fun xs => maxA c Q (allI xs)
  | .min, [a] => onO (getR c a) fun xs => minA c Q xs (allI xs)
  | .dict, [a] => onO (getR c a) fun xs => dictA m c Q (pairsD xs)
  | .sum, [a] => onO (getS c a) fun xs => onO (allI xs) fun ns => Q (.int ns.sum) c
  | .all, [a] => onO (getR c a) fun xs => onO (allB xs) fun bs => Q (.bl (bs.all id)) c
  | .any, [a] => onO (getR c a) fun xs => onO (allB xs) fun bs => Q (.bl (bs.any id)) c
  | .int, [.int i] => Q (.int i) c
  | .int, [.bl b] => Q (.int (if b then 1 else 0)) c
  | .sorted, [a] => srtA m c Q a (getR c a)
  | .list, [a] => onO (getS c a) fun xs => newL m xs c Q
  | .tuple, [a] => onO (getS c a) fun xs => Q (.tup xs) c
  | _, _ => False

def wpMt (o : Mt) (a : D) (as : List D) (c : Cs) (Q : QE) : Prop := match o, a, as with
  | .append, .cell n, [x] => onO (getL c (.cell n)) fun xs => xs.length < 16777216 ∧ Q .non (c.set n (.lst (xs ++ [x])))
  | .clear, .cell n, [] => onO (getL c (.cell n)) fun _ => Q .non (c.set n (.lst []))
  | .extend, .cell n, [b] => onO (getL c (.cell n)) fun xs => onO (getL c b) fun ys => True ∧ xs.length + ys.length ≤ 16777216 ∧ Q .non (c.set n (.lst (xs ++ ys)))
  | .pop, .cell n, [] => onO (getL c (.cell n)) fun xs => onO xs.getLast? fun x => Q x (c.set n (.lst xs.dropLast))
  | .insert, .cell n, [.int i, x] => onO (getL c (.cell n)) fun xs => (0 ≤ i ∧ i < 2 ^ 62) ∧ xs.length < 16777216 ∧ Q .non (c.set n (.lst (xs.take i.toNat ++ [x] ++ xs.drop i.toNat)))
  | .popAt, .cell n, [.int i] => onO (getL c (.cell n)) fun xs => (0 ≤ i ∧ i < 2 ^ 62) ∧ onO xs[i.toNat]? fun x => Q x (c.set n (.lst (xs.eraseIdx i.toNat)))
  | _, _, _ => False

/-- the type of a value: a built-in one, or an own class -/
def tyD (c : Cs) : D → Option Ty
  | .non => some (.bt "NoneType")
  | .bl _ => some (.bt "bool")
  | .int _ => some (.bt "int")
  | .str _ => some (.bt "str")
  | .tup _ => some (.bt "tuple")
  | .lst _ => some (.bt "list")
  | .scr _ => some (.bt "list")
  | .dct _ _ => some (.bt "dict")
  | .obj k _ => some (.cls k)
  | .cell n => match c[n]? with
    | some (.lst _) => some (.bt "list")
    | some (.dct _ _) => some (.bt "dict")
    | some (.obj k _) => some (.cls k)
    | none => none
  | _ => none
def tySub : Ty → Ty → Bool
  | .bt x, .bt y => if x = y then true else if x = "bool" then decide (y = "int") else false
  | .cls k, .cls j => k == j
  | _, _ => false
def setE (env : En) (i : Nat) (d : D) : En := env.set i (some d)
def wipeE (env : En) : List Nat → En
  | [] => env
  | v :: vs => (wipeE env vs).set v none
def ftLen : FTs → Nat
  | .nil => 0
  | .cons _ ts => ftLen ts + 1
mutual
def wpT : FT → D → En → Cs → (En → Prop) → Prop
  | .nm i, d, env, c, Q => i < env.length ∧ Q (setE env i d)
  | .tp ts, d, env, c, Q => onO (getS c d) fun xs => xs.length = ftLen ts ∧ wpTs ts xs env c Q
def wpTs : FTs → List D → En → Cs → (En → Prop) → Prop
  | .nil, [], env, _, Q => Q env
  | .cons t ts, d :: ds, env, c, Q => wpT t d env c fun env' => wpTs ts ds env' c Q
  | _, _, _, _, _ => False
end

def Cont.nc : Cont → Bool
  | .lst xs => D.ncL xs
  | .dct ks vs => D.ncL ks && D.ncL vs
  | .obj _ fs => D.ncL fs
def Cont.sub (ρ : Nat → D) : Cont → Cont
  | .lst xs => .lst (D.subL ρ xs)
  | .dct ks vs => .dct (D.subL ρ ks) (D.subL ρ vs)
  | .obj k fs => .obj k (D.subL ρ fs)
def Cont.all (p : Nat → Bool) : Cont → Bool
  | .lst xs => D.allL p xs
  | .dct ks vs => D.allL p ks && D.allL p vs
  | .obj _ fs => D.allL p fs
def Cont.fz (flds : Nat → List Str) : Cont → Option D
  | .lst xs => some (.lst xs)
  | .dct ks vs => some (.dct ks vs)
  | .obj k fs => some (.obj k fs)
/-- cell i is u now, the later ones one place ahead -/
def sig (i : Nat) (u : D) (j : Nat) : D := if j = i then u else .cell (if j < i then j else j - 1)
/-- the cell i is frozen: everywhere it is what it holds -/
def frz1 (flds : Nat → List Str) (i : Nat) (c : Cs) (K : (Nat → D) → Cs → Prop) : Prop :=
  onO c[i]? fun x => x.all (fun j => decide (j ≠ i)) = true ∧ onO ((x.sub (sig i .non)).fz flds) fun u => K (sig i u) ((c.eraseIdx i).map (Cont.sub (sig i u)))
/-- the last k cells are frozen -/
def cleanK (flds : Nat → List Str) : Nat → Cs → ((D → D) → Cs → Prop) → Prop
  | 0, c, K => K id c
  | n + 1, c, K => frz1 flds (c.length - 1) c fun ρ c' => cleanK flds n c' fun f c'' => K (fun d => f (D.sub ρ d)) c''
/-- all cells from np on are frozen -/
def clean (flds : Nat → List Str) (np : Nat) (c : Cs) (K : (D → D) → Cs → Prop) : Prop := cleanK flds (c.length - np) c K
def cl (flds : Nat → List Str) (keep : Bool) (np : Nat) (c : Cs) (K : (D → D) → Cs → Prop) : Prop := match keep with
  | true => K id c
  | false => clean flds np c K
/-- cells from np on are frozen, in some order -/
def retF (flds : Nat → List Str) (np : Nat) : List Nat → D → Cs → (D → Cs → Prop) → Prop
  | [], d, c, Q => Q d c
  | i :: is, d, c, Q => np ≤ i ∧ frz1 flds i c fun ρ c' => retF flds np is (D.sub ρ d) c' Q
/-- what a def's end hands to its caller -/
def Ret (flds : Nat → List Str) (np : Nat) (Q : D → Cs → Prop) (d : D) (c : Cs) : Prop := ∃ is, retF flds np is d c Q

def isSomeO {α : Type} : Option α → Bool
  | some _ => true
  | none => false
def dfltOf : List D → Option D
  | [] => some .non
  | [d] => some d
  | _ => none
def partOf : List D → Option (Option Int)
  | [] => some none
  | [.int i] => some (some i)
  | [.non] => some none
  | _ => none
def cutD (xs : List D) (lo hi : Option Int) : List D := (xs.drop (HT.sIx xs.length 0 lo)).take (HT.sIx xs.length xs.length hi - HT.sIx xs.length 0 lo)
def slcO (m : Bool) (c : Cs) (Q : QE) (d : D) (lo hi : Option Int) : Prop := match d with
  | .tup xs => Q (.tup (cutD xs lo hi)) c
  | d => onO (getR c d) fun xs => newL m (cutD xs lo hi) c Q

/-- what is walked stays: the cells' lists as they were -/
def gdOk (c : Cs) : List (Nat × Cont) → Prop
  | [] => True
  | (n, x) :: g => c[n]? = some x ∧ gdOk c g
structure FEnds where
  nx : En → Cs → Prop
  rt : QE
  bk : En → Cs → Prop
  ct : En → Cs → Prop
/-- one turn after another -/
def forL (flds : Nat → List Str) (keep : Bool) (np : Nat) (gd : List (Nat × Cont)) (turn : D → FEnds → En → Cs → Prop) (E : FEnds) : List D → En → Cs → Prop
  | [], env, c => gdOk c gd ∧ E.nx env c
  | x :: r, env, c => gdOk c gd ∧ turn x ⟨(fun env' c' => cl flds keep np c' fun f c'' => forL flds keep np gd turn E r (env'.map (Option.map f)) c''), E.rt,
      (fun env' c' => cl flds keep np c' fun f c'' => E.nx (env'.map (Option.map f)) c''), (fun env' c' => cl flds keep np c' fun f c'' => forL flds keep np gd turn E r (env'.map (Option.map f)) c'')⟩ env c
/-- a comprehension's turns: the items so far -/
def compL (flds : Nat → List Str) (keep : Bool) (np : Nat) (gd : List (Nat × Cont)) (turn : D → (Option D → Cs → Prop) → Cs → Prop) (Q : List D → Cs → Prop) : List D → List D → Cs → Prop
  | [], acc, c => gdOk c gd ∧ Q acc c
  | x :: r, acc, c => gdOk c gd ∧ acc.length < 16777216 ∧ turn x (fun o c' => cl flds keep np c' fun f c'' => match o with
    | some d => compL flds keep np gd turn Q r (acc ++ [f d]) c''
    | none => compL flds keep np gd turn Q r acc c'') c
def gdOf (c : Cs) : D → List (Nat × Cont)
  | .cell n => match c[n]? with
    | some (.lst xs) => [(n, .lst xs)]
    | _ => []
  | _ => []
def isDct : D → Bool
  | .dct _ _ => true
  | _ => false
/-- what is walked: a list, a tuple; a frozen dict's keys -/
def exA (c : Cs) (Q : List D → List (Nat × Cont) → Cs → Prop) (d : D) : Option (List D) → Prop
  | some xs => Q xs (gdOf c d) c
  | none => isDct d = true ∧ onO (getC c d) fun kv => Q kv.1 [] c
def rngL (lo : Int) (n : Nat) : List D := (List.range n).map fun (i : Nat) => D.int (lo + (i : Int))
def enumL (xs : List D) (i : Nat) : List D := match xs with
  | [] => []
  | x :: r => .tup [.int i, x] :: enumL r (i + 1)
def rngD (lo : Int) (n : Nat) : List D := (List.range n).map fun (i : Nat) => D.int (lo - (i : Int))
def isM1 : D → Bool
  | .int i => i == -1
  | _ => false
def small (i : Int) : Prop := -(2 ^ 62) ≤ i ∧ i < 2 ^ 62

def tyNames : List String := ["NoneType", "bool", "int", "str", "tuple", "list", "dict"]
def tyIn (I : CI) : Ty → Bool
  | .bt x => x ∈ tyNames
  | .cls k => decide (k < I.nk)
section
variable (I : CI)
mutual
def wpE : FE → En → Cs → QE → QX → Prop
  | .var i, env, c, Q, X => match env[i]? with
    | some (some d) => Q d c
    | _ => False
  | .lit l, env, c, Q, X => Q l.d c
  | .con k, env, c, Q, X => Q (.int (I.cval k)) c
  | .un .neg a, env, c, Q, X => wpE a env c (fun d c1 => match d with
    | .int i => Q (.int (-i)) c1
    | _ => False) X
  | .un .not a, env, c, Q, X => wpE a env c (fun d c1 => match d with
    | .bl b => Q (.bl (!b)) c1
    | _ => False) X
  | .bin o m a b, env, c, Q, X => wpE a env c (fun x c1 => wpE b env c1 (fun y c2 => wpB o m x y c2 Q) X) X
  | .bop k es, env, c, Q, X => wpBop k es env c Q X
  | .chain o p a b e, env, c, Q, X => wpE a env c (fun x c1 => wpE b env c1 (fun y c2 => wpB o false x y c2 fun r c3 => match r with
    | .bl k => sIf k (wpE e env c3 (fun z c4 => wpB p false y z c4 Q) X) (Q (.bl false) c3)
    | _ => False) X) X
  | .ife t a b, env, c, Q, X => wpC t env c (fun k c1 => sIf k (wpE a env c1 Q X) (wpE b env c1 Q X)) X
  | .tup es, env, c, Q, X => wpA es env c (fun ds c1 => ds.length ≤ 16777216 ∧ Q (.tup ds) c1) X
  | .lst m es, env, c, Q, X => wpA es env c (fun ds c1 => ds.length ≤ 16777216 ∧ newL m ds c1 Q) X
  | .slc m a lo hi, env, c, Q, X => wpE a env c (fun x c1 => wpA lo env c1 (fun l c2 => onO (partOf l) fun lo' => wpA hi env c2 (fun h c3 => onO (partOf h) fun hi' => slcO m c3 Q x lo' hi') X) X) X
  | .attr a k j, env, c, Q, X => wpE a env c (fun d c1 => match d with
    | .obj k' fs => k = k' ∧ onO fs[j]? fun v => Q v c1
    | .cell n => match c1[n]? with
      | some (.obj k' fs) => k = k' ∧ onO fs[j]? fun v => Q v c1
      | _ => False
    | _ => False) X
  | .call f es, env, c, Q, X => wpA es env c (fun ds c1 => I.phi f ds c1 Q X) X
  | .meth f a es, env, c, Q, X => wpE a env c (fun d c0 => objIs c0 (I.kind f) d = true ∧ wpA es env c0 (fun ds c1 => I.phi f (d :: ds) c1 Q X) X) X
  | .make k f es, env, c, Q, X => wpA es env c (fun ds c1 => I.phi f (.cell c1.length :: ds) (c1 ++ [.obj k []]) (fun d c2 => match d with
    | .non => Q (.cell c1.length) c2
    | _ => False) X) X
  | .bi o m es, env, c, Q, X => wpA es env c (fun ds c1 => wpBi o m ds c1 Q) X
  | .mt o a es, env, c, Q, X => wpE a env c (fun d c1 => onO (getL c1 d) fun _ => wpA es env c1 (fun ds c2 => wpMt o d ds c2 Q) X) X
  | .isi a ts _, env, c, Q, X => wpE a env c (fun d c1 => onO (tyD c1 d) fun t => tyIn I t = true ∧ Q (.bl (ts.any (tySub t))) c1) X
  | .comp m keep t it cond e vs, env, c, Q, X => wpI it env c (fun xs gd c1 => compL I.flds keep c1.length gd (fun x K c2 => wpT t x (wipeE env (vs.map (·.2))) c2 fun env' =>
      wpCs cond env' c2 (fun k c3 => sIf k (wpE e env' c3 (fun d c4 => K (some d) c4) fun _ _ _ => False) (K none c3)) fun _ _ _ => False)
      (fun ds c2 => newL m ds c2 Q) xs [] c1) X
  | .frz a, env, c, Q, X => wpE a env c (fun d c1 => clean I.flds c.length c1 fun f c2 => Q (f d) c2) X
  | .dead, _, _, _, _ => False
  | .rev m a, env, c, Q, X => wpE a env c (fun d c1 => onO (getR c1 d) fun xs => newL m xs.reverse c1 Q) X
  | .dct0 m, env, c, Q, X => newD m [] [] c Q
  | .dct1 m tk k v, env, c, Q, X => wpE k env c (fun x c1 => wpE v env c1 (fun y c2 => (cond tk (isTupD x) (isKey x)) = true ∧ newD m [x] [y] c2 Q) X) X
  | .dct2 m k v k' v', env, c, Q, X => wpE k env c (fun x c1 => wpE v env c1 (fun y c2 => wpE k' env c2 (fun x' c3 => wpE v' env c3 (fun y' c4 => isKey x = true ∧ isKey x' = true ∧ newD m (dPutK [x] x') (dPutV [x] [y] x' y') c4 Q) X) X) X) X
  | .dget a k x, env, c, Q, X => wpE a env c (fun d c1 => isSomeO (getC c1 d) = true ∧ wpE k env c1 (fun y c2 => wpA x env c2 (fun z c3 => onO (dfltOf z) fun w => onO (getC c3 d) fun kv => kOk kv.1 y = true ∧ Q ((dGet kv.1 kv.2 y).getD w) c3) X) X) X
  | .srtI m a, env, c, Q, X => wpE a env c (fun d c1 => onO (getC c1 d) fun kv => onO (toPL (zipL kv.1 kv.2)) fun ps => srtOk ps ∧ noLsts ps = true ∧ ∀ ms : List D, ms.Perm (zipL kv.1 kv.2) → ms.Pairwise (fun a b => ltD b a = false) → newL m ms c1 Q) X
  | .minV a, env, c, Q, X => wpE a env c (fun d c1 => onO (getC c1 d) fun kv => minI c1 Q (allI kv.2)) X
  | .orL a b, env, c, Q, X => wpE a env c (fun d c1 => onO (getL c1 d) fun xs => sIf (!xs.isEmpty) (Q d c1) (wpE b env c1 Q X)) X
  | .lenS a, env, c, Q, X => wpE a env c (fun d c1 => onO (getR c1 d) fun xs => lenSW xs c1 Q) X
  | .dupd a b, env, c, Q, X => wpE a env c (fun d c1 => isSomeO (getC c1 d) = true ∧ wpE b env c1 (fun y c2 => updW d y c2 Q) X) X
  | .srtS m a, env, c, Q, X => wpE a env c (fun d c1 => onO (getR c1 d) fun xs => srtSW m xs c1 Q) X
  | .dctL m a, env, c, Q, X => wpE a env c (fun d c1 => onO (getR c1 d) fun xs => dictA m c1 Q (pairsD xs)) X
  | .rngE m a b, env, c, Q, X => wpE a env c (fun x c1 => wpE b env c1 (fun y c2 => int2 (fun i j => small i ∧ small j ∧ j - i ≤ 16777216 ∧ newL m (rngL i (j - i).toNat) c2 Q) x y) X) X
  | .zipE m a b e, env, c, Q, X => wpE a env c (fun x c1 => wpE b env c1 (fun y c2 => wpE e env c2 (fun z c3 => onO (getS c3 x) fun xs => onO (getS c3 y) fun ys => onO (getS c3 z) fun zs => (xs.length = ys.length ∧ ys.length = zs.length) ∧ newL m (zip3L xs ys zs) c3 Q) X) X) X
def wpA : FA → En → Cs → (List D → Cs → Prop) → QX → Prop
  | .nil, env, c, Q, X => Q [] c
  | .cons e es, env, c, Q, X => wpE e env c (fun d c1 => wpA es env c1 (fun ds c2 => Q (d :: ds) c2) X) X
/-- and, or as values -/
def wpBop : Bool → FA → En → Cs → QE → QX → Prop
  | _, .nil, env, c, Q, X => False
  | _, .cons e .nil, env, c, Q, X => wpE e env c Q X
  | k, .cons e (.cons e' es), env, c, Q, X => wpE e env c (fun d c1 => match d with
    | .bl b => sIf b (match k with | true => wpBop k (.cons e' es) env c1 Q X | false => Q (.bl true) c1) (match k with | true => Q (.bl false) c1 | false => wpBop k (.cons e' es) env c1 Q X)
    | _ => False) X
def wpC : FC → En → Cs → (Bool → Cs → Prop) → QX → Prop
  | .val e, env, c, Q, X => wpE e env c (fun d c1 => match d with
    | .bl b => Q b c1
    | _ => False) X
  | .not t, env, c, Q, X => wpC t env c (fun b c1 => Q (!b) c1) X
  | .bop k cs, env, c, Q, X => wpCb k cs env c Q X
def wpCb : Bool → FCs → En → Cs → (Bool → Cs → Prop) → QX → Prop
  | _, .nil, env, c, Q, X => False
  | _, .cons e .nil, env, c, Q, X => wpC e env c Q X
  | k, .cons e (.cons e' es), env, c, Q, X => wpC e env c (fun b c1 =>
      sIf b (match k with | true => wpCb k (.cons e' es) env c1 Q X | false => Q true c1) (match k with | true => Q false c1 | false => wpCb k (.cons e' es) env c1 Q X)) X
/-- the tests of a comprehension: none or one -/
def wpCs : FCs → En → Cs → (Bool → Cs → Prop) → QX → Prop
  | .nil, env, c, Q, X => Q true c
  | .cons t .nil, env, c, Q, X => wpC t env c Q X
  | .cons _ (.cons _ _), _, _, _, _ => False
def wpI : FI → En → Cs → (List D → List (Nat × Cont) → Cs → Prop) → QX → Prop
  | .ex e, env, c, Q, X => wpE e env c (fun d c1 => exA c1 Q d (getS c1 d)) X
  | .rng1 a, env, c, Q, X => wpE a env c (fun d c1 => match d with
    | .int n => small n ∧ Q (rngL 0 n.toNat) [] c1
    | _ => False) X
  | .rng2 a b, env, c, Q, X => wpE a env c (fun x c1 => wpE b env c1 (fun y c2 => int2 (fun i j => small i ∧ small j ∧ Q (rngL i (j - i).toNat) [] c2) x y) X) X
  | .rng3 a b e, env, c, Q, X => wpE a env c (fun x c1 => wpE b env c1 (fun y c2 => wpE e env c2 (fun z c3 => isM1 z = true ∧ int2 (fun i j => small i ∧ small j ∧ Q (rngD i (i - j).toNat) [] c3) x y) X) X) X
  | .enum a, env, c, Q, X => wpE a env c (fun d c1 => onO (getS c1 d) fun xs => Q (enumL xs 0) (gdOf c1 d) c1) X
  | .zip a b, env, c, Q, X => wpE a env c (fun x c1 => wpE b env c1 (fun y c2 => onO (getS c2 x) fun xs => onO (getS c2 y) fun ys => Q (zipL xs ys) (gdOf c2 x ++ gdOf c2 y) c2) X) X
  | .zip3 a b e, env, c, Q, X => wpE a env c (fun x c1 => wpE b env c1 (fun y c2 => wpE e env c2 (fun z c3 => onO (getS c3 x) fun xs => onO (getS c3 y) fun ys => onO (getS c3 z) fun zs => Q (zip3L xs ys zs) (gdOf c3 x ++ (gdOf c3 y ++ gdOf c3 z)) c3) X) X) X
  | .items a, env, c, Q, X => wpE a env c (fun d c1 => isDct d = true ∧ onO (getC c1 d) fun kv => Q (zipL kv.1 kv.2) [] c1) X
end
end
end F

namespace F
open PySem PySem.Spec L2

abbrev EX := Nat → List D → En → Cs → Prop
/-- at env -/
def atE (X : EX) (env : En) : QX := fun k fs c => X k fs env c
def onI (i : Int → Prop) : D → Prop
  | .int k => i k
  | _ => False
/-- o[i] = v -/
def setDC (n : Nat) (i v : D) (c : Cs) (Q : Cs → Prop) : Option Cont → Prop
  | some (.lst xs) => onI (fun j => onO (ixN xs.length j) fun k => Q (c.set n (.lst (xs.set k v)))) i
  | some (.dct ks vs) => kOk ks i = true ∧ ks.length < 16777216 ∧ Q (c.set n (.dct (dPutK ks i) (dPutV ks vs i v)))
  | _ => False
def setD (o i v : D) (c : Cs) (Q : Cs → Prop) : Prop := match o with
  | .cell n => setDC n i v c Q c[n]?
  | _ => False
/-- self.f = v: the j-th field -/
def setF (flds : Nat → List Str) (o : D) (k j : Nat) (v : D) (c : Cs) (Q : Cs → Prop) : Prop := match o with
  | .cell n => match c[n]? with
    | some (.obj k' fs) => k = k' ∧ j < (flds k).length ∧ fs.length ≤ (flds k).length ∧ (if j < fs.length then Q (c.set n (.obj k (fs.set j v))) else j = fs.length ∧ Q (c.set n (.obj k (fs ++ [v]))))
    | _ => False
  | _ => False
def cellAtI (env : En) (i : Nat) : Option Nat := match env[i]? with
  | some (some (.cell n)) => some n
  | _ => none
def augI (o : B2) (k : Int) (Q : Int → Prop) : D → Prop
  | .int j => match o with
    | .add => Q (k + j)
    | .sub => Q (k - j)
    | _ => False
  | _ => False
/-- behind a suite -/
def hEnd (E : FEnds) (i : Nat) (r : Option (Option D)) (env : En) (c : Cs) : Prop := match r with
  | none => False
  | some none => E.nx (env.set i none) c
  | some (some d) => E.rt d c
def unN (env : En) : Option Nat → En
  | none => env
  | some i => env.set i none
/-- behind a clause's suite -/
def hEndO (E : FEnds) (nm : Option Nat) (r : Option (Option D)) (env : En) (c : Cs) : Prop := match r with
  | none => False
  | some none => E.nx (unN env nm) c
  | some (some d) => E.rt d c
/-- the clauses, one after the other -/
def hMany (I : CI) (k : Nat) (fs : List D) (E : FEnds) (X : EX) (env : En) (c : Cs) : List Cl → Prop
  | [] => X k fs env c
  | cl :: r => (∀ i, cl.nm = some i → i < env.length) ∧ sIf (I.esub k cl.k) (hEndO E cl.nm (hsV I k fs (unN env cl.nm) c cl.hs) env c) (hMany I k fs E X env c r)
section
variable (I : CI)
mutual
def wpS : FS → Nat → FEnds → EX → En → Cs → Prop
  | .expr e, np, E, X, env, c => wpE I e env c (fun _ c1 => E.nx env c1) (atE X env)
  | .set t e, np, E, X, env, c => wpE I e env c (fun d c1 => wpT t d env c1 fun env' => E.nx env' c1) (atE X env)
  | .setC i e, np, E, X, env, c => wpE I e env c (fun d c1 => i < env.length ∧ E.nx (setE env i d) c1) (atE X env)
  | .par i j a b, np, E, X, env, c => wpE I a env c (fun x c1 => wpE I b env c1 (fun y c2 => i < env.length ∧ j < env.length ∧ E.nx (setE (setE env i x) j y) c2) (atE X env)) (atE X env)
  | .aug i o m e, np, E, X, env, c => match env[i]? with
    | some (some (.int k)) => wpE I e env c (fun y c1 => augI o k (fun z => E.nx (setE env i (.int z)) c1) y) (atE X env)
    | _ => False
  | .setI o i v, np, E, X, env, c => wpE I v env c (fun z c1 => wpE I o env c1 (fun x c2 => wpE I i env c2 (fun y c3 => setD x y z c3 (E.nx env)) (atE X env)) (atE X env)) (atE X env)
  | .trunc o i v, np, E, X, env, c => wpE I v env c (fun z c1 => wpE I o env c1 (fun x c2 => wpE I i env c2 (fun y c3 => truD c3 (E.nx env) x y z) (atE X env)) (atE X env)) (atE X env)
  | .augI o a i v, np, E, X, env, c => wpE I a env c (fun x c1 => wpE I i env c1 (fun y c2 => match y with
    | .int q => idxS c2 (fun old c2' => wpE I v env c2' (fun z c3 => onI (fun p => augI o p (fun r => setD x y (.int r) c3 (E.nx env)) z) old) (atE X env)) q (getL c2 x)
    | _ => False) (atE X env)) (atE X env)
  | .setA a k j v, np, E, X, env, c => wpE I v env c (fun z c1 => wpE I a env c1 (fun x c2 => setF I.flds x k j z c2 (E.nx env)) (atE X env)) (atE X env)
  | .augA _ _ _ _ _, _, _, _, _, _ => False
  | .ifs t a b, np, E, X, env, c => wpC I t env c (fun k c1 => sIf k (wpSs a np E X env c1) (wpSs b np E X env c1)) (atE X env)
  | .for_ keep t it b, np, E, X, env, c => wpI I it env c (fun xs gd c1 => forL I.flds keep c1.length gd (fun x E' env' c' => wpT t x env' c' fun env2 => wpSs b c1.length E' X env2 c') E xs env c1) (atE X env)
  | .while_ t b, np, E, X, env, c => ∃ (J : Nat → En → Cs → Prop) (n : Nat), J n env c ∧ ∀ n env c, np ≤ c.length → J n env c → wpC I t env c (fun k c1 => sIf k
      (wpSs b np { E with nx := fun env' c' => ∃ m, m < n ∧ J m env' c', ct := fun env' c' => ∃ m, m < n ∧ J m env' c', bk := E.nx } X env c1) (E.nx env c1)) (atE X env)
  | .ret e, np, E, X, env, c => wpE I e env c E.rt (atE X env)
  | .retN, np, E, X, env, c => E.rt .non c
  | .brk, np, E, X, env, c => E.bk env c
  | .cnt, np, E, X, env, c => E.ct env c
  | .pass, np, E, X, env, c => E.nx env c
  | .rais k f es, np, E, X, env, c => wpA I es env c (fun ds c1 => X k ds env c1) (atE X env)
  | .try_ b i k0 hs, np, E, X, env, c => wpSs b np E (fun k fs env' c' => (k < I.ne ∧ i < env'.length) ∧ sIf (I.esub k k0) (hEnd E i (hsV I k fs (env'.set i none) c' hs) env' c') (X k fs env' c')) env c
  | .tryM b cs, np, E, X, env, c => wpSs b np E (fun k fs env' c' => k < I.ne ∧ hMany I k fs E X env' c' cs) env c
  | .frz i, np, E, X, env, c => onO (cellAtI env i) fun n => np ≤ n ∧ frz1 I.flds n c fun ρ c' => E.nx (env.map (Option.map (D.sub ρ))) c'
  | .clnA, np, E, X, env, c => clean I.flds np c fun f c' => E.nx (env.map (Option.map f)) c'
  | .cln i, np, E, X, env, c => onO (cellAtI env i) fun n => (np ≤ n + 1 ∧ n < c.length) ∧ clean I.flds (n + 1) c fun f c' => E.nx (env.map (Option.map f)) c'
  | .dead, _, _, _, _, _ => False
  | .forget i, np, E, X, env, c => E.nx (env.set i none) c
def wpSs : FSs → Nat → FEnds → EX → En → Cs → Prop
  | .nil, np, E, X, env, c => E.nx env c
  | .cons s ss, np, E, X, env, c => wpS s np { E with nx := wpSs ss np E X } X env c
end

/-- a def's body: its arguments, its places -/
def wpDef (nN : Nat) (b : FSs) (ds : List D) (c : Cs) (Q : QE) (X : QX) : Prop :=
  wpSs I b c.length { nx := fun _ c' => Ret I.flds c.length Q .non c', rt := fun d c' => Ret I.flds c.length Q d c', bk := fun _ _ => False, ct := fun _ _ => False }
    (fun k fs _ c' => clean I.flds c.length c' fun f c'' => X k (fs.map f) c'') (ds.map some ++ List.replicate (nN - ds.length) none) c
end
end F

namespace F
open PySem PySem.Spec L2

def EnvOk (G : GI) (W : Wd) (σ : St) (env : En) : Prop := env.length = σ.length ∧ ∀ (i : Nat) (d : D), env[i]? = some (some d) → ∃ v, σ[i]? = some (some v) ∧ Den G W v d
def ExcD (G : GI) (W : Wd) (dd : Option Addr) (k : Nat) (fs : List D) : Prop :=
  (dd = none ∧ G.exf k = [] ∧ fs = []) ∨ ∃ d gs, dd = some d ∧ W.Fz d ∧ W.H d = some (.xd gs) ∧ gs.map (·.1) = G.exf k ∧ DenL G W (gs.map (·.2)) fs
def Post (G : GI) (W : Wd) (Q0 : QE) : VK := fun v H' => ∃ W' c' d, W'.H = H' ∧ Ext W W' ∧ Ok G W' c' ∧ Den G W' v d ∧ Q0 d c'
def PostL (G : GI) (W : Wd) (Q0 : List D → Cs → Prop) : List V → Hp → Prop := fun vs H' => ∃ W' c' ds, W'.H = H' ∧ Ext W W' ∧ Ok G W' c' ∧ DenL G W' vs ds ∧ Q0 ds c'
def PostB (G : GI) (W : Wd) (Q0 : Bool → Cs → Prop) : Bool → Hp → Prop := fun b H' => ∃ W' c', W'.H = H' ∧ Ext W W' ∧ Ok G W' c' ∧ Q0 b c'
def XPost (G : GI) (W : Wd) (X0 : QX) : Value → Option Addr → Hp → Prop := fun cls dd H' => ∃ W' c' k fs, W'.H = H' ∧ Ext W W' ∧ Ok G W' c' ∧ cls = .ref (G.exc k) ∧ ExcD G W' dd k fs ∧ X0 k fs c'

abbrev FA1 := En → Cs → QE → QX → Prop
abbrev FAL := En → Cs → (List D → Cs → Prop) → QX → Prop
abbrev FAB := En → Cs → (Bool → Cs → Prop) → QX → Prop
def lift (G : GI) (Wx : WX) (A : FA1) : TE := fun σ H Q => ∃ W c env Q0 X0, W.H = H ∧ Ok G W c ∧ EnvOk G W σ env ∧ A env c Q0 X0 ∧ (∀ v H', Post G W Q0 v H' → Q v H') ∧ (∀ cls dd H', XPost G W X0 cls dd H' → Wx cls dd σ H')
def liftL (G : GI) (Wx : WX) (A : FAL) : TA := fun σ H Q => ∃ W c env Q0 X0, W.H = H ∧ Ok G W c ∧ EnvOk G W σ env ∧ A env c Q0 X0 ∧ (∀ v H', PostL G W Q0 v H' → Q v H') ∧ (∀ cls dd H', XPost G W X0 cls dd H' → Wx cls dd σ H')
def liftB (G : GI) (Wx : WX) (A : FAB) : TT := fun σ H Q => ∃ W c env Q0 X0, W.H = H ∧ Ok G W c ∧ EnvOk G W σ env ∧ A env c Q0 X0 ∧ (∀ v H', PostB G W Q0 v H' → Q v H') ∧ (∀ cls dd H', XPost G W X0 cls dd H' → Wx cls dd σ H')

theorem PE.imp {X : Cx} {e : Expr} {t t' : TE} (h : PE X e t) (i : ∀ σ H Q, t' σ H Q → t σ H Q) : PE X e t' := ⟨fun pins s σ H Q I hw => h.run pins s σ H Q I (i _ _ _ hw)⟩
theorem PT.imp {X : Cx} {e : Expr} {t t' : TT} (h : PT X e t) (i : ∀ σ H Q, t' σ H Q → t σ H Q) : PT X e t' := ⟨fun pins s σ H Q I hw => h.run pins s σ H Q I (i _ _ _ hw)⟩
theorem PA.imp {X : Cx} {e : List Expr} {t t' : TA} (h : PA X e t) (i : ∀ σ H Q, t' σ H Q → t σ H Q) : PA X e t' := ⟨fun pos pins s σ H Q I hw => h.run pos pins s σ H Q I (i _ _ _ hw)⟩

section
variable {G : GI} {W W' W'' : Wd} {c c' : Cs} {σ : St} {env : En} {Wx : WX} {H : Hp}
theorem EnvOk.mono (ok : Ok G W c) (x : Ext W W') (e : EnvOk G W σ env) : EnvOk G W' σ env := ⟨e.1, fun i d h => by
  obtain ⟨v, h1, h2⟩ := e.2 i d h
  exact ⟨v, h1, h2.mono ok x⟩⟩
theorem EnvOk.get (e : EnvOk G W σ env) {i : Nat} {d : D} (h : env[i]? = some (some d)) : ∃ v, σ[i]? = some (some v) ∧ Den G W v d := e.2 i d h
theorem ExcD.mono (ok : Ok G W c) (x : Ext W W') {dd : Option Addr} {k : Nat} {fs : List D} (e : ExcD G W dd k fs) : ExcD G W' dd k fs := by
  rcases e with e | ⟨d, gs, e1, f, e2, e3, e4⟩
  · exact .inl e
  · exact .inr ⟨d, gs, e1, x.fz d f, x.keep d _ e2 (ok.fz d f), e3, e4.mono ok x⟩
theorem Post.up (x : Ext W W') {Q0 : QE} {v : V} {H' : Hp} (p : Post G W' Q0 v H') : Post G W Q0 v H' :=
  let ⟨W2, c2, d, e, y, ok, dn, q⟩ := p; ⟨W2, c2, d, e, x.trans y, ok, dn, q⟩
theorem PostL.up (x : Ext W W') {Q0 : List D → Cs → Prop} {v : List V} {H' : Hp} (p : PostL G W' Q0 v H') : PostL G W Q0 v H' :=
  let ⟨W2, c2, d, e, y, ok, dn, q⟩ := p; ⟨W2, c2, d, e, x.trans y, ok, dn, q⟩
theorem PostB.up (x : Ext W W') {Q0 : Bool → Cs → Prop} {v : Bool} {H' : Hp} (p : PostB G W' Q0 v H') : PostB G W Q0 v H' :=
  let ⟨W2, c2, e, y, ok, q⟩ := p; ⟨W2, c2, e, x.trans y, ok, q⟩
theorem XPost.up (x : Ext W W') {X0 : QX} {cls : Value} {dd : Option Addr} {H' : Hp} (p : XPost G W' X0 cls dd H') : XPost G W X0 cls dd H' :=
  let ⟨W2, c2, k, fs, e, y, ok, r⟩ := p; ⟨W2, c2, k, fs, e, x.trans y, ok, r⟩
theorem Post.now (ok : Ok G W c) {v : V} {d : D} (dn : Den G W v d) {Q0 : QE} (q : Q0 d c) : Post G W Q0 v W.H := ⟨W, c, d, rfl, Ext.refl W, ok, dn, q⟩

theorem CellAt.isObj {a : Addr} {x : Cont} (h : CellAt G W a x) : ∃ o, W.H a = some o ∧ Mut (some o) := by
  cases x with
  | lst ds => obtain ⟨vs, e, _⟩ := h; exact ⟨_, e, trivial⟩
  | dct ks ds => obtain ⟨r, e, _⟩ := h; exact ⟨_, e, DRep.ho_mut⟩
  | obj k fs => obtain ⟨dx, gs, e, _⟩ := h; exact ⟨_, e, trivial⟩
theorem Ok.at (ok : Ok G W c) {n : Nat} {a : Addr} (h : W.as[n]? = some a) : ∃ x, c[n]? = some x ∧ CellAt G W a x := by
  have hn : n < c.length := by rw [← ok.len]; exact (List.getElem?_eq_some_iff.mp h).1
  exact ⟨c[n], List.getElem?_eq_getElem hn, ok.cell n a _ h (List.getElem?_eq_getElem hn)⟩
theorem Ok.atC (ok : Ok G W c) {n : Nat} {x : Cont} (h : c[n]? = some x) : ∃ a, W.as[n]? = some a ∧ CellAt G W a x := by
  have hn : n < W.as.length := by rw [ok.len]; exact (List.getElem?_eq_some_iff.mp h).1
  exact ⟨W.as[n], List.getElem?_eq_getElem hn, ok.cell n _ _ (List.getElem?_eq_getElem hn) h⟩
theorem Ok.mem (ok : Ok G W c) {a : Addr} (h : a ∈ W.as) : ∃ o, W.H a = some o ∧ Mut (some o) := by
  obtain ⟨n, hn⟩ := List.mem_iff_getElem?.mp h
  obtain ⟨x, _, ca⟩ := ok.at hn
  exact ca.isObj
theorem CellAt.mono (fzk : ∀ b, W.Fz b → b ∉ W.as) (x : Fr W W') (has : ∀ (n : Nat) (a : Addr), W.as[n]? = some a → W'.as[n]? = some a) {a : Addr} {y : Cont} (hH : W'.H a = W.H a) (h : CellAt G W a y) : CellAt G W' a y := by
  cases y with
  | lst ds => obtain ⟨vs, e, d⟩ := h; exact ⟨vs, by rw [hH]; exact e, d.mono0 (x.mv fzk) has⟩
  | dct ks ds => obtain ⟨r, e, d0, d1, d2⟩ := h; exact ⟨r, by rw [hH]; exact e, d0, d1.mono0 (x.mv fzk) has, d2.mono0 (x.mv fzk) has⟩
  | obj k fs => obtain ⟨dx, gs, e, e2, d⟩ := h; exact ⟨dx, gs, by rw [hH]; exact e, e2, d.mono0 (x.mv fzk) has⟩
/-- a new object that is no cell and is not told as frozen (a tuple, an instance's own dict) -/
theorem Ok.alloc (ok : Ok G W c) {p : Addr} (hp : W.H p = none) (o : HO) : Ext W { W with H := upd W.H p o } ∧ Ok G { W with H := upd W.H p o } c := by
  have np : ∀ b u, W.H b = some u → b ≠ p := fun b u e => ne_of_none e hp
  have x : Ext W { W with H := upd W.H p o } := ⟨⟨fun b xs e => by show upd _ _ _ _ = _; rw [upd_ne (np _ _ e)]; exact e, fun b u e _ => by show upd _ _ _ _ = _; rw [upd_ne (np _ _ e)]; exact e, fun b h => h, fun b e => by
    by_cases hb : b = p
    · subst hb; exact hp
    · have e' : upd W.H p o b = none := e
      rw [upd_ne hb] at e'; exact e', fun b h => .inl h, fun b h => .inl h⟩, List.prefix_refl _⟩
  refine ⟨x, ok.len, ok.nd, ok.fz, fun b h => ?_, fun n a y h1 h2 => ?_⟩
  · obtain ⟨u, e⟩ := ok.fzt b h
    exact ⟨u, by show upd _ _ _ _ = _; rw [upd_ne (np _ _ e)]; exact e⟩
  · have ca := ok.cell n a y h1 h2
    obtain ⟨u, e, _⟩ := ca.isObj
    exact ca.mono ok.fz x.toFr (fun _ _ h => h) (by show upd _ _ _ _ = _; rw [upd_ne (np _ _ e)])
/-- frozen at once -/
abbrev Wd.fzAt (W : Wd) (p : Addr) (o : HO) : Wd := { H := upd W.H p o, as := W.as, Fz := fun b => b = p ∨ W.Fz b }
theorem Ok.allocF (ok : Ok G W c) {p : Addr} (hp : W.H p = none) (o : HO) : Ext W (W.fzAt p o) ∧ Ok G (W.fzAt p o) c := by
  obtain ⟨x, k⟩ := ok.alloc hp o
  have nas : p ∉ W.as := fun h => by
    obtain ⟨u, e, _⟩ := ok.mem h
    rw [hp] at e; cases e
  have x' : Ext W (W.fzAt p o) := ⟨⟨x.tup, x.keep, fun b h => .inr h, x.trk, x.new, fun b h => by
    rcases h with rfl | h
    · exact .inr (.inl hp)
    · exact .inl h⟩, x.as⟩
  refine ⟨x', k.len, k.nd, fun b h => ?_, fun b h => ?_, fun n a y h1 h2 => ?_⟩
  · rcases h with rfl | h
    · exact nas
    · exact ok.fz b h
  · rcases h with rfl | h
    · exact ⟨o, upd_same⟩
    · exact k.fzt b h
  · have ca := ok.cell n a y h1 h2
    obtain ⟨u, e, _⟩ := ca.isObj
    exact ca.mono ok.fz x'.toFr (fun _ _ h => h) (by show upd _ _ _ _ = _; rw [upd_ne (ne_of_none e hp)])
/-- a new cell -/
abbrev Wd.cellAt (W : Wd) (p : Addr) (o : HO) : Wd := { H := upd W.H p o, as := W.as ++ [p], Fz := W.Fz }
theorem Ok.allocC (ok : Ok G W c) {p : Addr} (hp : W.H p = none) (o : HO) {y : Cont} (hy : CellAt G (W.cellAt p o) p y) : Ext W (W.cellAt p o) ∧ Ok G (W.cellAt p o) (c ++ [y]) := by
  obtain ⟨x, k⟩ := ok.alloc hp o
  have nas : p ∉ W.as := fun h => by
    obtain ⟨u, e, _⟩ := ok.mem h
    rw [hp] at e; cases e
  have x' : Ext W (W.cellAt p o) := ⟨⟨x.tup, x.keep, fun b h => h, x.trk, fun b h => by
    rcases List.mem_append.mp h with h | h
    · exact .inl h
    · have e : b = p := by simpa using h
      subst e; exact .inr hp, fun b h => .inl h⟩, List.prefix_append _ _⟩
  refine ⟨x', by show (W.as ++ [p]).length = _; rw [List.length_append, List.length_append, ok.len] <;> rfl, ?_, fun b h hm => ?_, fun b h => k.fzt b h, fun n a z h1 h2 => ?_⟩
  · show (W.as ++ [p]).Nodup
    rw [List.nodup_append]
    exact ⟨ok.nd, by simp, fun a ha b hb e => by
      have : b = p := by simpa using hb
      subst this; subst e; exact nas ha⟩
  · rcases List.mem_append.mp hm with hm | hm
    · exact ok.fz b h hm
    · have e : b = p := by simpa using hm
      subst e
      obtain ⟨u, e⟩ := ok.fzt b h
      rw [hp] at e; cases e
  · by_cases hn : n < W.as.length
    · have h1' : W.as[n]? = some a := by
        have e : (W.as ++ [p])[n]? = some a := h1
        rw [List.getElem?_append_left hn] at e; exact e
      have h2' : c[n]? = some z := by
        rw [List.getElem?_append_left (by rw [← ok.len]; exact hn)] at h2; exact h2
      have ca := ok.cell n a z h1' h2'
      obtain ⟨u, e, _⟩ := ca.isObj
      exact ca.mono ok.fz x'.toFr (fun _ _ h => x'.get h) (by show upd _ _ _ _ = _; rw [upd_ne (ne_of_none e hp)])
    · have hl := (List.getElem?_eq_some_iff.mp h1).1
      have hl' : n < W.as.length + 1 := by
        have e : n < (W.as ++ [p]).length := hl
        rwa [List.length_append] at e
      have en : n = W.as.length := by omega
      subst en
      have ea : a = p := by
        have e : (W.as ++ [p])[W.as.length]? = some a := h1
        rw [List.getElem?_append_right (Nat.le_refl _)] at e
        simp at e; exact e.symm
      have ez : z = y := by
        rw [ok.len, List.getElem?_append_right (Nat.le_refl _)] at h2
        simp at h2; exact h2.symm
      subst ea; subst ez
      exact hy
/-- a cell is changed -/
abbrev Wd.setAt (W : Wd) (a : Addr) (o : HO) : Wd := { W with H := upd W.H a o }
theorem Ok.setE (ok : Ok G W c) {n : Nat} {a : Addr} (ha : W.as[n]? = some a) (o : HO) : Ext W (W.setAt a o) := by
  have ham : a ∈ W.as := List.mem_of_getElem? ha
  obtain ⟨u, eu, mu⟩ := ok.mem ham
  have ntup : ∀ b xs, W.H b = some (.tup xs) → b ≠ a := fun b xs e z => by subst z; rw [eu] at e; cases e; exact mu
  exact ⟨⟨fun b xs e => by show upd _ _ _ _ = _; rw [upd_ne (ntup b xs e)]; exact e, fun b u e hb => by show upd _ _ _ _ = _; rw [upd_ne (fun z => hb (by rw [z]; exact ham))]; exact e, fun b h => h, fun b e => by
    have e' : upd W.H a o b = none := e
    by_cases hb : b = a
    · subst hb; rw [upd_same] at e'; cases e'
    · rw [upd_ne hb] at e'; exact e', fun b h => .inl h, fun b h => .inl h⟩, List.prefix_refl _⟩
theorem Ok.setC (ok : Ok G W c) {n : Nat} {a : Addr} (ha : W.as[n]? = some a) (o : HO) {y : Cont} (hy : CellAt G (W.setAt a o) a y) : Ext W (W.setAt a o) ∧ Ok G (W.setAt a o) (c.set n y) := by
  have ham : a ∈ W.as := List.mem_of_getElem? ha
  have x := ok.setE ha o
  refine ⟨x, by rw [List.length_set]; exact ok.len, ok.nd, ok.fz, fun b h => ?_, fun m b z h1 h2 => ?_⟩
  · obtain ⟨u, e⟩ := ok.fzt b h
    exact ⟨u, by show upd _ _ _ _ = _; rw [upd_ne (fun z => ok.fz b h (by rw [z]; exact ham))]; exact e⟩
  · by_cases hm : m = n
    · subst hm
      have eb : b = a := Option.some.inj (h1.symm.trans ha)
      subst eb
      have hl : m < c.length := by rw [← ok.len]; exact (List.getElem?_eq_some_iff.mp ha).1
      rw [List.getElem?_set_self hl] at h2
      cases h2
      exact hy
    · rw [List.getElem?_set_ne (Ne.symm hm)] at h2
      have nb : b ≠ a := fun e => by
        subst e
        obtain ⟨l1, e1⟩ := List.getElem?_eq_some_iff.mp h1
        obtain ⟨l2, e2⟩ := List.getElem?_eq_some_iff.mp ha
        exact hm ((List.getElem_inj ok.nd).mp (e1.trans e2.symm))
      exact (ok.cell m b z h1 h2).mono ok.fz x.toFr (fun _ _ h => h) (by show upd _ _ _ _ = _; rw [upd_ne nb])

theorem den_getL (ok : Ok G W c) {v : V} {d : D} {xs : List D} (h : Den G W v d) (e : getL c d = some xs) : ∃ a vs, v = .ref a ∧ W.H a = some (.lst vs) ∧ DenL G W vs xs := by
  cases h with
  | lst h t => simp only [getL] at e; cases e; exact ⟨_, _, rfl, h.2, t⟩
  | cell h =>
    obtain ⟨x, hx, ca⟩ := ok.at h
    simp only [getL, hx] at e
    cases x with
    | lst ds =>
      cases e
      obtain ⟨vs, e1, e2⟩ := ca
      exact ⟨_, vs, rfl, e1, e2⟩
    | dct _ _ => cases e
    | obj _ _ => cases e
  | _ => simp [getL] at e
theorem den_getR (ok : Ok G W c) {v : V} {d : D} {xs : List D} (h : Den G W v d) (e : getR c d = some xs) : ∃ a vs, v = .ref a ∧ SqL G.K W.H a vs ∧ DenL G W vs xs := by
  cases h with
  | scr h t => simp only [getR] at e; cases e; exact ⟨_, _, rfl, h.seq, t⟩
  | lst h t => obtain ⟨a, vs, e1, e2, e3⟩ := den_getL ok (.lst h t) e; exact ⟨a, vs, e1, .inl (.inl e2), e3⟩
  | cell h => obtain ⟨a, vs, e1, e2, e3⟩ := den_getL ok (.cell h) e; exact ⟨a, vs, e1, .inl (.inl e2), e3⟩
  | _ => simp [getR, getL] at e
theorem den_getS (ok : Ok G W c) {v : V} {d : D} {xs : List D} (h : Den G W v d) (e : getS c d = some xs) : ∃ a vs, v = .ref a ∧ (SqL G.K W.H a vs ∨ SqT G.K W.H a vs) ∧ DenL G W vs xs := by
  cases h with
  | tup h t => simp only [getS] at e; cases e; exact ⟨_, _, rfl, .inr h.seq, t⟩
  | scr h t => simp only [getS] at e; cases e; exact ⟨_, _, rfl, .inl h.seq, t⟩
  | lst h t => obtain ⟨a, vs, e1, e2, e3⟩ := den_getL ok (.lst h t) e; exact ⟨a, vs, e1, .inl (.inl (.inl e2)), e3⟩
  | cell h => obtain ⟨a, vs, e1, e2, e3⟩ := den_getL ok (.cell h) e; exact ⟨a, vs, e1, .inl (.inl (.inl e2)), e3⟩
  | _ => simp [getS, getL] at e
mutual
theorem den_toP {K : PySem.W.Frag} (hK : G.K = K) : ∀ {d : D} {p : PyData} {v : V}, Den G W v d → toP d = some p → Dp K W.H v p
  | .non, _, _, .non, e => by cases e; exact .non
  | .bl _, _, _, .bl, e => by cases e; exact .bl _
  | .int _, _, _, .int, e => by cases e; exact .int _
  | .str _, _, _, .str, e => by cases e; exact .str _
  | .tup ds, _, _, .tup h t, e => by
    simp only [toP] at e
    obtain ⟨ps, e1, rfl⟩ := Option.map_eq_some_iff.mp e
    exact .tup (by rw [← hK]; exact h.seq) (den_toPL hK t e1)
  | .lst ds, _, _, .lst h t, e => by
    simp only [toP] at e
    obtain ⟨ps, e1, rfl⟩ := Option.map_eq_some_iff.mp e
    exact .lst (h.seq) (den_toPL hK t e1)
theorem den_toPL {K : PySem.W.Frag} (hK : G.K = K) : ∀ {ds : List D} {ps : List PyData} {vs : List V}, DenL G W vs ds → toPL ds = some ps → DpAll K W.H vs ps
  | [], _, _, .nil, e => by cases e; exact .nil
  | d :: ds, _, _, .cons r t, e => by
    simp only [toPL] at e
    cases e1 : toP d with
    | none => rw [e1] at e; cases e
    | some p =>
      cases e2 : toPL ds with
      | none => rw [e1, e2] at e; cases e
      | some ps =>
        rw [e1, e2] at e; cases e
        exact .cons (den_toP hK r e1) (den_toPL hK t e2)
end
theorem den_toPk (ok : Ok G W c) : ∀ {k : Nat} {d : D} {p : PyData} {v : V}, Den G W v d → toPk c k d = some p → Dp G.K W.H v p
  | 0, d, p, v, h, e => den_toP rfl h (by unfold toPk at e; exact e)
  | k + 1, d, p, v, h, e => by
    have lst : ∀ {ds : List D} {vs : List V} {ps : List PyData}, DenL G W vs ds → mapO (toPk c k) ds = some ps → DpAll G.K W.H vs ps := by
      intro ds
      induction ds with
      | nil => intro vs ps t e; cases t; cases e; exact .nil
      | cons d ds ih =>
        intro vs ps t e
        cases t with
        | cons r t =>
          simp only [mapO] at e
          cases e1 : toPk c k d with
          | none => rw [e1] at e; cases e
          | some p =>
            cases e2 : mapO (toPk c k) ds with
            | none => rw [e1, e2] at e; cases e
            | some ps =>
              rw [e1, e2] at e; cases e
              exact .cons (den_toPk ok r e1) (ih t e2)
    cases h with
    | cell h =>
      obtain ⟨x, hx, ca⟩ := ok.at h
      simp only [toPk, hx] at e
      cases x with
      | lst ds =>
        obtain ⟨ps, e1, rfl⟩ := Option.map_eq_some_iff.mp e
        obtain ⟨vs, e2, e3⟩ := ca
        exact .lst (.inl (.inl e2)) (lst e3 e1)
      | dct _ _ => cases e
      | obj _ _ => cases e
    | non => exact den_toP rfl .non e
    | bl => exact den_toP rfl .bl e
    | int => exact den_toP rfl .int e
    | str => exact den_toP rfl .str e
    | ty => exact den_toP rfl .ty e
    | ref => simp [toPk, toP] at e
    | tup h t =>
      simp only [toPk] at e
      obtain ⟨ps, e1, rfl⟩ := Option.map_eq_some_iff.mp e
      exact .tup h.seq (lst t e1)
    | lst h t =>
      simp only [toPk] at e
      obtain ⟨ps, e1, rfl⟩ := Option.map_eq_some_iff.mp e
      exact .lst h.seq (lst t e1)
    | scr h t => simp [toPk, toP] at e
    | dctK => simp [toPk, toP] at e
    | obj => simp [toPk, toP] at e
theorem den_toPc (ok : Ok G W c) {d : D} {p : PyData} {v : V} (h : Den G W v d) (e : toPc c d = some p) : Dp G.K W.H v p := den_toPk ok h e
/-- a new list -/
theorem newL_ok (ok : Ok G W c) {m : Bool} {vs : List V} {xs : List D} {Q0 : QE} {Q : VK} (t : DenL G W vs xs) (h : newL m xs c Q0) (q : ∀ v H', Post G W Q0 v H' → Q v H') : ∀ p, W.H p = none → Q (.ref p) (upd W.H p (.lst vs)) := by
  intro p hp
  cases m with
  | true =>
    have hx : CellAt G (W.cellAt p (.lst vs)) p (.lst xs) := ⟨vs, upd_same, t.mono ok ?_⟩
    · obtain ⟨x, k⟩ := ok.allocC hp (.lst vs) hx
      refine q _ _ ⟨_, _, _, rfl, x, k, .cell ?_, h⟩
      show (W.as ++ [p])[c.length]? = some p
      rw [← ok.len, List.getElem?_append_right (Nat.le_refl _)]
      simp
    · -- the extension, shown ahead of the cell
      obtain ⟨x, _⟩ := ok.alloc hp (.lst vs)
      exact ⟨⟨x.tup, x.keep, fun b h => h, x.trk, fun b h => by
        rcases List.mem_append.mp h with h | h
        · exact .inl h
        · have e : b = p := by simpa using h
          subst e; exact .inr hp, fun b h => .inl h⟩, List.prefix_append _ _⟩
  | false =>
    obtain ⟨x, k⟩ := ok.allocF hp (.lst vs)
    exact q _ _ ⟨_, _, _, rfl, x, k, .lst ⟨.inl rfl, upd_same⟩ (t.mono ok x), h⟩
/-- a new tuple -/
theorem newT_ok (ok : Ok G W c) {vs : List V} {xs : List D} {Q0 : QE} {Q : VK} (t : DenL G W vs xs) (h : Q0 (.tup xs) c) (q : ∀ v H', Post G W Q0 v H' → Q v H') : ∀ p, W.H p = none → Q (.ref p) (upd W.H p (.tup vs)) := by
  intro p hp
  obtain ⟨x, k⟩ := ok.alloc hp (.tup vs)
  exact q _ _ ⟨_, _, _, rfl, x, k, .tup (.inl upd_same) (t.mono ok x), h⟩

theorem lift_one {A : FA1} {K : D → Cs → QE → QX → Prop} {Q : VK} (h : lift G Wx (fun env c Q X => A env c (fun x c1 => K x c1 Q X) X) σ H Q) :
    lift G Wx A σ H fun x H1 => ∃ W c env d Q0 X0, W.H = H1 ∧ Ok G W c ∧ EnvOk G W σ env ∧ Den G W x d ∧ K d c Q0 X0 ∧ (∀ v H', Post G W Q0 v H' → Q v H') ∧ (∀ cls dd H', XPost G W X0 cls dd H' → Wx cls dd σ H') := by
  obtain ⟨W, c, env, Q0, X0, e, ok, eo, h, q, x⟩ := h
  exact ⟨W, c, env, _, X0, e, ok, eo, h, fun v H' ⟨W1, c1, d, e1, x1, ok1, dn, k⟩ => ⟨W1, c1, env, d, Q0, X0, e1, ok1, eo.mono ok x1, dn, k, fun v H' p => q v H' (p.up x1), fun cls dd H' p => x cls dd H' (p.up x1)⟩, x⟩
theorem lift_two {A B : FA1} {K : D → D → Cs → QE → Prop} {Q : VK} (h : lift G Wx (fun env c Q X => A env c (fun x c1 => B env c1 (fun y c2 => K x y c2 Q) X) X) σ H Q) :
    lift G Wx A σ H fun x H1 => lift G Wx B σ H1 fun y H2 => ∃ W c d e Q0, W.H = H2 ∧ Ok G W c ∧ Den G W x d ∧ Den G W y e ∧ K d e c Q0 ∧ ∀ v H', Post G W Q0 v H' → Q v H' := by
  obtain ⟨W, c, env, Q0, X0, e, ok, eo, h, q, x⟩ := h
  refine ⟨W, c, env, _, X0, e, ok, eo, h, fun v H' ⟨W1, c1, d, e1, x1, ok1, dn, k⟩ => ?_, x⟩
  refine ⟨W1, c1, env, _, X0, e1, ok1, eo.mono ok x1, k, fun v2 H2 ⟨W2, c2, d2, e2, x2, ok2, dn2, k2⟩ => ?_, fun cls dd H' p => x cls dd H' (p.up x1)⟩
  exact ⟨W2, c2, d, d2, Q0, e2, ok2, dn.mono ok1 x2, dn2, k2, fun v H' p => q v H' ((p.up x2).up x1)⟩
theorem liftL_fin {A : FAL} {K : List D → Cs → QE → QX → Prop} {Q : VK} (h : lift G Wx (fun env c Q X => A env c (fun x c1 => K x c1 Q X) X) σ H Q) :
    liftL G Wx A σ H fun xs H1 => ∃ W c env ds Q0 X0, W.H = H1 ∧ Ok G W c ∧ EnvOk G W σ env ∧ DenL G W xs ds ∧ K ds c Q0 X0 ∧ (∀ v H', Post G W Q0 v H' → Q v H') ∧ (∀ cls dd H', XPost G W X0 cls dd H' → Wx cls dd σ H') := by
  obtain ⟨W, c, env, Q0, X0, e, ok, eo, h, q, x⟩ := h
  exact ⟨W, c, env, _, X0, e, ok, eo, h, fun v H' ⟨W1, c1, d, e1, x1, ok1, dn, k⟩ => ⟨W1, c1, env, d, Q0, X0, e1, ok1, eo.mono ok x1, dn, k, fun v H' p => q v H' (p.up x1), fun cls dd H' p => x cls dd H' (p.up x1)⟩, x⟩
end
end F

namespace F
open PySem PySem.Spec PyProof.Rows L2
def kN : Key → NestedKey
  | .inl i => .num i
  | .inr x => .text x
theorem kN_inj : ∀ {a b : Key}, kN a = kN b → a = b
  | .inl _, .inl _, h => by injection h with h; rw [h]
  | .inr _, .inr _, h => by injection h with h; rw [h]
  | .inl _, .inr _, h => nomatch h
  | .inr _, .inl _, h => nomatch h
theorem kN_hash {w : World} : ∀ {k : Key}, (kN k).hash w = keyH w k
  | .inl _ => rfl
  | .inr _ => rfl
theorem keysN_cons {d : D} {ds : List D} {ns : List NestedKey} (h : keysN (d :: ds) = some ns) : ∃ n r, ns = n :: r ∧ keyN d = some n ∧ keysN ds = some r := by
  simp only [keysN] at h
  cases h1 : keyN d with
  | none => rw [h1] at h; cases h
  | some n =>
    cases h2 : keysN ds with
    | none => rw [h1, h2] at h; cases h
    | some r => rw [h1, h2] at h; cases h; exact ⟨n, r, rfl, rfl, rfl⟩
theorem keysN_snoc {d : D} {n : NestedKey} : ∀ {ds : List D} {ns : List NestedKey}, keysN ds = some ns → keyN d = some n → keysN (ds ++ [d]) = some (ns ++ [n])
  | [], ns, h, e => by cases h; simp only [List.nil_append, keysN, e]
  | x :: ds, ns, h, e => by
    obtain ⟨m, r, rfl, h1, h2⟩ := keysN_cons h
    simp only [List.cons_append, keysN, h1, keysN_snoc h2 e]
theorem key_cases {d : D} (h : isKey d = true) : ∃ k : Key, keyN d = some (kN k) ∧ ∀ {G : GI} {W : Wd} {v : V}, Den G W v d → v = kV k := by
  cases d with
  | int i => exact ⟨.inl i, rfl, fun h => by cases h; rfl⟩
  | str i => exact ⟨.inr i, rfl, fun h => by cases h; rfl⟩
  | _ => cases h
theorem dec_key {a b : Key} : decide ((some (kN a)) = some (kN b)) = decide (a = b) := by
  by_cases h : a = b
  · subst h; simp
  · rw [decide_eq_false h]
    exact decide_eq_false fun z => h (kN_inj (Option.some.inj z))
section
variable {X : Cx} {G : GI} {W : Wd} {c : Cs} {pins : List (Addr × Obj)} {σ : L2.St} {s : Shared}
mutual
theorem den_nk (hK : X.K = G.K) (I : Inv X pins σ W.H s) : ∀ {d : D} {k : NestedKey} {v : V} {u : Value}, Den G W v d → keyN d = some k → RelV v u → NestedIs s.heap k u
  | .non, _, _, _, .non, h, r => by cases h; cases r; exact .none
  | .bl b, _, _, _, .bl, h, r => by
    simp only [keyN] at h; cases h; cases r
    exact .bool rfl
  | .int i, _, _, _, .int, h, r => by cases h; obtain ⟨t, rfl⟩ := r; exact .int i t
  | .str x, _, _, _, .str, h, r => by cases h; obtain ⟨t, rfl⟩ := r; exact .text x t
  | .tup ds, k, _, _, .tup (a := a) (vs := vs) ta da, h, r => by
    simp only [keyN] at h
    obtain ⟨ns, h1, rfl⟩ := Option.map_eq_some_iff.mp h
    cases r
    obtain ⟨its, rv, p, hz⟩ := I.tuple (show SqT X.K W.H a vs by rw [hK]; exact ta.seq)
    obtain ⟨o, ho, hc, n, hd⟩ := p
    exact .tup ho hc hd (by simpa using den_nkL hK I da h1 rv)
  | .lst _, _, _, _, _, h, _ | .scr _, _, _, _, _, h, _ | .dct _ _, _, _, _, _, h, _ | .obj _ _, _, _, _, _, h, _ | .cell _, _, _, _, _, h, _ | .ref _, _, _, _, _, h, _ | .ty _, _, _, _, _, h, _ => by simp [keyN] at h
theorem den_nkL (hK : X.K = G.K) (I : Inv X pins σ W.H s) : ∀ {ds : List D} {ks : List NestedKey} {vs : List V} {us : List Value}, DenL G W vs ds → keysN ds = some ks → Vals vs us → NestedAll s.heap ks us
  | [], ks, _, _, .nil, h, r => by cases h; cases r; exact .nil
  | d :: ds, ks, _, _, .cons dv t, h, r => by
    obtain ⟨n, l, rfl, h1, h2⟩ := keysN_cons h
    cases r with
    | cons r1 r2 => exact .cons (den_nk hK I dv h1 r1) (den_nkL hK I t h2 r2)
end
theorem isTup_ref {d : D} (h : isTupD d = true) : ∃ n, keyN d = some n ∧ isTupN n = true ∧ n.depth ≤ 8 ∧ ∀ {G : GI} {W : Wd} {v : V}, Den G W v d → ∃ a, v = .ref a := by
  unfold isTupD at h
  cases e : keyN d with
  | none => rw [e] at h; cases h
  | some n =>
    rw [e] at h
    refine ⟨n, rfl, h, ?_, fun {G W v} dn => ?_⟩
    · cases n with
      | tup ks => exact of_decide_eq_true h
      | _ => cases h
    · cases d with
      | tup ds => cases dn; exact ⟨_, rfl⟩
      | non => cases e; cases h
      | bl => simp only [keyN] at e; cases e; cases h
      | int => cases e; cases h
      | str => cases e; cases h
      | _ => simp [keyN] at e
theorem isKey_tup {d : D} (h : isKey d = true) : isTupD d = false := by
  cases d with
  | int i => rfl
  | str i => rfl
  | _ => cases h

/-- the dict at a, by its representation -/
structure DAt (G : GI) (W : Wd) (a : Addr) (r : DRep) (ks ds : List D) : Prop where
  at_ : W.H a = some (r.ho a)
  ok : r.ok G.w a ks
  dk : DenL G W r.keys ks
  dv : DenL G W r.vals ds
theorem den_getC (ok : Ok G W c) {v : V} {d : D} {kv : List D × List D} (h : Den G W v d) (e : getC c d = some kv) : ∃ a r, v = .ref a ∧ DAt G W a r kv.1 kv.2 ∧ ∀ n, d = .cell n → W.as[n]? = some a := by
  cases h with
  | dctK f h1 h2 h3 h4 => simp only [getC] at e; cases e; exact ⟨_, _, rfl, ⟨h1, h2, h3, h4⟩, fun _ z => nomatch z⟩
  | cell h =>
    obtain ⟨x, hx, ca⟩ := ok.at h
    simp only [getC, hx] at e
    cases x with
    | lst ds => cases e
    | dct ks ds =>
      cases e
      obtain ⟨r, h1, h2, h3, h4⟩ := ca
      exact ⟨_, r, rfl, ⟨h1, h2, h3, h4⟩, fun n z => by cases z; exact h⟩
    | obj _ _ => cases e
  | _ => simp [getC] at e
theorem DAt.get {a : Addr} {r : DRep} {ks ds : List D} (x : DAt G W a r ks ds) (I : Inv X pins σ W.H s) : s.heap.get? a = some r.o := (I.hok a _ x.at_).1
theorem DAt.raw {a : Addr} {r : DRep} {ks ds : List D} (x : DAt G W a r ks ds) (I : Inv X pins σ W.H s) : ∃ es ep, r.o.data = .dict es ep ∧ s.heap.DictRaw a es ep ∧ es.size ≤ sizeLine ∧ Vals r.keys (es.toList.map (·.key)) ∧ Vals r.vals (es.toList.map (·.val)) := by
  obtain ⟨h1, h2, es, ep, nks, h3, h4, h5, h6, _⟩ := x.ok
  exact ⟨es, ep, h3, ⟨_, x.get I, h1, h3⟩, h4, h5, h6⟩
theorem DAt.len {a : Addr} {r : DRep} {ks ds : List D} (x : DAt G W a r ks ds) : ks.length = ds.length ∧ ks.length ≤ sizeLine := by
  obtain ⟨h1, h2, es, ep, nks, h3, h4, h5, h6, _⟩ := x.ok
  have e1 := x.dk.length
  have e2 := x.dv.length
  have e3 := h5.length
  have e4 := h6.length
  rw [List.length_map] at e3 e4
  have e5 : es.toList.length = es.size := by simp
  omega

/-- the view by scalar keys -/
theorem kview : ∀ {es : List DictEntry} {keys : List V} {ks : List D} {nks : List NestedKey} {w : World} {P : Program}, Vals keys (es.map (·.key)) → DenL G W keys ks → ks.all isKey = true → keysN ks = some nks → es.map (·.hash) = nks.map (NestedKey.hash w) →
    ∃ kvs : List (Key × Value), Pairs (mixKind P w) es kvs ∧ (∀ e ∈ es, ∃ k, keyIs k e.key = true ∧ e.hash = keyH w k) ∧ kvs.map (·.2) = es.map (·.val) ∧ nks = kvs.map fun p => kN p.1
  | [], _, ks, nks, w, P, r, dk, _, hk, _ => by
    cases r; cases dk; cases hk
    exact ⟨[], .nil, (fun _ h => nomatch h), rfl, rfl⟩
  | e :: es, keys, ks, nks, w, P, r, dk, ha, hk, hh => by
    cases r with
    | @cons v u vs us r1 r2 =>
      cases dk with
      | @cons _ d _ ds dv t =>
        obtain ⟨n, l, rfl, h1, h2⟩ := keysN_cons hk
        rw [List.all_cons, Bool.and_eq_true] at ha
        obtain ⟨k, hk1, hk2⟩ := key_cases ha.1
        rw [hk1] at h1; cases h1
        have ev := hk2 dv
        subst ev
        simp only [List.map_cons, List.cons.injEq] at hh
        obtain ⟨kvs, q1, q2, q3, q4⟩ := kview (w := w) (P := P) r2 t ha.2 h2 hh.2
        have kis : keyIs k e.key = true := kV_is (P := P) (w := w) r1
        refine ⟨(k, e.val) :: kvs, .cons kis rfl q1, fun e' he => ?_, by simp [q3], by simp [q4]⟩
        rcases List.mem_cons.mp he with rfl | he
        · exact ⟨k, kis, by rw [hh.1, kN_hash]⟩
        · exact q2 e' he
theorem DAt.kof {a : Addr} {r : DRep} {ks ds : List D} (hw : G.w = X.w) (x : DAt G W a r ks ds) (I : Inv X pins σ W.H s) (hk : ks.all isKey = true) :
    ∃ kvs : List (Key × Value), s.heap.DictOf (mixKind X.prog X.w) a kvs ∧ kvs.length ≤ sizeLine ∧ Vals r.vals (kvs.map (·.2)) ∧ keysN ks = some (kvs.map fun p => kN p.1) := by
  obtain ⟨h1, h2, es, ep, nks, h3, h4, h5, h6, h7, h8, h9, _⟩ := x.ok
  obtain ⟨kvs, q1, q2, q3, q4⟩ := kview (P := X.prog) (w := X.w) h5 x.dk hk h7 (by rw [← hw]; exact h9)
  subst q4
  have hl := congrArg List.length q3
  rw [List.length_map, List.length_map] at hl
  refine ⟨kvs, ⟨r.o, es, ep, x.get I, h1, h3, fun e he => q2 e (by simpa using he), q1, ?_⟩, by rw [hl]; simpa using h4, by rw [q3]; exact h6, h7⟩
  have z : ((kvs.map (·.1)).map kN).Nodup := by rw [List.map_map]; exact h8
  exact List.Pairwise.of_map kN (fun a b h e => h (congrArg kN e)) z
/-- the view by tuples -/
theorem nview (hK : X.K = G.K) (I : Inv X pins σ W.H s) : ∀ {es : List DictEntry} {keys : List V} {ks : List D} {nks : List NestedKey}, Vals keys (es.map (·.key)) → DenL G W keys ks → ks.all isTupD = true → keysN ks = some nks → es.map (·.hash) = nks.map (NestedKey.hash X.w) →
    ∃ ys : List (NestedKey × Addr × Value), es = ys.map (entryOfKey (nestedKind X.prog X.w)) ∧ ys.map (fun y => V.ref y.2.1) = keys ∧ ys.map (·.2.2) = es.map (·.val) ∧ nks = ys.map (·.1) ∧ ∀ y ∈ ys, (nestedKind X.prog X.w).is s.heap y.1 y.2.1
  | [], _, ks, nks, r, dk, _, hk, _ => by
    cases r; cases dk; cases hk
    exact ⟨[], rfl, rfl, rfl, rfl, (fun _ h => nomatch h)⟩
  | e :: es, keys, ks, nks, r, dk, ha, hk, hh => by
    cases r with
    | @cons v u vs us r1 r2 =>
      cases dk with
      | @cons _ d _ ds dv t =>
        obtain ⟨n, l, rfl, h1, h2⟩ := keysN_cons hk
        rw [List.all_cons, Bool.and_eq_true] at ha
        obtain ⟨m, m1, m2, m3, m4⟩ := isTup_ref ha.1
        rw [m1] at h1; cases h1
        obtain ⟨b, rfl⟩ := m4 dv
        simp only [List.map_cons, List.cons.injEq] at hh
        obtain ⟨ys, q1, q2, q3, q4, q5⟩ := nview hK I r2 t ha.2 h2 hh.2
        have ek : e.key = .ref b := r1
        have nk : NestedIs s.heap n (.ref b) := by rw [← ek]; exact den_nk hK I dv m1 r1
        refine ⟨(n, b, e.val) :: ys, ?_, by simp [q2], by simp [q3], by simp [q4], fun y hy => ?_⟩
        · rw [List.map_cons, ← q1]
          congr 1
          obtain ⟨eh, ekk, ev⟩ := e
          simp only at ek hh
          subst ek
          show _ = DictEntry.mk _ _ _
          rw [hh.1]; rfl
        · rcases List.mem_cons.mp hy with rfl | hy
          · exact ⟨nk, m3⟩
          · exact q5 y hy
theorem DAt.nof {a : Addr} {r : DRep} {ks ds : List D} (hK : X.K = G.K) (hw : G.w = X.w) (x : DAt G W a r ks ds) (I : Inv X pins σ W.H s) (hk : ks.all isTupD = true) :
    ∃ ys : List (NestedKey × Addr × Value), s.heap.DictOfH (nestedKind X.prog X.w) a ys ∧ ys.length ≤ sizeLine ∧ ys.map (fun y => V.ref y.2.1) = r.keys ∧ Vals r.vals (ys.map (·.2.2)) ∧ keysN ks = some (ys.map (·.1)) := by
  obtain ⟨h1, h2, es, ep, nks, h3, h4, h5, h6, h7, h8, h9, _⟩ := x.ok
  obtain ⟨ys, q1, q2, q3, q4, q5⟩ := nview hK I h5 x.dk hk h7 (by rw [← hw]; exact h9)
  subst q4
  have hl := congrArg List.length q3
  rw [List.length_map, List.length_map] at hl
  exact ⟨ys, ⟨r.o, es, ep, x.get I, h1, h3, q1, q5, h8⟩, by rw [hl]; simpa using h4, q2, by rw [q3]; exact h6, h7⟩

theorem look_k {kk : Key} {k : D} (hk : keyN k = some (kN kk)) : ∀ {kvs : List (Key × Value)} {ks ds : List D} {vs : List V}, keysN ks = some (kvs.map fun p => kN p.1) → DenL G W vs ds → Vals vs (kvs.map (·.2)) →
    (∃ d v u, dGet ks ds k = some d ∧ valueAt kvs kk = some u ∧ RelV v u ∧ Den G W v d ∧ dHas ks k = true) ∨ (dGet ks ds k = none ∧ valueAt kvs kk = none ∧ dHas ks k = false)
  | [], ks, ds, vs, h1, h2, h3 => by
    cases h3; cases h2
    cases ks with
    | nil => exact .inr ⟨rfl, rfl, rfl⟩
    | cons x r => obtain ⟨n, l, h, _, _⟩ := keysN_cons h1; cases h
  | (k0, u0) :: kvs, ks, ds, vs, h1, h2, h3 => by
    cases h3 with
    | @cons v _ vs' _ r1 r2 =>
      cases h2 with
      | @cons _ d _ ds' dv t =>
        cases ks with
        | nil => cases h1
        | cons x r =>
          obtain ⟨n, l, h, e1, e2⟩ := keysN_cons h1
          simp only [List.map_cons, List.cons.injEq] at h
          obtain ⟨h0, h4⟩ := h
          subst h0 h4
          by_cases hc : k0 = kk
          · subst hc
            refine .inl ⟨d, v, u0, ?_, ?_, r1, dv, ?_⟩
            · unfold dGet; rw [if_pos (by rw [e1, hk])]
            · simp [valueAt]
            · unfold dHas; rw [List.any_cons, e1, hk]; simp
          · have hne : ¬ keyN x = keyN k := by
              rw [e1, hk]; exact fun z => hc (kN_inj (Option.some.inj z))
            rcases look_k hk (kvs := kvs) (ks := r) e2 t r2 with ⟨d', v', u', g1, g2, g3, g4, g5⟩ | ⟨g1, g2, g3⟩
            · refine .inl ⟨d', v', u', ?_, ?_, g3, g4, ?_⟩
              · unfold dGet; rw [if_neg hne]; exact g1
              · unfold valueAt at g2 ⊢; rw [List.find?_cons, show (decide ((k0, u0).1 = kk)) = false from decide_eq_false hc]; exact g2
              · unfold dHas at g5 ⊢; rw [List.any_cons, g5, Bool.or_true]
            · refine .inr ⟨?_, ?_, ?_⟩
              · unfold dGet; rw [if_neg hne]; exact g1
              · unfold valueAt at g2 ⊢; rw [List.find?_cons, show (decide ((k0, u0).1 = kk)) = false from decide_eq_false hc]; exact g2
              · unfold dHas at g3 ⊢; rw [List.any_cons, g3, decide_eq_false hne]; rfl
theorem look_n {nk : NestedKey} {k : D} (hk : keyN k = some nk) : ∀ {ys : List (NestedKey × Addr × Value)} {ks ds : List D} {vs : List V}, keysN ks = some (ys.map (·.1)) → DenL G W vs ds → Vals vs (ys.map (·.2.2)) →
    (∃ d v p, dGet ks ds k = some d ∧ atKey ys nk = some p ∧ RelV v p.2 ∧ Den G W v d ∧ dHas ks k = true) ∨ (dGet ks ds k = none ∧ atKey ys nk = none ∧ dHas ks k = false)
  | [], ks, ds, vs, h1, h2, h3 => by
    cases h3; cases h2
    cases ks with
    | nil => exact .inr ⟨rfl, rfl, rfl⟩
    | cons x r => obtain ⟨n, l, h, _, _⟩ := keysN_cons h1; cases h
  | (k0, b0, u0) :: kvs, ks, ds, vs, h1, h2, h3 => by
    cases h3 with
    | @cons v _ vs' _ r1 r2 =>
      cases h2 with
      | @cons _ d _ ds' dv t =>
        cases ks with
        | nil => cases h1
        | cons x r =>
          obtain ⟨n, l, h, e1, e2⟩ := keysN_cons h1
          simp only [List.map_cons, List.cons.injEq] at h
          obtain ⟨h0, h4⟩ := h
          subst h0 h4
          by_cases hc : k0 = nk
          · subst hc
            refine .inl ⟨d, v, (b0, u0), ?_, ?_, r1, dv, ?_⟩
            · unfold dGet; rw [if_pos (by rw [e1, hk])]
            · simp [atKey]
            · unfold dHas; rw [List.any_cons, e1, hk]; simp
          · have hne : ¬ keyN x = keyN k := by
              rw [e1, hk]; exact fun z => hc (Option.some.inj z)
            rcases look_n hk (ys := kvs) (ks := r) e2 t r2 with ⟨d', v', u', g1, g2, g3, g4, g5⟩ | ⟨g1, g2, g3⟩
            · refine .inl ⟨d', v', u', ?_, ?_, g3, g4, ?_⟩
              · unfold dGet; rw [if_neg hne]; exact g1
              · unfold atKey at g2 ⊢; rw [List.find?_cons, show (decide ((k0, b0, u0).1 = nk)) = false from decide_eq_false hc]; exact g2
              · unfold dHas at g5 ⊢; rw [List.any_cons, g5, Bool.or_true]
            · refine .inr ⟨?_, ?_, ?_⟩
              · unfold dGet; rw [if_neg hne]; exact g1
              · unfold atKey at g2 ⊢; rw [List.find?_cons, show (decide ((k0, b0, u0).1 = nk)) = false from decide_eq_false hc]; exact g2
              · unfold dHas at g3 ⊢; rw [List.any_cons, g3, decide_eq_false hne]; rfl
theorem kOk_of {ks : List D} {k : D} (h : kOk ks k = true) : (isKey k = true ∧ ks.all isKey = true) ∨ (isTupD k = true ∧ ks.all isTupD = true) := by
  unfold kOk at h
  rw [Bool.or_eq_true, Bool.and_eq_true, Bool.and_eq_true] at h
  exact h
theorem room_n {A : Around} (hu : A.units + 64 < cLine) {P : Program} {w : World} : (nestedKind P w).room A.in1 := by show A.units + 1 + 8 < cLine; omega
variable {A : Around} {E : Value → Shared → Prop} {a : Addr} {r : DRep} {ks ds : List D} {k : D} {y : V} {u : Value}
theorem DAt.typeIs (x : DAt G W a r ks ds) (I : Inv X pins σ W.H s) : s.TypeIs (.ref a) "dict" := ⟨_, x.get I, x.ok.1.1⟩
/-- d[y] -/
theorem DAt.getItem (hK : X.K = G.K) (hw : G.w = X.w) (hu : A.units + 64 < cLine) (x : DAt G W a r ks ds) (I : Inv X pins σ W.H s) (dn : Den G W y k) (ry : RelV y u) (ko : kOk ks k = true) {d : D} (hg : dGet ks ds k = some d) {Q : Value → Shared → Prop}
    (h : ∀ v w' s', Inv X pins σ W.H s' → RelV v w' → Den G W v d → Q w' s') : wpAny (model X.prog X.w) A (getItem (.ref a) u) Q E s := by
  rcases kOk_of ko with ⟨k1, k2⟩ | ⟨k1, k2⟩
  · obtain ⟨kvs, q1, q2, q3, q4⟩ := x.kof hw I k2
    obtain ⟨kk, e1, e2⟩ := key_cases k1
    have ev := e2 dn
    subst ev
    rcases look_k e1 q4 x.dv q3 with ⟨d', v, w', g1, g2, g3, g4, _⟩ | ⟨g1, _, _⟩
    · rw [hg] at g1; cases g1
      exact wpAny_getItem_of (kV_is ry) q1.mapOf g2 (h v w' _ (I.tok _) g3 g4)
    · rw [hg] at g1; cases g1
  · obtain ⟨ys, q1, q2, q3, q4, q5⟩ := x.nof hK hw I k2
    obtain ⟨n, n1, n2, n3, n4⟩ := isTup_ref k1
    obtain ⟨b, rfl⟩ := n4 dn
    cases (show u = Value.ref b from ry)
    rcases look_n n1 q5 x.dv q4 with ⟨d', v, p, g1, g2, g3, g4, _⟩ | ⟨g1, _, _⟩
    · rw [hg] at g1; cases g1
      exact wpAny_getItem_heap (room_n hu) ⟨den_nk hK I dn n1 rfl, n3⟩ q1 g2 (h v p.2 _ (I.tok _) g3 g4)
    · rw [hg] at g1; cases g1
theorem DAt.in_ (hK : X.K = G.K) (hw : G.w = X.w) (hu : A.units + 64 < cLine) (x : DAt G W a r ks ds) (I : Inv X pins σ W.H s) (dn : Den G W y k) (ry : RelV y u) (ko : kOk ks k = true) {Q : Value → Shared → Prop}
    (h : ∀ s', Inv X pins σ W.H s' → Q (.bool (dHas ks k)) s') : wpAny (model X.prog X.w) A (compareOp .In u (.ref a)) Q E s := by
  rcases kOk_of ko with ⟨k1, k2⟩ | ⟨k1, k2⟩
  · obtain ⟨kvs, q1, q2, q3, q4⟩ := x.kof hw I k2
    obtain ⟨kk, e1, e2⟩ := key_cases k1
    have ev := e2 dn
    subst ev
    refine wpAny_in_of (kV_is ry) x.ok.2.1 q1.mapOf ?_
    have e : (valueAt kvs kk).isSome = dHas ks k := by
      rcases look_k e1 q4 x.dv q3 with ⟨d', v, w', g1, g2, g3, g4, g5⟩ | ⟨g1, g2, g3⟩
      · rw [g2, g5]; rfl
      · rw [g2, g3]; rfl
    rw [e]; exact h _ (I.tok _)
  · obtain ⟨ys, q1, q2, q3, q4, q5⟩ := x.nof hK hw I k2
    obtain ⟨n, n1, n2, n3, n4⟩ := isTup_ref k1
    obtain ⟨b, rfl⟩ := n4 dn
    cases (show u = Value.ref b from ry)
    refine wpAny_in_heap (room_n hu) ⟨den_nk hK I dn n1 rfl, n3⟩ x.ok.2.1 q1 ?_
    have e : (atKey ys n).isSome = dHas ks k := by
      rcases look_n n1 q5 x.dv q4 with ⟨d', v, w', g1, g2, g3, g4, g5⟩ | ⟨g1, g2, g3⟩
      · rw [g2, g5]; rfl
      · rw [g2, g3]; rfl
    rw [e]; exact h _ (I.tok _)
theorem DAt.nin (hK : X.K = G.K) (hw : G.w = X.w) (hu : A.units + 64 < cLine) (x : DAt G W a r ks ds) (I : Inv X pins σ W.H s) (dn : Den G W y k) (ry : RelV y u) (ko : kOk ks k = true) {Q : Value → Shared → Prop}
    (h : ∀ s', Inv X pins σ W.H s' → Q (.bool (!dHas ks k)) s') : wpAny (model X.prog X.w) A (compareOp .NotIn u (.ref a)) Q E s := by
  rcases kOk_of ko with ⟨k1, k2⟩ | ⟨k1, k2⟩
  · obtain ⟨kvs, q1, q2, q3, q4⟩ := x.kof hw I k2
    obtain ⟨kk, e1, e2⟩ := key_cases k1
    have ev := e2 dn
    subst ev
    refine wpAny_notIn_of (kV_is ry) x.ok.2.1 q1.mapOf ?_
    have e : (valueAt kvs kk).isSome = dHas ks k := by
      rcases look_k e1 q4 x.dv q3 with ⟨d', v, w', g1, g2, g3, g4, g5⟩ | ⟨g1, g2, g3⟩
      · rw [g2, g5]; rfl
      · rw [g2, g3]; rfl
    rw [e]; exact h _ (I.tok _)
  · obtain ⟨ys, q1, q2, q3, q4, q5⟩ := x.nof hK hw I k2
    obtain ⟨n, n1, n2, n3, n4⟩ := isTup_ref k1
    obtain ⟨b, rfl⟩ := n4 dn
    cases (show u = Value.ref b from ry)
    refine wpAny_notIn_heap (room_n hu) ⟨den_nk hK I dn n1 rfl, n3⟩ x.ok.2.1 q1 ?_
    have e : (atKey ys n).isSome = dHas ks k := by
      rcases look_n n1 q5 x.dv q4 with ⟨d', v, w', g1, g2, g3, g4, g5⟩ | ⟨g1, g2, g3⟩
      · rw [g2, g5]; rfl
      · rw [g2, g3]; rfl
    rw [e]; exact h _ (I.tok _)
/-- d.get(y), d.get(y, z) -/
theorem DAt.get1 (hK : X.K = G.K) (hw : G.w = X.w) (hu : A.units + 64 < cLine) (x : DAt G W a r ks ds) (I : Inv X pins σ W.H s) (dn : Den G W y k) (ry : RelV y u) (ko : kOk ks k = true) {Q : Value → Shared → Prop}
    (h : ∀ v w' s', Inv X pins σ W.H s' → RelV v w' → Den G W v ((dGet ks ds k).getD .non) → Q w' s') : wpAny (model X.prog X.w) A (call (.builtin "dict.get") [.ref a, u]) Q E s := by
  rcases kOk_of ko with ⟨k1, k2⟩ | ⟨k1, k2⟩
  · obtain ⟨kvs, q1, q2, q3, q4⟩ := x.kof hw I k2
    obtain ⟨kk, e1, e2⟩ := key_cases k1
    have ev := e2 dn
    subst ev
    refine call_meetsIn PySem.F.slot_dict_get (x.typeIs I) PySem.F.entry_dict_get (PySem.F.args_dict_get_2 _ _) (meets_dict_get (mixKind X.prog X.w) a (kV_is ry) x.ok.2.1) ⟨_, q1.mapOf, ?_⟩
    rcases look_k e1 q4 x.dv q3 with ⟨d', v, w', g1, g2, g3, g4, _⟩ | ⟨g1, g2, _⟩
    · rw [g2]; exact h v w' _ (I.tok _) g3 (by rw [g1]; exact g4)
    · rw [g2]; exact h .non .none _ (I.tok _) rfl (by rw [g1]; exact .non)
  · obtain ⟨ys, q1, q2, q3, q4, q5⟩ := x.nof hK hw I k2
    obtain ⟨n, n1, n2, n3, n4⟩ := isTup_ref k1
    obtain ⟨b, rfl⟩ := n4 dn
    cases (show u = Value.ref b from ry)
    refine call_meetsIn PySem.F.slot_dict_get (x.typeIs I) PySem.F.entry_dict_get (PySem.F.args_dict_get_2 _ _) (meetsH_dict_get (nestedKind X.prog X.w) a b x.ok.2.1) ⟨room_n hu, n, ys, ⟨den_nk hK I dn n1 rfl, n3⟩, q1, ?_⟩
    rcases look_n n1 q5 x.dv q4 with ⟨d', v, p, g1, g2, g3, g4, _⟩ | ⟨g1, g2, _⟩
    · rw [g2]; exact h v p.2 _ (I.tok _) g3 (by rw [g1]; exact g4)
    · rw [g2]; exact h .non .none _ (I.tok _) rfl (by rw [g1]; exact .non)
theorem DAt.get2 (hK : X.K = G.K) (hw : G.w = X.w) (hu : A.units + 64 < cLine) (x : DAt G W a r ks ds) (I : Inv X pins σ W.H s) (dn : Den G W y k) (ry : RelV y u) (ko : kOk ks k = true) {z : V} {zd : D} {zu : Value} (dz : Den G W z zd) (rz : RelV z zu) {Q : Value → Shared → Prop}
    (h : ∀ v w' s', Inv X pins σ W.H s' → RelV v w' → Den G W v ((dGet ks ds k).getD zd) → Q w' s') : wpAny (model X.prog X.w) A (call (.builtin "dict.get") [.ref a, u, zu]) Q E s := by
  rcases kOk_of ko with ⟨k1, k2⟩ | ⟨k1, k2⟩
  · obtain ⟨kvs, q1, q2, q3, q4⟩ := x.kof hw I k2
    obtain ⟨kk, e1, e2⟩ := key_cases k1
    have ev := e2 dn
    subst ev
    refine call_meetsIn PySem.F.slot_dict_get (x.typeIs I) PySem.F.entry_dict_get (PySem.F.args_dict_get_3 _ _ _) (meets_dict_get_default (mixKind X.prog X.w) a (kV_is ry) x.ok.2.1 zu) ⟨_, q1.mapOf, ?_⟩
    rcases look_k e1 q4 x.dv q3 with ⟨d', v, w', g1, g2, g3, g4, _⟩ | ⟨g1, g2, _⟩
    · rw [g2]; exact h v w' _ (I.tok _) g3 (by rw [g1]; exact g4)
    · rw [g2]; exact h z zu _ (I.tok _) rz (by rw [g1]; exact dz)
  · obtain ⟨ys, q1, q2, q3, q4, q5⟩ := x.nof hK hw I k2
    obtain ⟨n, n1, n2, n3, n4⟩ := isTup_ref k1
    obtain ⟨b, rfl⟩ := n4 dn
    cases (show u = Value.ref b from ry)
    refine call_meetsIn PySem.F.slot_dict_get (x.typeIs I) PySem.F.entry_dict_get (PySem.F.args_dict_get_3 _ _ _) (meetsH_dict_get_default (nestedKind X.prog X.w) a b x.ok.2.1 zu) ⟨room_n hu, n, ys, ⟨den_nk hK I dn n1 rfl, n3⟩, q1, ?_⟩
    rcases look_n n1 q5 x.dv q4 with ⟨d', v, p, g1, g2, g3, g4, _⟩ | ⟨g1, g2, _⟩
    · rw [g2]; exact h v p.2 _ (I.tok _) g3 (by rw [g1]; exact g4)
    · rw [g2]; exact h z zu _ (I.tok _) rz (by rw [g1]; exact dz)
end
end F

namespace F
open PySem PySem.Spec PyProof.Rows L2
theorem pairs_rep {P : Program} {w : World} : ∀ {es : List DictEntry} {kvs : List (Key × Value)}, Pairs (mixKind P w) es kvs → (∀ e ∈ es, ∃ k, keyIs k e.key = true ∧ e.hash = keyH w k) →
    Vals (kvs.map fun p => kV p.1) (es.map (·.key)) ∧ es.map (·.val) = kvs.map (·.2) ∧ es.map (·.hash) = (kvs.map fun p => kN p.1).map (NestedKey.hash w)
  | _, _, .nil, _ => ⟨.nil, rfl, rfl⟩
  | e :: es, kv :: kvs, .cons h1 h2 t, hk => by
    obtain ⟨q1, q2, q3⟩ := pairs_rep t fun e he => hk e (List.mem_cons_of_mem _ he)
    refine ⟨.cons (relV_key h1) q1, by simp [h2, q2], ?_⟩
    simp only [List.map_cons, q3]
    congr 1
    obtain ⟨k', a, b⟩ := hk e (List.mem_cons_self ..)
    have ee : k' = kv.1 := (mixKind P w).inj _ _ _ a h1
    rw [b, ee, kN_hash]
theorem entries_rep {P : Program} {w : World} : ∀ {es : List DictEntry} {ys : List (NestedKey × Addr × Value)}, es = ys.map (entryOfKey (nestedKind P w)) →
    Vals (ys.map fun y => V.ref y.2.1) (es.map (·.key)) ∧ es.map (·.val) = ys.map (·.2.2) ∧ es.map (·.hash) = (ys.map (·.1)).map (NestedKey.hash w)
  | _, [], h => by subst h; exact ⟨.nil, rfl, rfl⟩
  | _, y :: ys, h => by
    subst h
    obtain ⟨q1, q2, q3⟩ := entries_rep (P := P) (w := w) (ys := ys) rfl
    exact ⟨.cons rfl q1, by simp only [List.map_cons, q2]; rfl, by simp only [List.map_cons, q3]; rfl⟩
section
variable {X : Cx} {G : GI} {W : Wd} {c : Cs} {pins : List (Addr × Obj)} {σ : L2.St} {s : Shared}
theorem den_kv : ∀ {kvs : List (Key × Value)} {ks : List D} {keys : List V}, DenL G W keys ks → ks.all isKey = true → keysN ks = some (kvs.map fun p => kN p.1) → keys = kvs.map fun p => kV p.1
  | [], ks, keys, dk, _, h => by
    cases ks with
    | nil => cases dk; rfl
    | cons x r => obtain ⟨n, l, h, _, _⟩ := keysN_cons h; cases h
  | p :: kvs, ks, keys, dk, ha, h => by
    cases ks with
    | nil => cases h
    | cons x r =>
      cases dk with
      | cons dv t =>
        obtain ⟨n, l, h, e1, e2⟩ := keysN_cons h
        simp only [List.map_cons, List.cons.injEq] at h
        obtain ⟨h0, h4⟩ := h
        subst h0 h4
        rw [List.all_cons, Bool.and_eq_true] at ha
        obtain ⟨k, hk1, hk2⟩ := key_cases ha.1
        rw [hk1] at e1
        have ek : k = p.1 := kN_inj (Option.some.inj e1)
        rw [hk2 dv, den_kv t ha.2 e2, ek]; rfl
theorem rep_k {kk : Key} {k d : D} {v : V} {u : Value} (hk : keyN k = some (kN kk)) (dv : Den G W v d) (rv : RelV v u) : ∀ {kvs : List (Key × Value)} {ks ds : List D} {vs : List V}, keysN ks = some (kvs.map fun p => kN p.1) → DenL G W vs ds → Vals vs (kvs.map (·.2)) →
    ∃ vs', DenL G W vs' (dRep k d ks ds) ∧ Vals vs' ((kvs.map fun kv => if kv.1 = kk then (kv.1, u) else kv).map (·.2))
  | [], ks, ds, vs, h1, h2, h3 => by
    cases h3; cases h2
    cases ks <;> exact ⟨[], .nil, .nil⟩
  | (k0, u0) :: kvs, ks, ds, vs, h1, h2, h3 => by
    cases h3 with
    | @cons v0 _ vs' _ r1 r2 =>
      cases h2 with
      | @cons _ d0 _ ds' dv0 t =>
        cases ks with
        | nil => cases h1
        | cons x r =>
          obtain ⟨n, l, h, e1, e2⟩ := keysN_cons h1
          simp only [List.map_cons, List.cons.injEq] at h
          obtain ⟨h0, h4⟩ := h
          subst h0 h4
          obtain ⟨vs2, g1, g2⟩ := rep_k hk dv rv (kvs := kvs) e2 t r2
          unfold dRep
          by_cases hc : k0 = kk
          · subst hc
            rw [if_pos (by rw [e1, hk])]
            exact ⟨v :: vs2, .cons dv g1, by simp only [List.map_cons, if_pos]; exact .cons rv g2⟩
          · rw [if_neg (by rw [e1, hk]; exact fun z => hc (kN_inj (Option.some.inj z)))]
            refine ⟨v0 :: vs2, .cons dv0 g1, ?_⟩
            simp only [List.map_cons, if_neg hc]
            exact .cons r1 g2
theorem rep_n {nk : NestedKey} {k d : D} {v : V} {u : Value} (hk : keyN k = some nk) (dv : Den G W v d) (rv : RelV v u) : ∀ {ys : List (NestedKey × Addr × Value)} {ks ds : List D} {vs : List V}, keysN ks = some (ys.map (·.1)) → DenL G W vs ds → Vals vs (ys.map (·.2.2)) →
    ∃ vs', DenL G W vs' (dRep k d ks ds) ∧ Vals vs' ((ys.map (putAt nk u)).map (·.2.2))
  | [], ks, ds, vs, h1, h2, h3 => by
    cases h3; cases h2
    cases ks <;> exact ⟨[], .nil, .nil⟩
  | (k0, b0, u0) :: kvs, ks, ds, vs, h1, h2, h3 => by
    cases h3 with
    | @cons v0 _ vs' _ r1 r2 =>
      cases h2 with
      | @cons _ d0 _ ds' dv0 t =>
        cases ks with
        | nil => cases h1
        | cons x r =>
          obtain ⟨n, l, h, e1, e2⟩ := keysN_cons h1
          simp only [List.map_cons, List.cons.injEq] at h
          obtain ⟨h0, h4⟩ := h
          subst h0 h4
          obtain ⟨vs2, g1, g2⟩ := rep_n hk dv rv (ys := kvs) e2 t r2
          unfold dRep
          by_cases hc : k0 = nk
          · subst hc
            rw [if_pos (by rw [e1, hk])]
            refine ⟨v :: vs2, .cons dv g1, ?_⟩
            simp only [List.map_cons, putAt, if_pos]
            exact .cons rv (by simpa [putAt] using g2)
          · rw [if_neg (by rw [e1, hk]; exact fun z => hc (Option.some.inj z))]
            refine ⟨v0 :: vs2, .cons dv0 g1, ?_⟩
            simp only [List.map_cons, putAt, if_neg hc]
            exact .cons r1 (by simpa [putAt] using g2)
theorem put_keys {kvs : List (Key × Value)} {kk : Key} {u : Value} : (kvs.map fun kv => if kv.1 = kk then (kv.1, u) else kv).map (fun p => p.1) = kvs.map (fun p => p.1) := by
  rw [List.map_map]
  refine List.map_congr_left fun p _ => ?_
  by_cases h : p.1 = kk <;> simp [h]
theorem all_snoc {p : D → Bool} {ks : List D} {k : D} (h : ks.all p = true) (hk : p k = true) : (ks ++ [k]).all p = true := by
  rw [List.all_append, h, List.all_cons, hk]; rfl
theorem DenL.snoc {vs : List V} {ds : List D} {v : V} {d : D} (h : DenL G W vs ds) (hv : Den G W v d) : DenL G W (vs ++ [v]) (ds ++ [d]) := h.append (.cons hv .nil)
theorem vals_snoc {xs : List V} {us : List Value} {x : V} {u : Value} (h : Vals xs us) (r : RelV x u) : Vals (xs ++ [x]) (us ++ [u]) := by
  induction h with
  | nil => exact .cons r .nil
  | cons a t ih => exact .cons a ih
variable {A : Around} {E : Value → Shared → Prop} {a : Addr} {r : DRep} {ks ds : List D} {k d : D} {y v : V} {u ru : Value}
/-- the representation behind d[y] = v -/
structure DPutd (G : GI) (W : Wd) (a : Addr) (ks ds : List D) (k d : D) (r' : DRep) : Prop where
  ok : r'.ok G.w a (dPutK ks k)
  dk : DenL G W r'.keys (dPutK ks k)
  dv : DenL G W r'.vals (dPutV ks ds k d)
theorem dictOf_rep {P : Program} {h' : Heap} {kvs : List (Key × Value)} {ks ds : List D} {vs : List V} (ha : (a == sysModules) = false) (hl : kvs.length ≤ sizeLine) (dd : h'.DictOf (mixKind P G.w) a kvs) (dk : DenL G W (kvs.map fun p => kV p.1) ks) (dv : DenL G W vs ds) (rv : Vals vs (kvs.map (·.2)))
    (hk : ks.all isKey = true) (hn : keysN ks = some (kvs.map fun p => kN p.1)) : ∃ r' : DRep, h'.get? a = some r'.o ∧ r'.ok G.w a ks ∧ DenL G W r'.keys ks ∧ DenL G W r'.vals ds := by
  obtain ⟨o, es, ep, h1, h2, h3, h4, h5, h6⟩ := dd
  obtain ⟨q1, q2, q3⟩ := pairs_rep h5 fun e he => h4 e (by simpa using he)
  refine ⟨⟨o, _, vs⟩, h1, ⟨h2, ha, es, ep, _, h3, ?_, q1, by rw [q2]; exact rv, hn, ?_, q3, .inl hk⟩, dk, dv⟩
  · have e := congrArg List.length q2
    rw [List.length_map, List.length_map] at e
    have e5 : es.toList.length = es.size := by simp
    omega
  · have z : (kvs.map fun p => kN p.1) = (kvs.map (·.1)).map kN := by rw [List.map_map]; rfl
    rw [z]
    exact List.Pairwise.map kN (fun a b h e => h (kN_inj e)) h6
theorem dictOfH_rep {P : Program} {h' : Heap} {ys : List (NestedKey × Addr × Value)} {ks ds : List D} {vs : List V} (ha : (a == sysModules) = false) (hl : ys.length ≤ sizeLine) (dd : h'.DictOfH (nestedKind P G.w) a ys) (dk : DenL G W (ys.map fun y => V.ref y.2.1) ks) (dv : DenL G W vs ds) (rv : Vals vs (ys.map (·.2.2)))
    (hk : ks.all isTupD = true) (hn : keysN ks = some (ys.map (·.1))) : ∃ r' : DRep, h'.get? a = some r'.o ∧ r'.ok G.w a ks ∧ DenL G W r'.keys ks ∧ DenL G W r'.vals ds := by
  obtain ⟨o, es, ep, h1, h2, h3, h4, h5, h6⟩ := dd
  obtain ⟨q1, q2, q3⟩ := entries_rep h4
  refine ⟨⟨o, _, vs⟩, h1, ⟨h2, ha, es, ep, _, h3, ?_, q1, by rw [q2]; exact rv, hn, h6, q3, .inr hk⟩, dk, dv⟩
  have e := congrArg List.length q2
  rw [List.length_map, List.length_map] at e
  have e5 : es.toList.length = es.size := by simp
  omega
theorem stored_len {κ : Type} [DecidableEq κ] (kvs : List (κ × Value)) (k : κ) (v : Value) : (stored kvs k v).length ≤ kvs.length + 1 := by
  unfold stored
  split
  · rw [List.length_map]; omega
  · rw [List.length_append]; simp
theorem any_has {kk : Key} {k : D} (hk : keyN k = some (kN kk)) : ∀ {kvs : List (Key × Value)} {ks : List D}, keysN ks = some (kvs.map fun p => kN p.1) → (kvs.any fun kv => decide (kv.1 = kk)) = dHas ks k
  | [], ks, h => by
    cases ks with
    | nil => rfl
    | cons x r => obtain ⟨n, l, h, _, _⟩ := keysN_cons h; cases h
  | p :: kvs, ks, h => by
    cases ks with
    | nil => cases h
    | cons x r =>
      obtain ⟨n, l, h, e1, e2⟩ := keysN_cons h
      simp only [List.map_cons, List.cons.injEq] at h
      obtain ⟨h0, h4⟩ := h
      subst h0 h4
      have ih := any_has hk (kvs := kvs) e2
      unfold dHas at ih ⊢
      rw [List.any_cons, List.any_cons, ih, e1, hk, dec_key]
/-- the dict with one entry stored, scalar keys -/
theorem stored_k {kvs : List (Key × Value)} {kk : Key} {vs : List V} (hk : keyN k = some (kN kk)) (ky : isKey k = true) (dn : Den G W y k) (ey : y = kV kk) (dv : Den G W v d) (rv : RelV v ru) (ha : ks.all isKey = true) (hn : keysN ks = some (kvs.map fun p => kN p.1))
    (dk : DenL G W (kvs.map fun p => kV p.1) ks) (dvs : DenL G W vs ds) (rvs : Vals vs (kvs.map (·.2))) :
    ∃ vs', DenL G W ((stored kvs kk ru).map fun p => kV p.1) (dPutK ks k) ∧ DenL G W vs' (dPutV ks ds k d) ∧ Vals vs' ((stored kvs kk ru).map (·.2)) ∧ (dPutK ks k).all isKey = true ∧ keysN (dPutK ks k) = some ((stored kvs kk ru).map fun p => kN p.1) := by
  have e := any_has hk hn
  unfold stored dPutK dPutV
  rw [e]
  by_cases hc : dHas ks k = true
  · rw [if_pos hc, if_pos hc, if_pos hc]
    obtain ⟨vs', g1, g2⟩ := rep_k hk dv rv hn dvs rvs
    have ek : ∀ {β : Type} (f : Key → β), ((kvs.map fun kv => if kv.1 = kk then (kv.1, ru) else kv).map fun p => f p.1) = kvs.map fun p => f p.1 := fun f => by
      rw [List.map_map]
      refine List.map_congr_left fun p _ => ?_
      show f (if p.1 = kk then (p.1, ru) else p).1 = f p.1
      split <;> rfl
    exact ⟨vs', by rw [ek]; exact dk, g1, g2, ha, by rw [ek]; exact hn⟩
  · rw [if_neg hc, if_neg hc, if_neg hc]
    refine ⟨vs ++ [v], ?_, dvs.snoc dv, ?_, all_snoc ha ky, ?_⟩
    · rw [List.map_append]; subst ey; exact dk.snoc dn
    · rw [List.map_append]; exact vals_snoc rvs rv
    · rw [List.map_append]; exact keysN_snoc hn hk
theorem stored_n {ys : List (NestedKey × Addr × Value)} {nk : NestedKey} {b : Addr} {vs : List V} (hk : keyN k = some nk) (ky : isTupD k = true) (dn : Den G W (.ref b) k) (dv : Den G W v d) (rv : RelV v ru) (ha : ks.all isTupD = true) (hn : keysN ks = some (ys.map (·.1)))
    (dk : DenL G W (ys.map fun y => V.ref y.2.1) ks) (dvs : DenL G W vs ds) (rvs : Vals vs (ys.map (·.2.2))) :
    ∃ vs', DenL G W ((storedH ys nk b ru).map fun y => V.ref y.2.1) (dPutK ks k) ∧ DenL G W vs' (dPutV ks ds k d) ∧ Vals vs' ((storedH ys nk b ru).map (·.2.2)) ∧ (dPutK ks k).all isTupD = true ∧ keysN (dPutK ks k) = some ((storedH ys nk b ru).map (·.1)) := by
  have e : (atKey ys nk).isSome = dHas ks k := by
    rcases look_n hk hn dvs rvs with ⟨d', v, p, g1, g2, g3, g4, g5⟩ | ⟨g1, g2, g3⟩
    · rw [g2, g5]; rfl
    · rw [g2, g3]; rfl
  unfold storedH dPutK dPutV
  rw [e]
  by_cases hc : dHas ks k = true
  · rw [if_pos hc, if_pos hc, if_pos hc]
    obtain ⟨vs', g1, g2⟩ := rep_n hk dv rv hn dvs rvs
    have ek : ∀ {β : Type} (f : NestedKey → Addr → β), ((ys.map (putAt nk ru)).map fun y => f y.1 y.2.1) = ys.map fun y => f y.1 y.2.1 := fun f => by
      rw [List.map_map]
      refine List.map_congr_left fun p _ => ?_
      show f (putAt nk ru p).1 (putAt nk ru p).2.1 = _
      unfold putAt
      split <;> rfl
    exact ⟨vs', by rw [ek fun _ b => V.ref b]; exact dk, g1, g2, ha, by rw [ek fun n _ => n]; exact hn⟩
  · rw [if_neg hc, if_neg hc, if_neg hc]
    refine ⟨vs ++ [v], ?_, dvs.snoc dv, ?_, all_snoc ha ky, ?_⟩
    · rw [List.map_append]; exact dk.snoc dn
    · rw [List.map_append]; exact vals_snoc rvs rv
    · rw [List.map_append]; exact keysN_snoc hn hk
theorem rep_obj {P : Program} {w : World} {H' : Hp} {h' : Heap} {r' : DRep} (e : h'.get? a = some r'.o) : ObjOk P w H' h' a (r'.ho a) :=
  ⟨e, ⟨_, e⟩, fun h1 h2 e1 k => k _ e1⟩
/-- d[y] = v -/
theorem DAt.setItem (hK : X.K = G.K) (hw : G.w = X.w) (hu : A.units + 64 < cLine) (x : DAt G W a r ks ds) (I : Inv X pins σ W.H s) (dn : Den G W y k) (ry : RelV y u) (dv : Den G W v d) (rv : RelV v ru) (ko : kOk ks k = true) (hl : ks.length < 16777216) {Q : Unit → Shared → Prop}
    (h : ∀ r' s', Inv X pins σ (upd W.H a (r'.ho a)) s' → DPutd G W a ks ds k d r' → Q () s') : wpAny (model X.prog X.w) A (setItem (.ref a) u ru) Q E s := by
  have hl9 : sizeLine = 16777216 := sizeLine_eq
  have lk := x.dk.length
  rcases kOk_of ko with ⟨k1, k2⟩ | ⟨k1, k2⟩
  · obtain ⟨kvs, q1, q2, q3, q4⟩ := x.kof hw I k2
    obtain ⟨kk, e1, e2⟩ := key_cases k1
    have ev := e2 dn
    subst ev
    have dk := x.dk
    rw [den_kv dk k2 q4] at dk
    have lk := dk.length
    rw [List.length_map] at lk
    refine wpAny_setItem_pairs (hsz := q2) (kV_is ry) q1 fun h' dd' hs => ?_
    obtain ⟨vs', g1, g2, g3, g4, g5⟩ := stored_k (ru := ru) e1 k1 dn rfl dv rv k2 q4 dk x.dv q3
    have z := stored_len kvs kk ru
    obtain ⟨r', p1, p2, p3, p4⟩ := dictOf_rep (a := a) x.ok.2.1 (by omega) (by rw [hw]; exact dd') g1 g2 g3 g4 g5
    exact h r' _ (I.write (x := a) (e := a) (by rw [x.at_]; exact trivial) (.inl rfl) (fun b o hb z => (hs.2 b hb).trans z) ⟨_, p1⟩ (rep_obj p1)) ⟨p2, p3, p4⟩
  · obtain ⟨ys, q1, q2, q3, q4, q5⟩ := x.nof hK hw I k2
    obtain ⟨n, n1, n2, n3, n4⟩ := isTup_ref k1
    obtain ⟨b, rfl⟩ := n4 dn
    cases (show u = Value.ref b from ry)
    have dk := x.dk
    rw [← q3] at dk
    have lk := dk.length
    rw [List.length_map] at lk
    refine wpAny_setItem_heap (hsz := q2) (room_n hu) ⟨den_nk hK I dn n1 rfl, n3⟩ q1 fun h' dd' hs => ?_
    obtain ⟨vs', g1, g2, g3, g4, g5⟩ := stored_n (b := b) (ru := ru) n1 k1 dn dv rv k2 q5 dk x.dv q4
    have z := storedH_length ys n b ru
    obtain ⟨r', p1, p2, p3, p4⟩ := dictOfH_rep (a := a) x.ok.2.1 (by omega) (by rw [hw]; exact dd') g1 g2 g3 g4 g5
    exact h r' _ (I.write (x := a) (e := a) (by rw [x.at_]; exact trivial) (.inl rfl) (fun b o hb z => (hs.2 b hb).trans z) ⟨_, p1⟩ (rep_obj p1)) ⟨p2, p3, p4⟩

def nilRep : DRep := ⟨{ cls := .type "dict", data := .dict #[] }, [], []⟩
theorem nil_ok {w : World} (ha : (a == sysModules) = false) : nilRep.ok w a [] := ⟨⟨rfl, rfl, rfl⟩, ha, #[], 0, [], rfl, Nat.zero_le _, .nil, .nil, rfl, List.nodup_nil, rfl, .inl rfl⟩
def tDNew : TE := fun _ H Q => ∀ p, H p = none → (p == sysModules) = false → Q (.ref p) (upd H p (nilRep.ho p))
theorem new_addr (I : Inv X pins σ W.H s) : (s.heap.objs.size == sysModules) = false := beq_eq_false_iff_ne.mpr (Ne.symm (Nat.ne_of_lt I.big))
theorem pe_dnew {pos : Pos} : PE X (.Dict [] [] pos) tDNew := ⟨fun pins s σ H Q I h =>
  wpAny_Dict_empty ⟨.ref s.heap.objs.size, _, I.laid (a := s.heap.objs.size) (o := nilRep.ho s.heap.objs.size) (t' := s.toks) (fun _ _ q => Heap.get?_push_of_some _ q) (Nat.le_refl _) (rep_obj (Heap.get?_push_size _ rfl)), rfl, h _ (I.hok.fresh (Nat.le_refl _)) (beq_eq_false_iff_ne.mpr (Ne.symm (Nat.ne_of_lt I.big)))⟩⟩
end
end F

namespace F
open PySem PySem.Spec PyProof.Rows L2
/-- r stands for a dict of these scalar keys -/
def RepK (w : World) (a : Addr) (kvs : List (Key × V)) (r : DRep) : Prop := r.keys = (kvs.map fun p => kV p.1) ∧ r.vals = kvs.map (·.2) ∧ ∀ ks : List D, ks.all isKey = true → keysN ks = some (kvs.map fun p => kN p.1) → r.ok w a ks
def RepN (w : World) (a : Addr) (ys : List (NestedKey × Addr × V)) (r : DRep) : Prop := r.keys = (ys.map fun y => V.ref y.2.1) ∧ r.vals = ys.map (·.2.2) ∧ ∀ ks : List D, ks.all isTupD = true → keysN ks = some (ys.map (·.1)) → r.ok w a ks
theorem repK_of {P : Program} {w : World} {h' : Heap} {a : Addr} {kvs : List (Key × V)} {rs : List (Key × Value)} (ha : (a == sysModules) = false) (hl : rs.length ≤ sizeLine) (dd : h'.DictOf (mixKind P w) a rs) (kv : KV kvs rs) : ∃ r : DRep, h'.get? a = some r.o ∧ RepK w a kvs r := by
  obtain ⟨o, es, ep, h1, h2, h3, h4, h5, h6⟩ := dd
  obtain ⟨q1, q2, q3⟩ := pairs_rep h5 fun e he => h4 e (by simpa using he)
  have ek := kv.keys
  have e0 : (kvs.map fun p => kV p.1) = rs.map fun p => kV p.1 := by
    have z := congrArg (List.map kV) ek
    rw [List.map_map, List.map_map] at z
    exact z
  have e1 : (kvs.map fun p => kN p.1) = rs.map fun p => kN p.1 := by
    have z := congrArg (List.map kN) ek
    rw [List.map_map, List.map_map] at z
    exact z
  have ev : Vals (kvs.map (·.2)) (rs.map (·.2)) := by
    clear h5 h6 ek e0 e1 hl q1 q2 q3
    unfold KV at kv
    induction kv with
    | nil => exact .nil
    | cons a t ih => exact .cons a.2 ih
  refine ⟨⟨o, kvs.map fun p => kV p.1, kvs.map (·.2)⟩, h1, rfl, rfl, fun ks hk hn => ⟨h2, ha, es, ep, _, h3, ?_, by rw [e0]; exact q1, by rw [q2]; exact ev, hn, ?_, by rw [e1]; exact q3, .inl hk⟩⟩
  · have e := congrArg List.length q2
    rw [List.length_map, List.length_map] at e
    have e5 : es.toList.length = es.size := by simp
    omega
  · rw [e1]
    have z : (rs.map fun p => kN p.1) = (rs.map (·.1)).map kN := by rw [List.map_map]; rfl
    rw [z]
    exact List.Pairwise.map kN (fun a b h e => h (kN_inj e)) h6
theorem repN_of {P : Program} {w : World} {h' : Heap} {a : Addr} {ys : List (NestedKey × Addr × V)} {zs : List (NestedKey × Addr × Value)} (ha : (a == sysModules) = false) (hl : zs.length ≤ sizeLine) (dd : h'.DictOfH (nestedKind P w) a zs)
    (e : Paired (fun (p : NestedKey × Addr × V) (q : NestedKey × Addr × Value) => p.1 = q.1 ∧ p.2.1 = q.2.1 ∧ RelV p.2.2 q.2.2) ys zs) : ∃ r : DRep, h'.get? a = some r.o ∧ RepN w a ys r := by
  obtain ⟨o, es, ep, h1, h2, h3, h4, h5, h6⟩ := dd
  obtain ⟨q1, q2, q3⟩ := entries_rep h4
  have all : (ys.map fun y => V.ref y.2.1) = (zs.map fun y => V.ref y.2.1) ∧ ys.map (·.1) = zs.map (·.1) ∧ Vals (ys.map (·.2.2)) (zs.map (·.2.2)) := by
    clear h4 h5 h6 q1 q2 q3 hl
    induction e with
    | nil => exact ⟨rfl, rfl, .nil⟩
    | cons a t ih =>
      obtain ⟨i1, i2, i3⟩ := ih
      exact ⟨by simp only [List.map_cons, i1, a.2.1], by simp only [List.map_cons, i2, a.1], .cons a.2.2 i3⟩
  obtain ⟨a1, a2, a3⟩ := all
  refine ⟨⟨o, ys.map fun y => V.ref y.2.1, ys.map (·.2.2)⟩, h1, rfl, rfl, fun ks hk hn => ⟨h2, ha, es, ep, _, h3, ?_, by rw [a1]; exact q1, by rw [q2]; exact a3, hn, by rw [a2]; exact h6, by rw [a2]; exact q3, .inr hk⟩⟩
  have e := congrArg List.length q2
  rw [List.length_map, List.length_map] at e
  have e5 : es.toList.length = es.size := by simp
  omega
section
variable {X : Cx} {G : GI} {W : Wd} {c : Cs} {pins : List (Addr × Obj)} {σ : L2.St} {s : Shared}
/-- {k: v, ..}, scalar keys -/
def tDispK (w : World) (trs : List (TE × TE)) : TE := fun σ H Q => ∀ p, H p = none → (p == sysModules) = false → tPairs trs σ (upd H p (nilRep.ho p)) fun ps H2 => H2 p = some (nilRep.ho p) ∧ ∃ kvs : List (Key × V), ps = kvs.map (fun kv => (kV kv.1, kv.2)) ∧ kvs.length ≤ 15 ∧
  ∀ r, RepK w p (mergeK [] kvs) r → Q (.ref p) (upd H2 p (r.ho p))
theorem nil_dictOf {P : Program} {w : World} {h : Heap} {a : Addr} (e : h.get? a = some nilRep.o) : h.DictOf (mixKind P w) a [] :=
  ⟨_, #[], 0, e, ⟨rfl, rfl, rfl⟩, rfl, (fun _ he => by simp at he), .nil, List.nodup_nil⟩
theorem nil_dictOfH {P : Program} {w : World} {h : Heap} {a : Addr} (e : h.get? a = some nilRep.o) : h.DictOfH (nestedKind P w) a [] :=
  ⟨_, #[], 0, e, ⟨rfl, rfl, rfl⟩, rfl, rfl, (fun _ hx => by simp at hx), List.nodup_nil⟩
theorem pe_dispK {pos : Pos} {keys : List (Option Expr)} {values : List Expr} {trs : List (TE × TE)} (h : PPs X pos keys values trs) (hall : keys.all (·.isSome) = true) (hl : keys.length = values.length) (h0 : keys ≠ [])
    (h15 : keys.length ≤ 15) : PE X (.Dict keys values pos) (tDispK X.w trs) := by
  refine ⟨fun pins s σ H Q I q => ?_⟩
  have hn := I.hok.fresh (Nat.le_refl s.heap.objs.size)
  have hs : (s.heap.objs.size == sysModules) = false := beq_eq_false_iff_ne.mpr (Ne.symm (Nat.ne_of_lt I.big))
  have I1 := I.laid (a := s.heap.objs.size) (o := nilRep.ho s.heap.objs.size) (h' := s.heap.push { cls := .type "dict", data := .dict #[] }) (t' := s.toks) (fun _ _ q => Heap.get?_push_of_some _ q) (Nat.le_refl _) (rep_obj (Heap.get?_push_size _ rfl))
  refine wpAny_Dict_walk (knd := mixKind X.prog X.w) hall hl h0 h15 (thn (h.run pins _ σ _ _ I1 (q _ hn hs)) fun ws s2 ⟨ps, H2, I2, rel, e, kvs, ep, lk, q2⟩ => ?_)
  subst ep
  obtain ⟨rs, c, rk⟩ := carries_of (P := X.prog) (w := X.w) rel
  have e0 : s2.heap.get? s.heap.objs.size = some nilRep.o := (I2.hok _ _ e).1
  refine ⟨rs, c, nil_dictOf e0, fun h' dd' hs' => ?_⟩
  have rk2 : KV (mergeK [] kvs) (merged [] rs) := rk.merge .nil
  have hz : (merged [] rs).length ≤ sizeLine := by
    have h1 := length_mergeK kvs []
    have h2 := rk2.length
    rw [List.length_nil] at h1
    rw [sizeLine_eq]; omega
  obtain ⟨r, p1, p2⟩ := repK_of hs hz dd' rk2
  exact ⟨.ref s.heap.objs.size, _, I2.write (x := s.heap.objs.size) (e := s.heap.objs.size) (by rw [e]; exact trivial) (.inl rfl) (fun b o hb z => (hs'.2 b hb).trans z) ⟨_, p1⟩ (rep_obj p1), rfl, q2 r p2⟩
end
end F

namespace F
open PySem PySem.Spec PyProof.Rows L2
mutual
theorem reads_no {h : Heap} : ∀ {d : PyData} {v : Value} {as : List Addr}, Reads h v d as → noLst d = true → as = []
  | _, _, _, .none, _ => rfl
  | _, _, _, .bool _, _ => rfl
  | _, _, _, .int _ _, _ => rfl
  | _, _, _, .str _ _, _ => rfl
  | _, _, _, .list _ _ _ _, h => by simp [noLst] at h
  | _, _, _, .tuple _ _ _ r, h => by simp only [noLst] at h; exact readsAll_no r h
  | _, _, _, .dict _ _ _ _ _, h => by simp [noLst] at h
theorem readsAll_no {h : Heap} : ∀ {ds : List PyData} {vs : List Value} {as : List Addr}, ReadsAll h vs ds as → noLsts ds = true → as = []
  | _, _, _, .nil, _ => rfl
  | _, _, _, .cons r t, h => by
    simp only [noLsts, Bool.and_eq_true] at h
    rw [reads_no r h.1, readsAll_no t h.2]; rfl
end
theorem noLsts_mem : ∀ {ps : List PyData} {p : PyData}, noLsts ps = true → p ∈ ps → noLst p = true
  | x :: ps, p, h, hp => by
    simp only [noLsts, Bool.and_eq_true] at h
    rcases List.mem_cons.mp hp with rfl | hp
    · exact h.1
    · exact noLsts_mem h.2 hp
theorem toPL_cons {d : D} {ds : List D} {ps : List PyData} (h : toPL (d :: ds) = some ps) : ∃ p r, ps = p :: r ∧ toP d = some p ∧ toPL ds = some r := by
  simp only [toPL] at h
  cases h1 : toP d with
  | none => rw [h1] at h; cases h
  | some p =>
    cases h2 : toPL ds with
    | none => rw [h1, h2] at h; cases h
    | some r => rw [h1, h2] at h; cases h; exact ⟨p, r, rfl, rfl, rfl⟩
def encP (b : V × D) : PyData := (toP b.2).getD .none
def leP : V × D → V × D → Bool := PySem.W.dataLe false encP
section
variable {X : Cx} {G : GI} {W : Wd} {c : Cs} {pins : List (Addr × Obj)} {σ : L2.St} {s : Shared}
theorem zip_enc : ∀ {vs : List V} {ds : List D} {ps : List PyData}, DenL G W vs ds → toPL ds = some ps → (vs.zip ds).map encP = ps ∧ (vs.zip ds).map (·.1) = vs ∧ (vs.zip ds).map (·.2) = ds ∧ ∀ b ∈ vs.zip ds, Den G W b.1 b.2 ∧ ∃ p, toP b.2 = some p
  | _, [], _, .nil, h => by cases h; exact ⟨rfl, rfl, rfl, fun _ h => by cases h⟩
  | _, d :: ds, ps, .cons dv t, h => by
    obtain ⟨p, r, rfl, h1, h2⟩ := toPL_cons h
    obtain ⟨q1, q2, q3, q4⟩ := zip_enc t h2
    refine ⟨?_, ?_, ?_, fun b hb => ?_⟩
    · rw [List.zip_cons_cons, List.map_cons, q1]; unfold encP; rw [h1]; rfl
    · rw [List.zip_cons_cons, List.map_cons, q2]
    · rw [List.zip_cons_cons, List.map_cons, q3]
    · rw [List.zip_cons_cons] at hb
      rcases List.mem_cons.mp hb with rfl | hb
      · exact ⟨dv, p, h1⟩
      · exact q4 b hb
theorem den_reads (hK : X.K = G.K) (I : Inv X pins σ W.H s) {v : V} {d : D} {p : PyData} {u : Value} (dn : Den G W v d) (h : toP d = some p) (r : RelV v u) : ∃ as, Reads s.heap u p as :=
  Dp.reads I p v u (by rw [hK]; exact den_toP rfl dn h) r
theorem each_of {R : Value → V × D → Prop} : ∀ {vs : List V} {ds : List D} {us : List Value}, Vals vs us → vs.length = ds.length → (∀ u b, b ∈ vs.zip ds → RelV b.1 u → R u b) → PySem.W.EachIs R us (vs.zip ds)
  | _, [], _, .nil, _, _ => .nil
  | _, d :: ds, _, .cons r t, hl, h => by
    rw [List.zip_cons_cons]
    refine .cons (h _ _ (List.mem_cons_self ..) r) (each_of t (by simpa using hl) fun u b hb q => h u b (by rw [List.zip_cons_cons]; exact List.mem_cons_of_mem _ hb) q)
  | _, [], _, .cons _ _, hl, _ => by simp at hl
  | _, _ :: _, _, .nil, hl, _ => by simp at hl
theorem vals_each : ∀ {us : List Value} {zs : List (V × D)}, PySem.W.EachIs (fun u b => RelV b.1 u) us zs → Vals (zs.map (·.1)) us
  | _, _, .nil => .nil
  | _, _, .cons h t => .cons h (vals_each t)
theorem denL_zs : ∀ {zs : List (V × D)}, (∀ b ∈ zs, Den G W b.1 b.2) → DenL G W (zs.map (·.1)) (zs.map (·.2))
  | [], _ => .nil
  | b :: zs, h => .cons (h b (List.mem_cons_self ..)) (denL_zs fun z hz => h z (List.mem_cons_of_mem _ hz))
/-- what the sort makes of it -/
theorem sorted_zs {vs : List V} {ds : List D} {ps : List PyData} (dl : DenL G W vs ds) (hp : toPL ds = some ps) :
    ((vs.zip ds).mergeSort leP).length = ds.length ∧ (((vs.zip ds).mergeSort leP).map (·.2)).Perm ds ∧ (((vs.zip ds).mergeSort leP).map (·.2)).Pairwise (fun a b => ltD b a = false) ∧ DenL G W (((vs.zip ds).mergeSort leP).map (·.1)) (((vs.zip ds).mergeSort leP).map (·.2)) := by
  obtain ⟨q1, q2, q3, q4⟩ := zip_enc dl hp
  have pm := List.mergeSort_perm (vs.zip ds) leP
  have hl := dl.length
  refine ⟨?_, ?_, ?_, denL_zs fun b hb => (q4 b (pm.mem_iff.mp hb)).1⟩
  · rw [pm.length_eq, List.length_zip, hl, Nat.min_self]
  · have z := pm.map (·.2)
    rw [q3] at z
    exact z
  · rw [List.pairwise_map]
    refine List.Pairwise.imp_of_mem (fun {x y} hx hy h => ?_) (PySem.W.sort_pairwise (PySem.W.sortLe_total _ false _) (vs.zip ds))
    obtain ⟨_, px, ex⟩ := q4 x (pm.mem_iff.mp hx)
    obtain ⟨_, py, ey⟩ := q4 y (pm.mem_iff.mp hy)
    have h' : leP x y = true := h
    unfold leP at h'
    rw [PySem.W.dataLe_eq] at h'
    simp only [cond_false, Bool.not_eq_true', encP, ex, ey, Option.getD_some] at h'
    unfold ltD
    rw [ex, ey]
    exact h'
theorem depth_zs {vs : List V} {ds : List D} {ps : List PyData} (dl : DenL G W vs ds) (hp : toPL ds = some ps) (h : ∀ p ∈ ps, p.depth ≤ 60) : ∀ b ∈ vs.zip ds, (encP b).depth ≤ 60 := fun b hb => by
  obtain ⟨q1, _⟩ := zip_enc dl hp
  exact h _ (by rw [← q1]; exact List.mem_map_of_mem hb)
/-- sorted(xs), xs a list of data -/
theorem sorted_data_ok {A : Around} {E : Value → Shared → Prop} (hK : X.K = G.K) (hu : A.units + 64 < cLine) (I : Inv X pins σ W.H s) {a : Addr} {vs : List V} {ds : List D} {ps : List PyData} (ha : SqL X.K W.H a vs) (dl : DenL G W vs ds) (hp : toPL ds = some ps) (ok : srtOk ps) {Q : Value → Shared → Prop}
    (h : ∀ p vs' ms s', W.H p = none → ms.Perm ds → ms.Pairwise (fun a b => ltD b a = false) → DenL G W vs' ms → Inv X pins σ (upd W.H p (.lst vs')) s' → Q (.ref p) s') : wpAny (model X.prog X.w) A (call (.builtin "sorted") [.ref a]) Q E s := by
  obtain ⟨its, rv, hl, hz⟩ := I.list ha
  obtain ⟨q1, q2, q3, q4⟩ := zip_enc dl hp
  obtain ⟨z1, z2, z3, z4⟩ := sorted_zs dl hp
  have l1 := dl.length
  have l2 := rv.length
  refine PySem.W.sorted_data (R := fun u b => RelV b.1 u) (enc := encP) (bs := vs.zip ds) hl.isList (each_of rv l1 fun u b _ r => r) (each_of rv l1 fun u b hb r => ?_) (by rw [q1]; exact ok.1) (by rw [q1]; exact ok.2.1) (by rw [List.length_zip, l1, Nat.min_self, ← l1, l2]; omega) (fun b hb => ?_) fun out ho hE => ?_
  · obtain ⟨d1, p, e⟩ := q4 b hb
    have : encP b = p := by unfold encP; rw [e]; rfl
    rw [this]
    exact den_reads hK I d1 e r
  · have := depth_zs dl hp ok.2.2 b hb
    omega
  · have rv' : Vals (((vs.zip ds).mergeSort leP).map (·.1)) out := vals_each hE
    obtain ⟨n, hn⟩ := sortedAll_at s.heap its out.toArray
    have hn' : (sortedAll s.heap its out.toArray).get? (s.heap.objs.size + 1) = some (seqObj "list" out.toArray n) := hn
    refine h _ _ _ _ (I.hok.fresh (Nat.le_succ _)) z2 z3 z4 (I.laid (t' := s.toks) (fun b o e => sortedAll_old e) (Nat.le_succ _) ⟨?_, out, n, rv', hn'⟩)
    rw [List.length_map, z1, ← l1]; exact hz
/-- list.sort of a new list of data without lists -/
theorem sort_new {A : Around} {E : Value → Shared → Prop} {H : Hp} (hu : A.units + 64 < cLine) (I : Inv X pins σ H s) {a : Addr} {vs : List V} {ds : List D} {ps : List PyData} (ha : H a = some (.lst vs)) (rd : ∀ b ∈ vs.zip ds, ∀ (p : PyData) (u : Value), toP b.2 = some p → RelV b.1 u → ∃ as, Reads s.heap u p as) (dl : DenL G W vs ds) (hp : toPL ds = some ps) (ok : srtOk ps) (nl : noLsts ps = true) {Q : Shared → Prop}
    (h : ∀ vs' ms s', ms.Perm ds → ms.Pairwise (fun a b => ltD b a = false) → DenL G W vs' ms → Inv X pins σ (upd H a (.lst vs')) s' → Q s') : wpAny (model X.prog X.w) A (call (.builtin "list.sort") [.ref a]) (fun _ s' => Q s') E s := by
  obtain ⟨hz, its, n, rv, ho⟩ := (show ObjOk X.prog X.w H s.heap a (.lst vs) from I.hok a _ ha)
  obtain ⟨q1, q2, q3, q4⟩ := zip_enc dl hp
  obtain ⟨z1, z2, z3, z4⟩ := sorted_zs dl hp
  have l1 := dl.length
  have l2 := rv.length
  refine PySem.W.list_sort_data (R := fun u b => RelV b.1 u) (enc := encP) (bs := vs.zip ds) (n := n) (vs := its) ho (each_of rv l1 fun u b _ r => r) (each_of rv l1 fun u b hb r => ?_) (by rw [q1]; exact ok.1) (by rw [q1]; exact ok.2.1) (by rw [List.length_zip, l1, Nat.min_self, ← l1]; omega) (fun b hb => ?_) fun out hlo hE => ?_
  · obtain ⟨d1, p, e⟩ := q4 b hb
    have e2 : encP b = p := by unfold encP; rw [e]; rfl
    rw [e2]
    obtain ⟨as, hr⟩ := rd b hb p u e r
    have hm : p ∈ ps := by rw [← q1, ← e2]; exact List.mem_map_of_mem hb
    have e3 := reads_no hr (noLsts_mem nl hm)
    subst e3
    exact ⟨[], hr, by simp⟩
  · have := depth_zs dl hp ok.2.2 b hb
    omega
  · have rv' : Vals (((vs.zip ds).mergeSort leP).map (·.1)) out := vals_each hE
    obtain ⟨e', he'⟩ := PyProof.Rows.sortedHeap_at (vs := its) (out := out.toArray) ho
    refine h _ _ _ z2 z3 z4 (I.write (x := a) (e := a) (t' := s.toks) (by rw [ha]; exact trivial) (.inl rfl) (fun b u hb e => ?_) ⟨_, he'⟩ ⟨?_, out, e', rv', by simpa using he'⟩)
    · rw [PyProof.Rows.sortedHeap_old hb (Heap.lt_size e)]; exact e
    · rw [List.length_map, z1, ← l1]; exact hz
/-- min(xs), xs a list of data -/
theorem min_data_ok {A : Around} {E : Value → Shared → Prop} (hK : X.K = G.K) (hu : A.units + 64 < cLine) (hh : A.handled = none) (I : Inv X pins σ W.H s) {a : Addr} {vs : List V} {ds : List D} {p : PyData} {ps : List PyData} (ha : SqL X.K W.H a vs) (dl : DenL G W vs ds) (hp : toPL ds = some (p :: ps)) (al : PySem.W.AlikeAll (p :: ps))
    (hd : PyData.depthAll (p :: ps) ≤ 60) {Q : Value → Shared → Prop} (h : ∀ d v u s', d ∈ ds → toP d = some (PySem.W.minD p ps) → Den G W v d → RelV v u → Inv X pins σ W.H s' → Q u s') : wpAny (model X.prog X.w) A (call (.builtin "min") [.ref a]) Q E s := by
  obtain ⟨its, rv, hl, hz⟩ := I.list ha
  obtain ⟨as, hr⟩ := Dp.readsAll I (p :: ps) vs its (by rw [hK]; exact den_toPL rfl dl hp) rv
  refine PySem.W.min_list_data (vs := its.toArray) (as := as) hh hl.isList (by simpa using hr) al (by omega) fun i u h' tk bs hu' hr' hk => ?_
  rw [List.getElem?_toArray] at hu'
  have hi : ∃ v, vs[i]? = some v ∧ RelV v u := by
    have hlen := rv.length
    have hlt : i < vs.length := by rw [hlen]; exact (List.getElem?_eq_some_iff.mp hu').1
    obtain ⟨u', e1, e2⟩ := rv.get (List.getElem?_eq_getElem hlt)
    rw [hu'] at e1; cases e1
    exact ⟨_, List.getElem?_eq_getElem hlt, e2⟩
  obtain ⟨v, hv, rvu⟩ := hi
  obtain ⟨d, hd', dn⟩ := dl.getV hv
  have I1 : Inv X pins σ W.H { s with heap := h', toks := tk } := I.kept hk
  have hm : d ∈ ds := List.mem_of_getElem? hd'
  -- the item's own data is the least one
  have e : ∃ q, toP d = some q := by
    obtain ⟨_, _, _, q4⟩ := zip_enc dl hp
    obtain ⟨j, hj⟩ := List.mem_iff_getElem?.mp hm
    exact (q4 (v, d) (List.mem_of_getElem? (List.getElem?_zip_eq_some.mpr ⟨hv, hd'⟩))).2
  obtain ⟨q, eq⟩ := e
  obtain ⟨bs', hq⟩ := den_reads hK I1 dn eq rvu
  have same : q = PySem.W.minD p ps := by
    exact (hq.unique _ _ hr').1
  exact h d v u _ hm (by rw [eq, same]) dn rvu I1
end
end F

namespace F
open PySem PySem.Spec PyProof.Rows L2
theorem Ok.grow {G : GI} {W : Wd} {c : Cs} (ok : Ok G W c) {H2 : Hp} (g : ∀ b o, W.H b = some o → H2 b = some o) : Ext W { W with H := H2 } ∧ Ok G { W with H := H2 } c := by
  have x : Ext W { W with H := H2 } := ⟨⟨fun b xs e => g b _ e, fun b u e _ => g b u e, fun b h => h, (fun b e => by
    cases q : W.H b with
    | none => rfl
    | some o =>
      have e' : H2 b = none := e
      rw [g b o q] at e'
      cases e'), fun b h => .inl h, fun b h => .inl h⟩, List.prefix_refl _⟩
  refine ⟨x, ok.len, ok.nd, ok.fz, fun b h => ?_, fun n a y h1 h2 => ?_⟩
  · obtain ⟨u, e⟩ := ok.fzt b h
    exact ⟨u, g b u e⟩
  · have ca := ok.cell n a y h1 h2
    obtain ⟨u, e, _⟩ := ca.isObj
    exact ca.mono ok.fz x.toFr (fun _ _ h => h) (by show H2 a = _; rw [g a u e, e])
mutual
theorem keyN_noLst : ∀ {d : D} {k : NestedKey}, keyN d = some k → ∃ p, toP d = some p ∧ noLst p = true
  | .non, _, _ => ⟨_, rfl, rfl⟩
  | .bl _, _, _ => ⟨_, rfl, rfl⟩
  | .int _, _, _ => ⟨_, rfl, rfl⟩
  | .str _, _, _ => ⟨_, rfl, rfl⟩
  | .tup ds, k, h => by
    simp only [keyN] at h
    obtain ⟨ns, h1, _⟩ := Option.map_eq_some_iff.mp h
    obtain ⟨ps, e1, e2⟩ := keysN_noLst h1
    exact ⟨.tuple ps, by simp only [toP, e1, Option.map_some], by simp only [noLst]; exact e2⟩
  | .lst _, _, h | .scr _, _, h | .dct _ _, _, h | .obj _ _, _, h | .cell _, _, h | .ref _, _, h | .ty _, _, h => by simp [keyN] at h
theorem keysN_noLst : ∀ {ds : List D} {ks : List NestedKey}, keysN ds = some ks → ∃ ps, toPL ds = some ps ∧ noLsts ps = true
  | [], _, _ => ⟨[], rfl, rfl⟩
  | d :: ds, ks, h => by
    obtain ⟨n, r, rfl, h1, h2⟩ := keysN_cons h
    obtain ⟨p, e1, e2⟩ := keyN_noLst h1
    obtain ⟨ps, e3, e4⟩ := keysN_noLst h2
    exact ⟨p :: ps, by simp only [toPL, e1, e3], by simp only [noLsts, e2, e4, Bool.and_self]⟩
end
section
variable {X : Cx} {G : GI} {W : Wd} {c : Cs} {pins : List (Addr × Obj)} {σ : L2.St} {s : Shared} {A : Around} {E : Value → Shared → Prop} {a : Addr} {r : DRep} {ks ds : List D}
theorem reads_up {h h' : Heap} {u : Value} {p : PyData} (k : ∀ b o, h.get? b = some o → h'.get? b = some o) (r : ∃ as, Reads h u p as) : ∃ as, Reads h' u p as := let ⟨as, r⟩ := r; ⟨as, PyProof.Rows.Reads.keeps k r⟩
/-- sorted(d) -/
theorem DAt.sortedK (hK : X.K = G.K) (hu : A.units + 65 < cLine) (hh : A.handled = none) (x : DAt G W a r ks ds) (I : Inv X pins σ W.H s) {ps : List PyData} (hp : toPL ks = some ps) (ok : srtOk ps) {Q : Value → Shared → Prop}
    (h : ∀ p vs' ms s', W.H p = none → ms.Perm ks → ms.Pairwise (fun a b => ltD b a = false) → DenL G W vs' ms → Inv X pins σ (upd W.H p (.lst vs')) s' → Q (.ref p) s') : wpAny (model X.prog X.w) A (call (.builtin "sorted") [.ref a]) Q E s := by
  obtain ⟨es, ep, hd, raw, hz, rk, rv⟩ := x.raw I
  obtain ⟨_, _, _, _, nks, _, _, _, _, hn, _⟩ := x.ok
  have nl : noLsts ps = true := by
    obtain ⟨ps', e1, e2⟩ := keysN_noLst hn
    rw [hp] at e1; cases e1; exact e2
  refine Calls.call_function_entry PyProof.Rows.kind_sorted PyProof.Rows.plain_sorted PyProof.Rows.entry_sorted (PyProof.Rows.args_sorted1 _) ?_
  unfold Builtin.«sorted»
  refine wpAny_bind (m := checkCount "sorted" 1 1 _) (wpAny_pure ?_)
  refine wpAny_bind (PySem.W.kdu_collect (A := A.in1) (KdlSrc.rawDict (es := es) (ep := ep) x.ok.2.1) hh raw hz fun h' tk acc hk hacc => ?_)
  have hal : acc.toList = es.toList.map (·.key) := by
    refine List.ext_getElem? fun j => ?_
    cases e : acc.toList[j]? with
    | none =>
      have hj := List.getElem?_eq_none_iff.mp e
      rw [Array.length_toList, hacc.1] at hj
      rw [List.getElem?_map, List.getElem?_eq_none (by simpa using hj)]; rfl
    | some v =>
      obtain ⟨hi, e2⟩ := hacc.2 j v (by rw [← Array.getElem?_toList]; exact e)
      rw [List.getElem?_map, Array.getElem?_toList, Array.getElem?_eq_getElem hi, e2]; rfl
  have I1 : Inv X pins σ W.H { s with heap := h', toks := tk } := I.kept hk
  have hlen : acc.toList.length ≤ sizeLine := by rw [hal, List.length_map]; simpa using hz
  refine wpAny_bind (wpAny_newList ?_ hlen)
  have hoL : (h'.push { cls := .type "list", data := .seq acc.toList.toArray }).get? h'.objs.size = some { cls := .type "list", data := .seq acc.toList.toArray } := Heap.get?_push_size _ rfl
  have rk' : Vals r.keys acc.toList := by rw [hal]; exact rk
  have hL : W.H h'.objs.size = none := I1.hok.fresh (Nat.le_refl _)
  have I2 : Inv X pins σ (upd W.H h'.objs.size (.lst r.keys)) { s with heap := h'.push { cls := .type "list", data := .seq acc.toList.toArray }, toks := tk } :=
    I1.laid (t' := tk) (fun b o e => Heap.get?_push_of_some _ e) (Nat.le_refl _) ⟨by rw [rk'.length]; exact hlen, acc.toList, 0, rk', hoL⟩
  refine wpAny_bind (wpAny_holding (wpAny_mono (sort_new (A := A.in1) (Q := fun s' => Q (.ref h'.objs.size) s') (by show A.units + 1 + 64 < _; omega) I2 upd_same (fun b hb p u hp' ru => ?_) x.dk hp ok nl fun vs' ms s' m1 m2 m3 I3 => ?_) (fun _ s' q => ?_) fun _ _ e => e))
  · obtain ⟨_, _, _, q4⟩ := zip_enc x.dk hp
    exact reads_up (fun b o e => Heap.get?_push_of_some _ (hk b o e)) (den_reads hK I (q4 b hb).1 hp' ru)
  · rw [upd_upd] at I3
    exact h _ vs' ms s' hL m1 m2 m3 I3
  · exact wpAny_pure ⟨_, rfl, q⟩
theorem zipL_len' : ∀ (xs ys : List D), xs.length = ys.length → (zipL xs ys).length = xs.length
  | [], [], _ => rfl
  | x :: xs, y :: ys, h => by
    show (zipL xs ys).length + 1 = _
    rw [zipL_len' xs ys (by simpa using h)]; rfl
  | [], _ :: _, h => by simp at h
  | _ :: _, [], h => by simp at h
theorem zipL_at : ∀ {xs ys : List D} {i : Nat} {x y : D}, xs[i]? = some x → ys[i]? = some y → (zipL xs ys)[i]? = some (.tup [x, y])
  | x :: xs, y :: ys, 0, _, _, h1, h2 => by simp at h1 h2; subst h1 h2; rfl
  | x :: xs, y :: ys, i + 1, _, _, h1, h2 => by
    show (zipL xs ys)[i]? = _
    exact zipL_at (by simpa using h1) (by simpa using h2)
  | [], _, _, _, _, h1, _ => by simp at h1
  | _ :: _, [], _, _, _, _, h2 => by simp at h2
theorem denL_ix : ∀ {vs : List V} {xs : List D}, vs.length = xs.length → (∀ (i : Nat) (v : V) (d : D), vs[i]? = some v → xs[i]? = some d → Den G W v d) → DenL G W vs xs
  | [], [], _, _ => .nil
  | v :: vs, d :: xs, hl, h => .cons (h 0 v d rfl rfl) (denL_ix (by simpa using hl) fun i v' d' h1 h2 => h (i + 1) v' d' (by simpa using h1) (by simpa using h2))
  | [], _ :: _, hl, _ => by simp at hl
  | _ :: _, [], hl, _ => by simp at hl
theorem refs_vals : ∀ as : List Addr, Vals (as.map V.ref) (as.map Value.ref)
  | [] => .nil
  | a :: as => .cons rfl (refs_vals as)
/-- sorted(d.items()), up to the view -/
theorem DAt.sortedI (hK : X.K = G.K) (hu : A.units + 65 < cLine) (hh : A.handled = none) (okW : Ok G W c) (x : DAt G W a r ks ds) (I : Inv X pins σ W.H s) {v : Addr} (hv : s.heap.IsItemsView v a) {ps : List PyData} (hp : toPL (zipL ks ds) = some ps) (ok : srtOk ps) (nl : noLsts ps = true) {Q : Value → Shared → Prop}
    (h : ∀ W2 p vs' ms s', Ext W W2 → Ok G W2 c → W2.H p = none → ms.Perm (zipL ks ds) → ms.Pairwise (fun a b => ltD b a = false) → DenL G W2 vs' ms → Inv X pins σ (upd W2.H p (.lst vs')) s' → Q (.ref p) s') : wpAny (model X.prog X.w) A (call (.builtin "sorted") [.ref v]) Q E s := by
  obtain ⟨es, ep, hd, raw, hz, rk, rv⟩ := x.raw I
  refine DT.sortedI (es := es) (ep := ep) hh hv raw hz fun h' tk as hk hlt hl hG => ?_
  have nd : as.Nodup := List.Pairwise.imp (fun h => Nat.ne_of_lt h) hG.rise
  have I1 : Inv X pins σ W.H { s with heap := h', toks := tk } := I.kept hk
  have kl := rk.length
  have vl := rv.length
  have dl := x.dk.length
  have el : es.toList.length = es.size := by simp
  rw [List.length_map] at kl vl
  obtain ⟨H2, I2, g, qt⟩ := L2.DX.takeT (P := fun b vs => ∃ (j : Nat) (kv vv : V), as[j]? = some b ∧ r.keys[j]? = some kv ∧ r.vals[j]? = some vv ∧ vs = [kv, vv]) I as W.H I1 nd fun b hb => by
    obtain ⟨j, hj⟩ := List.mem_iff_getElem?.mp hb
    obtain ⟨e, he, hg⟩ := hG.pairs j b hj
    have hjl : j < es.size := (Array.getElem?_eq_some_iff.mp he).1
    have h1 : ∃ kv, r.keys[j]? = some kv := ⟨_, List.getElem?_eq_getElem (by omega)⟩
    have h2 : ∃ vv, r.vals[j]? = some vv := ⟨_, List.getElem?_eq_getElem (by omega)⟩
    obtain ⟨kv, h1⟩ := h1
    obtain ⟨vv, h2⟩ := h2
    obtain ⟨u1, e1, r1⟩ := rk.get h1
    obtain ⟨u2, e2, r2⟩ := rv.get h2
    rw [List.getElem?_map, Array.getElem?_toList, he] at e1 e2
    cases e1; cases e2
    have hbl : s.heap.objs.size ≤ b := Nat.le_of_lt (hG.above b hb)
    exact ⟨hbl, I.hok.fresh hbl, [kv, vv], ⟨j, kv, vv, hj, h1, h2, rfl⟩, fun H3 => ⟨(by rw [sizeLine_eq]; show 2 ≤ 16777216; omega), [e.key, e.val], .cons r1 (.cons r2 .nil), ⟨_, hg, rfl, 0, rfl⟩⟩⟩
  obtain ⟨xe, ok2⟩ := okW.grow g
  have hL : H2 h'.objs.size = none := I2.hok.fresh (Nat.le_refl _)
  have hlas : as.length ≤ sizeLine := by rw [hl]; exact hz
  have hoL : (h'.push { cls := .type "list", data := .seq (as.map Value.ref).toArray }).get? h'.objs.size = some { cls := .type "list", data := .seq (as.map Value.ref).toArray } := Heap.get?_push_size _ rfl
  have I3 : Inv X pins σ (upd H2 h'.objs.size (.lst (as.map V.ref))) { s with heap := h'.push { cls := .type "list", data := .seq (as.map Value.ref).toArray }, toks := tk } :=
    I2.laid (t' := tk) (fun b o e => Heap.get?_push_of_some _ e) (Nat.le_refl _) ⟨by rw [List.length_map]; exact hlas, as.map Value.ref, 0, refs_vals as, hoL⟩
  have dz : DenL G { W with H := H2 } (as.map V.ref) (zipL ks ds) := by
    refine denL_ix (by rw [List.length_map, zipL_len' _ _ x.len.1]; omega) fun i w d h1 h2 => ?_
    rw [List.getElem?_map] at h1
    obtain ⟨b, hb, rfl⟩ := Option.map_eq_some_iff.mp h1
    obtain ⟨vs, ⟨j, kv, vv, j1, j2, j3, ev⟩, hH⟩ := qt b (List.mem_of_getElem? hb)
    have eij : i = j := (List.getElem?_inj (List.getElem?_eq_some_iff.mp hb).1 nd).mp (hb.trans j1.symm)
    subst eij
    obtain ⟨dk, hdk, q1⟩ := x.dk.getV j2
    obtain ⟨dv, hdv, q2⟩ := x.dv.getV j3
    rw [zipL_at hdk hdv] at h2
    cases h2
    rw [ev] at hH
    exact .tup (.inl hH) (.cons (q1.mono okW xe) (.cons (q2.mono okW xe) .nil))
  refine wpAny_mono (sort_new (A := A.in1) (Q := fun s' => Q (.ref h'.objs.size) s') (by show A.units + 1 + 64 < _; omega) I3 upd_same (fun b hb p u hp' ru => ?_) dz hp ok nl fun vs' ms s' m1 m2 m3 I4 => ?_) (fun _ s' q => q) fun _ _ e => e
  · obtain ⟨_, _, _, q4⟩ := zip_enc dz hp
    exact reads_up (fun b o e => Heap.get?_push_of_some _ e) (den_reads (W := { W with H := H2 }) hK I2 (q4 b hb).1 hp' ru)
  · rw [upd_upd] at I4
    exact h _ _ vs' ms s' xe ok2 hL m1 m2 m3 I4
end
end F

namespace F
open PySem PySem.Spec PyProof.Rows L2
/-- the keys of the dict at a -/
def Itdk (a : Addr) (r : DRep) : It :=
  ⟨fun i H => H a = some (r.ho a) ∧ i < r.keys.length, fun i H v H' => H' = H ∧ r.keys[i]? = some v, fun i H => H a = some (r.ho a) ∧ r.keys.length ≤ i⟩
theorem turn_dk {P : Program} {w : World} {K : PySem.W.Frag} {tg : Expr} {a : Addr} {r : DRep} {es : Array DictEntry} {ep : Nat} (it : Addr) (hx : r.o.ExactDict) (hd : r.o.data = .dict es ep) (rk : Vals r.keys (es.toList.map (·.key))) :
    Turn P w K tg (Itdk a r) [it] it (fun i h => h.IsKeyIter it a i es.size ep) where
  mem := by simp
  obj := fun i h st b hb => by
    have e : b = it := by simpa using hb
    subst e
    obtain ⟨oi, e, c, dd⟩ := st
    exact ⟨oi, e, fun v z => by rw [dd] at z; cases z⟩
  keep := fun i h h' st k => st.at fun oi e => k it (by simp) oi e
  item := by
    intro X hP hw hK hc i pins s σ H E I hf st hg
    subst hP hw hK
    obtain ⟨ha, hi⟩ := hg
    obtain ⟨f0, f1, f2, f3, f4, f5⟩ := hf it (by simp)
    have raw : s.heap.DictRaw a es ep := ⟨_, (I.hok a _ ha).1, hx, hd⟩
    have hl := rk.length
    rw [List.length_map] at hl
    have el : es.toList.length = es.size := by simp
    have hi' : i < es.size := by omega
    refine wpAny_pyNext_keys_item_raw st raw hi' fun h' st' sb => ?_
    have I1 : Inv X pins σ H { s with heap := h' } := I.turned (t' := s.toks) (fun b ob hb e => (sb.2 b hb).trans e) f0 f1 f3 f4 f5
    obtain ⟨oi, e, c, dd⟩ := id st'
    obtain ⟨u, hu, ru⟩ := rk.get (List.getElem?_eq_getElem hi)
    rw [List.getElem?_map, Array.getElem?_toList, Array.getElem?_eq_getElem hi'] at hu
    cases hu
    exact ⟨_, rfl, go_of (s := { s with heap := h' }) e c dd (by decide) ⟨_, H, I1, ru, ⟨rfl, List.getElem?_eq_getElem hi⟩, st', fun b hb => (hf b hb).1⟩⟩
  done := by
    intro X hP hw hK hc i pins s σ H E I hf st hg
    subst hP hw hK
    obtain ⟨ha, hi⟩ := hg
    obtain ⟨f0, f1, f2, f3, f4, f5⟩ := hf it (by simp)
    have raw : s.heap.DictRaw a es ep := ⟨_, (I.hok a _ ha).1, hx, hd⟩
    have hl := rk.length
    rw [List.length_map] at hl
    have el : es.toList.length = es.size := by simp
    exact wpAny_pyNext_keys_end_raw (I.ok.hd hc) st raw (by omega) fun h' eb => ⟨rfl, I.turned (t' := s.toks) (fun b ob hb e => eb b ob hb e) f0 f1 f3 f4 f5⟩
  self := fun A i s Q E st h => wpAny_pyIter_keyiter st h
def DFct (a : Addr) (r : DRep) : Prop := r.o.ExactDict ∧ (a == sysModules) = false ∧ ∃ es ep, r.o.data = .dict es ep ∧ Vals r.keys (es.toList.map (·.key))
theorem DRep.ok.fct {w : World} {a : Addr} {ks : List D} {r : DRep} (h : r.ok w a ks) : DFct a r := let ⟨h1, h2, es, ep, _, h3, _, h5, _⟩ := h; ⟨h1, h2, es, ep, h3, h5⟩
/-- a list, a tuple, a dict -/
def iAny (K : PySem.W.Frag) (tl : TE) : TI := fun σ H R => tl σ H fun x H1 => ∃ a, x = .ref a ∧ (((∃ xs, SqL K H1 a xs) ∧ R (Itl K a) H1) ∨ ((∃ xs, SqT K H1 a xs) ∧ R (Itt K a) H1) ∨ ∃ r : DRep, H1 a = some (r.ho a) ∧ DFct a r ∧ R (Itdk a r) H1)
theorem pi_any {X : Cx} {tg l : Expr} {tl : TE} (hl : PE X l tl) : PI X tg l (iAny X.K tl) := by
  refine ⟨fun pins s σ H R I h => ?_⟩
  refine thn (hl.run pins s σ H _ I h) fun v s1 ⟨x, H1, I1, r1, q1⟩ => ?_
  obtain ⟨a, e, q⟩ := q1
  subst e
  cases r1
  rcases q with ⟨⟨xs, hq⟩, q⟩ | ⟨⟨xs, hq⟩, q⟩ | ⟨r, hr, ⟨f1, f2, es, ep, f3, f4⟩, q⟩
  · obtain ⟨its, rv, p, hz⟩ := I1.list hq
    refine wpAny_pyIter_list p.isList ?_
    refine ⟨s1.heap.objs.size, [s1.heap.objs.size], _, _, H1, rfl, I1.kept (t' := s1.toks) fun b o e => Heap.get?_push_of_some _ e, turn_list a _, ⟨_, Heap.get?_push_size _ rfl, rfl, rfl⟩, fun b hb => ?_, q⟩
    have e : b = s1.heap.objs.size := by simpa using hb
    subst e
    exact I1.fpOk (Nat.le_refl _) (I1.hok.fresh (Nat.le_refl _))
  · obtain ⟨its, rv, p, hz⟩ := I1.tuple hq
    refine wpAny_pyIter_tuple (show s1.heap.IsTuple a its.toArray from p) ?_
    refine ⟨s1.heap.objs.size, [s1.heap.objs.size], _, _, H1, rfl, I1.kept (t' := s1.toks) fun b o e => Heap.get?_push_of_some _ e, turn_tuple a _, ⟨_, Heap.get?_push_size _ rfl, rfl, rfl⟩, fun b hb => ?_, q⟩
    have e : b = s1.heap.objs.size := by simpa using hb
    subst e
    exact I1.fpOk (Nat.le_refl _) (I1.hok.fresh (Nat.le_refl _))
  · have raw : s1.heap.DictRaw a es ep := ⟨_, (I1.hok a _ hr).1, f1, f3⟩
    refine wpAny_pyIter_dict_raw f2 raw (pi_one (tk := s1.toks) I1 _ (turn_dk _ f1 f3 f4) ⟨_, Heap.get?_push_size _ rfl, rfl, ?_⟩ q)
    rfl
end F

namespace F
open PySem PySem.Spec PyProof.Rows L2
/-- a list (false) or a tuple (true) -/
def SqX (K : PySem.W.Frag) (H : Hp) (k : Bool) (a : Addr) (xs : List V) : Prop := match k with
  | true => SqT K H a xs
  | false => SqL K H a xs
def HpX (k : Bool) (h : Heap) (a : Addr) (its : Array Value) : Prop := match k with
  | true => h.IsTuple a its
  | false => h.IsList a its
def ItX (k : Bool) (h : Heap) (it a : Addr) (i : Nat) : Prop := match k with
  | true => h.IsTupleIter it a i
  | false => h.IsListIter it a i
def obX (k : Bool) (a : Addr) : Obj := match k with
  | true => { cls := .type "tuple_iterator", data := .fields #[.ref a, .int 0 0] }
  | false => { cls := .type "list_iterator", data := .fields #[.ref a, .int 0 0] }
theorem begX (k : Bool) (a : Addr) (its : Array Value) : Begins (.ref a) (obX k a) fun h => HpX k h a its := match k with
  | true => begins_tuple a its
  | false => begins_list a its
theorem itX0 {k : Bool} {h : Heap} {it a : Addr} (e : h.get? it = some (obX k a)) : ItX k h it a 0 := match k, e with
  | true, e => ⟨_, e, rfl, rfl⟩
  | false, e => ⟨_, e, rfl, rfl⟩
theorem ItX.at {k : Bool} {h h' : Heap} {it a : Addr} {i : Nat} (x : ItX k h it a i) (e : ∀ o, h.get? it = some o → h'.get? it = some o) : ItX k h' it a i := match k, x with
  | true, x => Heap.IsTupleIter.at x e
  | false, x => Heap.IsListIter.at x e
theorem ItX.obj {k : Bool} {h : Heap} {it a : Addr} {i : Nat} (x : ItX k h it a i) : ∃ o, h.get? it = some o ∧ ∀ v, o.data ≠ .cell v := match k, x with
  | true, x => let ⟨o, e, _, d⟩ := x; ⟨o, e, fun v q => by rw [d] at q; cases q⟩
  | false, x => let ⟨o, e, _, d⟩ := x; ⟨o, e, fun v q => by rw [d] at q; cases q⟩
theorem drX {prog : Program} {w : World} {A : Around} (hh : A.handled = none) (k : Bool) (it a : Addr) (hne : a ≠ it) (its : Array Value) : Draws prog w A it [it, a] its.size (fun i v => its[i]? = some v) (fun i h => ItX k h it a i ∧ HpX k h a its) := match k with
  | true => Draws.tuple hh it a hne its
  | false => Draws.list hh it a hne its
section
variable {X : Cx} {pins : List (Addr × Obj)} {σ : L2.St} {H : Hp} {s : Shared}
theorem invX (I : Inv X pins σ H s) {k : Bool} {a : Addr} {xs : List V} (h : SqX X.K H k a xs) : ∃ its : List Value, Vals xs its ∧ HpX k s.heap a its.toArray ∧ a < s.heap.objs.size := match k, h with
  | true, h => let ⟨its, rv, p, _⟩ := I.tuple h; ⟨its, rv, p, let ⟨_, ho, _⟩ := p; Heap.lt_size ho⟩
  | false, h => let ⟨its, rv, p, _⟩ := I.list h; ⟨its, rv, p.isList, p.lt⟩
theorem injX (I : Inv X pins σ H s) {k : Bool} {a : Addr} {xs ys : List V} (h : SqX X.K H k a xs) (h' : SqX X.K H k a ys) : xs = ys := match k, h, h' with
  | true, h, h' => I.tuple_inj h h'
  | false, h, h' => I.list_inj h h'
end
/-- two sources, drawn from together -/
def Itz2 (K : PySem.W.Frag) (k1 k2 : Bool) (a b : Addr) (n1 n2 : Nat) : It :=
  ⟨fun i H => ∃ (xs ys : List V) (x y : V), SqX K H k1 a xs ∧ SqX K H k2 b ys ∧ xs.length = n1 ∧ ys.length = n2 ∧ xs[i]? = some x ∧ ys[i]? = some y,
    fun i H v H' => ∃ T x y, v = .ref T ∧ H T = none ∧ H' = upd H T (.tup [x, y]) ∧ (∀ xs, SqX K H k1 a xs → xs[i]? = some x) ∧ ∀ ys, SqX K H k2 b ys → ys[i]? = some y,
    fun i H => ∃ xs ys : List V, SqX K H k1 a xs ∧ SqX K H k2 b ys ∧ xs.length = n1 ∧ ys.length = n2 ∧ (n1 ≤ i ∨ n2 ≤ i)⟩
theorem turn_zip2 {P : Program} {w : World} {K : PySem.W.Frag} {elts : List Expr} {kk : Nat} {tpos : Pos} {k1 k2 : Bool} {a b z TI TO i1 i2 : Addr} {n1 n2 : Nat} (D : ZipSep2 z TI TO i1 i2 [i1, a] [i2, b]) (h1a : a ≠ i1) (h2b : b ≠ i2) (i1z : i1 ≠ z) (i2z : i2 ≠ z) :
    Turn P w K (.Tuple elts kk tpos) (Itz2 K k1 k2 a b n1 n2) [z, TI, TO, i1, i2] z (fun i h => IsZip h z TI TO .none ∧ IsTupOf2 h TI (.ref i1) (.ref i2) ∧ (∃ x y, IsTupOf2 h TO x y) ∧ ItX k1 h i1 a i ∧ ItX k2 h i2 b i ∧ i ≤ n1 ∧ i ≤ n2) where
  mem := by simp
  obj := fun i h st c hc => by
    obtain ⟨hz, hTI, ⟨x, y, hTO⟩, q1, q2, _⟩ := st
    have e' : c = z ∨ c = TI ∨ c = TO ∨ c = i1 ∨ c = i2 := by simpa using hc
    rcases e' with q | q | q | q | q
    · rw [q]; exact ⟨_, hz, fun v q => nomatch q⟩
    · rw [q]; exact ⟨_, hTI, fun v q => nomatch q⟩
    · rw [q]; exact ⟨_, hTO, fun v q => nomatch q⟩
    · rw [q]; exact q1.obj
    · rw [q]; exact q2.obj
  keep := fun i h h' st k => by
    obtain ⟨hz, hTI, ⟨x, y, hTO⟩, q1, q2, hn⟩ := st
    exact ⟨k z (by simp) _ hz, k TI (by simp) _ hTI, ⟨x, y, k TO (by simp) _ hTO⟩, q1.at fun o q => k i1 (by simp) o q, q2.at fun o q => k i2 (by simp) o q, hn⟩
  item := by
    intro X hP hw hK hc i pins s σ H E I hf st hg
    subst hP hw hK
    obtain ⟨hz, hTI, ⟨x0, y0, hTO⟩, q1, q2, hn1, hn2⟩ := st
    obtain ⟨xs, ys, x, y, hqx, hqy, l1, l2, hx, hy⟩ := hg
    obtain ⟨its, rv, p1, _⟩ := invX I hqx
    obtain ⟨its2, rv2, p2, _⟩ := invX I hqy
    obtain ⟨u, hu, ru⟩ := rv.get hx
    obtain ⟨u2, hu2, ru2⟩ := rv2.get hy
    have hh : X.A.in1.handled = none := I.ok.hd hc
    have hzl : z < s.heap.objs.size := Heap.lt_size hz
    have ix : i < xs.length := (List.getElem?_eq_some_iff.mp hx).1
    have iy : i < ys.length := (List.getElem?_eq_some_iff.mp hy).1
    have r1 := rv.length
    have r2 := rv2.length
    refine wpAny_pyNext_zipD2_item D (drX hh k1 i1 a h1a its.toArray) (drX hh k2 i2 b h2b its2.toArray) hz hTI hTO ⟨q1, p1⟩ ⟨q2, p2⟩ (by simp; omega) (by simp; omega) fun v1 v2 h' tk y1 y2 b1 b2 d1 d2 b5 b6 hk => ?_
    have e1 : v1 = u := by rw [List.getElem?_toArray, hu] at y1; exact (Option.some.inj y1).symm
    have e2 : v2 = u2 := by rw [List.getElem?_toArray, hu2] at y2; exact (Option.some.inj y2).symm
    subst e1 e2
    refine ⟨_, rfl, wpAny_letOwnedTupleGo_zip (s := { s with heap := h', toks := tk }) b1 fun h'' z'' sb => ?_⟩
    have hT2 : h''.get? s.heap.objs.size = some { cls := .type "tuple", data := .seq #[v1, v2] } := (sb.2 _ (Nat.ne_of_gt hzl)).trans b5
    have new : ObjOk X.prog X.w (upd H s.heap.objs.size (.tup [x, y])) h'' s.heap.objs.size (.tup [x, y]) :=
      ⟨by show 2 ≤ sizeLine; decide, [v1, v2], .cons ru (.cons ru2 .nil), ⟨_, hT2, rfl, _, rfl⟩⟩
    have I1 : Inv X pins σ (upd H s.heap.objs.size (.tup [x, y])) { s with heap := h'', toks := tk } :=
      I.turnedNew (t' := tk) (ch := [z, TI, TO, i1, i2]) (fun c o hb q => (sb.2 c (fun q' => hb (by simp [q']))).trans (hk c o (fun q' => hb (by simp [q'])) (fun q' => hb (by simp [q'])) (fun q' => hb (by simp [q'])) (fun q' => hb (by simp [q'])) q)) hf (Nat.le_refl _) new
    refine ⟨.ref s.heap.objs.size, _, I1, rfl, ⟨_, x, y, rfl, I.hok.fresh (Nat.le_refl _), rfl, fun l hl => by rw [injX I hl hqx]; exact hx, fun l hl => by rw [injX I hl hqy]; exact hy⟩, ⟨z'', ?_, ⟨v1, v2, ?_⟩, ?_, ?_, by omega, by omega⟩, fun c hcm => ?_⟩
    · exact (sb.2 _ D.TIz).trans (hk _ _ D.TIz D.TITO D.TIi1 D.TIi2 hTI)
    · exact (sb.2 _ D.TOz).trans b2
    · exact d1.1.at fun o q => (sb.2 _ i1z).trans q
    · exact d2.1.at fun o q => (sb.2 _ i2z).trans q
    · have hlt : c < s.heap.objs.size := by
        have e' : c = z ∨ c = TI ∨ c = TO ∨ c = i1 ∨ c = i2 := by simpa using hcm
        rcases e' with q | q | q | q | q
        · rw [q]; exact hzl
        · rw [q]; exact Heap.lt_size hTI
        · rw [q]; exact Heap.lt_size hTO
        · rw [q]; obtain ⟨_, e1, _⟩ := q1.obj; exact Heap.lt_size e1
        · rw [q]; obtain ⟨_, e2, _⟩ := q2.obj; exact Heap.lt_size e2
      rw [upd_ne (Nat.ne_of_lt hlt)]
      exact (hf c hcm).1
  done := by
    intro X hP hw hK hc i pins s σ H E I hf st hg
    subst hP hw hK
    obtain ⟨hz, hTI, ⟨x0, y0, hTO⟩, q1, q2, hn1, hn2⟩ := st
    obtain ⟨xs, ys, hqx, hqy, l1, l2, hend⟩ := hg
    obtain ⟨its, rv, p1, _⟩ := invX I hqx
    obtain ⟨its2, rv2, p2, _⟩ := invX I hqy
    have r1 := rv.length
    have r2 := rv2.length
    have hh : X.A.in1.handled = none := I.ok.hd hc
    refine wpAny_pyNext_zipD2_end D (drX hh k1 i1 a h1a its.toArray) (drX hh k2 i2 b h2b its2.toArray) hz hTI hTO ⟨q1, p1⟩ ⟨q2, p2⟩ (by simp; omega) (by simp; omega) (by simp; omega) fun h' tk hk => ⟨rfl, ?_⟩
    exact I.turnedL (t' := tk) (ch := [z, TI, TO, i1, i2]) (fun c o hb q => hk c o (fun q' => hb (by simp [q'])) (fun q' => hb (by simp [q'])) (fun q' => hb (by simp [q'])) (fun q' => hb (by simp [q'])) q) hf
  self := fun A i s Q E st h => wpAny_pyIter_zip st.1 h
/-- three sources -/
def Itz3 (K : PySem.W.Frag) (k1 k2 k3 : Bool) (a b d : Addr) (n1 n2 n3 : Nat) : It :=
  ⟨fun i H => ∃ (xs ys zs : List V) (x y z : V), SqX K H k1 a xs ∧ SqX K H k2 b ys ∧ SqX K H k3 d zs ∧ xs.length = n1 ∧ ys.length = n2 ∧ zs.length = n3 ∧ xs[i]? = some x ∧ ys[i]? = some y ∧ zs[i]? = some z,
    fun i H v H' => ∃ T x y z, v = .ref T ∧ H T = none ∧ H' = upd H T (.tup [x, y, z]) ∧ (∀ xs, SqX K H k1 a xs → xs[i]? = some x) ∧ (∀ ys, SqX K H k2 b ys → ys[i]? = some y) ∧ ∀ zs, SqX K H k3 d zs → zs[i]? = some z,
    fun i H => ∃ xs ys zs : List V, SqX K H k1 a xs ∧ SqX K H k2 b ys ∧ SqX K H k3 d zs ∧ xs.length = n1 ∧ ys.length = n2 ∧ zs.length = n3 ∧ (n1 ≤ i ∨ n2 ≤ i ∨ n3 ≤ i)⟩
theorem turn_zip3 {P : Program} {w : World} {K : PySem.W.Frag} {elts : List Expr} {kk : Nat} {tpos : Pos} {k1 k2 k3 : Bool} {a b d z TI TO i1 i2 i3 : Addr} {n1 n2 n3 : Nat} (D : ZipSep3 z TI TO i1 i2 i3 [i1, a] [i2, b] [i3, d]) (h1a : a ≠ i1) (h2b : b ≠ i2) (h3d : d ≠ i3) (i1z : i1 ≠ z) (i2z : i2 ≠ z) (i3z : i3 ≠ z) :
    Turn P w K (.Tuple elts kk tpos) (Itz3 K k1 k2 k3 a b d n1 n2 n3) [z, TI, TO, i1, i2, i3] z (fun i h => IsZip h z TI TO .none ∧ IsTupOf3 h TI (.ref i1) (.ref i2) (.ref i3) ∧ (∃ x y w, IsTupOf3 h TO x y w) ∧ ItX k1 h i1 a i ∧ ItX k2 h i2 b i ∧ ItX k3 h i3 d i ∧ i ≤ n1 ∧ i ≤ n2 ∧ i ≤ n3) where
  mem := by simp
  obj := fun i h st c hc => by
    obtain ⟨hz, hTI, ⟨x, y, y3, hTO⟩, q1, q2, q3, _⟩ := st
    have e' : c = z ∨ c = TI ∨ c = TO ∨ c = i1 ∨ c = i2 ∨ c = i3 := by simpa using hc
    rcases e' with q | q | q | q | q | q
    · rw [q]; exact ⟨_, hz, fun v q => nomatch q⟩
    · rw [q]; exact ⟨_, hTI, fun v q => nomatch q⟩
    · rw [q]; exact ⟨_, hTO, fun v q => nomatch q⟩
    · rw [q]; exact q1.obj
    · rw [q]; exact q2.obj
    · rw [q]; exact q3.obj
  keep := fun i h h' st k => by
    obtain ⟨hz, hTI, ⟨x, y, y3, hTO⟩, q1, q2, q3, hn⟩ := st
    exact ⟨k z (by simp) _ hz, k TI (by simp) _ hTI, ⟨x, y, y3, k TO (by simp) _ hTO⟩, q1.at fun o q => k i1 (by simp) o q, q2.at fun o q => k i2 (by simp) o q, q3.at fun o q => k i3 (by simp) o q, hn⟩
  item := by
    intro X hP hw hK hc i pins s σ H E I hf st hg
    subst hP hw hK
    obtain ⟨hz, hTI, ⟨x0, y0, z0, hTO⟩, q1, q2, q3, hn1, hn2, hn3⟩ := st
    obtain ⟨xs, ys, zs, x, y, y3, hqx, hqy, hqz, l1, l2, l3, hx, hy, hy3⟩ := hg
    obtain ⟨its, rv, p1, _⟩ := invX I hqx
    obtain ⟨its2, rv2, p2, _⟩ := invX I hqy
    obtain ⟨its3, rv3, p3, _⟩ := invX I hqz
    obtain ⟨u, hu, ru⟩ := rv.get hx
    obtain ⟨u2, hu2, ru2⟩ := rv2.get hy
    obtain ⟨u3, hu3, ru3⟩ := rv3.get hy3
    have hh : X.A.in1.handled = none := I.ok.hd hc
    have hzl : z < s.heap.objs.size := Heap.lt_size hz
    have ix : i < xs.length := (List.getElem?_eq_some_iff.mp hx).1
    have iy : i < ys.length := (List.getElem?_eq_some_iff.mp hy).1
    have iz : i < zs.length := (List.getElem?_eq_some_iff.mp hy3).1
    have r1 := rv.length
    have r2 := rv2.length
    have r3 := rv3.length
    refine wpAny_pyNext_zipD3_item D (drX hh k1 i1 a h1a its.toArray) (drX hh k2 i2 b h2b its2.toArray) (drX hh k3 i3 d h3d its3.toArray) hz hTI hTO ⟨q1, p1⟩ ⟨q2, p2⟩ ⟨q3, p3⟩ (by simp; omega) (by simp; omega) (by simp; omega) fun v1 v2 v3 h' tk y1 y2 y4 b1 b2 d1 d2 d3 b5 b6 hk => ?_
    have e1 : v1 = u := by rw [List.getElem?_toArray, hu] at y1; exact (Option.some.inj y1).symm
    have e2 : v2 = u2 := by rw [List.getElem?_toArray, hu2] at y2; exact (Option.some.inj y2).symm
    have e3 : v3 = u3 := by rw [List.getElem?_toArray, hu3] at y4; exact (Option.some.inj y4).symm
    subst e1 e2 e3
    refine ⟨_, rfl, wpAny_letOwnedTupleGo_zip (s := { s with heap := h', toks := tk }) b1 fun h'' z'' sb => ?_⟩
    have hT2 : h''.get? s.heap.objs.size = some { cls := .type "tuple", data := .seq #[v1, v2, v3] } := (sb.2 _ (Nat.ne_of_gt hzl)).trans b5
    have new : ObjOk X.prog X.w (upd H s.heap.objs.size (.tup [x, y, y3])) h'' s.heap.objs.size (.tup [x, y, y3]) :=
      ⟨by show 3 ≤ sizeLine; decide, [v1, v2, v3], .cons ru (.cons ru2 (.cons ru3 .nil)), ⟨_, hT2, rfl, _, rfl⟩⟩
    have I1 : Inv X pins σ (upd H s.heap.objs.size (.tup [x, y, y3])) { s with heap := h'', toks := tk } :=
      I.turnedNew (t' := tk) (ch := [z, TI, TO, i1, i2, i3]) (fun c o hb q => (sb.2 c (fun q' => hb (by simp [q']))).trans (hk c o (fun q' => hb (by simp [q'])) (fun q' => hb (by simp [q'])) (fun q' => hb (by simp [q'])) (fun q' => hb (by simp [q'])) (fun q' => hb (by simp [q'])) q)) hf (Nat.le_refl _) new
    refine ⟨.ref s.heap.objs.size, _, I1, rfl, ⟨_, x, y, y3, rfl, I.hok.fresh (Nat.le_refl _), rfl, fun l hl => by rw [injX I hl hqx]; exact hx, fun l hl => by rw [injX I hl hqy]; exact hy, fun l hl => by rw [injX I hl hqz]; exact hy3⟩, ⟨z'', ?_, ⟨v1, v2, v3, ?_⟩, ?_, ?_, ?_, by omega, by omega, by omega⟩, fun c hcm => ?_⟩
    · exact (sb.2 _ D.TIz).trans (hk _ _ D.TIz D.TITO D.TIi1 D.TIi2 D.TIi3 hTI)
    · exact (sb.2 _ D.TOz).trans b2
    · exact d1.1.at fun o q => (sb.2 _ i1z).trans q
    · exact d2.1.at fun o q => (sb.2 _ i2z).trans q
    · exact d3.1.at fun o q => (sb.2 _ i3z).trans q
    · have hlt : c < s.heap.objs.size := by
        have e' : c = z ∨ c = TI ∨ c = TO ∨ c = i1 ∨ c = i2 ∨ c = i3 := by simpa using hcm
        rcases e' with q | q | q | q | q | q
        · rw [q]; exact hzl
        · rw [q]; exact Heap.lt_size hTI
        · rw [q]; exact Heap.lt_size hTO
        · rw [q]; obtain ⟨_, e1, _⟩ := q1.obj; exact Heap.lt_size e1
        · rw [q]; obtain ⟨_, e2, _⟩ := q2.obj; exact Heap.lt_size e2
        · rw [q]; obtain ⟨_, e2, _⟩ := q3.obj; exact Heap.lt_size e2
      rw [upd_ne (Nat.ne_of_lt hlt)]
      exact (hf c hcm).1
  done := by
    intro X hP hw hK hc i pins s σ H E I hf st hg
    subst hP hw hK
    obtain ⟨hz, hTI, ⟨x0, y0, z0, hTO⟩, q1, q2, q3, hn1, hn2, hn3⟩ := st
    obtain ⟨xs, ys, zs, hqx, hqy, hqz, l1, l2, l3, hend⟩ := hg
    obtain ⟨its, rv, p1, _⟩ := invX I hqx
    obtain ⟨its2, rv2, p2, _⟩ := invX I hqy
    obtain ⟨its3, rv3, p3, _⟩ := invX I hqz
    have r1 := rv.length
    have r2 := rv2.length
    have r3 := rv3.length
    have hh : X.A.in1.handled = none := I.ok.hd hc
    refine wpAny_pyNext_zipD3_end D (drX hh k1 i1 a h1a its.toArray) (drX hh k2 i2 b h2b its2.toArray) (drX hh k3 i3 d h3d its3.toArray) hz hTI hTO ⟨q1, p1⟩ ⟨q2, p2⟩ ⟨q3, p3⟩ (by simp; omega) (by simp; omega) (by simp; omega) (by simp; omega) fun h' tk hk => ⟨rfl, ?_⟩
    exact I.turnedL (t' := tk) (ch := [z, TI, TO, i1, i2, i3]) (fun c o hb q => hk c o (fun q' => hb (by simp [q'])) (fun q' => hb (by simp [q'])) (fun q' => hb (by simp [q'])) (fun q' => hb (by simp [q'])) (fun q' => hb (by simp [q'])) q) hf
  self := fun A i s Q E st h => wpAny_pyIter_zip st.1 h
def iZip2 (K : PySem.W.Frag) (ta : TA) : TI := fun σ H R => ta σ H fun vs H1 => ∃ a b k1 k2 xs ys, vs = [.ref a, .ref b] ∧ SqX K H1 k1 a xs ∧ SqX K H1 k2 b ys ∧ R (Itz2 K k1 k2 a b xs.length ys.length) H1
def iZip3 (K : PySem.W.Frag) (ta : TA) : TI := fun σ H R => ta σ H fun vs H1 => ∃ a b d k1 k2 k3 xs ys zs, vs = [.ref a, .ref b, .ref d] ∧ SqX K H1 k1 a xs ∧ SqX K H1 k2 b ys ∧ SqX K H1 k3 d zs ∧ R (Itz3 K k1 k2 k3 a b d xs.length ys.length zs.length) H1
theorem pi_zip2 {X : Cx} {e e2 : Expr} {ta : TA} {p pos tpos : Pos} {elts : List Expr} {kk : Nat} (hg : Gl X "zip") (hm : X.mg "zip" = none) (ha : PA X [e, e2] ta)
    (hs : starEach [e, e2] X.env = (false, eval e X.env) :: starEach [e2] X.env := by rfl) (hpl : (backTo pos (starEach [e2] X.env)).any (·.1) = false := by rfl) :
    PI X (.Tuple elts kk tpos) (.Call (.Name "zip" p) [e, e2] [] pos) (iZip2 X.K ta) := by
  refine ⟨fun pins s σ H R I h => ?_⟩
  refine Call_ (ld_blt I hg hm PyProof.Rows.boot_zip (PyProof.Rows.callWith_type1 (thn (ha.run pos pins s σ H _ I h) fun us s1 ⟨vs, H1, I1, r1, q1⟩ => ?_) hs hpl))
  obtain ⟨a, b, k1, k2, xs, ys, ex, hqx, hqy, q⟩ := q1
  subst ex
  cases r1 with
  | cons r rr =>
    cases rr with
    | cons r' rr =>
      cases rr
      cases r
      cases r'
      obtain ⟨its, rv, p1, la⟩ := invX I1 hqx
      obtain ⟨its2, rv2, p2, lb⟩ := invX I1 hqy
      refine zip_begins2 (begX k1 a its.toArray) (begX k2 b its2.toArray) p1 p2 fun h' hz hTI hTO h1 h2 hsz hk => wpAny_pyIter_zip hz ?_
      have I2 : Inv X pins σ H1 { s1 with heap := h' } := I1.kept (t' := s1.toks) hk
      have S := zip_sep2 (N := s1.heap.objs.size) (fp1 := [a]) (fp2 := [b]) (fun c hc => by rw [List.mem_singleton.mp hc]; exact la) (fun c hc => by rw [List.mem_singleton.mp hc]; exact lb)
      refine ⟨s1.heap.objs.size + 4, [s1.heap.objs.size + 4, s1.heap.objs.size + 2, s1.heap.objs.size + 3, s1.heap.objs.size, s1.heap.objs.size + 1], _, _, H1, rfl, I2, turn_zip2 S (Nat.ne_of_lt la) (Nat.ne_of_lt (Nat.lt_succ_of_lt lb)) (Nat.ne_of_lt (Nat.lt_add_of_pos_right (by decide))) (Nat.ne_of_lt (Nat.add_lt_add_left (by decide) _)), ⟨hz, hTI, ⟨_, _, hTO⟩, itX0 h1, itX0 h2, Nat.zero_le _, Nat.zero_le _⟩, fun c hcm => ?_, q⟩
      have e' : c = s1.heap.objs.size + 4 ∨ c = s1.heap.objs.size + 2 ∨ c = s1.heap.objs.size + 3 ∨ c = s1.heap.objs.size ∨ c = s1.heap.objs.size + 1 := by simpa using hcm
      have hle : s1.heap.objs.size ≤ c := by
        rcases e' with z | z | z | z | z
        · rw [z]; exact Nat.le_add_right _ _
        · rw [z]; exact Nat.le_add_right _ _
        · rw [z]; exact Nat.le_add_right _ _
        · rw [z]; exact Nat.le_refl _
        · rw [z]; exact Nat.le_add_right _ _
      exact I1.fpOk hle (I1.hok.fresh hle)
theorem pi_zip3 {X : Cx} {e e2 e3 : Expr} {ta : TA} {p pos tpos : Pos} {elts : List Expr} {kk : Nat} (hg : Gl X "zip") (hm : X.mg "zip" = none) (ha : PA X [e, e2, e3] ta)
    (hs : starEach [e, e2, e3] X.env = (false, eval e X.env) :: starEach [e2, e3] X.env := by rfl) (hpl : (backTo pos (starEach [e2, e3] X.env)).any (·.1) = false := by rfl) :
    PI X (.Tuple elts kk tpos) (.Call (.Name "zip" p) [e, e2, e3] [] pos) (iZip3 X.K ta) := by
  refine ⟨fun pins s σ H R I h => ?_⟩
  refine Call_ (ld_blt I hg hm PyProof.Rows.boot_zip (PyProof.Rows.callWith_type1 (thn (ha.run pos pins s σ H _ I h) fun us s1 ⟨vs, H1, I1, r1, q1⟩ => ?_) hs hpl))
  obtain ⟨a, b, d, k1, k2, k3, xs, ys, zs, ex, hqx, hqy, hqz, q⟩ := q1
  subst ex
  cases r1 with
  | cons r rr =>
    cases rr with
    | cons r' rr =>
      cases rr with
      | cons r2 rr =>
        cases rr
        cases r
        cases r'
        cases r2
        obtain ⟨its, rv, p1, la⟩ := invX I1 hqx
        obtain ⟨its2, rv2, p2, lb⟩ := invX I1 hqy
        obtain ⟨its3, rv3, p3, ld⟩ := invX I1 hqz
        refine zip_begins3 (begX k1 a its.toArray) (begX k2 b its2.toArray) (begX k3 d its3.toArray) p1 p2 p3 fun h' hz hTI hTO h1 h2 h3 hsz hk => wpAny_pyIter_zip hz ?_
        have I2 : Inv X pins σ H1 { s1 with heap := h' } := I1.kept (t' := s1.toks) hk
        have S := zip_sep3 (N := s1.heap.objs.size) (fp1 := [a]) (fp2 := [b]) (fp3 := [d]) (fun c hc => by rw [List.mem_singleton.mp hc]; exact la) (fun c hc => by rw [List.mem_singleton.mp hc]; exact lb) (fun c hc => by rw [List.mem_singleton.mp hc]; exact ld)
        refine ⟨s1.heap.objs.size + 5, [s1.heap.objs.size + 5, s1.heap.objs.size + 3, s1.heap.objs.size + 4, s1.heap.objs.size, s1.heap.objs.size + 1, s1.heap.objs.size + 2], _, _, H1, rfl, I2, turn_zip3 S (Nat.ne_of_lt la) (Nat.ne_of_lt (Nat.lt_succ_of_lt lb)) (Nat.ne_of_lt (Nat.lt_add_right 2 ld)) (Nat.ne_of_lt (Nat.lt_add_of_pos_right (by decide))) (Nat.ne_of_lt (Nat.add_lt_add_left (by decide) _)) (Nat.ne_of_lt (Nat.add_lt_add_left (by decide) _)),
          ⟨hz, hTI, ⟨_, _, _, hTO⟩, itX0 h1, itX0 h2, itX0 h3, Nat.zero_le _, Nat.zero_le _, Nat.zero_le _⟩, fun c hcm => ?_, q⟩
        have e' : c = s1.heap.objs.size + 5 ∨ c = s1.heap.objs.size + 3 ∨ c = s1.heap.objs.size + 4 ∨ c = s1.heap.objs.size ∨ c = s1.heap.objs.size + 1 ∨ c = s1.heap.objs.size + 2 := by simpa using hcm
        have hle : s1.heap.objs.size ≤ c := by
          rcases e' with z | z | z | z | z | z
          · rw [z]; exact Nat.le_add_right _ _
          · rw [z]; exact Nat.le_add_right _ _
          · rw [z]; exact Nat.le_add_right _ _
          · rw [z]; exact Nat.le_refl _
          · rw [z]; exact Nat.le_add_right _ _
          · rw [z]; exact Nat.le_add_right _ _
        exact I1.fpOk hle (I1.hok.fresh hle)
end F

namespace F
open PySem PySem.Spec PyProof.Rows L2
theorem tuple_mul1 (l : Addr) (items : Array Value) (n : Nat) (dd : Option Addr) (sl : Array (Option Value)) (x : Int) (u : Tok) (c0 : (decide (x < -(2 ^ 63)) || decide (x ≥ 2 ^ 63)) = false) (c1 : (items.isEmpty || x == 1) = true) :
    Meets (Builtin.«tuple.__mul__» ⟨[.ref l, .int x u], []⟩) (fun _ R s => s.heap.get? l = some { cls := .type "tuple", dict := dd, data := .seq items n, slots := sl } ∧ R (.ok (.ret (Value.ref l))) { s with heap := s.heap, toks := s.toks }) :=
  .of_wp fun prog w A R s h => by
    obtain ⟨hp, g, d, tk, os⟩ := s
    obtain ⟨hl, h⟩ := h
    have f1 := AutoSeq1.idx_int
    have f2 := AutoSeq1.sub_tuple_tuple
    wp_walk using wpAny_loadPart' hl
    repeat (first
      | (refine wpAny_ite_false (decide_eq_false (by rw [c0]; exact Bool.false_ne_true)) ?_; wp_walk using wpAny_loadPart' hl)
      | (refine wpAny_ite_true (decide_eq_true c1) ?_; wp_walk using wpAny_loadPart' hl))
    exact ⟨_, rfl, h⟩
theorem tuple_mul0 (l : Addr) (items : Array Value) (n : Nat) (dd : Option Addr) (sl : Array (Option Value)) (x : Int) (u : Tok) (c0 : (decide (x < -(2 ^ 63)) || decide (x ≥ 2 ^ 63)) = false) (c1 : (items.isEmpty || x == 1) = false) (c2 : (decide (x ≤ 0) || items.isEmpty) = true) :
    Meets (Builtin.«tuple.__mul__» ⟨[.ref l, .int x u], []⟩) (fun _ R s => s.heap.get? l = some { cls := .type "tuple", dict := dd, data := .seq items n, slots := sl } ∧
      R (.ok (.ret (Value.ref s.heap.objs.size))) { s with heap := s.heap.push { cls := Value.type "tuple", data := Data.seq #[] }, toks := s.toks }) :=
  .of_wp fun prog w A R s h => by
    obtain ⟨hp, g, d, tk, os⟩ := s
    obtain ⟨hl, h⟩ := h
    have f1 := AutoSeq1.idx_int
    wp_walk using wpAny_loadPart' hl
    repeat (first
      | (refine wpAny_ite_false (decide_eq_false (by rw [c0]; exact Bool.false_ne_true)) ?_; wp_walk using wpAny_loadPart' hl)
      | (refine wpAny_ite_false (decide_eq_false (by rw [c1]; exact Bool.false_ne_true)) ?_; wp_walk using wpAny_loadPart' hl)
      | (refine wpAny_ite_true (decide_eq_true c2) ?_; wp_walk using wpAny_loadPart' hl))
    exact ⟨_, rfl, h⟩
def rRepA (K : PySem.W.Frag) : R2 := fun x y H Q => ∃ l k xs, x = .ref l ∧ y = .int k ∧ SqT K H l xs ∧ -(2 ^ 63) ≤ k ∧ k ≤ 1000 ∧ xs.length ≤ 1000 ∧
  ((xs = [] ∨ k = 1) → Q (.ref l) H) ∧ (xs ≠ [] → k ≠ 1 → ∀ p, H p = none → Q (.ref p) (upd H p (.tup (List.replicate k.toNat xs).flatten)))
section
variable {X : Cx}
theorem op_repA : OpR X (binaryOp .Mult) (rRepA X.K) := by
  intro pins s σ H x y v u Q I rx ry h
  obtain ⟨l, k, xs, rfl, rfl, hT, h1, h2, hz, q1, q2⟩ := h
  by_cases hk : xs ≠ [] ∧ 2 ≤ k
  · exact op_repT pins s σ H _ _ v u Q I rx ry ⟨l, k, xs, rfl, rfl, hT, hk.1, hk.2, h2, hz, q2 hk.1 (by omega)⟩
  cases rx
  obtain ⟨t, rfl⟩ := ry
  obtain ⟨its, r, ⟨⟨cls, dd, data, sl⟩, ho, hc, n, hd⟩, hs⟩ := I.tuple hT
  simp only at hc hd
  subst hc hd
  have hle : its.length = xs.length := r.length.symm
  have c0 : (decide (k < -(2 ^ 63)) || decide (k ≥ 2 ^ 63)) = false := by
    rw [decide_eq_false (by omega), decide_eq_false (by omega)] <;> rfl
  by_cases c1 : (its.toArray.isEmpty || k == 1) = true
  · refine wpAny_binaryOp_repeat_ref (T := "tuple") (U := "int") (by decide) ⟨_, ho, rfl⟩ (fun s' => typeIs_int s' k t) noFill_tuple_mul F.fills_int_mul F.slot_int_rmul repeat_tuple F.slot_int_index.lookup
      (call_meets F.slot_int_rmul (typeIs_int s k t) F.entry_int_rmul (F.args_int_rmul_2 _ _) (int_rmul_tuple k t l its.toArray n dd sl)
        ⟨ho, rfl, ⟨_, ho, rfl⟩, call_meets F.slot_tuple_mul ⟨_, ho, rfl⟩ F.entry_tuple_mul (F.args_tuple_mul_2 _ _) (tuple_mul1 l its.toArray n dd sl k t c0 c1) ⟨ho, ?_⟩⟩)
    refine ⟨.ref l, _, I, rfl, q1 ?_⟩
    rw [Bool.or_eq_true] at c1
    rcases c1 with c1 | c1
    · left
      cases its with
      | nil => exact List.eq_nil_of_length_eq_zero hle.symm
      | cons a b => cases c1
    · right
      exact eq_of_beq c1
  · have c1 : (its.toArray.isEmpty || k == 1) = false := by simpa using c1
    obtain ⟨c3, c4⟩ : its.toArray.isEmpty = false ∧ (k == 1) = false := by
      rw [Bool.or_eq_false_iff] at c1; exact c1
    have hne : xs ≠ [] := fun e => by
      rw [e] at hle
      rw [List.eq_nil_of_length_eq_zero hle] at c3
      cases c3
    have hk1 : k ≠ 1 := fun e => by rw [e] at c4; cases c4
    have hk0 : k ≤ 0 := by
      rcases Int.lt_or_le 0 k with h | h
      · exact absurd ⟨hne, by omega⟩ hk
      · exact h
    have c2 : (decide (k ≤ 0) || its.toArray.isEmpty) = true := by rw [decide_eq_true hk0]; rfl
    refine wpAny_binaryOp_repeat_ref (T := "tuple") (U := "int") (by decide) ⟨_, ho, rfl⟩ (fun s' => typeIs_int s' k t) noFill_tuple_mul F.fills_int_mul F.slot_int_rmul repeat_tuple F.slot_int_index.lookup
      (call_meets F.slot_int_rmul (typeIs_int s k t) F.entry_int_rmul (F.args_int_rmul_2 _ _) (int_rmul_tuple k t l its.toArray n dd sl)
        ⟨ho, rfl, ⟨_, ho, rfl⟩, call_meets F.slot_tuple_mul ⟨_, ho, rfl⟩ F.entry_tuple_mul (F.args_tuple_mul_2 _ _) (tuple_mul0 l its.toArray n dd sl k t c0 c1 c2) ⟨ho, ?_⟩⟩)
    have q := q2 hne hk1
    rw [show k.toNat = 0 by omega, List.replicate_zero, List.flatten_nil] at q
    refine ⟨.ref s.heap.objs.size, _, I.laid (t' := s.toks) (o := .tup []) (fun b ob q => Heap.get?_push_of_some _ q) (Nat.le_refl _) ?_, rfl, q _ (I.hok.fresh (Nat.le_refl _))⟩
    exact ⟨by rw [sizeLine_eq]; simp, [], .nil, IsTup.new _ _⟩
end
end F

namespace F
open PySem PySem.Spec L2

theorem line_eq : sizeLine = 16777216 := sizeLine_eq

section
variable {X : Cx} {G : GI} {W : Wd} {c : Cs} {m : Bool}
abbrev RB (G : GI) (o : B2) (m : Bool) : R2 := fun x y H Q => ∃ W c d e Q0, W.H = H ∧ Ok G W c ∧ Den G W x d ∧ Den G W y e ∧ wpB o m d e c Q0 ∧ ∀ v H', Post G W Q0 v H' → Q v H'

theorem den_int {v : V} {i : Int} (h : Den G W v (.int i)) : v = .int i := by cases h; rfl
theorem den_str {v : V} {i : Str} (h : Den G W v (.str i)) : v = .str i := by cases h; rfl
theorem den_bl {v : V} {i : Bool} (h : Den G W v (.bl i)) : v = .bl i := by cases h; rfl
theorem den_tup {v : V} {ds : List D} (h : Den G W v (.tup ds)) : ∃ a vs, v = .ref a ∧ TupAt G.K W a vs ∧ DenL G W vs ds := by cases h with | tup h t => exact ⟨_, _, rfl, h, t⟩

theorem opr_add (hK : X.K = G.K) : OpR X (binaryOp .Add) (RB G .add m) := by
  intro pins s σ H x y v u Q I rx ry ⟨W, c, d, e, Q0, eH, ok, dx, dy, h, q⟩
  subst eH
  simp only [wpB] at h
  unfold addD at h
  split at h
  · have e1 := den_int dx; have e2 := den_int dy; subst e1; subst e2
    exact op_add pins s σ _ _ _ v u Q I rx ry ⟨_, _, rfl, rfl, q _ _ (Post.now ok .int h)⟩
  · have e1 := den_str dx; have e2 := den_str dy; subst e1; subst e2
    exact op_add_str pins s σ _ _ _ v u Q I rx ry ⟨_, _, rfl, rfl, by rw [line_eq]; exact h.1, q _ _ (Post.now ok .str h.2)⟩
  · obtain ⟨a, vs, rfl, ta, da⟩ := den_tup dx
    obtain ⟨b, ws, rfl, tb, db⟩ := den_tup dy
    obtain ⟨hl, h⟩ := h
    have l1 := da.length
    have l2 := db.length
    refine op_catA pins s σ _ _ _ v u Q I rx ry ⟨a, b, vs, ws, rfl, rfl, by rw [hK]; exact ta.seq, by rw [hK]; exact tb.seq, by rw [line_eq]; omega, fun e0 => ?_, fun e0 e1 => ?_, fun _ _ => ?_⟩
    · subst e0
      cases da
      exact q _ _ (Post.now ok (.tup tb db) (by simpa using h))
    · subst e1
      cases db
      exact q _ _ (Post.now ok (.tup ta da) (by simpa using h))
    · exact newT_ok ok (da.append db) h q
  · split at h
    · split at h
      · rename_i _ xs hx _ ys hy
        obtain ⟨a, vs, rfl, ha, da⟩ := den_getL ok dx hx
        obtain ⟨b, ws, rfl, hb, db⟩ := den_getL ok dy hy
        have l1 := da.length
        have l2 := db.length
        exact op_cat pins s σ _ _ _ v u Q I rx ry ⟨a, b, vs, ws, rfl, rfl, ha, hb, by rw [line_eq, l1, l2]; exact h.1, newL_ok ok (da.append db) h.2 q⟩
      · exact h.elim
    · exact h.elim
theorem int2_of {P : Int → Int → Prop} {x y : V} {d e : D} (dx : Den G W x d) (dy : Den G W y e) (h : int2 P d e) : ∃ i j, x = .int i ∧ y = .int j ∧ P i j := by
  unfold int2 at h
  split at h
  · exact ⟨_, _, den_int dx, den_int dy, h⟩
  · exact h.elim
theorem opr_sub : OpR X (binaryOp .Sub) (RB G .sub m) := by
  intro pins s σ H x y v u Q I rx ry ⟨W, c, d, e, Q0, eH, ok, dx, dy, h, q⟩
  subst eH
  obtain ⟨i, j, rfl, rfl, h⟩ := int2_of dx dy h
  exact op_sub pins s σ _ _ _ v u Q I rx ry ⟨_, _, rfl, rfl, q _ _ (Post.now ok .int h)⟩
theorem flat_rep {vs : List V} {ds : List D} (h : DenL G W vs ds) : ∀ k : Nat, DenL G W (List.replicate k vs).flatten (List.replicate k ds).flatten
  | 0 => .nil
  | k + 1 => by
    rw [List.replicate_succ, List.replicate_succ, List.flatten_cons, List.flatten_cons]
    exact h.append (flat_rep h k)
theorem opr_mul (hK : X.K = G.K) : OpR X (binaryOp .Mult) (RB G .mul m) := by
  intro pins s σ H x y v u Q I rx ry ⟨W, c, d, e, Q0, eH, ok, dx, dy, h, q⟩
  subst eH
  simp only [wpB] at h
  unfold mulD at h
  split at h
  · have e1 := den_int dx; have e2 := den_int dy; subst e1; subst e2
    rename_i i j
    obtain ⟨hm, h⟩ := h
    have fin := q _ _ (Post.now ok (.int (i := i * j)) h)
    rcases hm with hm | hm | ⟨h1, h2⟩
    · exact op_mul pins s σ _ _ _ v u Q I rx ry ⟨_, _, rfl, rfl, .inl hm, fin⟩
    · exact op_mul pins s σ _ _ _ v u Q I rx ry ⟨_, _, rfl, rfl, .inr hm, fin⟩
    · exact op_mulW pins s σ _ _ _ v u Q I rx ry ⟨_, _, rfl, rfl, wide_mul h1 h2 (by decide) (by decide) (by decide), fin⟩
  · rename_i xs k
    have e2 := den_int dy; subst e2
    obtain ⟨a, vs, rfl, ta, da⟩ := den_tup dx
    obtain ⟨⟨h1, h2, h3⟩, h⟩ := h
    have l1 := da.length
    refine op_repA pins s σ _ _ _ v u Q I rx ry ⟨a, k, vs, rfl, rfl, by rw [hK]; exact ta.seq, h2, h3, by omega, fun e0 => ?_, fun _ _ => newT_ok ok (flat_rep da _) h q⟩
    refine q _ _ (Post.now ok (.tup ta da) ?_)
    rcases e0 with e0 | e0
    · subst e0
      cases da
      simpa using h
    · subst e0
      simpa using h
  · rename_i k _ _
    have e2 := den_int dy; subst e2
    unfold repL at h
    split at h
    · rename_i xs hx
      obtain ⟨a, vs, rfl, ha, da⟩ := den_getL ok dx hx
      have l1 := da.length
      exact op_rep pins s σ _ _ _ v u Q I rx ry ⟨a, k, vs, rfl, rfl, ha, h.1.1, h.1.2.1, by rw [line_eq, l1]; exact h.1.2.2, newL_ok ok (flat_rep da _) h.2 q⟩
    · exact h.elim
  · exact h.elim
theorem opr_fdiv : OpR X (binaryOp .FloorDiv) (RB G .fdiv m) := by
  intro pins s σ H x y v u Q I rx ry ⟨W, c, d, e, Q0, eH, ok, dx, dy, h, q⟩
  subst eH
  obtain ⟨i, j, rfl, rfl, h, h2⟩ := int2_of dx dy h
  exact op_fdivW pins s σ _ _ _ v u Q I rx ry ⟨_, _, rfl, rfl, wide_div h.1 h.2 (by decide) (by decide), q _ _ (Post.now ok .int h2)⟩
theorem opr_mod : OpR X (binaryOp .Mod) (RB G .mod m) := by
  intro pins s σ H x y v u Q I rx ry ⟨W, c, d, e, Q0, eH, ok, dx, dy, h, q⟩
  subst eH
  obtain ⟨i, j, rfl, rfl, h, h2⟩ := int2_of dx dy h
  exact op_mod pins s σ _ _ _ v u Q I rx ry ⟨_, _, rfl, rfl, h, q _ _ (Post.now ok .int h2)⟩
theorem opr_pow : OpR X (binaryOp .Pow) (RB G .pow m) := by
  intro pins s σ H x y v u Q I rx ry ⟨W, c, d, e, Q0, eH, ok, dx, dy, h, q⟩
  subst eH
  obtain ⟨i, j, rfl, rfl, h, h2⟩ := int2_of dx dy h
  exact op_pow pins s σ _ _ _ v u Q I rx ry ⟨_, _, rfl, rfl, h, q _ _ (Post.now ok .int h2)⟩
theorem opr_lt : OpR X (compareOp .Lt) (RB G .lt m) := by
  intro pins s σ H x y v u Q I rx ry ⟨W, c, d, e, Q0, eH, ok, dx, dy, h, q⟩
  subst eH
  obtain ⟨i, j, rfl, rfl, h⟩ := int2_of dx dy h
  exact op_lt pins s σ _ _ _ v u Q I rx ry ⟨_, _, rfl, rfl, q _ _ (Post.now ok .bl h)⟩
theorem opr_le : OpR X (compareOp .LtE) (RB G .le m) := by
  intro pins s σ H x y v u Q I rx ry ⟨W, c, d, e, Q0, eH, ok, dx, dy, h, q⟩
  subst eH
  obtain ⟨i, j, rfl, rfl, h⟩ := int2_of dx dy h
  exact op_le pins s σ _ _ _ v u Q I rx ry ⟨_, _, rfl, rfl, q _ _ (Post.now ok .bl h)⟩
theorem opr_gt : OpR X (compareOp .Gt) (RB G .gt m) := by
  intro pins s σ H x y v u Q I rx ry ⟨W, c, d, e, Q0, eH, ok, dx, dy, h, q⟩
  subst eH
  obtain ⟨i, j, rfl, rfl, h⟩ := int2_of dx dy h
  exact op_gt pins s σ _ _ _ v u Q I rx ry ⟨_, _, rfl, rfl, q _ _ (Post.now ok .bl h)⟩
theorem opr_ge : OpR X (compareOp .GtE) (RB G .ge m) := by
  intro pins s σ H x y v u Q I rx ry ⟨W, c, d, e, Q0, eH, ok, dx, dy, h, q⟩
  subst eH
  obtain ⟨i, j, rfl, rfl, h⟩ := int2_of dx dy h
  exact op_ge pins s σ _ _ _ v u Q I rx ry ⟨_, _, rfl, rfl, q _ _ (Post.now ok .bl h)⟩
theorem DAt.nil {X : Cx} {G : GI} {W : Wd} {pins : List (Addr × Obj)} {σ : L2.St} {s : Shared} {a : Addr} {r : DRep} {ds : List D} (x : DAt G W a r [] ds) (I : Inv X pins σ W.H s) : (a == sysModules) = false ∧ s.heap.DictOf (mixKind X.prog X.w) a [] := by
  obtain ⟨h1, h2, es, ep, nks, h3, h4, h5, h6, _⟩ := x.ok
  have hk : r.keys = [] := by
    have := x.dk.length
    simpa using this
  rw [hk] at h5
  have he : es.toList = [] := by
    have := h5.length
    simpa using this.symm
  exact ⟨h2, r.o, es, ep, x.get I, h1, h3, fun e he2 => (by rw [← Array.mem_toList_iff, he] at he2; exact nomatch he2), (by rw [he]; exact .nil), List.nodup_nil⟩
theorem opr_eq (hK : X.K = G.K) (hu : X.A.units + 64 < cLine) : OpR X (compareOp .Eq) (RB G .eq m) := by
  intro pins s σ H x y v u Q I rx ry ⟨W, c, d, e, Q0, eH, ok, dx, dy, h, q⟩
  subst eH
  simp only [wpB] at h
  unfold eqD at h
  split at h
  · have e1 := den_int dx; have e2 := den_int dy; subst e1; subst e2
    refine op_eq pins s σ _ _ _ v u Q I rx ry ⟨rfl, q _ _ (Post.now ok (d := .bl _) ?_ h)⟩
    rw [dec_int, Bool.beq_eq_decide_eq]; exact .bl
  · have e1 := den_bl dx; have e2 := den_bl dy; subst e1; subst e2
    refine op_eq pins s σ _ _ _ v u Q I rx ry ⟨rfl, q _ _ (Post.now ok (d := .bl _) ?_ h)⟩
    rw [dec_bl, Bool.beq_eq_decide_eq]; exact .bl
  · have e1 := den_str dx; have e2 := den_str dy; subst e1; subst e2
    refine op_eq pins s σ _ _ _ v u Q I rx ry ⟨rfl, q _ _ (Post.now ok (d := .bl _) ?_ h)⟩
    rw [dec_str, Bool.beq_eq_decide_eq]; exact .bl
  · obtain ⟨a1, r1, rfl, x1, _⟩ := den_getC ok dx rfl
    obtain ⟨a2, r2, rfl, x2, _⟩ := den_getC ok dy rfl
    obtain rfl : v = Value.ref a1 := rx
    obtain rfl : u = Value.ref a2 := ry
    obtain ⟨y1, d1⟩ := DAt.nil x1 I
    obtain ⟨y2, d2⟩ := DAt.nil x2 I
    exact PySem.W.keq_eq (knd := mixKind X.prog X.w) (r := true) y1 y2 d1 d2 (by omega) (fun _ => .nil) ⟨.bl _, W.H, I, rfl, q _ _ (Post.now ok .bl h)⟩
  · unfold eqG at h
    split at h
    · rename_i p1 p2 h1 h2
      exact op_eqD hu pins s σ _ _ _ v u Q I rx ry ⟨p1, p2, by rw [hK]; exact den_toPc ok dx h1, by rw [hK]; exact den_toPc ok dy h2, h.1, h.2.1, q _ _ (Post.now ok .bl h.2.2)⟩
    · exact h.elim
theorem opr_ne (hK : X.K = G.K) (hu : X.A.units + 64 < cLine) : OpR X (compareOp .NotEq) (RB G .ne m) := by
  intro pins s σ H x y v u Q I rx ry ⟨W, c, d, e, Q0, eH, ok, dx, dy, h, q⟩
  subst eH
  simp only [wpB] at h
  unfold eqD at h
  split at h
  · have e1 := den_int dx; have e2 := den_int dy; subst e1; subst e2
    refine op_ne pins s σ _ _ _ v u Q I rx ry ⟨rfl, q _ _ (Post.now ok (d := .bl _) ?_ h)⟩
    rw [dec_int, Bool.beq_eq_decide_eq]; exact .bl
  · have e1 := den_bl dx; have e2 := den_bl dy; subst e1; subst e2
    refine op_ne pins s σ _ _ _ v u Q I rx ry ⟨rfl, q _ _ (Post.now ok (d := .bl _) ?_ h)⟩
    rw [dec_bl, Bool.beq_eq_decide_eq]; exact .bl
  · have e1 := den_str dx; have e2 := den_str dy; subst e1; subst e2
    refine op_ne pins s σ _ _ _ v u Q I rx ry ⟨rfl, q _ _ (Post.now ok (d := .bl _) ?_ h)⟩
    rw [dec_str, Bool.beq_eq_decide_eq]; exact .bl
  · obtain ⟨a1, r1, rfl, x1, _⟩ := den_getC ok dx rfl
    obtain ⟨a2, r2, rfl, x2, _⟩ := den_getC ok dy rfl
    obtain rfl : v = Value.ref a1 := rx
    obtain rfl : u = Value.ref a2 := ry
    obtain ⟨y1, d1⟩ := DAt.nil x1 I
    obtain ⟨y2, d2⟩ := DAt.nil x2 I
    exact PySem.W.keq_ne (knd := mixKind X.prog X.w) (r := true) y1 y2 d1 d2 (by omega) (fun _ => .nil) ⟨.bl _, W.H, I, rfl, q _ _ (Post.now ok .bl h)⟩
  · unfold eqG at h
    split at h
    · rename_i p1 p2 h1 h2
      exact op_neD hu pins s σ _ _ _ v u Q I rx ry ⟨p1, p2, by rw [hK]; exact den_toPc ok dx h1, by rw [hK]; exact den_toPc ok dy h2, h.1, h.2.1, q _ _ (Post.now ok .bl h.2.2)⟩
    · exact h.elim
theorem den_non {v : V} {d : D} (h : Den G W v d) : decide (v = .non) = isNon d := by
  cases h <;> first | rfl | (unfold isNon; simp)
theorem opr_is : OpR X (compareOp .Is) (RB G .is m) := by
  intro pins s σ H x y v u Q I rx ry ⟨W, c, d, e, Q0, eH, ok, dx, dy, h, q⟩
  subst eH
  simp only [wpB] at h
  unfold isD at h
  split at h
  · cases dy
    exact op_isN pins s σ _ _ _ v u Q I rx ry ⟨rfl, by rw [den_non dx]; exact q _ _ (Post.now ok .bl h)⟩
  · cases dx; cases dy
    exact op_isBl pins s σ _ _ _ v u Q I rx ry ⟨_, _, rfl, rfl, q _ _ (Post.now ok .bl h)⟩
  · exact h.elim
theorem opr_isn : OpR X (compareOp .IsNot) (RB G .isn m) := by
  intro pins s σ H x y v u Q I rx ry ⟨W, c, d, e, Q0, eH, ok, dx, dy, h, q⟩
  subst eH
  simp only [wpB] at h
  unfold isD at h
  split at h
  · cases dy
    exact op_notN pins s σ _ _ _ v u Q I rx ry ⟨rfl, by rw [den_non dx]; exact q _ _ (Post.now ok .bl h)⟩
  · cases dx; cases dy
    exact op_notBl pins s σ _ _ _ v u Q I rx ry ⟨_, _, rfl, rfl, q _ _ (Post.now ok .bl h)⟩
  · exact h.elim
def rInTD (K : PySem.W.Frag) (f : Bool → Bool) : V → V → Hp → VK → Prop := fun x y H Q => ∃ (d : PyData) (ds : List PyData), Dp K H x d ∧ Dp K H y (.tuple ds) ∧ SeqAt.shaped d = true ∧ SeqAt.shaped (.list ds) = true ∧ Q (.bl (f (ds.any fun z => PyData.eqv z d))) H
theorem op_inTD {X : Cx} (hu : X.A.units + 65 < cLine) : OpR X (compareOp .In) (rInTD X.K fun b => b) := by
  intro pins s σ H x y v u Q I rx ry h
  obtain ⟨d, ds, hd, he, sd, se, q⟩ := h
  obtain ⟨as, r1⟩ := Dp.reads I d x v hd rx
  obtain ⟨bs, r2⟩ := Dp.reads I (.tuple ds) y u he ry
  exact SeqAt.in_tuple_reads r2 r1 (SeqAt.canLay_of_shaped se) (SeqAt.canLay_of_shaped sd) (PyProof.Rows.room_in_shaped sd hu) ⟨.bl _, H, I, rfl, q⟩
theorem op_notInTD {X : Cx} (hu : X.A.units + 65 < cLine) : OpR X (compareOp .NotIn) (rInTD X.K fun b => !b) := by
  intro pins s σ H x y v u Q I rx ry h
  obtain ⟨d, ds, hd, he, sd, se, q⟩ := h
  obtain ⟨as, r1⟩ := Dp.reads I d x v hd rx
  obtain ⟨bs, r2⟩ := Dp.reads I (.tuple ds) y u he ry
  exact SeqAt.notIn_tuple_reads r2 r1 (SeqAt.canLay_of_shaped se) (SeqAt.canLay_of_shaped sd) (PyProof.Rows.room_in_shaped sd hu) ⟨.bl _, H, I, rfl, q⟩
theorem opr_inK (hK : X.K = G.K) (hw : G.w = X.w) (hu : X.A.units + 65 < cLine) {f : Bool → Bool} {pins : List (Addr × Obj)} {σ : L2.St} {s : Shared} {x y : V} {v u : Value} {d e : D} {Q0 : QE} (ok : Ok G W c) (I : Inv X pins σ W.H s) (rx : RelV x v) (ry : RelV y u) (dx : Den G W x d) (dy : Den G W y e) (h : inK c f Q0 d (getC c e)) :
    ∃ a r ks ds, u = .ref a ∧ DAt G W a r ks ds ∧ kOk ks d = true ∧ Q0 (.bl (f (dHas ks d))) c := by
  cases hc : getC c e with
  | none => rw [hc] at h; exact h.elim
  | some kv =>
    rw [hc] at h
    obtain ⟨a, r, rfl, da, _⟩ := den_getC ok dy hc
    cases ry
    exact ⟨a, r, kv.1, kv.2, rfl, da, h.1, h.2⟩
theorem opr_in (hK : X.K = G.K) (hw : G.w = X.w) (hu : X.A.units + 65 < cLine) : OpR X (compareOp .In) (RB G .inn m) := by
  intro pins s σ H x y v u Q I rx ry ⟨W, c, d, e, Q0, eH, ok, dx, dy, h, q⟩
  subst eH
  simp only [wpB] at h
  unfold inA at h
  split at h
  rotate_left
  · obtain ⟨a, r, ks, ds, rfl, da, k1, k2⟩ := opr_inK hK hw hu ok I rx ry dx dy h
    exact da.in_ hK hw (by omega) I dx rx k1 fun s' I' => ⟨.bl _, W.H, I', rfl, q _ _ (Post.now ok .bl k2)⟩
  rename_i hy
  unfold inD at h
  split at h
  · rename_i ys hy'
    cases hy'
    split at h
    · rename_i p ps hp hps
      obtain ⟨b, ws, rfl, hb, db⟩ := den_getS ok dy hy
      rcases hb with hb | hb
      · exact op_inD hu pins s σ _ _ _ v u Q I rx ry ⟨p, ps, by rw [hK]; exact den_toP rfl dx hp, by rw [hK]; exact .lst hb (den_toPL rfl db hps), h.1, h.2.1, q _ _ (Post.now ok .bl h.2.2)⟩
      · exact op_inTD hu pins s σ _ _ _ v u Q I rx ry ⟨p, ps, by rw [hK]; exact den_toP rfl dx hp, by rw [hK]; exact .tup hb (den_toPL rfl db hps), h.1, h.2.1, q _ _ (Post.now ok .bl h.2.2)⟩
    · exact h.elim
  · exact h.elim
theorem opr_nin (hK : X.K = G.K) (hw : G.w = X.w) (hu : X.A.units + 65 < cLine) : OpR X (compareOp .NotIn) (RB G .nin m) := by
  intro pins s σ H x y v u Q I rx ry ⟨W, c, d, e, Q0, eH, ok, dx, dy, h, q⟩
  subst eH
  simp only [wpB] at h
  unfold inA at h
  split at h
  rotate_left
  · obtain ⟨a, r, ks, ds, rfl, da, k1, k2⟩ := opr_inK hK hw hu ok I rx ry dx dy h
    exact da.nin hK hw (by omega) I dx rx k1 fun s' I' => ⟨.bl _, W.H, I', rfl, q _ _ (Post.now ok .bl k2)⟩
  rename_i hy
  unfold inD at h
  split at h
  · rename_i ys hy'
    cases hy'
    split at h
    · rename_i p ps hp hps
      obtain ⟨b, ws, rfl, hb, db⟩ := den_getS ok dy hy
      rcases hb with hb | hb
      · exact op_notInD hu pins s σ _ _ _ v u Q I rx ry ⟨p, ps, by rw [hK]; exact den_toP rfl dx hp, by rw [hK]; exact .lst hb (den_toPL rfl db hps), h.1, h.2.1, q _ _ (Post.now ok .bl h.2.2)⟩
      · exact op_notInTD hu pins s σ _ _ _ v u Q I rx ry ⟨p, ps, by rw [hK]; exact den_toP rfl dx hp, by rw [hK]; exact .tup hb (den_toPL rfl db hps), h.1, h.2.1, q _ _ (Post.now ok .bl h.2.2)⟩
    · exact h.elim
  · exact h.elim
theorem atI_den {vs : List V} {ds : List D} {i : Int} {d : D} (h : DenL G W vs ds) (e : atI ds i = some d) : ∃ v, atI vs i = some v ∧ Den G W v d := by
  unfold atI at e ⊢
  have hl := h.length
  rw [hl]
  cases q : ixN ds.length i with
  | none => rw [q] at e; cases e
  | some j =>
    rw [q] at e
    exact h.get (by simpa using e)
theorem ixr_idx (hK : X.K = G.K) (hw : G.w = X.w) (hu : X.A.units + 65 < cLine) : IxR X (RB G .idx m) := by
  intro value slice pins s σ H x y v u Q I rx ry h hs
  obtain ⟨W, c, d, e, Q0, eH, ok, dx, dy, h, q⟩ := h
  subst eH
  simp only [wpB] at h
  unfold idxA at h
  split at h
  rotate_left
  · cases hc : getC c d with
    | none => rw [hc] at h; exact h.elim
    | some kv =>
      rw [hc] at h
      obtain ⟨k1, k2⟩ := h
      cases hg : dGet kv.1 kv.2 e with
      | none => rw [hg] at k2; exact k2.elim
      | some z =>
        rw [hg] at k2
        obtain ⟨a, r, rfl, da, _⟩ := den_getC ok dx hc
        cases rx
        exact PyProof.Rows.tail_any (da.typeIs I) PySem.F.slot_dict_getitem.lookup (da.getItem hK hw (by omega) I dy ry k1 hg fun v w' s' I' r' dv => ⟨v, W.H, I', r', q _ _ (Post.now ok dv k2)⟩) hs
  rename_i hx
  split at h
  · rename_i i
    have e2 := den_int dy; subst e2
    unfold idxS at h
    split at h
    · rename_i xs hx'
      cases hx'
      split at h
      · rename_i z hz
        obtain ⟨a, vs, rfl, ha, da⟩ := den_getS ok dx hx
        obtain ⟨w, hw, dw⟩ := atI_den da hz
        rcases ha with ha | ha
        · exact ix_list value slice pins s σ _ _ _ v u Q I rx ry ⟨a, vs, i, w, rfl, rfl, by rw [hK]; exact ha, hw, q _ _ (Post.now ok dw h)⟩ hs
        · exact ix_tup value slice pins s σ _ _ _ v u Q I rx ry ⟨a, vs, i, w, rfl, rfl, by rw [hK]; exact ha, hw, q _ _ (Post.now ok dw h)⟩ hs
      · exact h.elim
    · exact h.elim
  · exact h.elim

abbrev RC (G : GI) (o : Bi) (m : Bool) : List V → Hp → VK → Prop := fun xs H Q => ∃ W c ds Q0, W.H = H ∧ Ok G W c ∧ DenL G W xs ds ∧ wpBi o m ds c Q0 ∧ ∀ v H', Post G W Q0 v H' → Q v H'
theorem denL_one {xs : List V} {d : D} (h : DenL G W xs [d]) : ∃ x, xs = [x] ∧ Den G W x d := by
  cases h with
  | cons r t => cases t; exact ⟨_, rfl, r⟩
theorem denL_two {xs : List V} {d e : D} (h : DenL G W xs [d, e]) : ∃ x y, xs = [x, y] ∧ Den G W x d ∧ Den G W y e := by
  cases h with
  | cons r t => cases t with | cons r2 t2 => cases t2; exact ⟨_, _, rfl, r, r2⟩
theorem onO_of {α : Type} {o : Option α} {P : α → Prop} (h : onO o P) : ∃ x, o = some x ∧ P x := by
  cases o with
  | none => exact h.elim
  | some x => exact ⟨x, rfl, h⟩
theorem allI_den : ∀ {ds : List D} {ns : List Int} {vs : List V}, DenL G W vs ds → allI ds = some ns → vs = ns.map V.int
  | [], _, _, .nil, e => by cases e; rfl
  | d :: r, ns, _, .cons dx t, e => by
    cases dx with
    | int =>
      simp only [allI] at e
      obtain ⟨ms, e1, rfl⟩ := Option.map_eq_some_iff.mp e
      rw [allI_den t e1] <;> rfl
    | _ => simp [allI] at e
theorem allB_den : ∀ {ds : List D} {ns : List Bool} {vs : List V}, DenL G W vs ds → allB ds = some ns → vs = ns.map V.bl
  | [], _, _, .nil, e => by cases e; rfl
  | d :: r, ns, _, .cons dx t, e => by
    cases dx with
    | bl =>
      simp only [allB] at e
      obtain ⟨ms, e1, rfl⟩ := Option.map_eq_some_iff.mp e
      rw [allB_den t e1] <;> rfl
    | _ => simp [allB] at e

theorem call_lenD {A : Around} {E : Value → Shared → Prop} {pins : List (Addr × Obj)} {σ : L2.St} {s : Shared} {a : Addr} {r : DRep} {ks ds : List D} (x : DAt G W a r ks ds) (I : Inv X pins σ W.H s) {Q : Value → Shared → Prop} (h : ∀ t s', Inv X pins σ W.H s' → Q (.int ks.length t) s') :
    wpAny (model X.prog X.w) A (call (.builtin "len") [.ref a]) Q E s := by
  obtain ⟨es, ep, h1, raw, hz, rk, rv⟩ := x.raw I
  have e1 := rk.length
  have e2 := x.dk.length
  rw [List.length_map] at e1
  have e3 : es.toList.length = es.size := by simp
  have e4 : es.size = ks.length := by omega
  refine PyProof.Rows.call_len_slot (n := es.size) raw.typeIs PySem.F.slot_dict_len (fun Q' hq => call_len_raw x.ok.2.1 raw hq) (by omega) (by have := sizeLine_eq; omega) ?_
  rw [e4]
  exact h _ _ (I.kept fun _ _ e => e)
theorem callr_len (hK : X.K = G.K) : CallR X (.builtin "len") (RC G .len m) := by
  intro pins s σ H vs us Q I r ⟨W, c, ds, Q0, eH, ok, dx, h, q⟩
  subst eH
  unfold wpBi at h
  split at h <;> try (exact absurd ‹_ = _› (by decide))
  · obtain ⟨x, rfl, dz⟩ := denL_one dx
    unfold lenA at h
    split at h
    rotate_left
    · obtain ⟨kv, hc, h⟩ := onO_of h
      obtain ⟨a, r', rfl, da, _⟩ := den_getC ok dz hc
      obtain rfl := Vals.ref1 r
      exact call_lenD da I fun t s' I' => ⟨.int kv.1.length, W.H, I', ⟨t, rfl⟩, q _ _ (Post.now ok .int h)⟩
    rename_i hx
    obtain ⟨a, ws, rfl, ha, da⟩ := den_getS ok dz hx
    have e := da.length
    exact call_len_seq pins s σ _ _ us Q I r ⟨a, ws, rfl, by rw [hK]; exact ha, by rw [e]; exact q _ _ (Post.now ok .int h)⟩
  · exact h.elim
theorem callr_abs : CallR X (.builtin "abs") (RC G .abs m) := by
  intro pins s σ H vs us Q I r ⟨W, c, ds, Q0, eH, ok, dx, h, q⟩
  subst eH
  unfold wpBi at h
  split at h <;> try (exact absurd ‹_ = _› (by decide))
  · obtain ⟨x, rfl, dz⟩ := denL_one dx
    have e1 := den_int dz; subst e1
    exact call_abs pins s σ _ _ us Q I r ⟨_, rfl, q _ _ (Post.now ok .int h)⟩
  · exact h.elim
theorem callr_max (hK : X.K = G.K) (hc : X.calm = true) : CallR X (.builtin "max") (RC G .max m) := by
  intro pins s σ H vs us Q I r ⟨W, c, ds, Q0, eH, ok, dx, h, q⟩
  subst eH
  unfold wpBi at h
  split at h <;> try (exact absurd ‹_ = _› (by decide))
  · obtain ⟨x, y, rfl, dz, dy⟩ := denL_two dx
    have e1 := den_int dz; subst e1
    have e2 := den_int dy; subst e2
    exact call_max2 hc pins s σ _ _ us Q I r ⟨_, _, rfl, q _ _ (Post.now ok .int h)⟩
  · obtain ⟨x, rfl, dz⟩ := denL_one dx
    obtain ⟨xs, hx, h⟩ := onO_of h
    obtain ⟨a, ws, rfl, ha, da⟩ := den_getR ok dz hx
    unfold maxA at h
    split at h
    · rename_i n ns hn
      have e := allI_den da hn
      subst e
      exact cr_max hc pins s σ _ _ us Q I r ⟨a, n :: ns, rfl, by rw [hK]; exact ha, Nat.succ_pos _, fun m hm hy => q _ _ (Post.now ok .int (h m hm hy))⟩
    · exact h.elim
  · exact h.elim
theorem callr_min (hK : X.K = G.K) (hu : X.A.units + 65 < cLine) (hc : X.calm = true) : CallR X (.builtin "min") (RC G .min m) := by
  intro pins s σ H vs us Q I r ⟨W, c, ds, Q0, eH, ok, dx, h, q⟩
  subst eH
  unfold wpBi at h
  split at h <;> try (exact absurd ‹_ = _› (by decide))
  · obtain ⟨x, y, rfl, dz, dy⟩ := denL_two dx
    have e1 := den_int dz; subst e1
    have e2 := den_int dy; subst e2
    exact call_min2 hc pins s σ _ _ us Q I r ⟨_, _, rfl, q _ _ (Post.now ok .int h)⟩
  · obtain ⟨x, rfl, dz⟩ := denL_one dx
    obtain ⟨xs, hx, h⟩ := onO_of h
    obtain ⟨a, ws, rfl, ha, da⟩ := den_getR ok dz hx
    obtain rfl := Vals.ref1 r
    unfold minA at h
    split at h
    · rename_i n ns hn
      have e := allI_den da hn
      subst e
      exact cr_min hc pins s σ _ _ [.ref a] Q I r ⟨a, n :: ns, rfl, by rw [hK]; exact ha, Nat.succ_pos _, fun m hm hy => q _ _ (Post.now ok .int (h m hm hy))⟩
    · unfold minG at h
      split at h
      · rename_i p ps hp
        exact min_data_ok hK (by omega) (I.ok.hd hc) I (by rw [hK]; exact ha) da hp h.1 h.2.1 fun d v u s' m1 m2 m3 m4 I' => ⟨v, W.H, I', m4, q _ _ (Post.now ok m3 (h.2.2 d m1 m2))⟩
      · exact h.elim
  · exact h.elim
theorem cr_sumT {X : Cx} (hc : X.calm = true) : CallR X (.builtin "sum") (fun vs H Q => ∃ (a : Addr) (ns : List Int), vs = [V.ref a] ∧ SqT X.K H a (ns.map V.int) ∧ Q (.int ns.sum) H) := by
  intro pins s σ H vs us Q I r h
  obtain ⟨a, ns, rfl, hs, q⟩ := h
  obtain ⟨its, rv, hl, _⟩ := I.tuple hs
  rw [Vals.ref1 r]
  have hi := rv.ints
  have ht : s.heap.IsTuple a its.toArray := hl
  obtain ⟨xs, e⟩ := hi.allInts.items
  have hn : PySem.numsOf (PySem.intItems xs).toList = ns := by rw [← e]; exact hi.numsOf
  rw [nums_intItems] at hn
  rw [e] at ht
  refine PySem.W.ktm_sumG (I.ok.hd hc) ht fun h' tk t' hk => ?_
  refine ⟨.int _, H, I.kept hk, ⟨_, rfl⟩, ?_⟩
  rw [preSum_eq, List.take_of_length_le (by simp), hn]
  exact q
theorem callr_sum (hK : X.K = G.K) (hc : X.calm = true) : CallR X (.builtin "sum") (RC G .sum m) := by
  intro pins s σ H vs us Q I r ⟨W, c, ds, Q0, eH, ok, dx, h, q⟩
  subst eH
  unfold wpBi at h
  split at h <;> try (exact absurd ‹_ = _› (by decide))
  · obtain ⟨x, rfl, dz⟩ := denL_one dx
    obtain ⟨xs, hx, h⟩ := onO_of h
    obtain ⟨ns, hn, h⟩ := onO_of h
    obtain ⟨a, ws, rfl, ha, da⟩ := den_getS ok dz hx
    have e := allI_den da hn
    subst e
    rcases ha with ha | ha
    · exact cr_sum hc pins s σ _ _ us Q I r ⟨a, ns, rfl, by rw [hK]; exact ha, q _ _ (Post.now ok .int h)⟩
    · exact cr_sumT hc pins s σ _ _ us Q I r ⟨a, ns, rfl, by rw [hK]; exact ha, q _ _ (Post.now ok .int h)⟩
  · exact h.elim
theorem callr_all (hK : X.K = G.K) (hc : X.calm = true) : CallR X (.builtin "all") (RC G .all m) := by
  intro pins s σ H vs us Q I r ⟨W, c, ds, Q0, eH, ok, dx, h, q⟩
  subst eH
  unfold wpBi at h
  split at h <;> try (exact absurd ‹_ = _› (by decide))
  · obtain ⟨x, rfl, dz⟩ := denL_one dx
    obtain ⟨xs, hx, h⟩ := onO_of h
    obtain ⟨ns, hn, h⟩ := onO_of h
    obtain ⟨a, ws, rfl, ha, da⟩ := den_getR ok dz hx
    have e := allB_den da hn
    subst e
    exact cr_all hc pins s σ _ _ us Q I r ⟨a, ns, rfl, by rw [hK]; exact ha, q _ _ (Post.now ok .bl h)⟩
  · exact h.elim
theorem callr_any (hK : X.K = G.K) (hc : X.calm = true) : CallR X (.builtin "any") (RC G .any m) := by
  intro pins s σ H vs us Q I r ⟨W, c, ds, Q0, eH, ok, dx, h, q⟩
  subst eH
  unfold wpBi at h
  split at h <;> try (exact absurd ‹_ = _› (by decide))
  · obtain ⟨x, rfl, dz⟩ := denL_one dx
    obtain ⟨xs, hx, h⟩ := onO_of h
    obtain ⟨ns, hn, h⟩ := onO_of h
    obtain ⟨a, ws, rfl, ha, da⟩ := den_getR ok dz hx
    have e := allB_den da hn
    subst e
    exact cr_any hc pins s σ _ _ us Q I r ⟨a, ns, rfl, by rw [hK]; exact ha, q _ _ (Post.now ok .bl h)⟩
  · exact h.elim
theorem callr_int : CallR X (.type "int") (RC G .int m) := by
  intro pins s σ H vs us Q I r ⟨W, c, ds, Q0, eH, ok, dx, h, q⟩
  subst eH
  unfold wpBi at h
  split at h <;> try (exact absurd ‹_ = _› (by decide))
  · obtain ⟨x, rfl, dz⟩ := denL_one dx
    have e1 := den_int dz; subst e1
    exact call_int1 pins s σ _ _ us Q I r (.inl ⟨_, rfl, q _ _ (Post.now ok .int h)⟩)
  · obtain ⟨x, rfl, dz⟩ := denL_one dx
    have e1 := den_bl dz; subst e1
    exact call_int1 pins s σ _ _ us Q I r (.inr ⟨_, rfl, q _ _ (Post.now ok .int h)⟩)
  · exact h.elim
theorem allT_den : ∀ {xs : List D} {ns : List (List Int)}, allT xs = some ns → xs = ns.map tupI ∧ ∀ n ∈ ns, n ≠ []
  | [], ns, h => by cases h; exact ⟨rfl, fun _ h => by cases h⟩
  | .tup (d :: ds) :: r, ns, h => by
    simp only [allT] at h
    split at h
    · rename_i a b e1 e2
      cases h
      obtain ⟨ih1, ih2⟩ := allT_den e2
      have e3 : ∀ {ds : List D} {ns : List Int}, allI ds = some ns → ds = ns.map D.int := by
        intro ds
        induction ds with
        | nil => intro ns h; cases h; rfl
        | cons d r ih =>
          intro ns h
          cases d <;> try (simp only [allI] at h; cases h)
          simp only [allI, Option.map_eq_some_iff] at h
          obtain ⟨ms, h1, rfl⟩ := h
          rw [List.map_cons, ← ih h1]
      have e4 := e3 e1
      refine ⟨?_, fun n hn => ?_⟩
      · rw [List.map_cons, ← ih1, tupI, ← e4]
      · rcases List.mem_cons.mp hn with rfl | hn
        · intro z; rw [z] at e4; cases e4
        · exact ih2 n hn
    · cases h
  | .tup [] :: r, ns, h => by simp [allT] at h
  | .non :: r, ns, h => by simp [allT] at h
  | .bl _ :: r, ns, h => by simp [allT] at h
  | .int _ :: r, ns, h => by simp [allT] at h
  | .str _ :: r, ns, h => by simp [allT] at h
  | .ty _ :: r, ns, h => by simp [allT] at h
  | .ref _ :: r, ns, h => by simp [allT] at h
  | .lst _ :: r, ns, h => by simp [allT] at h
  | .scr _ :: r, ns, h => by simp [allT] at h
  | .dct _ _ :: r, ns, h => by simp [allT] at h
  | .obj _ _ :: r, ns, h => by simp [allT] at h
  | .cell _ :: r, ns, h => by simp [allT] at h
theorem denL_at {ns : List (List Int)} : ∀ {vs : List V}, DenL G W vs (ns.map tupI) → ∀ {i : Nat} {v : V}, vs[i]? = some v → ∃ n, ns[i]? = some n ∧ Den G W v (tupI n) := by
  induction ns with
  | nil => intro vs h i v hv; cases h; simp at hv
  | cons n r ih =>
    intro vs h i v hv
    cases h with
    | cons d t =>
      cases i with
      | zero => simp only [List.getElem?_cons_zero, Option.some.injEq] at hv; subst hv; exact ⟨n, rfl, d⟩
      | succ i => rw [List.getElem?_cons_succ] at hv; exact ih t hv
theorem allI_ints : ∀ {n : List Int}, allI (n.map D.int) = some n
  | [] => rfl
  | x :: r => by simp only [List.map_cons, allI, allI_ints, Option.map_some]
theorem den_tupI {v : V} {n : List Int} (h : Den G W v (tupI n)) : ∃ t, v = .ref t ∧ SqT G.K W.H t (n.map V.int) := by
  obtain ⟨t, us, rfl, ta, da⟩ := den_tup h
  have e : us = n.map V.int := allI_den da allI_ints
  subst e
  exact ⟨t, rfl, ta.seq⟩
theorem srtG_ok {m : Bool} {Q0 : QE} {Q : VK} {xs : List D} {p : Addr} {vs' : List V} {ms : List D} (ok : Ok G W c) (h : ∀ ms : List D, ms.Perm xs → ms.Pairwise (fun a b => ltD b a = false) → newL m ms c Q0) (q : ∀ v H', Post G W Q0 v H' → Q v H') (hp : W.H p = none) (m1 : ms.Perm xs) (m2 : ms.Pairwise (fun a b => ltD b a = false)) (m3 : DenL G W vs' ms) : Q (.ref p) (upd W.H p (.lst vs')) :=
  newL_ok ok m3 (h ms m1 m2) q p hp
theorem allI_toPL : ∀ {ds : List D} {ns : List Int}, allI ds = some ns → toPL ds = some (ns.map PyData.int) ∧ ds = ns.map D.int
  | [], ns, h => by cases h; exact ⟨rfl, rfl⟩
  | d :: ds, ns, h => by
    cases d with
    | int i =>
      simp only [allI] at h
      obtain ⟨ms, h1, rfl⟩ := Option.map_eq_some_iff.mp h
      obtain ⟨e1, e2⟩ := allI_toPL h1
      exact ⟨by simp only [toPL, toP, e1, List.map_cons], by rw [e2]; rfl⟩
    | _ => simp [allI] at h
theorem ltD_int {i j : Int} : ltD (.int i) (.int j) = decide (i < j) := PySem.W.dataLt_int i j
theorem srtOk_ints {ns : List Int} : srtOk (ns.map PyData.int) := by
  refine ⟨fun d hd d' hd' => ?_, .inr fun d hd => ?_, fun d hd => ?_⟩
  · obtain ⟨i, _, rfl⟩ := List.mem_map.mp hd
    obtain ⟨j, _, rfl⟩ := List.mem_map.mp hd'
    simp only [PySem.W.alike]
  · obtain ⟨i, _, rfl⟩ := List.mem_map.mp hd
    exact ⟨(fun z => nomatch z), fun _ z => nomatch z⟩
  · obtain ⟨i, _, rfl⟩ := List.mem_map.mp hd
    simp [PyData.depth]
theorem ints_of_perm {ms : List D} {ns : List Int} (h : ms.Perm (ns.map D.int)) : ∃ ks : List Int, ms = ks.map D.int ∧ ks.Perm ns := by
  obtain ⟨ks, h1, h2⟩ := perm_lift D.int h ns rfl
  exact ⟨ks, h2.symm, h1⟩
theorem callr_sorted (hK : X.K = G.K) (hw : G.w = X.w) (hu : X.A.units + 65 < cLine) (hc : X.calm = true) : CallR X (.builtin "sorted") (RC G .sorted m) := by
  intro pins s σ H vs us Q I r ⟨W, c, ds, Q0, eH, ok, dx, h, q⟩
  subst eH
  unfold wpBi at h
  split at h <;> try (exact absurd ‹_ = _› (by decide))
  · obtain ⟨x, rfl, dz⟩ := denL_one dx
    unfold srtA at h
    split at h
    rotate_left
    · obtain ⟨kv, hkv, h⟩ := onO_of h
      obtain ⟨a, r', rfl, da, _⟩ := den_getC ok dz hkv
      obtain rfl := Vals.ref1 r
      unfold srtK at h
      split at h
      · rename_i ns hn
        obtain ⟨e1, e2⟩ := allI_toPL hn
        refine da.sortedK hK hu (I.ok.hd hc) I e1 srtOk_ints fun p vs' ms s' hp m1 m2 m3 I' => ?_
        rw [e2] at m1
        obtain ⟨ks, rfl, pk⟩ := ints_of_perm m1
        refine ⟨.ref p, _, I', rfl, newL_ok ok m3 (h ks pk ?_) q p hp⟩
        rw [List.pairwise_map] at m2
        refine m2.imp fun {i j} z => ?_
        rw [ltD_int] at z
        have := of_decide_eq_false z
        omega
      · obtain ⟨ps, hp', h'⟩ := onO_of h
        exact da.sortedK hK hu (I.ok.hd hc) I hp' h'.1 fun p vs' ms s' hp m1 m2 m3 I' => ⟨.ref p, _, I', rfl, newL_ok ok m3 (h'.2 ms m1 m2) q p hp⟩
    rename_i hx
    obtain ⟨a, ws, rfl, ha, da⟩ := den_getR ok dz hx
    unfold srtD at h
    split at h
    · rename_i ns hn
      have e := allI_den da hn
      subst e
      exact cr_sortedI pins s σ _ _ us Q I r ⟨a, ns, rfl, by rw [hK]; exact ha, fun ms p h1 h2 hp => newL_ok ok DenL.of_ints (h ms h1 h2) q p hp⟩
    unfold srtT at h
    split at h
    rotate_left
    · obtain ⟨ps, hp', h'⟩ := onO_of h
      obtain rfl := Vals.ref1 r
      exact sorted_data_ok hK (by omega) I (by rw [hK]; exact ha) da hp' h'.1 fun p vs' ms s' hp m1 m2 m3 I' => ⟨.ref p, _, I', rfl, newL_ok ok m3 (h'.2 ms m1 m2) q p hp⟩
    · rename_i ns hn
      have h9 := h
      clear h
      obtain ⟨e, hne⟩ := allT_den hn
      subst e
      have ch : ∀ v : V, ∃ n : List Int, v ∈ ws → Den G W v (tupI n) ∧ n ∈ ns := fun v => by
        by_cases hv : v ∈ ws
        · obtain ⟨i, hi⟩ := List.mem_iff_getElem?.mp hv
          obtain ⟨n, h1, h2⟩ := denL_at da hi
          exact ⟨n, fun _ => ⟨h2, List.mem_of_getElem? h1⟩⟩
        · exact ⟨[], fun h => absurd h hv⟩
      have ⟨k, hk⟩ := Classical.axiomOfChoice ch
      have inj : ∀ {v : V} {n m : List Int}, Den G W v (tupI n) → Den G W v (tupI m) → n = m := fun {v n m} h1 h2 => by
        obtain ⟨t, rfl, s1⟩ := den_tupI h1
        obtain ⟨t', e', s2⟩ := den_tupI h2
        cases e'
        rw [← hK] at s1 s2
        have e := I.tuple_inj s1 s2
        exact List.map_inj_right (fun a b h => by injection h) |>.mp e
      have em : ws.map k = ns := by
        refine List.ext_getElem? fun i => ?_
        rw [List.getElem?_map]
        cases hi : ws[i]? with
        | none =>
          have hl := da.length
          rw [List.length_map] at hl
          have := List.getElem?_eq_none_iff.mp hi
          rw [List.getElem?_eq_none (by omega)]; rfl
        | some v =>
          obtain ⟨n, h1, h2⟩ := denL_at da hi
          rw [h1]
          show some (k v) = some n
          rw [inj (hk v (List.mem_of_getElem? hi)).1 h2]
      refine cr_sortedL pins s σ _ _ us Q I r ⟨a, ws, k, rfl, by rw [hK]; exact ha, fun v hv => ?_, fun ys p h1 h2 hp => ?_⟩
      · obtain ⟨d1, d2⟩ := hk v hv
        obtain ⟨t, e, s1⟩ := den_tupI d1
        exact ⟨t, e, by rw [hK]; exact s1, hne _ d2⟩
      · have hys : DenL G W ys ((ys.map k).map tupI) := by
          have hin : ∀ y ∈ ys, Den G W y (tupI (k y)) := fun y hy => (hk y (h2.perm.mem_iff.mp hy)).1
          clear h1 h2
          induction ys with
          | nil => exact .nil
          | cons y r ih => exact .cons (hin y (by simp)) (ih fun z hz => hin z (by simp [hz]))
        refine newL_ok ok hys (h9 (ys.map k) ?_ ?_) q p hp
        · rw [← em]; exact h2.perm.map k
        · exact List.pairwise_map.mpr h1
  · exact h.elim
theorem callr_list (hK : X.K = G.K) : CallR X (.type "list") (RC G .list m) := by
  intro pins s σ H vs us Q I r ⟨W, c, ds, Q0, eH, ok, dx, h, q⟩
  subst eH
  unfold wpBi at h
  split at h <;> try (exact absurd ‹_ = _› (by decide))
  · obtain ⟨x, rfl, dz⟩ := denL_one dx
    obtain ⟨xs, hx, h⟩ := onO_of h
    obtain ⟨a, ws, rfl, ha, da⟩ := den_getS ok dz hx
    exact call_list_of pins s σ _ _ us Q I r ⟨a, ws, rfl, by rw [hK]; exact ha, newL_ok ok da h q⟩
  · exact h.elim
theorem den_getS' (ok : Ok G W c) {v : V} {d : D} {xs : List D} (h : Den G W v d) (e : getS c d = some xs) : ∃ a vs, v = .ref a ∧ ((TupAt G.K W a vs ∧ d = .tup xs) ∨ SqL G.K W.H a vs) ∧ DenL G W vs xs := by
  cases h with
  | tup h t => simp only [getS] at e; cases e; exact ⟨_, _, rfl, .inl ⟨h, rfl⟩, t⟩
  | scr h t => simp only [getS] at e; cases e; exact ⟨_, _, rfl, .inr h.seq, t⟩
  | lst h t => obtain ⟨a, vs, e1, e2, e3⟩ := den_getL ok (.lst h t) e; exact ⟨a, vs, e1, .inr (.inl (.inl e2)), e3⟩
  | cell h => obtain ⟨a, vs, e1, e2, e3⟩ := den_getL ok (.cell h) e; exact ⟨a, vs, e1, .inr (.inl (.inl e2)), e3⟩
  | _ => simp [getS, getL] at e
theorem callr_tuple (hK : X.K = G.K) : CallR X (.type "tuple") (RC G .tuple m) := by
  intro pins s σ H vs us Q I r ⟨W, c, ds, Q0, eH, ok, dx, h, q⟩
  subst eH
  unfold wpBi at h
  split at h <;> try (exact absurd ‹_ = _› (by decide))
  · obtain ⟨x, rfl, dz⟩ := denL_one dx
    obtain ⟨xs, hx, h⟩ := onO_of h
    obtain ⟨a, ws, rfl, ha, da⟩ := den_getS' ok dz hx
    rcases ha with ⟨ha, e⟩ | ha
    · subst e
      exact call_tuple_of pins s σ _ _ us Q I r ⟨a, ws, rfl, .inr ⟨by rw [hK]; exact ha.seq, q _ _ (Post.now ok (.tup ha da) h)⟩⟩
    · exact call_tuple_of pins s σ _ _ us Q I r ⟨a, ws, rfl, .inl ⟨by rw [hK]; exact ha, newT_ok ok da h q⟩⟩
  · exact h.elim

abbrev RM (G : GI) (o : Mt) : V → List V → Hp → VK → Prop := fun x xs H Q => ∃ W c d ds Q0, W.H = H ∧ Ok G W c ∧ Den G W x d ∧ DenL G W xs ds ∧ wpMt o d ds c Q0 ∧ ∀ v H', Post G W Q0 v H' → Q v H'
theorem cell_lst (ok : Ok G W c) {v : V} {n : Nat} {xs : List D} (h : Den G W v (.cell n)) (e : getL c (.cell n) = some xs) : ∃ a vs, v = .ref a ∧ W.as[n]? = some a ∧ W.H a = some (.lst vs) ∧ DenL G W vs xs := by
  cases h with
  | cell h =>
    obtain ⟨x, hx, ca⟩ := ok.at h
    simp only [getL, hx] at e
    cases x with
    | lst ds =>
      cases e
      obtain ⟨vs, e1, e2⟩ := ca
      exact ⟨_, vs, rfl, h, e1, e2⟩
    | dct _ _ => cases e
    | obj _ _ => cases e
/-- the cell's list is another one -/
theorem setL_ok (ok : Ok G W c) {n : Nat} {a : Addr} {ws : List V} {ys : List D} {Q0 : QE} {Q : VK} {r : D} {rv : V} (ha : W.as[n]? = some a) (t : DenL G W ws ys) (dr : Den G W rv r) (h : Q0 r (c.set n (.lst ys))) (q : ∀ v H', Post G W Q0 v H' → Q v H') : Q rv (upd W.H a (.lst ws)) := by
  have x0 : Ext W (W.setAt a (.lst ws)) := ok.setE ha _
  exact q _ _ ⟨_, _, _, rfl, x0, (ok.setC ha (.lst ws) (y := .lst ys) ⟨ws, upd_same, t.mono ok x0⟩).2, dr.mono ok x0, h⟩
theorem mtr_append : MtM X "list.append" (RM G .append) := by
  intro pins s σ H x xs v us Q I rx r ⟨W, c, d, ds, Q0, eH, ok, dx, dl, h, q⟩
  subst eH
  unfold wpMt at h
  split at h <;> try (exact absurd ‹_ = _› (by decide))
  · obtain ⟨ys, hy, hl, h⟩ := onO_of h
    obtain ⟨y, rfl, dy⟩ := denL_one dl
    obtain ⟨a, vs, rfl, ha, hv, t⟩ := cell_lst ok dx hy
    have e := t.length
    exact mt_append pins s σ _ _ _ v us Q I rx r ⟨a, vs, y, rfl, rfl, hv, by rw [line_eq, e]; exact hl, setL_ok ok ha (t.append (.cons dy .nil)) .non h q⟩
  · exact h.elim
theorem mtr_clear : MtM X "list.clear" (RM G .clear) := by
  intro pins s σ H x xs v us Q I rx r ⟨W, c, d, ds, Q0, eH, ok, dx, dl, h, q⟩
  subst eH
  unfold wpMt at h
  split at h <;> try (exact absurd ‹_ = _› (by decide))
  · obtain ⟨ys, hy, h⟩ := onO_of h
    cases dl
    obtain ⟨a, vs, rfl, ha, hv, t⟩ := cell_lst ok dx hy
    exact mt_clear pins s σ _ _ _ v us Q I rx r ⟨a, vs, rfl, rfl, hv, setL_ok ok ha .nil .non h q⟩
  · exact h.elim
theorem mtr_extend : MtM X "list.extend" (RM G .extend) := by
  intro pins s σ H x xs v us Q I rx r ⟨W, c, d, ds, Q0, eH, ok, dx, dl, h, q⟩
  subst eH
  unfold wpMt at h
  split at h <;> try (exact absurd ‹_ = _› (by decide))
  · obtain ⟨ys, hy, h⟩ := onO_of h
    obtain ⟨zs, hz, hnc, hl, h⟩ := onO_of h
    obtain ⟨y, rfl, dy⟩ := denL_one dl
    obtain ⟨a, vs, rfl, ha, hv, t⟩ := cell_lst ok dx hy
    obtain ⟨b, ws, rfl, hb, tb⟩ := den_getL ok dy hz
    have e1 := t.length
    have e2 := tb.length
    exact mt_extend pins s σ _ _ _ v us Q I rx r ⟨a, b, vs, ws, rfl, rfl, hv, hb, by rw [line_eq, e1, e2]; exact hl, setL_ok ok ha (t.append tb) .non h q⟩
  · exact h.elim
theorem RcAt.dict_none {A : Around} {s : Shared} {l : Addr} (hT : s.TypeIs (.ref l) "dict") (hu : A.units < cLine) : SeqAt.RcAt A s (.ref l) .none false := fun prog w E Q h => by
  refine SeqAt.rc_eq_decline_or (k := false) hT rfl (by decide) PySem.F.sub_NoneType_dict PySem.F.slot_dict_eq PySem.F.slot_NoneType_eq_refl (fun Q' hq => ?_)
    (fun _ hq => call_gives PySem.F.slot_NoneType_eq_refl rfl PySem.F.entry_NoneType_eq (PySem.F.args_NoneType_eq_2 _ _) (SeqAt.NoneType___eq___none_ref_0 l) hq)
    (fun _ hq => wpAny_of_eq (rfl : isSame (.ref l) .none = pure false) hq) (.inr hu) h
  refine wpAny_call_entry PySem.F.slot_dict_eq hT PySem.F.entry_dict_eq ?_ (PySem.F.args_dict_eq_2 _ _)
  show wpAny _ _ (Builtin.Dict.dictSlotArgs "__eq__" ⟨[.ref l, .none], []⟩ >>= _) _ _ s
  refine wpAny_bind ?_
  unfold Builtin.Dict.dictSlotArgs
  refine wpAny_bind (wpAny_notOrdered_dict hT ?_)
  show wpAny _ _ (pure (Value.ref l, Value.none)) _ _ s
  refine wpAny_pure ?_
  refine wpAny_bind (wpAny_isInstance (T := "NoneType") rfl PySem.F.sub_NoneType_dict ?_)
  simp only [Bool.not_false, if_true]
  refine wpAny_bind (wpAny_rule ?_)
  refine wpAny_pure ⟨_, rfl, ?_⟩
  exact hq
theorem EqAt.dict_none {A : Around} {s : Shared} {l : Addr} (hT : s.TypeIs (.ref l) "dict") (hu : A.units < cLine) : SeqAt.EqAt A s (.ref l) .none false := fun prog w E Q h => by
  unfold eqBool
  refine wpAny_holding ?_
  refine wpAny_ite_split (fun hab => absurd (eq_of_beq hab) nofun) (fun _ => ?_)
  exact wpAny_bind (RcAt.dict_none hT hu prog w E _ (wpAny_truthy_bool h))
theorem den_nonD {A : Around} {pins : List (Addr × Obj)} {σ : L2.St} {s : Shared} {c : Cs} (ok : Ok G W c) (I : Inv X pins σ W.H s) (hu : A.units < cLine) : ∀ {ys : List D} {ws : List V} {us : List Value}, DenL G W ws ys → Vals ws us → ys.all nonD = true → (∀ u ∈ us, SeqAt.EqAt A s u .none (PySem.Numpy.isNone u)) ∧ us.any PySem.Numpy.isNone = ys.any isNon
  | [], _, _, .nil, .nil, _ => ⟨fun u hu => (by cases hu), rfl⟩
  | y :: ys, _, _, .cons dy t, .cons (b := u) r rt, ha => by
    rw [List.all_cons, Bool.and_eq_true] at ha
    obtain ⟨h1, h2⟩ := den_nonD ok I hu t rt ha.2
    have key : SeqAt.EqAt A s u .none (PySem.Numpy.isNone u) ∧ PySem.Numpy.isNone u = isNon y := by
      cases y with
      | non => cases dy; cases r; exact ⟨SeqAt.EqAt.same _, rfl⟩
      | dct ks vs =>
        obtain ⟨a, r', e, da, _⟩ := den_getC ok dy (kv := (ks, vs)) rfl
        subst e
        cases r
        exact ⟨EqAt.dict_none (da.typeIs I) hu, rfl⟩
      | _ => exact absurd ha.1 (by simp [nonD])
    refine ⟨fun z hz => ?_, ?_⟩
    · rcases List.mem_cons.mp hz with e | hz
      · rw [e]; exact key.1
      · exact h1 z hz
    · rw [List.any_cons, List.any_cons, h2, key.2]
theorem opr_innN (hK : X.K = G.K) (hu : X.A.units + 64 < cLine) : OpR X (compareOp .In) (RB G .innN m) := by
  intro pins s σ H x y v u Q I rx ry ⟨W, c, d, e, Q0, eH, ok, dx, dy, h, q⟩
  subst eH
  simp only [wpB] at h
  unfold innD at h
  split at h
  · cases dx
    cases rx
    obtain ⟨ys, hy, ha, h⟩ := onO_of h
    obtain ⟨a, ws, rfl, hs, t⟩ := den_getL ok dy hy
    cases ry
    obtain ⟨its, rv, hl, _⟩ := I.list (show SqL X.K W.H a ws by rw [hK]; exact SqL.of hs)
    have hu1 : X.A.in1.units < cLine := by show X.A.units + 1 < cLine; omega
    obtain ⟨h1, h2⟩ := den_nonD ok I hu1 t rv ha
    refine SeqAt.in_listAt PySem.Numpy.isNone hl.isList (fun z hz => h1 z (by simpa using hz)) ⟨.bl _, W.H, I, rfl, ?_⟩
    rw [show its.toArray.any PySem.Numpy.isNone = its.any PySem.Numpy.isNone by simp, h2]
    exact q _ _ (Post.now ok .bl h)
  · exact h.elim
/-- what isinstance asks of an own class -/
structure KIs (K : PySem.W.Frag) (C : Addr) : Prop where
  cl : Cls K C
  ha : PySem.W.findIn K (.ref C) "__class__" = some (some (.builtin "object.__class__"))
  hn : PySem.W.specialIn K (.builtin "object.__class__") "__get__" = some (some (.builtin "getset_descriptor.__get__"))
  htk : PySem.W.takesIn K (.builtin "object.__class__") = some true
  hm : PySem.W.mroIn K C (.type "object") = some true
  he : PySem.W.findIn K (.ref C) "__eq__" = some (some (.builtin "object.__eq__"))
theorem denL_nonO {W : Wd} {nk : Nat} (hk : ∀ j, j < nk → KIs G.K (G.cls j)) : ∀ {vs : List V} {ys : List D}, DenL G W vs ys → ys.all (nonO nk) = true → (∀ z ∈ vs, NoneOr G.K W.H z) ∧ vs.any L2.isNon = ys.any isNon
  | _, _, .nil, _ => ⟨fun z hz => (by cases hz), rfl⟩
  | _, y :: ys, .cons (v := v) d t, ha => by
    rw [List.all_cons, Bool.and_eq_true] at ha
    obtain ⟨h1, h2⟩ := denL_nonO hk t ha.2
    have key : NoneOr G.K W.H v ∧ L2.isNon v = isNon y := by
      cases y with
      | non => cases d; exact ⟨.inl rfl, rfl⟩
      | obj k fs =>
        cases d with
        | obj f h e t =>
          have z := hk k (of_decide_eq_true (by simpa [nonO] using ha.1))
          exact ⟨.inr ⟨_, _, _, _, rfl, h, z.hm, z.he⟩, rfl⟩
      | _ => exact absurd ha.1 (by simp [nonO])
    refine ⟨fun z hz => ?_, ?_⟩
    · rcases List.mem_cons.mp hz with e | hz
      · rw [e]; exact key.1
      · exact h1 z hz
    · rw [List.any_cons, List.any_cons, h2, key.2]
theorem opr_innO (hK : X.K = G.K) (hu : X.A.units + 64 < cLine) {nk : Nat} (hk : ∀ j, j < nk → KIs G.K (G.cls j)) : OpR X (compareOp .In) (RB G (.innO nk) m) := by
  intro pins s σ H x y v u Q I rx ry ⟨W, c, d, e, Q0, eH, ok, dx, dy, h, q⟩
  subst eH
  simp only [wpB] at h
  unfold innD at h
  split at h
  · cases dx
    obtain ⟨ys, hy, ha, h⟩ := onO_of h
    obtain ⟨a, ws, rfl, hs, t⟩ := den_getL ok dy hy
    obtain ⟨h1, h2⟩ := denL_nonO hk t ha
    refine op_noneIn hu pins s σ _ _ _ v u Q I rx ry ⟨a, ws, rfl, rfl, by rw [hK]; exact SqL.of hs, by rw [hK]; exact h1, ?_⟩
    rw [if_neg Bool.false_ne_true, h2]
    exact q _ _ (Post.now ok .bl h)
  · exact h.elim
theorem opr_ne0 (hK : X.K = G.K) (hu : X.A.units + 64 < cLine) : OpR X (compareOp .NotEq) (RB G .ne0 m) := by
  intro pins s σ H x y v u Q I rx ry ⟨W, c, d, e, Q0, eH, ok, dx, dy, h, q⟩
  subst eH
  simp only [wpB] at h
  unfold ne0D at h
  obtain ⟨xs, hx, h⟩ := onO_of h
  obtain ⟨ys, hy, h⟩ := onO_of h
  obtain ⟨rfl, h⟩ := h
  obtain ⟨a, vs, rfl, hs, t⟩ := den_getL ok dx hx
  obtain ⟨b, ws, rfl, hs2, t2⟩ := den_getL ok dy hy
  cases rx
  cases ry
  cases t2
  obtain ⟨its, rv, hl, _⟩ := I.list (show SqL X.K W.H a vs by rw [hK]; exact SqL.of hs)
  obtain ⟨its2, rv2, hl2, _⟩ := I.list (show SqL X.K W.H b [] by rw [hK]; exact SqL.of hs2)
  cases rv2
  have hu1 : X.A.units < cLine := by omega
  have el := t.length
  cases t with
  | nil =>
    cases rv
    refine SeqAt.RcNeAt.lists (e := fun _ => true) hl.isList hl2.isList rfl hu1 (fun j h1 => absurd h1 (by simp)) _ _ _ _ ⟨.bl _, W.H, I, rfl, ?_⟩
    exact q _ _ (Post.now ok .bl h)
  | cons r t =>
    cases rv with
    | cons r1 rv1 =>
      refine SeqAt.RcNeAt.lists_lengths hl.isList hl2.isList (by simp) hu1 _ _ _ _ ⟨.bl _, W.H, I, rfl, ?_⟩
      exact q _ _ (Post.now ok .bl h)
theorem firstLt_shift (e r : Nat → Bool) (fin : Bool) (f : Nat → Nat) : ∀ l : List Nat, SeqAt.firstLt e r fin (l.map f) = SeqAt.firstLt (fun j => e (f j)) (fun j => r (f j)) fin l
  | [] => rfl
  | j :: t => by
    have ih := firstLt_shift e r fin f t
    show (if e (f j) = true then SeqAt.firstLt e r fin (t.map f) else r (f j)) = (if e (f j) = true then SeqAt.firstLt (fun j => e (f j)) (fun j => r (f j)) fin t else r (f j))
    rw [ih]
theorem firstLt_ints : ∀ (is js : List Int), SeqAt.firstLt (fun j => is.getD j 0 == js.getD j 0) (fun j => decide (is.getD j 0 < js.getD j 0)) (decide (is.length < js.length)) (List.range (min is.length js.length)) = ltLI is js
  | [], [] => rfl
  | x :: xs, [] => by simp [SeqAt.firstLt, ltLI]
  | [], y :: ys => by simp [SeqAt.firstLt, ltLI]
  | x :: xs, y :: ys => by
    rw [List.length_cons, List.length_cons, Nat.succ_min_succ, List.range_succ_eq_map]
    by_cases h : x = y
    · rw [SeqAt.firstLt_yes (by simpa using h), firstLt_shift]
      show SeqAt.firstLt (fun j => xs.getD j 0 == ys.getD j 0) (fun j => decide (xs.getD j 0 < ys.getD j 0)) (decide (xs.length + 1 < ys.length + 1)) _ = ltLI (x :: xs) (y :: ys)
      rw [show decide (xs.length + 1 < ys.length + 1) = decide (xs.length < ys.length) from decide_eq_decide.mpr (by omega), firstLt_ints xs ys]
      simp [ltLI, h]
    · rw [SeqAt.firstLt_no (by simpa using h)]
      simp [ltLI, h]
theorem vals_int_at : ∀ {is : List Int} {its : List Value}, Vals (is.map V.int) its → its.length = is.length ∧ ∀ j (h : j < its.length), ∃ t, its[j] = .int (is.getD j 0) t
  | [], _, .nil => ⟨rfl, fun j h => by simp at h⟩
  | i :: is, _, .cons r t => by
    obtain ⟨tk, rfl⟩ := r
    obtain ⟨h1, h2⟩ := vals_int_at t
    refine ⟨by simp [h1], fun j h => ?_⟩
    cases j with
    | zero => exact ⟨tk, rfl⟩
    | succ j =>
      obtain ⟨t2, e⟩ := h2 j (by simpa using h)
      exact ⟨t2, by simpa using e⟩
theorem opr_ltL (hK : X.K = G.K) (hu : X.A.units + 64 < cLine) : OpR X (compareOp .Lt) (RB G .ltL m) := by
  intro pins s σ H x y v u Q I rx ry ⟨W, c, d, e, Q0, eH, ok, dx, dy, h, q⟩
  subst eH
  obtain ⟨is, js, hx, hy, h⟩ := (show ltLD c Q0 d e from h)
  obtain ⟨a, vs, rfl, hs, t⟩ := den_getL ok dx hx
  obtain ⟨b, ws, rfl, hs2, t2⟩ := den_getL ok dy hy
  cases rx
  cases ry
  have e1 := t.ints
  have e2 := t2.ints
  subst e1 e2
  obtain ⟨its, rv, hl, _⟩ := I.list (show SqL X.K W.H a (is.map V.int) by rw [hK]; exact SqL.of hs)
  obtain ⟨its2, rv2, hl2, _⟩ := I.list (show SqL X.K W.H b (js.map V.int) by rw [hK]; exact SqL.of hs2)
  obtain ⟨n1, g1⟩ := vals_int_at rv
  obtain ⟨n2, g2⟩ := vals_int_at rv2
  refine SeqAt.RcLt.lists (e := fun j => is.getD j 0 == js.getD j 0) (r := fun j => decide (is.getD j 0 < js.getD j 0)) hl.isList hl2.isList (by omega) (fun j h1 h2 => ?_) (fun j h1 h2 _ => ?_) _ _ _ _ ?_
  · obtain ⟨t1, z1⟩ := g1 j (by simpa using h1)
    obtain ⟨t2, z2⟩ := g2 j (by simpa using h2)
    rw [show its.toArray[j] = its[j]'(by simpa using h1) by simp, show its2.toArray[j] = its2[j]'(by simpa using h2) by simp, z1, z2]
    exact SeqAt.EqAt.int_int _ _ _ _
  · obtain ⟨t1, z1⟩ := g1 j (by simpa using h1)
    obtain ⟨t2, z2⟩ := g2 j (by simpa using h2)
    rw [show its.toArray[j] = its[j]'(by simpa using h1) by simp, show its2.toArray[j] = its2[j]'(by simpa using h2) by simp, z1, z2]
    exact fun prog w E Q q => PyProof.Rows.lt_int q
  · have e : SeqAt.firstLt (fun j => is.getD j 0 == js.getD j 0) (fun j => decide (is.getD j 0 < js.getD j 0)) (decide (its.toArray.size < its2.toArray.size)) (List.range (min its.toArray.size its2.toArray.size)) = ltLI is js := by
      rw [List.size_toArray, List.size_toArray, n1, n2]
      exact firstLt_ints is js
    rw [e]
    exact ⟨.bl _, W.H, I, rfl, q _ _ (Post.now ok .bl h)⟩
theorem vals_uniq : ∀ {vs : List V} {us ws : List Value}, (∀ v ∈ vs, ∃ a, v = V.ref a) → Vals vs us → Vals vs ws → us = ws
  | [], _, _, _, .nil, .nil => rfl
  | v :: vs, _, _, h, .cons r t, .cons r2 t2 => by
    obtain ⟨a, rfl⟩ := h v (List.mem_cons_self ..)
    cases r
    cases r2
    rw [vals_uniq (fun z hz => h z (List.mem_cons_of_mem _ hz)) t t2]
theorem denL_cells {W : Wd} : ∀ {xs : List D} {vs ws : List V}, xs.all isCl = true → DenL G W vs xs → DenL G W ws xs → vs = ws ∧ ∀ v ∈ vs, ∃ a, v = V.ref a
  | [], _, _, _, .nil, .nil => ⟨rfl, fun v h => by cases h⟩
  | x :: xs, _, _, h, .cons d t, .cons d2 t2 => by
    rw [List.all_cons, Bool.and_eq_true] at h
    obtain ⟨e, r⟩ := denL_cells h.2 t t2
    cases x with
    | cell n =>
      cases d with
      | cell h1 =>
        cases d2 with
        | cell h2 =>
          have ea := Option.some.inj (h1.symm.trans h2)
          subst ea e
          refine ⟨rfl, fun v hv => ?_⟩
          rcases List.mem_cons.mp hv with rfl | hv
          · exact ⟨_, rfl⟩
          · exact r v hv
    | _ => simp [isCl] at h
theorem opr_neC (hK : X.K = G.K) (hu : X.A.units + 64 < cLine) : OpR X (compareOp .NotEq) (RB G .neC m) := by
  intro pins s σ H x y v u Q I rx ry ⟨W, c, d, e, Q0, eH, ok, dx, dy, h, q⟩
  subst eH
  obtain ⟨xs, hx, hy, hal, h⟩ := (show neCD c Q0 d e from h)
  obtain ⟨a, vs, rfl, hs, t⟩ := den_getL ok dx hx
  obtain ⟨b, ws, rfl, hs2, t2⟩ := den_getL ok dy hy
  cases rx
  cases ry
  obtain ⟨rfl, hr⟩ := denL_cells hal t t2
  obtain ⟨its, rv, hl, _⟩ := I.list (show SqL X.K W.H a vs by rw [hK]; exact SqL.of hs)
  obtain ⟨its2, rv2, hl2, _⟩ := I.list (show SqL X.K W.H b vs by rw [hK]; exact SqL.of hs2)
  have ei := vals_uniq hr rv rv2
  subst ei
  refine SeqAt.RcNeAt.lists (e := fun _ => true) hl.isList hl2.isList rfl (by omega) (fun j h1 h2 => SeqAt.EqAt.same _) _ _ _ _ ?_
  have e : (!(List.range its.toArray.size).all fun _ => true) = false := by simp
  rw [e]
  exact ⟨.bl _, W.H, I, rfl, q _ _ (Post.now ok .bl h)⟩
section
open SeqAt
variable {prog : Program} {w : World} {A : Around} {E : Value → Shared → Prop} {s : Shared} {K : PySem.W.Frag} {x C : Addr} {ox : Obj} {od : Option Obj}
theorem call_objEqS {Q : Value → Shared → Prop} (X : K.In s.heap) (I : PySem.W.InstAt s.heap x ox C od) (hm : PySem.W.mroIn K C (.type "object") = some true) (hq : Q (.bool true) s) :
    wpAny (model prog w) A (call (.builtin "object.__eq__") [.ref x, .ref x]) Q E s :=
  wpAny_call (codeAny_call_builtin PySem.F.cmp_object.eq.plain PySem.F.cmpEntry_eq (PySem.W.check_slot PySem.F.cmpKind_eq PySem.F.cmpSplit_eq (I.type.andThen (PySem.W.looks_mroIn X hm)) (PySem.F.cmpArgs_eq _ _) (objEq_entry_same hq)))
theorem rc_same (hu : A.units < cLine) (X : K.In s.heap) (I : PySem.W.InstAt s.heap x ox C od) (hm : PySem.W.mroIn K C (.type "object") = some true) (hs : PySem.W.findIn K (.ref C) "__eq__" = some (some (.builtin "object.__eq__"))) :
    RcAt A s (.ref x) (.ref x) true := fun prog w E Q h => by
  have one : wpAny (model prog w) A (tryCompare (.ref x) "__eq__" (.ref x)) (fun r s' => r = some (.bool true) ∧ s' = s) E s := by
    unfold tryCompare
    exact wpAny_bind (HN.ifBound_objEq X I hs (call_objEqS X I hm (wpAny_pure ⟨rfl, rfl⟩)))
  simp only [richCompare, cmpInfo_Eq, oneThing_ref]
  refine wpAny_holding (wpAny_bind (wpAny_cRoomFor hu ?_))
  refine wpAny_bind (I.type.here ?_)
  refine wpAny_bind (I.type.here ?_)
  rw [if_neg (by simp)]
  refine wpAny_bind (wpAny_pure ?_)
  simp only [Bool.false_eq_true, if_false, Bool.not_false, if_true]
  refine wpAny_bind (m := tryCompare (.ref x) _ (.ref x)) (wpAny_mono one (fun r s1 z => ?_) fun _ _ e => e)
  obtain ⟨z1, z2⟩ := z
  subst z1
  subst z2
  exact wpAny_pure h
end
theorem opr_eqO (hK : X.K = G.K) (hu : X.A.units + 64 < cLine) {nk : Nat} (hk : ∀ j, j < nk → KIs G.K (G.cls j)) : OpR X (compareOp .Eq) (RB G (.eqO nk) m) := by
  intro pins s σ H x y v u Q I rx ry ⟨W, c, d, e, Q0, eH, ok, dx, dy, h, q⟩
  subst eH
  obtain ⟨n, j, fs, rfl, rfl, hc, hj, h⟩ := (show eqOD nk c Q0 d e from h)
  cases dx with
  | @cell a _ h1 =>
    cases dy with
    | @cell b _ h2 =>
      obtain rfl := Option.some.inj (h1.symm.trans h2)
      cases rx
      cases ry
      obtain ⟨dx, gs, hi, _⟩ := ok.cell n _ _ h1 hc
      obtain ⟨mA, O, _⟩ := ins_get I.hok hi
      obtain ⟨od, J, _⟩ := O.look
      have z := hk j hj
      have kin := I.kIn
      rw [hK] at kin
      exact rc_same (by omega) kin J z.hm z.he _ _ _ _ ⟨.bl true, W.H, I, rfl, q _ _ (Post.now ok .bl h)⟩
theorem mtr_insert : MtM X "list.insert" (RM G .insert) := by
  intro pins s σ H x xs v us Q I rx r ⟨W, c, d, ds, Q0, eH, ok, dx, dl, h, q⟩
  subst eH
  unfold wpMt at h
  split at h <;> try (exact absurd ‹_ = _› (by decide))
  · obtain ⟨ys, hy, h⟩ := onO_of h
    obtain ⟨hi, hlen, h⟩ := h
    obtain ⟨y, z, rfl, dy, dz⟩ := denL_two dl
    have e2 := den_int dy; subst e2
    obtain ⟨a, vs, rfl, ha, hv, t⟩ := cell_lst ok dx hy
    have el := t.length
    exact mt_insert pins s σ _ _ _ v us Q I rx r ⟨a, vs, _, _, rfl, rfl, hv, by rw [line_eq, el]; exact hlen, hi.1, by omega, setL_ok ok ha (((t.take _).append (.cons dz .nil)).append (t.drop _)) .non h q⟩
  · exact h.elim
theorem denL_dropLast : ∀ {vs : List V} {ds : List D}, DenL G W vs ds → DenL G W vs.dropLast ds.dropLast
  | _, _, .nil => .nil
  | _, _, .cons r .nil => .nil
  | _, _, .cons r (.cons r2 t) => .cons r (denL_dropLast (.cons r2 t))
theorem denL_erase : ∀ {vs : List V} {ds : List D}, DenL G W vs ds → ∀ k : Nat, DenL G W (vs.eraseIdx k) (ds.eraseIdx k)
  | _, _, .nil, _ => .nil
  | _, _, .cons r t, 0 => t
  | _, _, .cons r t, k + 1 => .cons r (denL_erase t k)
theorem mtr_popAt : MtM X "list.pop" (RM G .popAt) := by
  intro pins s σ H x xs v us Q I rx r ⟨W, c, d, ds, Q0, eH, ok, dx, dl, h, q⟩
  subst eH
  unfold wpMt at h
  split at h <;> try (exact absurd ‹_ = _› (by decide))
  · obtain ⟨ys, hy, h⟩ := onO_of h
    obtain ⟨hi, h⟩ := h
    obtain ⟨z, hz, h⟩ := onO_of h
    obtain ⟨y, rfl, dy⟩ := denL_one dl
    have e2 := den_int dy; subst e2
    obtain ⟨a, vs, rfl, ha, hv, t⟩ := cell_lst ok dx hy
    obtain ⟨w, hw, dw⟩ := t.get hz
    have hlt := (List.getElem?_eq_some_iff.mp hw).1
    exact mt_popAt pins s σ _ _ _ v us Q I rx r ⟨a, vs, _, _, w, rfl, rfl, hv, by omega, by omega, PyProof.Rows.seqIndex_at hi.1 (by omega), hw, setL_ok ok ha (denL_erase t _) dw h q⟩
  · exact h.elim
theorem mtr_pop : MtM X "list.pop" (RM G .pop) := by
  intro pins s σ H x xs v us Q I rx r ⟨W, c, d, ds, Q0, eH, ok, dx, dl, h, q⟩
  subst eH
  unfold wpMt at h
  split at h <;> try (exact absurd ‹_ = _› (by decide))
  · obtain ⟨ys, hy, h⟩ := onO_of h
    obtain ⟨z, hz, h⟩ := onO_of h
    cases dl
    obtain ⟨a, vs, rfl, ha, hv, t⟩ := cell_lst ok dx hy
    rw [List.getLast?_eq_getElem?] at hz
    obtain ⟨w, hw, dw⟩ := t.get hz
    rw [← t.length] at hw
    exact mt_pop pins s σ _ _ _ v us Q I rx r ⟨a, vs, w, rfl, rfl, hv, hw, setL_ok ok ha (denL_dropLast t) dw h q⟩
  · exact h.elim
end
end F

namespace F
open PySem PySem.Spec L2

def noStar : Expr → Bool
  | .Starred _ _ => false
  | _ => true
def notSlice : Expr → Bool
  | .Slice _ _ _ _ => false
  | _ => true
def notComp : Expr → Bool
  | .ListComp _ _ _ _ => false
  | .SetComp _ _ _ _ => false
  | .DictComp _ _ _ _ _ => false
  | _ => true
def notSet : Expr → Bool
  | .Set _ _ _ => false
  | _ => true
def notTup : Expr → Bool
  | .Tuple _ _ _ => false
  | _ => true
/-- a term whose truth is its value's -/
def plainT : Expr → Bool
  | .UnaryOp .Not _ _ => false
  | .BoolOp _ _ _ => false
  | .IfExp _ _ _ _ => false
  | .Compare _ _ _ _ => false
  | _ => true
def notCall : Expr → Bool
  | .Call _ [] _ _ => false
  | _ => true
def notTL : Expr → Bool
  | .Tuple _ _ _ => false
  | .List _ _ => false
  | _ => true
theorem star_cons {e : Expr} {es : List Expr} {env : Env} (h : noStar e = true) : starEach (e :: es) env = (false, eval e env) :: starEach es env := by
  cases e <;> first | rfl | simp [noStar] at h
theorem star_any {es : List Expr} {env : Env} {pos : Pos} (h : es.all noStar = true) : (backTo pos (starEach es env)).any (·.1) = false := by
  induction es with
  | nil => rfl
  | cons e es ih =>
    rw [List.all_cons, Bool.and_eq_true] at h
    rw [star_cons h.1]
    show (false || (backTo pos (starEach es env)).any (·.1)) = false
    rw [ih h.2] <;> rfl
theorem star_all {es : List Expr} {env : Env} {pos : Pos} (h : es.all noStar = true) : (backTo pos (starEach es env)).all (fun x => !x.1) = true := by
  induction es with
  | nil => rfl
  | cons e es ih =>
    rw [List.all_cons, Bool.and_eq_true] at h
    rw [star_cons h.1]
    show (true && (backTo pos (starEach es env)).all (fun x => !x.1)) = true
    rw [ih h.2] <;> rfl
theorem plainIx_of {e : Expr} (h : notSlice e = true) : PlainIx e := by
  intro o i
  cases e <;> first | rfl | simp [notSlice] at h
theorem swaps_of {e : Expr} {t : Option Expr} {l : Nat} {env : Env} (h : notComp e = true) : swapsWith e t l env = pure false := by
  cases e <;> first | rfl | simp [notComp] at h
theorem swapsA_of {e o : Expr} {f : Str} {p : Pos} {l : Nat} {env : Env} : swapsWith e (some (.Attribute o f p)) l env = pure false := by
  unfold swapsWith
  cases e <;> rfl
theorem swapsS_of {e o i : Expr} {p : Pos} {l : Nat} {env : Env} : swapsWith e (some (.Subscript o i p)) l env = pure false := by
  unfold swapsWith
  cases e <;> rfl
theorem swapsT_of {e : Expr} {ts : List Expr} {k : Nat} {p : Pos} {l : Nat} {env : Env} : swapsWith e (some (.Tuple ts k p)) l env = pure false := by
  unfold swapsWith
  cases e <;> rfl
theorem behind_of {op : CmpOp} {e : Expr} (h : notSet e = true) : behindInMarks op e = false := by
  cases e <;> first | rfl | simp [notSet] at h
theorem isTrue_of {e : Expr} {env : Env} (h : plainT e = true) : ∀ whole, isTrue e env whole = (do let v ← whole; standAt e.pos; holding [v] (truthy v)) := by
  intro whole
  cases e with
  | UnaryOp op a p => cases op <;> first | rfl | simp [plainT] at h
  | BoolOp _ _ _ => simp [plainT] at h
  | IfExp _ _ _ _ => simp [plainT] at h
  | Compare _ _ _ _ => simp [plainT] at h
  | _ => rfl
theorem base_of {o : Expr} {attr : Str} {env : Env} {whole : Sem Value} (h : notCall o = true) : attributeBase o attr env whole = whole := by
  cases o with
  | Call f as ks p =>
    cases as with
    | nil => simp [notCall] at h
    | cons x xs => cases f <;> rfl
  | _ => rfl
theorem folded_of {e : Expr} {env : Env} (h : notSet e = true) : ∀ x, foldedSetIterable e env x = pure x := by
  intro x
  cases e <;> first | rfl | simp [notSet] at h
theorem stores_name {x : Str} {p : Pos} {e : Expr} {env : Env} : swappedStores [.Name x p] e env = pure none := by
  unfold swappedStores
  cases e <;> rfl
theorem stores_sub {o i : Expr} {p : Pos} {e : Expr} {env : Env} : swappedStores [.Subscript o i p] e env = pure none := by
  unfold swappedStores
  cases e <;> rfl
theorem stores_tup {ts : List Expr} {k : Nat} {p : Pos} {e : Expr} {env : Env} (h : notTup e = true) : swappedStores [.Tuple ts k p] e env = pure none := by
  unfold swappedStores
  cases e <;> first | rfl | simp [notTup] at h
theorem each_one {t : Expr} {env : Env} (h : noStar t = true) : (assignEach [t] env).map (·.2) = [assign t env] := by
  cases t <;> first | rfl | simp [noStar] at h
theorem each_cons {t : Expr} {ts : List Expr} {env : Env} (h : noStar t = true) : (assignEach (t :: ts) env).map (·.2) = assign t env :: (assignEach ts env).map (·.2) := by
  cases t <;> first | rfl | simp [noStar] at h
theorem each_len {ts : List Expr} {env : Env} : (assignEach ts env).length = ts.length := by
  induction ts with
  | nil => rfl
  | cons t ts ih =>
    cases t <;> (show (assignEach ts env).length + 1 = ts.length + 1; rw [ih])
theorem each_star {ts : List Expr} {env : Env} (h : ts.all noStar = true) : (assignEach ts env).findIdx? (·.1) = none := by
  induction ts with
  | nil => rfl
  | cons t ts ih =>
    rw [List.all_cons, Bool.and_eq_true] at h
    have e : assignEach (t :: ts) env = (false, assign t env) :: assignEach ts env := by
      cases t <;> first | rfl | simp [noStar] at h
    rw [e, List.findIdx?_cons, ih h.2] <;> rfl

section
variable {X : Cx} {k : Nat} {f C : Addr} {fd : FuncData} {ps : List Str} {sp : Sp} {E : L2.St → XK} {x m : Str} {p pos apos : Pos} {e o : Expr} {es : List Expr} {ta : TE} {t : TA} {CX : CXT}
theorem pa_consN (h : noStar e = true) {te : TE} (ha : PE X e te) (hr : PA X es t) : PA X (e :: es) (tCons te t) := pa_cons ha hr (star_cons h)
def tCallN (sp : Sp) (E : L2.St → XK) (t : TA) : TE := fun σ H Q => t σ H fun vs H1 => sp vs H1 Q (E σ)
theorem run_fnN {pins : List (Addr × Obj)} {σ : L2.St} {H : Hp} {s : Shared} {Q : VK} {us : List Value} {vs : List V} (F : FnOk X.prog X.w X.K X.mg X.base CX k f fd ps sp) (hr : Room k X.A) (hb : Binds X.K fd ps []) (hx : PassesAt CX X σ (E σ))
    (I : L2.Inv X pins σ H s) (r : Vals vs us) (h : sp vs H Q (E σ)) : wpAny (model X.prog X.w) X.A (call (.ref f) us) (EP X pins σ Q) X.xe s := by
  have hl : (us ++ []).length = ps.length := by rw [List.append_nil, ← r.length]; exact F.len _ _ _ _ h
  refine wpAny_call (codeAny_mono (F.run X.A X.stack s H ⟨us, []⟩ us vs Q (E σ) hr I.env0 (by have z := hb s us I.kIn hl; rwa [List.append_nil] at z) r h) fun r s' hq => ?_)
  cases r with
  | error e => exact hx pins H s e s' I hq
  | ok fl =>
    cases fl with
    | ret u => exact I.after hq
    | next => exact False.elim hq
    | brk => exact False.elim hq
    | cont => exact False.elim hq
theorem pe_callN (F : FnOk X.prog X.w X.K X.mg X.base CX k f fd ps sp) (hr : Room k X.A) (hg : Gl X x) (hm : X.mg x = some (.ref f)) (hk : PySem.W.keepIn X.K (.ref f) = true) (hb : Binds X.K fd ps []) (hx : ∀ σ, PassesAt CX X σ (E σ))
    (hdb : (x == ("__debug__" : Str)) = false) (hst : (e :: es).all noStar = true) (ha : PA X (e :: es) t) : PE X (.Call (.Name x p) (e :: es) [] pos) (tCallN sp E t) := by
  refine ⟨fun pins s σ H Q I h => ?_⟩
  refine wpAny_Call_Name_kw (ld_glob I hg hm ?_ hdb)
  rw [List.all_cons, Bool.and_eq_true] at hst
  refine PySem.W.callWith_K (h₀ := X.base) I.ok.mod.kin hk (thn (ha.run pos pins s σ H _ I h) fun us s1 ⟨vs, H1, I1, r, q⟩ => ⟨I1.kIn, ?_⟩) (star_cons hst.1) (star_any hst.2)
  exact run_fnN F hr hb (hx σ) I1 r q
theorem pe_callN0 (F : FnOk X.prog X.w X.K X.mg X.base CX k f fd ps sp) (hr : Room k X.A) (hg : Gl X x) (hm : X.mg x = some (.ref f)) (hk : PySem.W.keepIn X.K (.ref f) = true) (hb : Binds X.K fd ps []) (hx : ∀ σ, PassesAt CX X σ (E σ))
    (hdb : (x == ("__debug__" : Str)) = false) : PE X (.Call (.Name x p) [] [] pos) (tCallN sp E tNil) := by
  refine ⟨fun pins s σ H Q I h => ?_⟩
  refine wpAny_Call_Name_kw (ld_glob I hg hm ?_ hdb)
  exact PySem.W.callWith_K0 I.kIn hk (run_fnN F hr hb (hx σ) I .nil h)
theorem kw_nil {pos : Pos} {env : Env} : (backToKw pos (keywordEach [] env)).all (fun x => x.1.isSome) = true := rfl
theorem form_of {n : Nat} {args : List Expr} {env : Env} {pos : Pos} (hst : args.all noStar = true) (hlen : n < 30) : methodCallForm n (backTo pos (starEach args env)) (backToKw pos (keywordEach [] env)) = true := by
  unfold methodCallForm
  rw [star_all hst, kw_nil]
  show decide (n + 0 < 30) = true
  exact decide_eq_true hlen
theorem meth_eq {o : Expr} {m : Str} {apos pos : Pos} {args : List Expr} {env : Env} (hno : notCall o = true) (hst : args.all noStar = true) (hlen : args.length < 30) (hline : (apos.endLine == pos.line) = true) :
    eval (.Call (.Attribute o m apos) args [] pos) env = (do
      let ov ← eval o env
      standAt apos.atName
      let (f, first) ← holding [ov] (getMethod ov m (do return (← importBound o env).getD true))
      callWith pos f first (backTo pos (starEach args env)) (backToKw pos (keywordEach [] env))) := by
  show (do
    let ov ← attributeBase o m env (eval o env)
    standAt apos.atName
    methodCall o m apos pos env ov (args.length + ([] : List Keyword).length) (backTo pos (starEach args env)) (backToKw pos (keywordEach [] env))) = _
  rw [base_of hno]
  unfold methodCall
  rw [form_of hst (by simpa using hlen)]
  unfold calleeOf methodCallPos
  rw [hline]
  rfl
def tMethN (C : Addr) (m : Str) (sp : Sp) (E : L2.St → XK) (ta : TE) (t : TA) : TE := fun σ H Q => ta σ H fun x H1 => ∃ a dx fs, x = .ref a ∧ H1 a = some (.ins C dx fs) ∧ fs.lookup m = none ∧ t σ H1 fun vs H2 => sp (x :: vs) H2 Q (E σ)
theorem pe_methN (he : PE X o ta) (c : Cls X.K C) (hm : Meth X.K C m f) (F : FnOk X.prog X.w X.K X.mg X.base CX k f fd ps sp) (hr : Room k X.A) (hb : Binds X.K fd ps []) (hx : ∀ σ, PassesAt CX X σ (E σ)) (ha : PA X (e :: es) t) (hst : (e :: es).all noStar = true)
    (hno : notCall o = true) (hlen : (e :: es).length < 30) (hline : (apos.endLine == pos.line) = true) : PE X (.Call (.Attribute o m apos) (e :: es) [] pos) (tMethN C m sp E ta t) := by
  refine ⟨fun pins s σ H Q I h => ?_⟩
  have hq := meth_eq (m := m) (env := X.env) hno hst hlen hline
  rw [List.all_cons, Bool.and_eq_true] at hst
  refine PySem.W.methodCall_KW (thn (he.run pins s σ H _ I h) fun u s1 ⟨x, H1, I1, rx, a, dx, fs, ex, ea, l, q⟩ => ?_) hq
  subst ex
  obtain rfl : u = Value.ref a := rx
  refine getmeth_ok I1 ea c hm l ?_
  refine PySem.W.callWith_K (first := [.ref a]) (h₀ := X.base) I.ok.mod.kin hm.kp (thn (ha.run pos pins s1 σ H1 _ I1 q) fun us s2 ⟨vs, H2, I2, r, q2⟩ => ⟨I2.kIn, ?_⟩) (star_cons hst.1) (star_any hst.2)
  exact run_fnN (us := .ref a :: us) (vs := .ref a :: vs) F hr hb (hx σ) I2 (.cons rfl r) q2
theorem pe_methN0 (he : PE X o ta) (c : Cls X.K C) (hm : Meth X.K C m f) (F : FnOk X.prog X.w X.K X.mg X.base CX k f fd ps sp) (hr : Room k X.A) (hb : Binds X.K fd ps []) (hx : ∀ σ, PassesAt CX X σ (E σ))
    (hno : notCall o = true) (hline : (apos.endLine == pos.line) = true) : PE X (.Call (.Attribute o m apos) [] [] pos) (tMethN C m sp E ta tNil) := by
  refine ⟨fun pins s σ H Q I h => ?_⟩
  refine PySem.W.methodCall_KW (thn (he.run pins s σ H _ I h) fun u s1 ⟨x, H1, I1, rx, a, dx, fs, ex, ea, l, q⟩ => ?_) (meth_eq (m := m) (env := X.env) hno rfl (by decide) hline)
  subst ex
  obtain rfl : u = Value.ref a := rx
  refine getmeth_ok I1 ea c hm l ?_
  exact PySem.W.callWith_K0 (first := [.ref a]) I1.kIn hm.kp (run_fnN (us := [.ref a]) (vs := [.ref a]) F hr hb (hx σ) I1 (.cons rfl .nil) q)
def tMakeN (C : Addr) (sp : Sp) (E : L2.St → XK) (t : TA) : TE := fun σ H Q => t σ H fun vs H1 => ∀ x dx, H1 x = none → H1 dx = none → dx ≠ x →
  sp (.ref x :: vs) (upd (upd H1 dx (.own x)) x (.ins C dx [])) (fun v H2 => v = .non ∧ Q (.ref x) H2) (E σ)
theorem run_makeN {pins : List (Addr × Obj)} {σ : L2.St} {H : Hp} {s : Shared} {Q : VK} {us : List Value} {vs : List V} (M : Mk X.K C f) (F : FnOk X.prog X.w X.K X.mg X.base CX k f fd ps sp) (hr : Room (k + 1) X.A) (hb : Binds X.K fd ps [])
    (hx : PassesAt CX X σ (E σ)) (I : L2.Inv X pins σ H s) (r : Vals vs us)
    (h : ∀ x dx, H x = none → H dx = none → dx ≠ x → sp (.ref x :: vs) (upd (upd H dx (.own x)) x (.ins C dx [])) (fun v H2 => v = .non ∧ Q (.ref x) H2) (E σ)) :
    wpAny (model X.prog X.w) X.A (call (.ref C) us) (EP X pins σ Q) X.xe s := by
  have hq := h (s.heap.objs.size + 1) s.heap.objs.size (I.hok.fresh (Nat.le_succ _)) (I.hok.fresh (Nat.le_refl _)) (Nat.ne_of_lt (Nat.lt_succ_self _))
  have I2 := Inv.made (C := C) I
  have r2 : Vals (V.ref (s.heap.objs.size + 1) :: vs) (Value.ref (s.heap.objs.size + 1) :: us) := .cons rfl r
  have hl : (Value.ref (s.heap.objs.size + 1) :: us ++ []).length = ps.length := by
    have e := r2.length
    rw [F.len _ _ _ _ hq] at e
    rw [List.append_nil]
    exact e.symm
  refine wpAny_call (make_map (f := f) I.kIn M.makes M.init (beq_iff_eq.mp M.fn) (codeAny_mono (F.run _ X.stack _ _ ⟨Value.ref (s.heap.objs.size + 1) :: us, []⟩ (Value.ref (s.heap.objs.size + 1) :: us) _ _ (E σ) (hr.make C us [])
    (I2.env0.make C us []) (by have z := hb _ (Value.ref (s.heap.objs.size + 1) :: us) I2.kIn hl; rwa [List.append_nil] at z) r2 hq) fun r s' hq' => ?_))
  cases r with
  | error e => exact hx pins _ _ e s' I2 hq'
  | ok fl =>
    cases fl with
    | ret u =>
      obtain ⟨v, H', I3, rv, ev, q3⟩ := I2.after hq'
      subst ev
      exact ⟨rv, ⟨V.ref (s.heap.objs.size + 1), H', I3, rfl, q3⟩⟩
    | next => exact False.elim hq'
    | brk => exact False.elim hq'
    | cont => exact False.elim hq'
theorem pe_makeN (M : Mk X.K C f) (F : FnOk X.prog X.w X.K X.mg X.base CX k f fd ps sp) (hr : Room (k + 1) X.A) (hg : Gl X x) (hm : X.mg x = some (.ref C)) (hb : Binds X.K fd ps []) (hx : ∀ σ, PassesAt CX X σ (E σ))
    (ha : PA X (e :: es) t) (hdb : (x == ("__debug__" : Str)) = false) (hst : (e :: es).all noStar = true) : PE X (.Call (.Name x p) (e :: es) [] pos) (tMakeN C sp E t) := by
  refine ⟨fun pins s σ H Q I h => ?_⟩
  rw [List.all_cons, Bool.and_eq_true] at hst
  refine wpAny_Call_Name_kw (ld_glob I hg hm ?_ hdb)
  refine PySem.W.callWith_K (h₀ := X.base) I.ok.mod.kin M.kp (thn (ha.run pos pins s σ H _ I h) fun us s1 ⟨vs, H1, I1, r, q⟩ => ⟨I1.kIn, ?_⟩) (star_cons hst.1) (star_any hst.2)
  exact run_makeN M F hr hb (hx σ) I1 r q
/-- built-in functions, whatever their arguments' form -/
theorem pe_callBN {id : String} {r : List V → Hp → VK → Prop} (hc : CallR X (.builtin id) r) (hg : Gl X x) (hm : X.mg x = none) (hv : bootBuiltins x = some (.builtin id)) (ha : PA X (e :: es) t) (hn : x ≠ "__name__") (hdb : (x == ("__debug__" : Str)) = false)
    (hst : (e :: es).all noStar = true) : PE X (.Call (.Name x p) (e :: es) [] pos) (tCB r t) := by
  rw [List.all_cons, Bool.and_eq_true] at hst
  exact pe_callB hc hg hm hv ha hn hdb (star_cons hst.1) (star_any hst.2)
theorem pe_callTyN {T : String} {r : List V → Hp → VK → Prop} (hc : CallR X (.type T) r) (hg : Gl X x) (hm : X.mg x = none) (hv : bootBuiltins x = some (.type T)) (ha : PA X (e :: es) t) (hn : x ≠ "__name__") (hdb : (x == ("__debug__" : Str)) = false)
    (hst : (e :: es).all noStar = true) : PE X (.Call (.Name x p) (e :: es) [] pos) (tCB r t) := by
  rw [List.all_cons, Bool.and_eq_true] at hst
  exact pe_callTy hc hg hm hv ha hn hdb (star_cons hst.1) (star_any hst.2)
theorem pe_bmN {T name id : String} {r : V → List V → Hp → VK → Prop} (pa : PlainAttrs T) (slot : PySem.Slot T name id) (hty : typeOf (.builtin id) = pure (.type "method_descriptor")) (hm : MtM X id r) (ho : PE X o ta) (ha : PA X (e :: es) t)
    (hno : notCall o = true) (hst : (e :: es).all noStar = true) (hlen : (e :: es).length < 30) (hline : (apos.endLine == pos.line) = true) : PE X (.Call (.Attribute o name apos) (e :: es) [] pos) (tBM X.K T r ta t) := by
  have hall := star_all (env := X.env) (pos := pos) hst
  rw [List.all_cons, Bool.and_eq_true] at hst
  refine pe_bm pa slot hty hm ho ha (base_of hno) ?_ hline (star_cons hst.1) (star_any hst.2)
  rw [hall, kw_nil]
  simp only [Bool.true_and, List.length_nil, List.isEmpty_nil, if_true, Nat.add_zero]
  exact decide_eq_true hlen
end
end F

namespace F
open PySem PySem.Spec L2

/-- a def's promise in the hand layer's words -/
def spF (G : GI) (np : Nat) (phi : Phi) : Sp := fun vs H Q E => ∃ W c ds Q0 X0, W.H = H ∧ Ok G W c ∧ DenL G W vs ds ∧ ds.length = np ∧ phi ds c Q0 X0 ∧ (∀ v H', Post G W Q0 v H' → Q v H') ∧ (∀ cls dd H', XPost G W X0 cls dd H' → E cls dd H')

/-- from one world to a later one, the first np cells in their places -/
structure FrS (np : Nat) (W W' : Wd) : Prop extends Fr W W' where
  as : W.as.take np = W'.as.take np
  le : np ≤ W'.as.length
theorem FrS.trans {np : Nat} {W W' W'' : Wd} (x : FrS np W W') (y : FrS np W' W'') : FrS np W W'' := ⟨x.toFr.trans y.toFr, x.as.trans y.as, y.le⟩
theorem Ext.frS {np : Nat} {W W' : Wd} (x : Ext W W') (h : np ≤ W.as.length) : FrS np W W' := by
  obtain ⟨t, e⟩ := x.as
  refine ⟨x.toFr, ?_, ?_⟩
  · rw [← e, List.take_append_of_le_length h]
  · rw [← e, List.length_append]; omega
theorem FrS.mono {np np' : Nat} {W W' : Wd} (x : FrS np' W W') (h : np ≤ np') : FrS np W W' := by
  refine ⟨x.toFr, ?_, Nat.le_trans h x.le⟩
  have e := congrArg (List.take np) x.as
  rwa [List.take_take, List.take_take, Nat.min_eq_left h] at e
theorem FrS.get {np n : Nat} {a : Addr} {W W' : Wd} (x : FrS np W W') (hn : n < np) (h : W.as[n]? = some a) : W'.as[n]? = some a := by
  have e : (W.as.take np)[n]? = some a := by rw [List.getElem?_take_of_lt hn]; exact h
  rw [x.as, List.getElem?_take_of_lt hn] at e
  exact e
theorem FrS.refl {np : Nat} {W : Wd} (h : np ≤ W.as.length) : FrS np W W := ⟨Fr.refl W, rfl, h⟩
/-- all cells that stood stand first -/
theorem FrS.ext {W W' : Wd} (x : FrS W.as.length W W') : Ext W W' := by
  refine ⟨x.toFr, ?_⟩
  have e := x.as
  rw [List.take_length] at e
  rw [e]
  exact List.take_prefix _ _

section
variable {G : GI} {W W' W1 : Wd} {c c1 : Cs} {np : Nat}
abbrev Wd.fzC (W : Wd) (i : Nat) (a : Addr) : Wd := { H := W.H, as := W.as.eraseIdx i, Fz := fun b => b = a ∨ W.Fz b }
theorem mv_fz {i : Nat} {a : Addr} : Mv W (W.fzC i a) := ⟨fun _ _ h => h, fun _ _ _ h => h, fun _ h => .inr h⟩
theorem get_fz {i n : Nat} {a b : Addr} (hn : n ≠ i) (h : W.as[n]? = some b) : (W.fzC i a).as[if n < i then n else n - 1]? = some b := by
  show (W.as.eraseIdx i)[_]? = _
  rw [List.getElem?_eraseIdx]
  by_cases h1 : n < i
  · rw [if_pos h1, if_pos h1]; exact h
  · rw [if_neg h1, if_neg (by omega), show n - 1 + 1 = n by omega]; exact h
/-- THE FREEZING: cell i is frozen, everywhere -/
theorem frz1_ok {flds : Nat → List Str} (hf : flds = G.flds) (ok : Ok G W c) {i : Nat} {K : (Nat → D) → Cs → Prop} (hi : np ≤ i) (h : frz1 flds i c K) :
    ∃ W' ρ c', W'.H = W.H ∧ FrS np W W' ∧ Ok G W' c' ∧ (∀ {v : V} {d : D}, Den G W v d → Den G W' v (D.sub ρ d)) ∧ K ρ c' := by
  unfold frz1 at h
  cases hx : c[i]? with
  | none => rw [hx] at h; exact h.elim
  | some x =>
    rw [hx] at h
    obtain ⟨hall, h⟩ := h
    obtain ⟨a, ha, ca⟩ := ok.atC hx
    cases hu : (x.sub (sig i .non)).fz flds with
    | none => rw [hu] at h; exact h.elim
    | some u =>
      rw [hu] at h
      have other : ∀ (w : D) (n : Nat) (b : Addr), (decide (n ≠ i)) = true → W.as[n]? = some b → Den G (W.fzC i a) (.ref b) (sig i w n) := fun w n b hn hb => by
        have hn' : n ≠ i := of_decide_eq_true hn
        unfold sig
        rw [if_neg hn']
        exact .cell (get_fz hn' hb)
      have nf : ∀ {b : Addr}, W.Fz b → b ≠ a := fun f z => ok.fz _ f (by rw [z]; exact List.mem_of_getElem? ha)
      have du : Den G (W.fzC i a) (.ref a) u := by
        cases x with
        | lst ds =>
          obtain ⟨vs, q1, q2⟩ := ca
          cases hu
          exact .lst ⟨.inl rfl, q1⟩ (DenL.sub mv_fz (other .non) hall q2)
        | dct ks ds =>
          obtain ⟨kvs, q1, q0, q2, q3⟩ := ca
          cases hu
          simp only [Cont.all, Bool.and_eq_true] at hall
          exact .dctK (.inl rfl) q1 (DRep.ok_sub q0) (DenL.sub mv_fz (other .non) hall.1 q2) (DenL.sub mv_fz (other .non) hall.2 q3)
        | obj k fs =>
          obtain ⟨dx, gs, q1, q2, q3⟩ := ca
          simp only [Cont.sub, Cont.fz] at hu
          cases hu
          exact .obj (.inl rfl) q1 (by rw [q2, D.subL_eq, List.length_map]) (DenL.sub mv_fz (other .non) hall q3)
      have all : ∀ (n : Nat) (b : Addr), (fun _ => true) n = true → W.as[n]? = some b → Den G (W.fzC i a) (.ref b) (sig i u n) := fun n b _ hb => by
        by_cases hn : n = i
        · subst hn
          rw [ha] at hb; cases hb
          unfold sig
          rw [if_pos rfl]
          exact du
        · exact other u n b (decide_eq_true hn) hb
      have den : ∀ {v : V} {d : D}, Den G W v d → Den G (W.fzC i a) v (D.sub (sig i u) d) := fun h => Den.sub mv_fz all D.all_true h
      have denL : ∀ {vs : List V} {ds : List D}, DenL G W vs ds → DenL G (W.fzC i a) vs (D.subL (sig i u) ds) := fun h => DenL.sub mv_fz all D.allL_true h
      have hil : i < W.as.length := (List.getElem?_eq_some_iff.mp ha).1
      have fr : Fr W (W.fzC i a) := ⟨fun _ _ h => h, fun _ _ h _ => h, fun _ h => .inr h, fun _ h => h, fun b h => .inl ((List.eraseIdx_sublist _ _).subset h), fun b h => by
        rcases h with rfl | h
        · exact .inr (.inr (List.mem_of_getElem? ha))
        · exact .inl h⟩
      refine ⟨W.fzC i a, sig i u, (c.eraseIdx i).map (Cont.sub (sig i u)), rfl, ⟨fr, ?_, ?_⟩, ⟨?_, ?_, fun b f hm => ?_, fun b f => ?_, fun n b y h1 h2 => ?_⟩, den, h⟩
      · show W.as.take np = (W.as.eraseIdx i).take np
        refine List.ext_getElem? fun j => ?_
        by_cases hj : j < np
        · rw [List.getElem?_take_of_lt hj, List.getElem?_take_of_lt hj, List.getElem?_eraseIdx, if_pos (by omega)]
        · rw [List.getElem?_eq_none (by rw [List.length_take]; omega), List.getElem?_eq_none (by rw [List.length_take]; omega)]
      · show np ≤ (W.as.eraseIdx i).length
        rw [List.length_eraseIdx_of_lt hil]; omega
      · show (W.as.eraseIdx i).length = _
        rw [List.length_map, List.length_eraseIdx_of_lt hil, List.length_eraseIdx_of_lt (by rw [← ok.len]; exact hil), ok.len]
      · exact ok.nd.sublist (List.eraseIdx_sublist _ _)
      · have hm' : b ∈ W.as.eraseIdx i := hm
        rcases f with rfl | f
        · obtain ⟨j, hj⟩ := List.mem_iff_getElem?.mp hm'
          rw [List.getElem?_eraseIdx] at hj
          split at hj
          · rename_i hlt
            obtain ⟨l1, e1⟩ := List.getElem?_eq_some_iff.mp hj
            obtain ⟨l2, e2⟩ := List.getElem?_eq_some_iff.mp ha
            have := (List.getElem_inj ok.nd).mp (e1.trans e2.symm)
            omega
          · obtain ⟨l1, e1⟩ := List.getElem?_eq_some_iff.mp hj
            obtain ⟨l2, e2⟩ := List.getElem?_eq_some_iff.mp ha
            have := (List.getElem_inj ok.nd).mp (e1.trans e2.symm)
            omega
        · exact ok.fz b f ((List.eraseIdx_sublist _ _).subset hm')
      · rcases f with rfl | f
        · obtain ⟨o, e, _⟩ := ok.mem (List.mem_of_getElem? ha)
          exact ⟨o, e⟩
        · exact ok.fzt b f
      · rw [List.getElem?_map] at h2
        obtain ⟨z, hz, rfl⟩ := Option.map_eq_some_iff.mp h2
        have h1' : (W.as.eraseIdx i)[n]? = some b := h1
        rw [List.getElem?_eraseIdx] at h1' hz
        have cb : CellAt G W b z := by
          split at h1'
          · rename_i hlt
            rw [if_pos hlt] at hz
            exact ok.cell n b z h1' hz
          · rename_i hlt
            rw [if_neg hlt] at hz
            exact ok.cell (n + 1) b z h1' hz
        cases z with
        | lst ds => obtain ⟨vs, q1, q2⟩ := cb; exact ⟨vs, q1, denL q2⟩
        | dct ks ds => obtain ⟨kvs, q1, q0, q2, q3⟩ := cb; exact ⟨kvs, q1, DRep.ok_sub q0, denL q2, denL q3⟩
        | obj k fs => obtain ⟨dx, gs, q1, q2, q3⟩ := cb; exact ⟨dx, gs, q1, by rw [D.subL_eq, List.length_map]; exact q2, denL q3⟩
theorem cleanK_ok {flds : Nat → List Str} (hf : flds = G.flds) : ∀ (k : Nat) {W : Wd} {c : Cs} {K : (D → D) → Cs → Prop}, Ok G W c → np + k ≤ c.length → cleanK flds k c K →
    ∃ W' f c', W'.H = W.H ∧ FrS np W W' ∧ Ok G W' c' ∧ c'.length = c.length - k ∧ (∀ {v : V} {d : D}, Den G W v d → Den G W' v (f d)) ∧ K f c'
  | 0, W, c, K, ok, hl, h => ⟨W, id, c, rfl, FrS.refl (by rw [ok.len]; omega), ok, by omega, fun h => h, h⟩
  | k + 1, W, c, K, ok, hl, h => by
    obtain ⟨W1, ρ, c1, e1, x1, ok1, d1, h1⟩ := frz1_ok (np := np) hf ok (by omega) (show frz1 flds (c.length - 1) c (fun ρ c' => c'.length = c.length - 1 ∧ cleanK flds k c' fun f c'' => K (fun d => f (D.sub ρ d)) c'') by
      have h' : frz1 flds (c.length - 1) c fun ρ c' => cleanK flds k c' fun f c'' => K (fun d => f (D.sub ρ d)) c'' := h
      unfold frz1 at h' ⊢
      cases hx : c[c.length - 1]? with
      | none => rw [hx] at h'; exact h'.elim
      | some x =>
        rw [hx] at h'
        refine ⟨h'.1, ?_⟩
        have h2 := h'.2
        cases hu : (x.sub (sig (c.length - 1) .non)).fz flds with
        | none => rw [hu] at h2; exact h2.elim
        | some u => rw [hu] at h2; exact ⟨by rw [List.length_map, List.length_eraseIdx_of_lt (by omega)], h2⟩)
    obtain ⟨hlen, h1⟩ := h1
    obtain ⟨W2, f, c2, e2, x2, ok2, l2, d2, h2⟩ := cleanK_ok hf k ok1 (by omega) h1
    exact ⟨W2, _, c2, e2.trans e1, x1.trans x2, ok2, by omega, fun h => d2 (d1 h), h2⟩
theorem clean_ok {flds : Nat → List Str} (hf : flds = G.flds) (ok : Ok G W c) {K : (D → D) → Cs → Prop} (hn : np ≤ c.length) (h : clean flds np c K) :
    ∃ W' f c', W'.H = W.H ∧ FrS np W W' ∧ Ok G W' c' ∧ c'.length = np ∧ (∀ {v : V} {d : D}, Den G W v d → Den G W' v (f d)) ∧ K f c' := by
  obtain ⟨W2, f, c2, e2, x2, ok2, l2, d2, h2⟩ := cleanK_ok (np := np) hf _ ok (by omega) h
  exact ⟨W2, f, c2, e2, x2, ok2, by omega, d2, h2⟩
theorem cl_ok {flds : Nat → List Str} (hf : flds = G.flds) (ok : Ok G W c) {keep : Bool} {K : (D → D) → Cs → Prop} (hn : np ≤ c.length) (h : cl flds keep np c K) :
    ∃ W' f c', W'.H = W.H ∧ FrS np W W' ∧ Ok G W' c' ∧ (∀ {v : V} {d : D}, Den G W v d → Den G W' v (f d)) ∧ K f c' := by
  cases keep with
  | true => exact ⟨W, id, c, rfl, FrS.refl (by rw [ok.len]; exact hn), ok, fun h => h, h⟩
  | false =>
    obtain ⟨W2, f, c2, e2, x2, ok2, l2, d2, h2⟩ := clean_ok hf ok hn h
    exact ⟨W2, f, c2, e2, x2, ok2, d2, h2⟩
theorem retF_ok {flds : Nat → List Str} (hf : flds = G.flds) {v : V} {Q : QE} : ∀ (is : List Nat) {W : Wd} {c : Cs} {d : D}, Ok G W c → np ≤ c.length → Den G W v d → retF flds np is d c Q →
    ∃ W' c' d', W'.H = W.H ∧ FrS np W W' ∧ Ok G W' c' ∧ Den G W' v d' ∧ Q d' c'
  | [], W, c, d, ok, hn, dn, h => ⟨W, c, d, rfl, FrS.refl (by rw [ok.len]; exact hn), ok, dn, h⟩
  | i :: is, W, c, d, ok, hn, dn, h => by
    obtain ⟨hi, h⟩ := h
    obtain ⟨W1, ρ, c1, e1, x1, ok1, d1, h1⟩ := frz1_ok (np := np) hf ok hi h
    obtain ⟨W2, c2, d2, e2, x2, ok2, dn2, h2⟩ := retF_ok hf is ok1 (by rw [← ok1.len]; exact x1.le) (d1 dn) h1
    exact ⟨W2, c2, d2, e2.trans e1, x1.trans x2, ok2, dn2, h2⟩
end
end F

namespace F
open PySem PySem.Spec L2

/-- a class of exceptions over ValueError, without its __init__ -/
structure ExCls (K : PySem.W.Frag) (C : Addr) : Prop where
  cl : (PySem.W.clsIn K C).isSome = true
  xf : XfC K C
  ca : PySem.W.findIn K (.ref C) "__class__" = some (some (.builtin "object.__class__"))
  hn : PySem.W.specialIn K (.builtin "object.__class__") "__get__" = some (some (.builtin "getset_descriptor.__get__"))
  ht : PySem.W.takesIn K (.builtin "object.__class__") = some true
  hm : PySem.W.mroIn K C (.type "object") = some true
  ty : PySem.W.typeIn K (.ref C) = some (.type "type")
  kp : PySem.W.keepIn K (.ref C) = true
def exClsB (K : PySem.W.Frag) (C : Addr) : Bool :=
  (PySem.W.clsIn K C).isSome && (xfB K C && (He.eqO (PySem.W.findIn K (.ref C) "__class__") (some (some (.builtin "object.__class__"))) &&
    (He.eqO (PySem.W.specialIn K (.builtin "object.__class__") "__get__") (some (some (.builtin "getset_descriptor.__get__"))) &&
      (decide (PySem.W.takesIn K (.builtin "object.__class__") = some true) && (decide (PySem.W.mroIn K C (.type "object") = some true) && (decide (PySem.W.typeIn K (.ref C) = some (.type "type")) && PySem.W.keepIn K (.ref C)))))))
theorem exClsB_ok {K : PySem.W.Frag} {C : Addr} (h : exClsB K C = true) : ExCls K C := by
  unfold exClsB at h
  simp only [Bool.and_eq_true, decide_eq_true_eq] at h
  obtain ⟨h1, h2, h3, h4, h5, h6, h7, h8⟩ := h
  exact ⟨h1, xfB_ok h2, He.eqO_ok h3, He.eqO_ok h4, h5, h6, h7, h8⟩
theorem ExCls.kitx {K : PySem.W.Frag} {C x : Addr} {ox : Obj} {od : Option Obj} (E : ExCls K C) : PySem.W.KitX K (.ref x) (.ref C) (fun h => PySem.W.InstAt h x ox C od) :=
  PySem.W.kitx_exc E.cl E.xf.ga E.xf.gg E.xf.exC E.ca E.hn E.ht E.hm
/-- the class's record, as OexC wants it -/
def oexO (C : Addr) (o : Obj) : Bool := match o with
  | ⟨.type t, _, .cls cd, sl⟩ => (t == "type") && (cd.hasDict && (!cd.hasDel && (match cd.mro, sl.toList with
    | .ref C' :: bm, [_, _, _, _, some (.builtin n), _] => C' == C && (n == "ValueError.__new__" && PySem.HandSPX.refsVE bm)
    | _, _ => false)))
  | _ => false
theorem oexO_ok {C : Addr} {o : Obj} (h : oexO C o = true) : ∃ nm q N bs bm sn sub ab col dd k0 k1 k2 k3 k5, o = excClassObj nm q C N bs bm true sn sub ab col dd k0 k1 k2 k3 k5 "ValueError.__new__" ∧ PySem.HandSPX.refsVE bm = true := by
  unfold oexO at h
  split at h
  · rename_i t dd cd sl
    simp only [Bool.and_eq_true, beq_iff_eq, Bool.not_eq_true'] at h
    obtain ⟨e1, e2, e3, h⟩ := h
    split at h
    · rename_i C' bm k0 k1 k2 k3 n k5 hm hs
      simp only [Bool.and_eq_true, beq_iff_eq] at h
      obtain ⟨e4, e5, e6⟩ := h
      obtain ⟨nm, bs, mro, ns, qn, hd, sn, sb, ab, col, del⟩ := cd
      dsimp only at hm e2 e3
      subst hm e2 e3 e1 e4 e5
      have hsl : sl = #[k0, k1, k2, k3, some (.builtin "ValueError.__new__"), k5] := by
        obtain ⟨l⟩ := sl
        dsimp only at hs
        rw [hs]
      subst hsl
      exact ⟨nm, qn, ns, bs, bm, sn, sb, ab, col, dd, k0, k1, k2, k3, k5, rfl, e6⟩
    · cases h
  · cases h
def oexB (K : PySem.W.Frag) (C : Addr) : Bool := He.eqO (PySem.W.findIn K (.ref C) "__setattr__") (some (some (.builtin "object.__setattr__"))) && (match K.lookup C with
  | some o => oexO C o
  | none => false)
theorem oexB_ok {K : PySem.W.Frag} {C : Addr} (E : ExCls K C) (h : oexB K C = true) : OexC K C := by
  unfold oexB at h
  rw [Bool.and_eq_true] at h
  obtain ⟨h1, h2⟩ := h
  refine ⟨?_, He.eqO_ok h1, E.xf.exC, E.ty, E.kp⟩
  cases hl : K.lookup C with
  | none => rw [hl] at h2; cases h2
  | some o =>
    rw [hl] at h2
    obtain ⟨nm, q, N, bs, bm, sn, sb, ab, col, dd, k0, k1, k2, k3, k5, e, r⟩ := oexO_ok h2
    exact ⟨nm, q, N, bs, bm, sn, sb, ab, col, dd, k0, k1, k2, k3, k5, by rw [e], r⟩
/-- the class whose __init__ is ValueError's -/
structure VeCls (K : PySem.W.Frag) (B : Addr) : Prop where
  gB : PySem.W.specialIn K (.ref B) "__getattribute__" = some (some (.builtin "type.__getattribute__"))
  rd : PySem.W.readsIn K B (.type "type") = true
  vB : PySem.W.findCls K (.ref B) (.type "type") "__init__" = some (.val (.builtin "ValueError.__init__"))
def veClsB (K : PySem.W.Frag) (B : Addr) : Bool := He.eqO (PySem.W.specialIn K (.ref B) "__getattribute__") (some (some (.builtin "type.__getattribute__"))) && (PySem.W.readsIn K B (.type "type") &&
  (match PySem.W.findCls K (.ref B) (.type "type") "__init__" with
  | some (.val (.builtin n)) => n == "ValueError.__init__"
  | _ => false))
theorem veClsB_ok {K : PySem.W.Frag} {B : Addr} (h : veClsB K B = true) : VeCls K B := by
  unfold veClsB at h
  simp only [Bool.and_eq_true] at h
  obtain ⟨h1, h2, h3⟩ := h
  refine ⟨He.eqO_ok h1, h2, ?_⟩
  split at h3
  · rename_i n hn
    rw [hn, eq_of_beq h3]
  · cases h3

section
variable {X : Cx} {e : Expr} {es : List Expr} {ta : TA} {p1 p2 pos : Pos} {x : Str} {B : Addr}
theorem pe_sinit (hg : Gl X x) (hm : X.mg x = some (.ref B)) (V : VeCls X.K B) (ha : PA X (e :: es) ta) (hdb : (x == ("__debug__" : Str)) = false)
    (hst : (e :: es).all noStar = true) (hlen : (e :: es).length < 30) (hline : (p2.endLine == pos.line) = true) :
    PE X (.Call (.Attribute (.Name x p1) "__init__" p2) (e :: es) [] pos) (tVeI X.K ta) := by
  have hc := meth_eq (o := .Name x p1) (m := "__init__") (env := X.env) rfl hst hlen hline
  rw [List.all_cons, Bool.and_eq_true] at hst
  refine ⟨fun pins s σ H Q I h => ?_⟩
  refine PySem.W.methodCall_KW (ld_glob I hg hm ?_ hdb) hc
  refine PySem.W.method_cls I.kIn V.gB (PySem.W.cls_value I.kIn V.rd V.vB rfl ?_)
  refine PyProof.Rows.callWith_method1 (thn (ha.run pos pins _ σ H _ (I.tok _) h) fun us s1 ⟨vs, H1, I1, r1, a, C, ws, ev, hl, T, ea, q⟩ => ?_) (star_cons hst.1) (star_any hst.2)
  subst ev
  cases r1 with
  | @cons _ u0 _ ur ra rw' =>
    obtain rfl : u0 = Value.ref a := ra
    have hlen : ur.length ≤ sizeLine := by
      have := Paired.length rw'
      rw [sizeLine_eq]; omega
    exact oinit_ok T I1 ea hlen fun s' J => ⟨.non, H1, J, rfl, q⟩
end
/-- what such an __init__ does to a new exception -/
def spIni (C : Addr) (f : Str) : Sp := fun vs H Q _ => ∃ a v, vs = [.ref a, v] ∧ H a = some (exo a C none) ∧ ∀ dx, H dx = none → dx ≠ a → Q .non (upd (upd H dx (exd dx [(f, v)])) a (exo a C (some dx)))
/-- its text -/
def iniB (f y : Str) : List Stmt → Bool
  | [.Expr (.Call (.Attribute (.Name x _) m q) [.Name z _, .Constant (.str _) _ _] [] r) _, .Assign [.Attribute (.Name z' _) g _] (.Name y' _) _] =>
    (q.endLine == r.line) && (x == ("StintError" : Str) && (m == ("__init__" : Str) && (z == ("self" : Str) && (z' == ("self" : Str) && (g == f && y' == y)))))
  | _ => false
theorem iniB_ok {f y : Str} {ss : List Stmt} (h : iniB f y ss = true) : ∃ p1 p2 p3 t j p4 p5 p6 p7 p8 p9 p10, (p2.endLine == p5.line) = true ∧ ss = [.Expr (.Call (.Attribute (.Name "StintError" p1) "__init__" p2) [.Name "self" p3, .Constant (.str t) j p4] [] p5) p6, .Assign [.Attribute (.Name "self" p7) f p8] (.Name y p9) p10] := by
  unfold iniB at h
  split at h
  · simp only [Bool.and_eq_true, beq_iff_eq] at h
    obtain ⟨hl, rfl, rfl, rfl, rfl, rfl, rfl⟩ := h
    exact ⟨_, _, _, _, _, _, _, _, _, _, _, _, by rw [hl]; exact beq_self_eq_true _, rfl⟩
  · cases h
theorem ini_ok {P : Program} {w : World} {K : PySem.W.Frag} {mg : Str → Option Value} {base : Heap} {qual f y : Str} {st : Stmt} {fI C B : Addr} {fd : FuncData} (F : FunD K "__init__" qual (defArgs st) (defBody st) (defScope st) [] [] fI fd)
    (S : FnScope ["self", y] ["self", y] (defScope st)) (hb : iniB f y (defBody st) = true) (hg : (defScope st).names.lookup ("StintError" : Str) = some .globalImplicit) (hy : (y == ("__debug__" : Str)) = false ∧ (y == ("__classdict__" : Str)) = false)
    (hv : Vis (defScope st) "self" ∧ Vis (defScope st) y) (hm : mg "StintError" = some (.ref B)) (V : VeCls K B) (T : OexC K C) (hno : PySem.W.findIn K (.ref C) f = some none) :
    FnOk P w K mg base CX0 1 fI fd ["self", y] (spIni C f) := by
  refine F.ok S (fun vs H Q E ⟨a, v, e, _⟩ => by rw [e]; rfl) fun cdv A outer s H vs Q E hr ⟨a, v, ev, ha, hq⟩ => ?_
  obtain ⟨p1, p2, p3, t, j, p4, p5, p6, p7, p8, p9, p10, hl, e⟩ := iniB_ok hb
  rw [e]
  let X : Cx := cxOf CX0 P w K mg base ["self", y] qual (defScope st) fI cdv A outer s H E
  have v0 : ∀ {p : Pos}, PE X (.Name "self" p) (tVar 0) := fun {p} => pe_var rfl hv.1
  have v1 : ∀ {p : Pos}, PE X (.Name y p) (tVar 1) := fun {p} => pe_var rfl hv.2 hy.1 hy.2
  refine ⟨_, pss_cons (ps_expr (pe_sinit (X := X) hg hm V (pa_cons v0 (pa_cons pe_str pa_nil)) (by decide) rfl (show 2 < 30 by omega) hl)) (pss_cons (ps_ost v0 v1) pss_nil), ?_⟩
  subst ev
  refine ⟨L2.V.ref a, rfl, a, C, [L2.V.str t], rfl, ?_, T, ha, ?_⟩
  · show 1 ≤ 1000
    omega
  · exact ⟨v, rfl, L2.V.ref a, rfl, a, C, rfl, T, hno, .inl ⟨ha, hq⟩⟩
end F

namespace F
open PySem PySem.Spec L2

def blNames : List Str := ["len", "abs", "max", "min", "sum", "all", "any", "int", "list", "tuple", "sorted", "str", "range", "enumerate", "zip", "isinstance", "bool", "dict", "set", "ValueError"]
structure FnR (G : GI) (I : CI) (lv : Nat) (P : Program) (w : World) (base : Heap) (f : Nat) (fa : Addr) : Prop where
  ex : ∃ fd ps, ps.length = I.np f ∧ Binds G.K fd ps [] ∧ FnOk P w G.K G.mg base (L2.CX P w) lv fa fd ps (spF G (I.np f) (I.phi f))
abbrev bmVE : List Value := [.type "ValueError", .type "Exception", .type "BaseException", .type "object"]
/-- the k-th class of exceptions -/
structure ExOk (G : GI) (I : CI) (P : Program) (w : World) (base : Heap) (k : Nat) : Prop where
  nm : G.mg (I.ename k) = some (.ref (G.exc k))
  cl : ExCls G.K (G.exc k)
  kk : ∀ j, j < I.ne → PySem.W.kitOne G.K (.ref (G.exc k)) (.ref (G.exc j)) = some (I.esub k j)
  kv : PySem.W.kitOne G.K (.ref (G.exc k)) (.type "ValueError") = some true
  em : ∀ j, j < I.ne → PySem.W.exmOne G.K (.ref (G.exc k)) (.ref (G.exc j)) = some (I.esub k j)
  ef : I.exf k = G.exf k
  fl : ∀ f ∈ G.exf k, PySem.W.findIn G.K (.ref (G.exc k)) f = some none
  ini : ∀ f, G.exf k = [f] → OexC G.K (G.exc k) ∧ ∃ fI fd ps, PySem.W.findIn G.K (.ref (G.exc k)) "__init__" = some (some (.ref fI)) ∧ PySem.W.typeIn G.K (.ref fI) = some (.type "function") ∧ Binds G.K fd ps [] ∧ FnOk P w G.K G.mg base CX0 1 fI fd ps (spIni (G.exc k) f)
  e0 : G.exf k = [] → PySem.W.excIn G.K (G.exc k) bmVE "ValueError.__new__" = true ∧ PySem.W.subIn G.K (.ref (G.exc k)) (.type "BaseException") = some true
/-- a def that tells whole numbers, by its text -/
def whB (y : Str) : List Stmt → Bool
  | [.Return (some (.BoolOp .And [.Call (.Name i1 _) [.Name y1 _, .Name t1 _] [] _, .UnaryOp .Not (.Call (.Name i2 _) [.Name y2 _, .Name t2 _] [] _) _] _)) _] =>
    i1 == ("isinstance" : Str) && (i2 == ("isinstance" : Str) && (y1 == y && (y2 == y && (t1 == ("int" : Str) && t2 == ("bool" : Str)))))
  | _ => false
structure WhOk (G : GI) (x : Str) : Prop where
  ex : ∃ fa fd y qual st, G.mg x = some (.ref fa) ∧ FunD G.K x qual (defArgs st) (defBody st) (defScope st) [] [] fa fd ∧ FnScope [y] [y] (defScope st) ∧ Binds G.K fd [y] [] ∧ whB y (defBody st) = true ∧
    (∀ z ∈ (["isinstance", "int", "bool"] : List Str), (defScope st).names.lookup z = some .globalImplicit) ∧ Vis (defScope st) y ∧ (y == ("__debug__" : Str)) = false ∧ (y == ("__classdict__" : Str)) = false
structure GOk (G : GI) (I : CI) (lv : Nat) (P : Program) (w : World) (base : Heap) : Prop where
  flds : I.flds = G.flds
  hw : G.w = w
  bl : ∀ x ∈ blNames, G.mg x = none
  con : ∀ k, k < I.nc → ∃ t, G.mg (I.cname k) = some (.int (I.cval k) t)
  fn : ∀ f x, 2 * f + 2 ≤ lv → I.kind f = .fn x → ∃ fa, G.mg x = some (.ref fa) ∧ PySem.W.keepIn G.K (.ref fa) = true ∧ FnR G I lv P w base f fa
  mth : ∀ f k x, 2 * f + 2 ≤ lv → I.kind f = .mth k x → ∃ fa, Cls G.K (G.cls k) ∧ Meth G.K (G.cls k) x fa ∧ x ∉ G.flds k ∧ FnR G I lv P w base f fa
  ini : ∀ f k x, 2 * f + 2 ≤ lv → I.kind f = .ini k x → ∃ fa, Mk G.K (G.cls k) fa ∧ G.mg x = some (.ref (G.cls k)) ∧ FnR G I lv P w base f fa
  cls : ∀ k, k < I.nk → Cls G.K (G.cls k) ∧ ∀ f ∈ G.flds k, NoAttr G.K (G.cls k) f
  kn : ∀ k, k < I.nk → G.mg (I.kname k) = some (.ref (G.cls k))
  kis : ∀ k, k < I.nk → KIs G.K (G.cls k)
  kkk : ∀ k j, k < I.nk → j < I.nk → PySem.W.kitOne G.K (.ref (G.cls k)) (.ref (G.cls j)) = some (k == j)
  kkt : ∀ k, k < I.nk → ∀ x ∈ tyNames, PySem.W.kitOne G.K (.ref (G.cls k)) (.type x) = some false
  ktk : ∀ k, k < I.nk → ∀ x ∈ tyNames, PySem.W.kitOne G.K (.type x) (.ref (G.cls k)) = some false
  ex : ∀ k, k < I.ne → ExOk G I P w base k
  wh : ∀ f x, I.whole f = true → I.kind f = .fn x → WhOk G x
structure XOk (G : GI) (I : CI) (lv : Nat) (Wx : WX) (sc : Scope) (N : List Str) (fnB : Str → Bool) (X : Cx) : Prop where
  hK : X.K = G.K
  hmg : X.mg = G.mg
  hN : X.N = N
  nd : N.Nodup
  hsc : X.env.scope = sc
  calm : X.calm = true
  room : Room (lv + 1) X.A
  tk : Takes X Wx
  fnb : ∀ x, fnB x = true → X.fn x = true
  glob : GOk G I lv X.prog X.w X.base

def dbgB (x : Str) : Bool := !(x == ("__debug__" : Str)) && !(x == ("__classdict__" : Str)) && !(x == ("__name__" : Str))
def visB (sc : Scope) (x : Str) : Bool := match sc.names.lookup x with
  | some .local => true
  | some .cell => true
  | some .free => true
  | _ => false
def locB (sc : Scope) (fnB : Str → Bool) (x : Str) : Bool := match sc.names.lookup x with
  | some .local => true
  | some .cell => fnB x
  | _ => false
def glB (sc : Scope) (x : Str) : Bool := match sc.names.lookup x with
  | some .globalImplicit => dbgB x
  | _ => false
def ltB : Lt → Const → Bool
  | .int i, .int j => i == j
  | .bl i, .bool j => i == j
  | .non, .none => true
  | .str x, .str y => x == y
  | _, _ => false
def bopB : B2 → Operator → Bool
  | .add, .Add => true
  | .sub, .Sub => true
  | .mul, .Mult => true
  | .fdiv, .FloorDiv => true
  | .mod, .Mod => true
  | .pow, .Pow => true
  | _, _ => false
def copB (nk : Nat) : B2 → CmpOp → Bool
  | .lt, .Lt => true
  | .le, .LtE => true
  | .gt, .Gt => true
  | .ge, .GtE => true
  | .eq, .Eq => true
  | .ne, .NotEq => true
  | .is, .Is => true
  | .isn, .IsNot => true
  | .inn, .In => true
  | .nin, .NotIn => true
  | .innN, .In => true
  | .innO k, .In => decide (k ≤ nk)
  | .ne0, .NotEq => true
  | .ltL, .Lt => true
  | .neC, .NotEq => true
  | .eqO k, .Eq => decide (k ≤ nk)
  | _, _ => false
def isIdx : B2 → Bool
  | .idx => true
  | _ => false
def biName : Bi → Str
  | .len => "len" | .abs => "abs" | .max => "max" | .min => "min" | .sum => "sum" | .all => "all" | .any => "any" | .int => "int" | .list => "list" | .tuple => "tuple" | .sorted => "sorted" | .str => "str" | .dict => "dict"
def biOk : Bi → Bool
  | .str => false
  | .dict => false
  | _ => true
def mtName : Mt → Str
  | .append => "append" | .extend => "extend" | .pop => "pop" | .popAt => "pop" | .clear => "clear" | .insert => "insert"
def mtOk : Mt → Bool
  | .append => true | .extend => true | .popAt => true | .insert => true | .pop => false | .clear => false
def mt0Ok : Mt → Bool
  | .pop => true | .clear => true
  | _ => false
def FA.isNil : FA → Bool
  | .nil => true
  | _ => false

section
variable {G : GI} {I : CI} {lv : Nat} {Wx : WX} {sc : Scope} {N : List Str} {fnB : Str → Bool} {X : Cx} {a b e : Expr} {pos : Pos} {A B C : FA1}
theorem vis_of {x : Str} (h : visB sc x = true) : Vis sc x := by
  unfold visB at h
  split at h
  · rename_i q; exact .inl q
  · rename_i q; exact .inr (.inl q)
  · rename_i q; exact .inr (.inr q)
  · cases h
theorem gl_of {x : Str} (o : XOk G I lv Wx sc N fnB X) (h : glB sc x = true) : Gl X x ∧ (x == ("__debug__" : Str)) = false ∧ x ≠ "__name__" := by
  unfold glB at h
  split at h
  · rename_i q
    unfold dbgB at h
    simp only [Bool.and_eq_true, Bool.not_eq_true'] at h
    refine ⟨?_, h.1.1, fun z => ?_⟩
    · show X.env.kindOf x = _
      unfold Env.kindOf
      rw [o.hsc]
      exact q
    · have := h.2
      rw [z] at this
      simp at this
  · cases h
theorem se_var (o : XOk G I lv Wx sc N fnB X) {i : Nat} {x : Str} (h1 : N[i]? = some x) (h2 : visB sc x = true) (h3 : dbgB x = true) : PE X (.Name x pos) (lift G Wx (wpE I (.var i))) := by
  unfold dbgB at h3
  simp only [Bool.and_eq_true, Bool.not_eq_true'] at h3
  refine PE.imp (pe_var (i := i) (by rw [o.hN]; exact h1) (by rw [o.hsc]; exact vis_of h2) h3.1.1 h3.1.2) fun σ H Q ⟨W, c, env, Q0, X0, eH, ok, eo, h, q, _⟩ => ?_
  subst eH
  unfold wpE at h
  split at h
  · rename_i d hd
    obtain ⟨v, e1, e2⟩ := eo.get hd
    exact ⟨v, e1, q _ _ (Post.now ok e2 h)⟩
  · exact h.elim
theorem lit_den {W : Wd} {l : Lt} : ∃ v, (match l with | .int i => v = V.int i | .bl i => v = V.bl i | .non => v = V.non | .str x => v = V.str x) ∧ Den G W v l.d := by
  cases l
  · exact ⟨_, rfl, .int⟩
  · exact ⟨_, rfl, .bl⟩
  · exact ⟨_, rfl, .non⟩
  · exact ⟨_, rfl, .str⟩
theorem se_lit {l : Lt} {k : Const} {j : Nat} (h : ltB l k = true) : PE X (.Constant k j pos) (lift G Wx (wpE I (.lit l))) := by
  have fin : ∀ {v : V}, (∀ W, Den G W v l.d) → PE X (.Constant k j pos) (tC v) → PE X (.Constant k j pos) (lift G Wx (wpE I (.lit l))) := fun {v} hd hp =>
    PE.imp hp fun σ H Q ⟨W, c, env, Q0, X0, eH, ok, eo, h, q, _⟩ => by
      subst eH
      exact q _ _ (Post.now ok (hd W) h)
  unfold ltB at h
  split at h
  · rename_i i j'; have e := eq_of_beq h; subst e; exact fin (fun _ => .int) pe_int
  · rename_i i j'; have e := eq_of_beq h; subst e; exact fin (fun _ => .bl) pe_bl
  · exact fin (fun _ => .non) pe_non
  · rename_i i j'; have e := eq_of_beq h; subst e; exact fin (fun _ => .str) pe_str
  · cases h
theorem se_con (o : XOk G I lv Wx sc N fnB X) {k : Nat} {x : Str} (h1 : k < I.nc) (h2 : I.cname k = x) (h3 : glB sc x = true) : PE X (.Name x pos) (lift G Wx (wpE I (.con k))) := by
  obtain ⟨g, hd, _⟩ := gl_of o h3
  obtain ⟨t, ht⟩ := o.glob.con k h1
  rw [h2] at ht
  refine PE.imp (pe_glob (v := .int (I.cval k)) g (by rw [o.hmg]; exact ht) ⟨t, rfl⟩ hd) fun σ H Q ⟨W, c, env, Q0, X0, eH, ok, eo, h, q, _⟩ => ?_
  subst eH
  exact q _ _ (Post.now ok .int h)
theorem se_neg (ha : PE X a (lift G Wx A)) : PE X (.UnaryOp .USub a pos) (lift G Wx (fun env c Q X => A env c (fun d c1 => match d with
    | .int i => Q (.int (-i)) c1
    | _ => False) X)) := by
  refine PE.imp (pe_un un_neg ha) fun σ H Q h => ?_
  obtain ⟨W, c, env, Q0, X0, eH, ok, eo, h, q, x⟩ := h
  refine ⟨W, c, env, _, X0, eH, ok, eo, h, fun v H' ⟨W1, c1, d, e1, x1, ok1, dn, k⟩ => ?_, x⟩
  cases dn with
  | int => exact ⟨_, rfl, q _ _ ⟨W1, c1, _, e1, x1, ok1, .int, k⟩⟩
  | _ => exact k.elim
theorem se_not (ha : PE X a (lift G Wx A)) : PE X (.UnaryOp .Not a pos) (lift G Wx (fun env c Q X => A env c (fun d c1 => match d with
    | .bl i => Q (.bl (!i)) c1
    | _ => False) X)) := by
  refine PE.imp (pe_not ha) fun σ H Q h => ?_
  obtain ⟨W, c, env, Q0, X0, eH, ok, eo, h, q, x⟩ := h
  refine ⟨W, c, env, _, X0, eH, ok, eo, h, fun v H' ⟨W1, c1, d, e1, x1, ok1, dn, k⟩ => ?_, x⟩
  cases dn with
  | bl => exact ⟨_, rfl, q _ _ ⟨W1, c1, _, e1, x1, ok1, .bl, k⟩⟩
  | _ => exact k.elim
theorem hu_x (o : XOk G I lv Wx sc N fnB X) : X.A.units + 64 < cLine := o.room.units
theorem hu_x1 (o : XOk G I lv Wx sc N fnB X) : X.A.units + 65 < cLine := by
  have := o.room.un
  omega
theorem opr_bin (o : XOk G I lv Wx sc N fnB X) {op : B2} {m : Bool} {p : Operator} (h : bopB op p = true) : OpR X (binaryOp p) (RB G op m) := by
  unfold bopB at h
  split at h
  · exact opr_add o.hK
  · exact opr_sub
  · exact opr_mul o.hK
  · exact opr_fdiv
  · exact opr_mod
  · exact opr_pow
  · cases h
theorem opr_cmp (o : XOk G I lv Wx sc N fnB X) {op : B2} {m : Bool} {p : CmpOp} (h : copB I.nk op p = true) : OpR X (compareOp p) (RB G op m) := by
  unfold copB at h
  split at h
  · exact opr_lt
  · exact opr_le
  · exact opr_gt
  · exact opr_ge
  · exact opr_eq o.hK (hu_x o)
  · exact opr_ne o.hK (hu_x o)
  · exact opr_is
  · exact opr_isn
  · exact opr_in o.hK o.glob.hw (hu_x1 o)
  · exact opr_nin o.hK o.glob.hw (hu_x1 o)
  · exact opr_innN o.hK (hu_x o)
  · exact opr_innO o.hK (hu_x o) fun j hj => o.glob.kis j (Nat.lt_of_lt_of_le hj (of_decide_eq_true h))
  · exact opr_ne0 o.hK (hu_x o)
  · exact opr_ltL o.hK (hu_x o)
  · exact opr_neC o.hK (hu_x o)
  · exact opr_eqO o.hK (hu_x o) fun j hj => o.glob.kis j (Nat.lt_of_lt_of_le hj (of_decide_eq_true h))
  · cases h
abbrev binF (op : B2) (m : Bool) (A B : FA1) : FA1 := fun env c Q X => A env c (fun x c1 => B env c1 (fun y c2 => wpB op m x y c2 Q) X) X
theorem se_bin (o : XOk G I lv Wx sc N fnB X) {op : B2} {m : Bool} {p : Operator} (h : bopB op p = true) (ha : PE X a (lift G Wx A)) (hb : PE X b (lift G Wx B)) : PE X (.BinOp a p b pos) (lift G Wx (binF op m A B)) :=
  PE.imp (pe_op (opr_bin o h) ha hb) fun σ H Q h => lift_two h
theorem se_cmp (o : XOk G I lv Wx sc N fnB X) {op : B2} {m : Bool} {p : CmpOp} (h : copB I.nk op p = true) (hs : notSet b = true) (ha : PE X a (lift G Wx A)) (hb : PE X b (lift G Wx B)) : PE X (.Compare a [p] [b] pos) (lift G Wx (binF op m A B)) :=
  PE.imp (pe_cmpR (opr_cmp o h) ha hb (behind_of hs)) fun σ H Q h => lift_two h
theorem se_idx (o : XOk G I lv Wx sc N fnB X) {m : Bool} (hs : notSlice b = true) (ha : PE X a (lift G Wx A)) (hb : PE X b (lift G Wx B)) : PE X (.Subscript a b pos) (lift G Wx (binF .idx m A B)) :=
  PE.imp (pe_ix (ixr_idx o.hK o.glob.hw (hu_x1 o)) ha hb (plainIx_of hs)) fun σ H Q h => lift_two h
/-- a wish about a bool, as a test -/
abbrev asT (A : FA1) : FAB := fun env c Q X => A env c (fun d c1 => match d with
    | .bl b => Q b c1
    | _ => False) X
theorem asT_imp {t : TE} {σ : L2.St} {H : Hp} {Q : Bool → Hp → Prop} (h : liftB G Wx (asT A) σ H Q) (k : ∀ Q', lift G Wx A σ H Q' → t σ H Q') : t σ H fun x H' => ∃ k, x = .bl k ∧ Q k H' := by
  obtain ⟨W, c, env, Q0, X0, eH, ok, eo, h, q, x⟩ := h
  refine k _ ⟨W, c, env, _, X0, eH, ok, eo, h, fun v H' ⟨W1, c1, d, e1, x1, ok1, dn, k⟩ => ?_, x⟩
  cases dn with
  | bl => exact ⟨_, rfl, q _ _ ⟨W1, c1, e1, x1, ok1, k⟩⟩
  | _ => exact k.elim
theorem sc_val (hp : plainT e = true) (ha : PE X e (lift G Wx A)) : PT X e (liftB G Wx (asT A)) :=
  PT.imp (pt_val ha (isTrue_of hp)) fun σ H Q h => asT_imp h fun _ z => z
theorem sc_cmp (o : XOk G I lv Wx sc N fnB X) {op : B2} {m : Bool} {p : CmpOp} (h : copB I.nk op p = true) (hs : notSet b = true) (ha : PE X a (lift G Wx A)) (hb : PE X b (lift G Wx B)) : PT X (.Compare a [p] [b] pos) (liftB G Wx (asT (binF op m A B))) :=
  PT.imp (pt_cmpR (opr_cmp o h) ha hb (behind_of hs)) fun σ H Q h => asT_imp (t := tOp (RB G op m) (lift G Wx A) (lift G Wx B)) h fun _ z => lift_two z
theorem sc_not {A : FAB} (ha : PT X a (liftB G Wx A)) : PT X (.UnaryOp .Not a pos) (liftB G Wx (fun env c Q X => A env c (fun b c1 => Q (!b) c1) X)) := by
  refine PT.imp (pt_not ha) fun σ H Q h => ?_
  obtain ⟨W, c, env, Q0, X0, eH, ok, eo, h, q, x⟩ := h
  exact ⟨W, c, env, _, X0, eH, ok, eo, h, fun v H' ⟨W1, c1, e1, x1, ok1, k⟩ => q _ _ ⟨W1, c1, e1, x1, ok1, k⟩, x⟩
abbrev chF (op op' : B2) (A B C : FA1) : FA1 := fun env c Q X => A env c (fun x c1 => B env c1 (fun y c2 => wpB op false x y c2 fun r c3 => match r with
    | .bl k => sIf k (C env c3 (fun z c4 => wpB op' false y z c4 Q) X) (Q (.bl false) c3)
    | _ => False) X) X
theorem ch_imp {σ : L2.St} {H : Hp} {Q : VK} {op op' : B2} (h : lift G Wx (chF op op' A B C) σ H Q) : tChain (RB G op false) (RB G op' false) (lift G Wx A) (lift G Wx B) (lift G Wx C) σ H Q := by
  obtain ⟨W, c, env, Q0, X0, e, ok, eo, h, q, x⟩ := h
  refine ⟨W, c, env, _, X0, e, ok, eo, h, fun v H' ⟨W1, c1, d, e1, x1, ok1, dn, k⟩ => ?_, x⟩
  refine ⟨W1, c1, env, _, X0, e1, ok1, eo.mono ok x1, k, fun v2 H2 ⟨W2, c2, d2, e2, x2, ok2, dn2, k2⟩ => ?_, fun cls dd H' p => x cls dd H' (p.up x1)⟩
  refine ⟨W2, c2, d, d2, _, e2, ok2, dn.mono ok1 x2, dn2, k2, fun v3 H3 ⟨W3, c3, d3, e3, x3, ok3, dn3, k3⟩ => ?_⟩
  cases dn3 with
  | @bl b =>
    refine ⟨b, rfl, ?_⟩
    have x12 := x1.trans x2
    cases b with
    | true =>
      rw [if_pos rfl]
      refine ⟨W3, c3, env, _, X0, e3, ok3, ((eo.mono ok x12).mono ok2 x3), k3, fun v4 H4 ⟨W4, c4, d4, e4, x4, ok4, dn4, k4⟩ => ?_, fun cls dd H' p => x cls dd H' ((p.up x3).up x12)⟩
      exact ⟨W4, c4, d2, d4, Q0, e4, ok4, (dn2.mono ok2 x3).mono ok3 x4, dn4, k4, fun v H' p => q v H' (((p.up x4).up x3).up x12)⟩
    | false =>
      rw [if_neg Bool.false_ne_true]
      rw [← e3]
      exact q _ _ (((Post.now ok3 .bl k3).up x3).up x12)
  | _ => exact k3.elim
theorem marks2 {op op' : CmpOp} {y z : Expr} (h : notSet z = true) : lastMarks [op, op'] [y, z] = false := by
  show behindInMarks op' z = false
  exact behind_of h
theorem se_chain (o : XOk G I lv Wx sc N fnB X) {op op' : B2} {p p' : CmpOp} (h : copB I.nk op p = true) (h' : copB I.nk op' p' = true) (hs : notSet e = true) (ha : PE X a (lift G Wx A)) (hb : PE X b (lift G Wx B)) (hc : PE X e (lift G Wx C)) :
    PE X (.Compare a [p, p'] [b, e] pos) (lift G Wx (chF op op' A B C)) := PE.imp (pe_chain (opr_cmp o h) (opr_cmp o h') ha hb hc (marks2 hs)) fun σ H Q h => ch_imp h
theorem sc_chain (o : XOk G I lv Wx sc N fnB X) {op op' : B2} {p p' : CmpOp} (h : copB I.nk op p = true) (h' : copB I.nk op' p' = true) (hs : notSet e = true) (ha : PE X a (lift G Wx A)) (hb : PE X b (lift G Wx B)) (hc : PE X e (lift G Wx C)) :
    PT X (.Compare a [p, p'] [b, e] pos) (liftB G Wx (asT (chF op op' A B C))) := PT.imp (pt_chain (opr_cmp o h) (opr_cmp o h') ha hb hc (marks2 hs)) fun σ H Q h => asT_imp (t := tChain (RB G op false) (RB G op' false) (lift G Wx A) (lift G Wx B) (lift G Wx C)) h fun _ z => ch_imp z
theorem se_ife {t : Expr} {T : FAB} (ht : PT X t (liftB G Wx T)) (ha : PE X a (lift G Wx A)) (hb : PE X b (lift G Wx B)) : PE X (.IfExp t a b pos) (lift G Wx (fun env c Q X => T env c (fun k c1 => sIf k (A env c1 Q X) (B env c1 Q X)) X)) := by
  refine PE.imp (pe_ifExp ht ha hb) fun σ H Q h => ?_
  obtain ⟨W, c, env, Q0, X0, e, ok, eo, h, q, x⟩ := h
  refine ⟨W, c, env, _, X0, e, ok, eo, h, fun v H' ⟨W1, c1, e1, x1, ok1, k⟩ => ?_, x⟩
  cases v with
  | true =>
    rw [if_pos rfl]
    exact ⟨W1, c1, env, Q0, X0, e1, ok1, eo.mono ok x1, k, fun v H' p => q v H' (p.up x1), fun cls dd H' p => x cls dd H' (p.up x1)⟩
  | false =>
    rw [if_neg Bool.false_ne_true]
    exact ⟨W1, c1, env, Q0, X0, e1, ok1, eo.mono ok x1, k, fun v H' p => q v H' (p.up x1), fun cls dd H' p => x cls dd H' (p.up x1)⟩
theorem sa_nil : PA X [] (liftL G Wx (wpA I .nil)) := by
  refine PA.imp pa_nil fun σ H Q ⟨W, c, env, Q0, X0, e, ok, eo, h, q, x⟩ => ?_
  subst e
  exact q _ _ ⟨W, c, [], rfl, Ext.refl W, ok, .nil, h⟩
abbrev consF (A : FA1) (L : FAL) : FAL := fun env c Q X => A env c (fun d c1 => L env c1 (fun ds c2 => Q (d :: ds) c2) X) X
theorem sa_cons {es : List Expr} {L : FAL} (hn : noStar e = true) (ha : PE X e (lift G Wx A)) (hr : PA X es (liftL G Wx L)) : PA X (e :: es) (liftL G Wx (consF A L)) := by
  refine PA.imp (pa_consN hn ha hr) fun σ H Q ⟨W, c, env, Q0, X0, e, ok, eo, h, q, x⟩ => ?_
  refine ⟨W, c, env, _, X0, e, ok, eo, h, fun v H' ⟨W1, c1, d, e1, x1, ok1, dn, k⟩ => ?_, x⟩
  refine ⟨W1, c1, env, _, X0, e1, ok1, eo.mono ok x1, k, fun vs H2 ⟨W2, c2, ds, e2, x2, ok2, dn2, k2⟩ => ?_, fun cls dd H' p => x cls dd H' (p.up x1)⟩
  exact q _ _ ⟨W2, c2, d :: ds, e2, x1.trans x2, ok2, .cons (dn.mono ok1 x2) dn2, k2⟩
/-- the same, the number of the values known -/
def liftLN (G : GI) (Wx : WX) (n : Nat) (A : FAL) : TA := fun σ H Q => ∃ W c env Q0 X0, W.H = H ∧ Ok G W c ∧ EnvOk G W σ env ∧ A env c Q0 X0 ∧ (∀ v H', PostL G W (fun ds c => ds.length = n ∧ Q0 ds c) v H' → Q v H') ∧ (∀ cls dd H', XPost G W X0 cls dd H' → Wx cls dd σ H')
theorem pa_ofN {es : List Expr} {n : Nat} {L : FAL} (h : PA X es (liftLN G Wx n L)) : PA X es (liftL G Wx L) := PA.imp h fun σ H Q ⟨W, c, env, Q0, X0, e, ok, eo, h, q, x⟩ =>
  ⟨W, c, env, Q0, X0, e, ok, eo, h, fun v H' ⟨W1, c1, ds, e1, x1, ok1, dn, k⟩ => q v H' ⟨W1, c1, ds, e1, x1, ok1, dn, k.2⟩, x⟩
theorem sa_nilN : PA X [] (liftLN G Wx 0 (wpA I .nil)) := by
  refine PA.imp pa_nil fun σ H Q ⟨W, c, env, Q0, X0, e, ok, eo, h, q, x⟩ => ?_
  subst e
  exact q _ _ ⟨W, c, [], rfl, Ext.refl W, ok, .nil, rfl, h⟩
theorem sa_consN {es : List Expr} {n : Nat} {L : FAL} (hn : noStar e = true) (ha : PE X e (lift G Wx A)) (hr : PA X es (liftLN G Wx n L)) : PA X (e :: es) (liftLN G Wx (n + 1) (consF A L)) := by
  refine PA.imp (pa_consN hn ha hr) fun σ H Q ⟨W, c, env, Q0, X0, e, ok, eo, h, q, x⟩ => ?_
  refine ⟨W, c, env, _, X0, e, ok, eo, h, fun v H' ⟨W1, c1, d, e1, x1, ok1, dn, k⟩ => ?_, x⟩
  refine ⟨W1, c1, env, _, X0, e1, ok1, eo.mono ok x1, k, fun vs H2 ⟨W2, c2, ds, e2, x2, ok2, dn2, k2⟩ => ?_, fun cls dd H' p => x cls dd H' (p.up x1)⟩
  exact q _ _ ⟨W2, c2, d :: ds, e2, x1.trans x2, ok2, .cons (dn.mono ok1 x2) dn2, by rw [List.length_cons, k2.1], k2.2⟩
theorem se_tup {es : List Expr} {L : FAL} {k : Nat} (h : PA X es (liftL G Wx L)) : PE X (.Tuple es k pos) (lift G Wx (fun env c Q X => L env c (fun ds c1 => ds.length ≤ 16777216 ∧ Q (.tup ds) c1) X)) := by
  refine PE.imp (pe_tup h) fun σ H Q ⟨W, c, env, Q0, X0, e, ok, eo, h, q, x⟩ => ?_
  refine ⟨W, c, env, _, X0, e, ok, eo, h, fun vs H' ⟨W1, c1, ds, e1, x1, ok1, dn, k⟩ => ?_, x⟩
  subst e1
  exact ⟨by rw [line_eq, dn.length]; exact k.1, newT_ok ok1 dn k.2 fun v H' p => q v H' (p.up x1)⟩
theorem se_lst {es : List Expr} {L : FAL} {m : Bool} (h : PA X es (liftL G Wx L)) : PE X (.List es pos) (lift G Wx (fun env c Q X => L env c (fun ds c1 => ds.length ≤ 16777216 ∧ newL m ds c1 Q) X)) := by
  refine PE.imp (pe_lst h) fun σ H Q ⟨W, c, env, Q0, X0, e, ok, eo, h, q, x⟩ => ?_
  refine ⟨W, c, env, _, X0, e, ok, eo, h, fun vs H' ⟨W1, c1, ds, e1, x1, ok1, dn, k⟩ => ?_, x⟩
  subst e1
  exact ⟨by rw [line_eq, dn.length]; exact k.1, newL_ok ok1 dn k.2 fun v H' p => q v H' (p.up x1)⟩
end
end F

namespace F
open PySem PySem.Spec L2
section
variable {G : GI} {I : CI} {lv : Nat} {Wx : WX} {sc : Scope} {N : List Str} {fnB : Str → Bool} {X : Cx} {a b e : Expr} {pos : Pos} {A B C : FA1}
theorem cut_den {W : Wd} {vs : List V} {xs : List D} (h : DenL G W vs xs) (lo hi : Option Int) : DenL G W (cutV vs lo hi) (cutD xs lo hi) := by
  unfold cutV cutD
  rw [h.length]
  exact (h.drop _).take _
/-- parts of a slice -/
structure SO (G : GI) (Wx : WX) (X : Cx) (o : Option Expr) (L : FAL) : Prop where
  po : PO X o (fun σ H Q => ∃ W c env Q0 X0, W.H = H ∧ Ok G W c ∧ EnvOk G W σ env ∧ L env c Q0 X0 ∧ (∀ W' c' ds, Ext W W' → Ok G W' c' → Q0 ds c' → ∃ l, partOf ds = some l ∧ Q l W'.H) ∧ (∀ cls dd H', XPost G W X0 cls dd H' → Wx cls dd σ H'))
theorem so0 : SO G Wx X none (wpA I .nil) := by
  refine ⟨⟨fun pins s σ H Q I h => po_none.run pins s σ H Q I ?_⟩⟩
  obtain ⟨W, c, env, Q0, X0, e, ok, eo, h, q, x⟩ := h
  subst e
  obtain ⟨l, e, k⟩ := q W c [] (Ext.refl W) ok h
  cases e
  exact k
theorem po_someN {te : TE} (h : PE X a te) : PO X (some a) (fun σ H Q => te σ H fun x H1 => ∃ o, ((x = .non ∧ o = none) ∨ ∃ i, x = .int i ∧ o = some i) ∧ Q o H1) := by
  refine ⟨fun pins s σ H Q I hw => ?_⟩
  rw [PySem.evalPart_some]
  refine thn (h.run pins s σ H _ I hw) fun u s1 ⟨x, H1, I1, r1, o, h1, q⟩ => ?_
  rcases h1 with ⟨rfl, rfl⟩ | ⟨i, rfl, rfl⟩
  · cases r1
    exact ⟨none, H1, I1, .none, q⟩
  · obtain ⟨t, rfl⟩ := r1
    exact ⟨some i, H1, I1, .int i t, q⟩
theorem so1 (ha : PE X a (lift G Wx A)) : SO G Wx X (some a) (consF A (wpA I .nil)) := by
  refine ⟨⟨fun pins s σ H Q I h => (po_someN ha).run pins s σ H Q I ?_⟩⟩
  obtain ⟨W, c, env, Q0, X0, e, ok, eo, h, q, x⟩ := h
  refine ⟨W, c, env, _, X0, e, ok, eo, h, fun v H' ⟨W1, c1, d, e1, x1, ok1, dn, k⟩ => ?_, x⟩
  obtain ⟨l, k1, k2⟩ := q W1 c1 _ x1 ok1 k
  unfold partOf at k1
  split at k1
  · rename_i z; cases z
  · rename_i i z
    cases k1
    have ed : d = .int i := by simpa using z
    subst ed
    rw [den_int dn]
    exact ⟨_, .inr ⟨i, rfl, rfl⟩, by rw [← e1]; exact k2⟩
  · rename_i z
    cases k1
    have ed : d = .non := by simpa using z
    subst ed
    cases dn
    exact ⟨_, .inl ⟨rfl, rfl⟩, by rw [← e1]; exact k2⟩
  · cases k1
theorem slc_fin (hK : X.K = G.K) {W : Wd} {c : Cs} {m : Bool} {v : V} {d : D} {lo hi : Option Int} {Q0 : QE} {Q : VK} (ok : Ok G W c) (dn : Den G W v d) (k : slcO m c Q0 d lo hi) (q : ∀ v H', Post G W Q0 v H' → Q v H') : rSlL X.K v lo hi W.H Q ∨ rSlA X.K v lo hi W.H Q := by
  unfold slcO at k
  split at k
  · rename_i zs
    obtain ⟨p, vs, rfl, ta, da⟩ := den_tup dn
    refine .inr ⟨p, vs, rfl, by rw [hK]; exact ta.seq, fun hw => ?_, fun _ => newT_ok ok (cut_den da lo hi) k q⟩
    have e5 : cutD zs lo hi = zs := by
      unfold cutD
      rw [← da.length, hw.1, hw.2, List.drop_zero, Nat.sub_zero, da.length, List.take_length]
    rw [e5] at k
    exact q _ _ (Post.now ok (.tup ta da) k)
  · obtain ⟨xs, hx, k⟩ := onO_of k
    obtain ⟨p, vs, rfl, ha, da⟩ := den_getR ok dn hx
    exact .inl ⟨p, vs, rfl, by rw [hK]; exact ha, newL_ok ok (cut_den da lo hi) k q⟩
abbrev slF (m : Bool) (A : FA1) (L U : FAL) : FA1 := fun env c Q X => A env c (fun x c1 => L env c1 (fun l c2 => onO (partOf l) fun lo' => U env c2 (fun h c3 => onO (partOf h) fun hi' => slcO m c3 Q x lo' hi') X) X) X
theorem se_slc (o : XOk G I lv Wx sc N fnB X) {m : Bool} {lo hi : Option Expr} {L U : FAL} {p2 : Pos} (ha : PE X a (lift G Wx A)) (hl : SO G Wx X lo L) (hu : SO G Wx X hi U) : PE X (.Subscript a (.Slice lo hi none p2) pos) (lift G Wx (slF m A L U)) := by
  refine PE.imp (pe_slice (sl_list.or sl_tupA) ha hl.po hu.po) fun σ H Q h => ?_
  obtain ⟨W, c, env, Q0, X0, e, ok, eo, h, q, x⟩ := h
  refine ⟨W, c, env, _, X0, e, ok, eo, h, fun v H' ⟨W1, c1, d, e1, x1, ok1, dn, k⟩ => ?_, x⟩
  refine ⟨W1, c1, env, _, X0, e1, ok1, eo.mono ok x1, k, fun W2 c2 l x2 ok2 k2 => ?_, fun cls dd H' p => x cls dd H' (p.up x1)⟩
  obtain ⟨lo', el, k2⟩ := onO_of k2
  refine ⟨lo', el, ?_⟩
  refine ⟨W2, c2, env, _, X0, rfl, ok2, (eo.mono ok x1).mono ok1 x2, k2, fun W3 c3 l x3 ok3 k3 => ?_, fun cls dd H' p => x cls dd H' ((p.up x2).up x1)⟩
  obtain ⟨hi', eh, k3⟩ := onO_of k3
  refine ⟨hi', eh, ?_⟩
  have dn3 := (dn.mono ok1 x2).mono ok2 x3
  have q' : ∀ v H', Post G W3 Q0 v H' → Q v H' := fun v H' p => q v H' (((p.up x3).up x2).up x1)
  exact slc_fin o.hK ok3 dn3 k3 q'

theorem se_rev (o : XOk G I lv Wx sc N fnB X) {m : Bool} {k : Nat} {p1 p2 p3 : Pos} (ha : PE X a (lift G Wx A)) : PE X (.Subscript a (.Slice none none (some (.UnaryOp .USub (.Constant (.int 1) k p1) p2)) p3) pos)
    (lift G Wx (fun env c Q X => A env c (fun d c1 => onO (getR c1 d) fun xs => newL m xs.reverse c1 Q) X)) := by
  refine PE.imp (pe_revL ha) fun σ H Q h => ?_
  obtain ⟨W, c, env, Q0, X0, e, ok, eo, h, q, x⟩ := h
  refine ⟨W, c, env, _, X0, e, ok, eo, h, fun v H' ⟨W1, c1, d, e1, x1, ok1, dn, k⟩ => ?_, x⟩
  obtain ⟨xs, hx, k⟩ := onO_of k
  obtain ⟨p, vs, rfl, ha, da⟩ := den_getR ok1 dn hx
  subst e1
  exact ⟨p, vs, rfl, by rw [o.hK]; exact ha, newL_ok ok1 da.reverse k fun v H' p => q v H' (p.up x1)⟩

theorem lookup_zip {k : Nat} : ∀ {gs : List (Str × V)} {fl : List Str} {j : Nat} {f : Str} {v : V}, gs.map (·.1) = fl → fl.Nodup → fl[j]? = some f → (gs.map (·.2))[j]? = some v → gs.lookup f = some v
  | [], fl, j, f, v, e, _, h, _ => by subst e; simp at h
  | (g, w) :: gs, fl, 0, f, v, e, _, h, h2 => by
    subst e
    simp at h h2
    subst h; subst h2
    simp [List.lookup]
  | (g, w) :: gs, fl, j + 1, f, v, e, nd, h, h2 => by
    subst e
    simp only [List.map_cons, List.nodup_cons] at nd
    have h' : (gs.map (·.1))[j]? = some f := by simpa using h
    have ne : (f == g) = false := by
      have hm : f ∈ gs.map (·.1) := List.mem_of_getElem? h'
      exact beq_eq_false_iff_ne.mpr fun z => nd.1 (by rw [← z]; exact hm)
    simp only [List.lookup, ne]
    exact lookup_zip (k := k) (j := j) rfl nd.2 h' (by simpa using h2)
abbrev atF (k j : Nat) (A : FA1) : FA1 := fun env c Q X => A env c (fun d c1 => match d with
    | .obj k' fs => k = k' ∧ onO fs[j]? fun v => Q v c1
    | .cell n => match c1[n]? with
      | some (.obj k' fs) => k = k' ∧ onO fs[j]? fun v => Q v c1
      | _ => False
    | _ => False) X
theorem se_attr (o : XOk G I lv Wx sc N fnB X) {k j : Nat} {f : Str} (hn : notCall a = true) (hk : k < I.nk) (hf : (I.flds k)[j]? = some f) (hd : (I.flds k).Nodup) (ha : PE X a (lift G Wx A)) : PE X (.Attribute a f pos) (lift G Wx (atF k j A)) := by
  refine PE.imp (pe_fld ha (base_of hn)) fun σ H Q h => ?_
  obtain ⟨W, c, env, Q0, X0, e, ok, eo, h, q, x⟩ := h
  refine ⟨W, c, env, _, X0, e, ok, eo, h, fun v H' ⟨W1, c1, d, e1, x1, ok1, dn, h⟩ => ?_, x⟩
  obtain ⟨cl, na⟩ := o.glob.cls k hk
  have hfm : f ∈ G.flds k := by rw [← o.glob.flds]; exact List.mem_of_getElem? hf
  rw [o.glob.flds] at hf hd
  subst e1
  split at h
  · obtain ⟨rfl, h⟩ := h
    obtain ⟨z, hz, h⟩ := onO_of h
    cases dn with
    | obj fz hH en t =>
      obtain ⟨w, hw, dw⟩ := t.get hz
      have hj := (List.getElem?_eq_some_iff.mp hz).1
      exact ⟨_, _, _, _, w, rfl, hH, by rw [o.hK]; exact cl, by rw [o.hK]; exact na f hfm, lookup_zip (k := k) en (hd.sublist (List.take_sublist _ _)) (by rw [List.getElem?_take_of_lt hj]; exact hf) hw, q _ _ ⟨W1, c1, z, rfl, x1, ok1, dw, h⟩⟩
  · split at h
    · rename_i n _ k' fs hc
      obtain ⟨rfl, h⟩ := h
      obtain ⟨z, hz, h⟩ := onO_of h
      cases dn with
      | cell ha =>
        obtain ⟨y, hy, ca⟩ := ok1.at ha
        rw [hc] at hy; cases hy
        obtain ⟨dx, gs, hH, en, t⟩ := ca
        obtain ⟨w, hw, dw⟩ := t.get hz
        have hj : j < fs.length := (List.getElem?_eq_some_iff.mp hz).1
        refine ⟨_, _, dx, gs, w, rfl, hH, by rw [o.hK]; exact cl, by rw [o.hK]; exact na f hfm, lookup_zip (k := k) en (hd.sublist (List.take_sublist _ _)) (by rw [List.getElem?_take_of_lt hj]; exact hf) hw, q _ _ ⟨W1, c1, z, rfl, x1, ok1, dw, h⟩⟩
    · exact h.elim
  · exact h.elim

theorem call_ok {W : Wd} {c : Cs} {np : Nat} (ok : Ok G W c) {vs : List V} {as : List D} {phi : Phi} {Q0 : QE} {X0 : QX} {Q : VK} {E : XK} (hv : DenL G W vs as) (hl : as.length = np) (h : phi as c Q0 X0)
    (q : ∀ v H', Post G W Q0 v H' → Q v H') (x : ∀ cls dd H', XPost G W X0 cls dd H' → E cls dd H') : spF G np phi vs W.H Q E := ⟨W, c, as, Q0, X0, rfl, ok, hv, hl, h, q, x⟩
abbrev caF (phi : Phi) (L : FAL) : FA1 := fun env c Q X => L env c (fun ds c1 => phi ds c1 Q X) X
theorem pass_x (o : XOk G I lv Wx sc N fnB X) : ∀ σ, PassesAt (L2.CX X.prog X.w) X σ (WE Wx σ) := fun σ => passAt o.tk σ
theorem room_x (o : XOk G I lv Wx sc N fnB X) : Room lv X.A := o.room.mono (Nat.le_succ _)
/-- the arguments' number, known ahead -/
theorem call_red {L : FAL} {f : Nat} {σ : L2.St} {H : Hp} {Q : VK} (h : lift G Wx (caF (I.phi f) L) σ H Q) :
    tCallN (spF G (I.np f) (I.phi f)) (WE Wx) (liftLN G Wx (I.np f) L) σ H Q := by
  obtain ⟨W, c, env, Q0, X0, e, ok, eo, h, q, x⟩ := h
  refine ⟨W, c, env, _, X0, e, ok, eo, h, fun vs H' ⟨W1, c1, ds, e1, x1, ok1, dn, hl, k⟩ => ?_, x⟩
  subst e1
  exact call_ok ok1 dn hl k (fun v H' p => q v H' (p.up x1)) fun cls dd H' p => x cls dd H' (p.up x1)
theorem se_call (o : XOk G I lv Wx sc N fnB X) {f : Nat} {x : Str} {es : List Expr} {L : FAL} {p : Pos} (hf : 2 * f + 2 ≤ lv) (hk : I.kind f = .fn x) (hg : glB sc x = true) (hst : (e :: es).all noStar = true)
    (ha : PA X (e :: es) (liftLN G Wx (I.np f) L)) : PE X (.Call (.Name x p) (e :: es) [] pos) (lift G Wx (caF (I.phi f) L)) := by
  obtain ⟨g, hd, _⟩ := gl_of o hg
  obtain ⟨fa, hm, kp, ⟨fd, ps, hps, hb, F⟩⟩ := o.glob.fn f x hf hk
  rw [← o.hmg] at hm
  rw [← o.hK] at kp hb
  rw [← o.hmg] at F
  have F' : FnOk X.prog X.w X.K X.mg X.base (L2.CX X.prog X.w) lv fa fd ps (spF G (I.np f) (I.phi f)) := by rw [o.hK]; exact F
  exact PE.imp (pe_callN F' (room_x o) g hm kp hb (pass_x o) hd hst ha) fun σ H Q h => call_red h
theorem se_call0 (o : XOk G I lv Wx sc N fnB X) {f : Nat} {x : Str} {p : Pos} (hf : 2 * f + 2 ≤ lv) (hk : I.kind f = .fn x) (hg : glB sc x = true) (hnp : I.np f = 0) : PE X (.Call (.Name x p) [] [] pos) (lift G Wx (caF (I.phi f) (wpA I .nil))) := by
  obtain ⟨g, hd, _⟩ := gl_of o hg
  obtain ⟨fa, hm, kp, ⟨fd, ps, hps, hb, F⟩⟩ := o.glob.fn f x hf hk
  rw [← o.hmg] at hm
  rw [← o.hK] at kp hb
  rw [← o.hmg] at F
  have F' : FnOk X.prog X.w X.K X.mg X.base (L2.CX X.prog X.w) lv fa fd ps (spF G (I.np f) (I.phi f)) := by rw [o.hK]; exact F
  refine PE.imp (pe_callN0 F' (room_x o) g hm kp hb (pass_x o) hd) fun σ H Q h => ?_
  obtain ⟨W, c, env, Q0, X0, e, ok, eo, h, q, x⟩ := h
  subst e
  exact call_ok ok .nil (by rw [hnp]; rfl) h q x
abbrev meF (I : CI) (f : Nat) (A : FA1) (L : FAL) : FA1 := fun env c Q X => A env c (fun d c0 => objIs c0 (I.kind f) d = true ∧ L env c0 (fun ds c1 => I.phi f (d :: ds) c1 Q X) X) X
theorem objIs_den {W : Wd} {c : Cs} (ok : Ok G W c) {v : V} {d : D} {k : Nat} {x : Str} (h : Den G W v d) (e : objIs c (.mth k x) d = true) : ∃ a dx gs, v = .ref a ∧ W.H a = some (.ins (G.cls k) dx gs) ∧ ∀ f ∈ gs.map (·.1), f ∈ G.flds k := by
  unfold objIs at e
  split at e
  · cases h with
    | obj fz hH en t =>
      have ek := eq_of_beq e
      subst ek
      exact ⟨_, _, _, rfl, hH, fun f hf => by rw [en] at hf; exact List.mem_of_mem_take hf⟩
  · split at e
    · rename_i n _ k' fs hc
      have ek := eq_of_beq e
      subst ek
      cases h with
      | cell ha =>
        obtain ⟨y, hy, ca⟩ := ok.at ha
        rw [hc] at hy; cases hy
        obtain ⟨dx, gs, hH, en, t⟩ := ca
        exact ⟨_, dx, gs, rfl, hH, fun f hf => by rw [en] at hf; exact List.mem_of_mem_take hf⟩
    · cases e
  · cases e
theorem lookup_none {gs : List (Str × V)} {x : Str} (h : x ∉ gs.map (·.1)) : gs.lookup x = none := by
  induction gs with
  | nil => rfl
  | cons p gs ih =>
    obtain ⟨g, w⟩ := p
    simp only [List.map_cons, List.mem_cons, not_or] at h
    have e : (x == g) = false := beq_eq_false_iff_ne.mpr h.1
    simp only [List.lookup, e]
    exact ih h.2
theorem se_meth (o : XOk G I lv Wx sc N fnB X) {f k : Nat} {x : Str} {es : List Expr} {L : FAL} {apos : Pos} (hf : 2 * f + 2 ≤ lv) (hk : I.kind f = .mth k x) (hst : (e :: es).all noStar = true) (hno : notCall a = true) (hlen : (e :: es).length < 30) (hline : (apos.endLine == pos.line) = true)
    {n : Nat} (hnum : n + 1 = I.np f) (hA : PE X a (lift G Wx A)) (ha : PA X (e :: es) (liftLN G Wx n L)) : PE X (.Call (.Attribute a x apos) (e :: es) [] pos) (lift G Wx (meF I f A L)) := by
  obtain ⟨fa, cl, me, hx, ⟨fd, ps, hps, hb, F⟩⟩ := o.glob.mth f k x hf hk
  rw [← o.hK] at hb cl me
  rw [← o.hmg] at F
  have F' : FnOk X.prog X.w X.K X.mg X.base (L2.CX X.prog X.w) lv fa fd ps (spF G (I.np f) (I.phi f)) := by rw [o.hK]; exact F
  refine PE.imp (pe_methN hA cl me F' (room_x o) hb (pass_x o) ha hst hno hlen hline) fun σ H Q h => ?_
  obtain ⟨W, c, env, Q0, X0, e, ok, eo, h, q, x⟩ := h
  refine ⟨W, c, env, _, X0, e, ok, eo, h, fun v H' ⟨W1, c1, d, e1, x1, ok1, dn, ho, k1⟩ => ?_, x⟩
  rw [hk] at ho
  obtain ⟨p, dx, gs, rfl, hH, hg⟩ := objIs_den ok1 dn ho
  subst e1
  refine ⟨p, dx, gs, rfl, hH, lookup_none fun z => hx (hg _ z), W1, c1, env, _, X0, rfl, ok1, eo.mono ok x1, k1, fun vs H' ⟨W2, c2, ds, e2, x2, ok2, dn2, hl, k2⟩ => ?_, fun cls dd H' p => x cls dd H' (p.up x1)⟩
  subst e2
  exact call_ok ok2 (.cons (dn.mono ok1 x2) dn2) (by rw [List.length_cons, hl]; exact hnum) k2 (fun v H' p => q v H' ((p.up x2).up x1)) fun cls dd H' p => x cls dd H' ((p.up x2).up x1)
theorem se_meth0 (o : XOk G I lv Wx sc N fnB X) {f k : Nat} {x : Str} {apos : Pos} (hf : 2 * f + 2 ≤ lv) (hk : I.kind f = .mth k x) (hno : notCall a = true) (hline : (apos.endLine == pos.line) = true) (hnp : I.np f = 1)
    (hA : PE X a (lift G Wx A)) : PE X (.Call (.Attribute a x apos) [] [] pos) (lift G Wx (meF I f A (wpA I .nil))) := by
  obtain ⟨fa, cl, me, hx, ⟨fd, ps, hps, hb, F⟩⟩ := o.glob.mth f k x hf hk
  rw [← o.hK] at hb cl me
  rw [← o.hmg] at F
  have F' : FnOk X.prog X.w X.K X.mg X.base (L2.CX X.prog X.w) lv fa fd ps (spF G (I.np f) (I.phi f)) := by rw [o.hK]; exact F
  refine PE.imp (pe_methN0 hA cl me F' (room_x o) hb (pass_x o) hno hline) fun σ H Q h => ?_
  obtain ⟨W, c, env, Q0, X0, e, ok, eo, h, q, x⟩ := h
  refine ⟨W, c, env, _, X0, e, ok, eo, h, fun v H' ⟨W1, c1, d, e1, x1, ok1, dn, ho, k1⟩ => ?_, x⟩
  rw [hk] at ho
  obtain ⟨p, dx, gs, rfl, hH, hg⟩ := objIs_den ok1 dn ho
  subst e1
  refine ⟨p, dx, gs, rfl, hH, lookup_none fun z => hx (hg _ z), ?_⟩
  exact call_ok ok1 (.cons dn .nil) (by rw [hnp]; rfl) k1 (fun v H' p => q v H' (p.up x1)) fun cls dd H' p => x cls dd H' (p.up x1)
abbrev mkF (I : CI) (k f : Nat) (L : FAL) : FA1 := fun env c Q X => L env c (fun ds c1 => I.phi f (.cell c1.length :: ds) (c1 ++ [.obj k []]) (fun d c2 => match d with
    | .non => Q (.cell c1.length) c2
    | _ => False) X) X
theorem se_make (o : XOk G I lv Wx sc N fnB X) {f k : Nat} {x : Str} {es : List Expr} {L : FAL} {p : Pos} (hf : 2 * f + 2 ≤ lv) (hk : I.kind f = .ini k x) (hg : glB sc x = true) (hst : (e :: es).all noStar = true)
    {n : Nat} (hnum : n + 1 = I.np f) (ha : PA X (e :: es) (liftLN G Wx n L)) : PE X (.Call (.Name x p) (e :: es) [] pos) (lift G Wx (mkF I k f L)) := by
  obtain ⟨g, hd, _⟩ := gl_of o hg
  obtain ⟨fa, mk, hm, ⟨fd, ps, hps, hb, F⟩⟩ := o.glob.ini f k x hf hk
  rw [← o.hmg] at hm
  rw [← o.hK] at mk hb
  rw [← o.hmg] at F
  have F' : FnOk X.prog X.w X.K X.mg X.base (L2.CX X.prog X.w) lv fa fd ps (spF G (I.np f) (I.phi f)) := by rw [o.hK]; exact F
  refine PE.imp (pe_makeN mk F' o.room g hm hb (pass_x o) ha hd hst) fun σ H Q h => ?_
  obtain ⟨W, c, env, Q0, X0, e, ok, eo, h, q, x⟩ := h
  refine ⟨W, c, env, _, X0, e, ok, eo, h, fun vs H' ⟨W1, c1, ds, e1, x1, ok1, dn, hl, k1⟩ => ?_, x⟩
  subst e1
  intro y dx ny ndx ne
  -- the new instance's own dict, then the instance as a cell
  obtain ⟨xa, oka⟩ := ok1.alloc ndx (.own y)
  have ny' : upd W1.H dx (.own y) y = none := by rw [upd_ne (Ne.symm ne)]; exact ny
  have hcell : CellAt G (Wd.cellAt { W1 with H := upd W1.H dx (.own y) } y (.ins (G.cls k) dx [])) y (.obj k []) := ⟨dx, [], upd_same, by simp, .nil⟩
  obtain ⟨xb, okb⟩ := oka.allocC ny' (.ins (G.cls k) dx []) hcell
  have hat : (Wd.cellAt { W1 with H := upd W1.H dx (.own y) } y (.ins (G.cls k) dx [])).as[c1.length]? = some y := by
    show (W1.as ++ [y])[c1.length]? = some y
    rw [← ok1.len, List.getElem?_append_right (Nat.le_refl _)]
    simp
  have xab := xa.trans xb
  refine call_ok okb (.cons (.cell hat) ((dn.mono ok1 xa).mono oka xb)) (by rw [List.length_cons, hl]; exact hnum) k1 (fun v H' p => ?_) fun cls dd H' p => x cls dd H' ((p.up xab).up x1)
  obtain ⟨W2, c2, d, e2, x2, ok2, dn2, k2⟩ := p
  cases dn2 with
  | non => exact ⟨rfl, q _ _ (Post.up x1 ⟨W2, c2, _, e2, xab.trans x2, ok2, .cell (x2.get hat), k2⟩)⟩
  | _ => exact k2.elim

abbrev biF (op : Bi) (m : Bool) (L : FAL) : FA1 := fun env c Q X => L env c (fun ds c1 => wpBi op m ds c1 Q) X
theorem bi_red {op : Bi} {m : Bool} {L : FAL} {σ : L2.St} {H : Hp} {Q : VK} (h : lift G Wx (biF op m L) σ H Q) : tCB (RC G op m) (liftL G Wx L) σ H Q := by
  obtain ⟨W, c, env, Q0, X0, e, ok, eo, h, q, x⟩ := h
  exact ⟨W, c, env, _, X0, e, ok, eo, h, fun vs H' ⟨W1, c1, ds, e1, x1, ok1, dn, k⟩ => ⟨W1, c1, ds, Q0, e1, ok1, dn, k, fun v H' p => q v H' (p.up x1)⟩, x⟩
theorem se_bi (o : XOk G I lv Wx sc N fnB X) {op : Bi} {m : Bool} {es : List Expr} {L : FAL} {p : Pos} (hb : biOk op = true) (hg : glB sc (biName op) = true) (hst : (e :: es).all noStar = true) (ha : PA X (e :: es) (liftL G Wx L)) :
    PE X (.Call (.Name (biName op) p) (e :: es) [] pos) (lift G Wx (biF op m L)) := by
  obtain ⟨g, hd, hn⟩ := gl_of o hg
  have hm : ∀ x ∈ blNames, X.mg x = none := fun x hx => by rw [o.hmg]; exact o.glob.bl x hx
  cases op with
  | len => exact PE.imp (pe_callBN (callr_len o.hK) g (hm _ (by decide +kernel)) (by decide +kernel) ha hn hd hst) fun σ H Q h => bi_red h
  | abs => exact PE.imp (pe_callBN callr_abs g (hm _ (by decide +kernel)) (by decide +kernel) ha hn hd hst) fun σ H Q h => bi_red h
  | max => exact PE.imp (pe_callBN (callr_max o.hK o.calm) g (hm _ (by decide +kernel)) (by decide +kernel) ha hn hd hst) fun σ H Q h => bi_red h
  | min => exact PE.imp (pe_callBN (callr_min o.hK (hu_x1 o) o.calm) g (hm _ (by decide +kernel)) (by decide +kernel) ha hn hd hst) fun σ H Q h => bi_red h
  | sum => exact PE.imp (pe_callBN (callr_sum o.hK o.calm) g (hm _ (by decide +kernel)) (by decide +kernel) ha hn hd hst) fun σ H Q h => bi_red h
  | all => exact PE.imp (pe_callBN (callr_all o.hK o.calm) g (hm _ (by decide +kernel)) (by decide +kernel) ha hn hd hst) fun σ H Q h => bi_red h
  | any => exact PE.imp (pe_callBN (callr_any o.hK o.calm) g (hm _ (by decide +kernel)) (by decide +kernel) ha hn hd hst) fun σ H Q h => bi_red h
  | int => exact PE.imp (pe_callTyN callr_int g (hm _ (by decide +kernel)) (by decide +kernel) ha hn hd hst) fun σ H Q h => bi_red h
  | list => exact PE.imp (pe_callTyN (callr_list o.hK) g (hm _ (by decide +kernel)) (by decide +kernel) ha hn hd hst) fun σ H Q h => bi_red h
  | tuple => exact PE.imp (pe_callTyN (callr_tuple o.hK) g (hm _ (by decide +kernel)) (by decide +kernel) ha hn hd hst) fun σ H Q h => bi_red h
  | sorted => exact PE.imp (pe_callBN (callr_sorted o.hK o.glob.hw (hu_x1 o) o.calm) g (hm _ (by decide +kernel)) (by decide +kernel) ha hn hd hst) fun σ H Q h => bi_red h
  | str => cases hb
  | dict => cases hb
abbrev mtF (op : Mt) (A : FA1) (L : FAL) : FA1 := fun env c Q X => A env c (fun d c1 => onO (getL c1 d) fun _ => L env c1 (fun ds c2 => wpMt op d ds c2 Q) X) X
theorem mt_red (hK : X.K = G.K) {op : Mt} {L : FAL} {σ : L2.St} {H : Hp} {Q : VK} (h : lift G Wx (mtF op A L) σ H Q) : tBM X.K "list" (RM G op) (lift G Wx A) (liftL G Wx L) σ H Q := by
  obtain ⟨W, c, env, Q0, X0, e, ok, eo, h, q, x⟩ := h
  refine ⟨W, c, env, _, X0, e, ok, eo, h, fun v H' ⟨W1, c1, d, e1, x1, ok1, dn, k⟩ => ?_, x⟩
  obtain ⟨xs, hx, k⟩ := onO_of k
  obtain ⟨p, vs, rfl, hv, t⟩ := den_getL ok1 dn hx
  subst e1
  refine ⟨.inl ⟨rfl, vs, SqL.of hv⟩, W1, c1, env, _, X0, rfl, ok1, eo.mono ok x1, k, fun ws H' ⟨W2, c2, ds, e2, x2, ok2, dn2, k2⟩ => ?_, fun cls dd H' p => x cls dd H' (p.up x1)⟩
  exact ⟨W2, c2, _, ds, Q0, e2, ok2, dn.mono ok1 x2, dn2, k2, fun v H' p => q v H' ((p.up x2).up x1)⟩
theorem se_mt (o : XOk G I lv Wx sc N fnB X) {op : Mt} {es : List Expr} {L : FAL} {apos : Pos} (hm : mtOk op = true) (hno : notCall a = true) (hst : (e :: es).all noStar = true) (hlen : (e :: es).length < 30) (hline : (apos.endLine == pos.line) = true) (hA : PE X a (lift G Wx A)) (ha : PA X (e :: es) (liftL G Wx L)) :
    PE X (.Call (.Attribute a (mtName op) apos) (e :: es) [] pos) (lift G Wx (mtF op A L)) := by
  cases op with
  | append => exact PE.imp (pe_bmN PySem.F.plainAttrs_list PySem.F.slot_list_append PySem.F.type_list_append mtr_append hA ha hno hst hlen hline) fun σ H Q h => mt_red o.hK h
  | extend => exact PE.imp (pe_bmN PySem.F.plainAttrs_list PySem.F.slot_list_extend PySem.F.type_list_extend mtr_extend hA ha hno hst hlen hline) fun σ H Q h => mt_red o.hK h
  | insert => exact PE.imp (pe_bmN PySem.F.plainAttrs_list PySem.F.slot_list_insert PySem.F.type_list_insert mtr_insert hA ha hno hst hlen hline) fun σ H Q h => mt_red o.hK h
  | popAt => exact PE.imp (pe_bmN PySem.F.plainAttrs_list PySem.F.slot_list_pop PySem.F.type_list_pop mtr_popAt hA ha hno hst hlen hline) fun σ H Q h => mt_red o.hK h
  | _ => cases hm
theorem se_mt0 (o : XOk G I lv Wx sc N fnB X) {op : Mt} {apos : Pos} (hm : mt0Ok op = true) (hno : notCall a = true) (hline : (apos.endLine == pos.line) = true) (hA : PE X a (lift G Wx A)) :
    PE X (.Call (.Attribute a (mtName op) apos) [] [] pos) (lift G Wx (mtF op A (wpA I .nil))) := by
  have red : ∀ {op : Mt} {σ : L2.St} {H : Hp} {Q : VK}, lift G Wx (mtF op A (wpA I .nil)) σ H Q → tBM0 X.K "list" (RM G op) (lift G Wx A) σ H Q := fun {op σ H Q} h => by
    obtain ⟨W, c, env, Q0, X0, e, ok, eo, h, q, x⟩ := h
    refine ⟨W, c, env, _, X0, e, ok, eo, h, fun v H' ⟨W1, c1, d, e1, x1, ok1, dn, k⟩ => ?_, x⟩
    obtain ⟨xs, hx, k⟩ := onO_of k
    obtain ⟨p, vs, rfl, hv, t⟩ := den_getL ok1 dn hx
    subst e1
    exact ⟨.inl ⟨rfl, vs, SqL.of hv⟩, W1, c1, _, [], Q0, rfl, ok1, dn, .nil, k, fun v H' p => q v H' (p.up x1)⟩
  cases op with
  | pop => exact PE.imp (pe_bm0 PySem.F.plainAttrs_list PySem.F.slot_list_pop PySem.F.type_list_pop mtr_pop hA (base_of hno) hline) fun σ H Q h => red h
  | clear => exact PE.imp (pe_bm0 PySem.F.plainAttrs_list PySem.F.slot_list_clear PySem.F.type_list_clear mtr_clear hA (base_of hno) hline) fun σ H Q h => red h
  | _ => cases hm

end
end F

namespace F
open PySem PySem.Spec PyProof.Rows L2
open Sem (wp)
theorem meets_enum_new1 {v : Value} {o : Obj} {H : Heap → Prop} (B : Begins v o H) :
    Meets (Builtin.«enumerate.__new__» ⟨[.type "enumerate", v], []⟩) (fun _ R s => H s.heap ∧
      R (.ok (.ret (.ref (s.heap.push o).objs.size))) { s with heap := (s.heap.push o).push { cls := .type "enumerate", data := .fields #[.none, .bool false, .ref s.heap.objs.size, rawInt 0, .none, .none] } }) :=
  .of_wp fun prog w A R s h => by
    obtain ⟨hp, g, d, tk, os⟩ := s; obtain ⟨h1, h⟩ := h
    have hsub := sub_enumerate
    have q1 : ∀ {A' : Around} {E : Value → Shared → Prop} {Q : Value → Shared → Prop}, Q (.ref hp.objs.size) ⟨hp.push o, g, d, tk, os⟩ → wpAny (model prog w) A' (pyIter v) Q E ⟨hp, g, d, tk, os⟩ :=
      fun q => B.iter prog w _ _ ⟨hp, g, d, tk, os⟩ _ h1 q
    wp_walk using q1
    refine wpAny_stack_any fun st => wpAny_pure ?_
    split
    · rename_i c _ _ _ _ _
      cases (c == Value.type "enumerate")
      · wp_walk using q1
        exact ⟨_, rfl, h⟩
      · wp_walk using q1
        exact ⟨_, rfl, h⟩
    · wp_walk using q1
      exact ⟨_, rfl, h⟩
section
variable {prog : Program} {w : World} {A : Around} {E : Value → Shared → Prop} {s : Shared}
theorem call_enum1 {v : Value} {o : Obj} {H : Heap → Prop} {Q : Value → Shared → Prop} (B : Begins v o H) (h1 : H s.heap)
    (h : ∀ h', IsEnum h' (s.heap.objs.size + 1) s.heap.objs.size 0 .none → h'.get? s.heap.objs.size = some o → h'.objs.size = s.heap.objs.size + 2 →
      (∀ b o, s.heap.get? b = some o → h'.get? b = some o) → Q (.ref (s.heap.objs.size + 1)) { s with heap := h' }) :
    wpAny (model prog w) A (call (.type "enumerate") [v]) Q E s := by
  refine callType_new F.called_enumerate (by decide) (F.typeCall_enumerate_1 _) (F.newCall_enumerate_1 _) (fun obj => F.args_object_init_2 obj _) F.entry_enumerate_new
    (meets_enum_new1 B) ⟨h1, ?_⟩
  have hz : (s.heap.push o).objs.size = s.heap.objs.size + 1 := Heap.size_push ..
  show _ ∧ _
  rw [hz]
  have he : IsEnum ((s.heap.push o).push { cls := .type "enumerate", data := .fields #[.none, .bool false, .ref s.heap.objs.size, rawInt 0, .none, .none] }) (s.heap.objs.size + 1) s.heap.objs.size 0 .none := by
    have := Heap.get?_push_size (s.heap.push o) (o := { cls := .type "enumerate", data := .fields #[.none, .bool false, .ref s.heap.objs.size, rawInt 0, .none, .none] }) rfl
    rw [hz] at this; exact this
  refine ⟨⟨_, he, rfl⟩, h _ he (Heap.get?_push_of_some _ (Heap.get?_push_size _ B.free)) (by rw [Heap.size_push, hz]) fun b o x => Heap.get?_push_of_some _ (Heap.get?_push_of_some _ x)⟩
end
theorem pyNext_enum_endT {prog : Program} {w : World} {A : Around} {E : Value → Shared → Prop} {s : Shared} {e it t : Addr} {i : Nat} {c : Int} {items : Array Value} {old : Value} {Q : Option Value → Shared → Prop}
    (hh : A.in1.handled = none) (he : IsEnum s.heap e it c old) (hit : s.heap.IsTupleIter it t i) (ht : s.heap.IsTuple t items) (hx : items[i]? = none)
    (hQ : ∀ h', Heap.ExtBut it s.heap h' → Q none { s with heap := h' }) : wpAny (model prog w) A (pyNext (.ref e)) Q E s := by
  have hT : s.TypeIs (.ref e) "enumerate" := ⟨_, he, rfl⟩
  unfold pyNext
  refine wpAny_bind (wpAny_attempt (wpAny_callSpecial?_slot (name := Str.ofString "__next__") hT F.slot_enumerate_next
    (wpAny_call_entry F.slot_enumerate_next hT F.entry_enumerate_next ?_ (F.args_enumerate_next_1 _))))
  show wpAny _ _ (field (.ref e) 2 >>= _) _ _ _
  refine wpAny_bind (wpAny_field he rfl (x := .ref it) rfl ?_)
  refine wpAny_bind (wpAny_nextOf_tuple_end hh hit ht hx fun h' x he' hx' => ?_)
  obtain ⟨o, ho, hc⟩ := hx'
  refine wpAny_bind (wpAny_isInstance (T := "StopIteration") (b := true) ⟨o, ho, hc⟩ isSubtype_stop ?_)
  exact wpAny_pure (hQ _ he')
/-- the tuple at a, each item in a new pair -/
def IteT (K : PySem.W.Frag) (a : Addr) : It :=
  ⟨fun i H => ∃ (xs : List V) (x : V), SqT K H a xs ∧ xs[i]? = some x, fun i H v H' => ∃ T x, v = .ref T ∧ H T = none ∧ H' = upd H T (.tup [.int (i : Nat), x]) ∧ ∀ xs, SqT K H a xs → xs[i]? = some x, fun i H => ∃ xs : List V, SqT K H a xs ∧ xs.length ≤ i⟩
theorem turn_enumT {P : Program} {w : World} {K : PySem.W.Frag} {elts : List Expr} {kk : Nat} {tpos : Pos} (a e it : Addr) :
    Turn P w K (.Tuple elts kk tpos) (IteT K a) [e, it] e (fun i h => (∃ old, IsEnum h e it ((i : Nat) : Int) old) ∧ h.IsTupleIter it a i ∧ e ≠ it ∧ e ≠ a ∧ a ≠ it) where
  mem := by simp
  obj := fun i h st b hb => by
    obtain ⟨⟨old, he⟩, ⟨o, ho, hc, hd⟩, _⟩ := st
    have e' : b = e ∨ b = it := by simpa using hb
    rcases e' with z | z
    · rw [z]; exact ⟨_, he, fun v q => nomatch q⟩
    · rw [z]; exact ⟨o, ho, fun v q => by rw [hd] at q; cases q⟩
  keep := fun i h h' st k => let ⟨⟨old, he⟩, hi, hne, h2, h3⟩ := st; ⟨⟨old, k e (by simp) _ he⟩, hi.at fun o q => k it (by simp) o q, hne, h2, h3⟩
  item := by
    intro X hP hw hK hc i pins s σ H E I hf st hg
    subst hP hw hK
    obtain ⟨⟨old, he⟩, hit, hne, hea, hai⟩ := st
    obtain ⟨xs, x, hq, hx⟩ := hg
    obtain ⟨its, rv, p, hz⟩ := I.tuple hq
    obtain ⟨u, hu, ru⟩ := rv.get hx
    have hel : e < s.heap.objs.size := Heap.lt_size he
    have hil : it < s.heap.objs.size := by obtain ⟨_, q, _⟩ := hit; exact Heap.lt_size q
    have hT : s.heap.IsTuple a its.toArray := p
    have hlt : i < its.toArray.size := by
      have := (List.getElem?_eq_some_iff.mp hu).1
      simpa using this
    have D := Draws.tuple (prog := X.prog) (w := X.w) (A := X.A.in1) (show X.A.in1.handled = none from I.ok.hd hc) it a hai its.toArray
    refine wpAny_pyNext_enum_itemD D he ⟨hit, hT⟩ hlt hne (by simp [hne, hea]) fun v h' tk hP ho hst' hT' hsz hk => ?_
    have ev : v = u := by
      have z : its.toArray[i]? = some v := hP
      rw [List.getElem?_toArray, hu] at z
      exact (Option.some.inj z).symm
    subst ev
    obtain ⟨hit', _⟩ := hst'
    refine ⟨_, rfl, wpAny_letOwnedTupleGo_enum (s := { s with heap := h', toks := tk + 1 }) ho fun h'' he' sb => ?_⟩
    have hT2 : h''.get? s.heap.objs.size = some { cls := .type "tuple", data := .seq #[.int i tk, v] } := (sb.2 _ (Nat.ne_of_gt hel)).trans hT'
    have new : ObjOk X.prog X.w (upd H s.heap.objs.size (.tup [.int (i : Nat), x])) h'' s.heap.objs.size (.tup [.int (i : Nat), x]) :=
      ⟨by show 2 ≤ sizeLine; decide, [.int i tk, v], .cons ⟨_, rfl⟩ (.cons ru .nil), ⟨_, hT2, rfl, _, rfl⟩⟩
    have I1 : Inv X pins σ (upd H s.heap.objs.size (.tup [.int (i : Nat), x])) { s with heap := h'', toks := tk + 1 } :=
      I.turnedNew (ch := [e, it]) (fun b ob hb q => (sb.2 b (fun z => hb (by simp [z]))).trans (hk b ob (fun z => hb (by simp [z])) (fun z => hb (by simp [z])) q)) hf (Nat.le_refl _) new
    refine ⟨.ref s.heap.objs.size, _, I1, rfl, ⟨_, x, rfl, I.hok.fresh (Nat.le_refl _), rfl, fun ys hy => by rw [I.tuple_inj hy hq]; exact hx⟩, ⟨⟨v, ?_⟩, hit'.at fun o q => (sb.2 it (Ne.symm hne)).trans q, hne, hea, hai⟩, fun b hb => ?_⟩
    · have e1 : ((i + 1 : Nat) : Int) = (i : Int) + 1 := by omega
      rw [e1]; exact he'
    · have hb' : b < s.heap.objs.size := by
        have e' : b = e ∨ b = it := by simpa using hb
        rcases e' with z | z
        · rw [z]; exact hel
        · rw [z]; exact hil
      rw [upd_ne (Nat.ne_of_lt hb')]
      exact (hf b hb).1
  done := by
    intro X hP hw hK hc i pins s σ H E I hf st hg
    subst hP hw hK
    obtain ⟨⟨old, he⟩, hit, hne, hea, hai⟩ := st
    obtain ⟨xs, hq, hx⟩ := hg
    obtain ⟨its, rv, p, hz⟩ := I.tuple hq
    obtain ⟨f0, f1, f2, f3, f4, f5⟩ := hf it (by simp)
    have hl := rv.length
    have hT : s.heap.IsTuple a its.toArray := p
    exact pyNext_enum_endT (I.ok.hd hc) he hit hT (by simp; omega) fun h' eb => ⟨rfl, I.turned (t' := s.toks) (fun b o hb q => eb b o hb q) f0 f1 f3 f4 f5⟩
  self := fun A i s Q E st h => let ⟨⟨_, he⟩, _⟩ := st; wpAny_pyIter_enum he h
def iEnumS (K : PySem.W.Frag) (ta : TA) : TI := fun σ H R => ta σ H fun vs H1 => ∃ a, vs = [.ref a] ∧ (((∃ xs, SqL K H1 a xs) ∧ R (Ite K a) H1) ∨ ((∃ xs, SqT K H1 a xs) ∧ R (IteT K a) H1))
theorem pi_enumS {X : Cx} {e : Expr} {ta : TA} {p pos tpos : Pos} {elts : List Expr} {kk : Nat} (hg : Gl X "enumerate") (hm : X.mg "enumerate" = none) (ha : PA X [e] ta) (hs : starEach [e] X.env = [(false, eval e X.env)] := by rfl) :
    PI X (.Tuple elts kk tpos) (.Call (.Name "enumerate" p) [e] [] pos) (iEnumS X.K ta) := by
  refine ⟨fun pins s σ H R I h => ?_⟩
  refine Call_ (ld_blt I hg hm boot_enumerate (PyProof.Rows.callWith_type1 (thn (ha.run pos pins s σ H _ I h) fun us s1 ⟨vs, H1, I1, r1, q1⟩ => ?_) hs rfl))
  obtain ⟨a, ex, q⟩ := q1
  subst ex
  cases r1 with
  | cons r rr =>
    cases rr
    cases r
    rcases q with ⟨⟨xs, hq⟩, q⟩ | ⟨⟨xs, hq⟩, q⟩
    · obtain ⟨its, rv, p', hz⟩ := I1.list hq
      refine call_enumerate_list p'.isList fun h' he hit hsz hk => wpAny_pyIter_enum he ?_
      have I2 : Inv X pins σ H1 { s1 with heap := h' } := I1.kept (t' := s1.toks) hk
      refine ⟨s1.heap.objs.size + 1, [s1.heap.objs.size + 1, s1.heap.objs.size], _, _, H1, rfl, I2, turn_enum a (s1.heap.objs.size + 1) s1.heap.objs.size, ⟨⟨.none, he⟩, hit, Nat.succ_ne_self _⟩, fun b hb => ?_, q⟩
      have e' : b = s1.heap.objs.size + 1 ∨ b = s1.heap.objs.size := by simpa using hb
      have hle : s1.heap.objs.size ≤ b := by
        rcases e' with z | z
        · rw [z]; exact Nat.le_add_right _ _
        · rw [z]; exact Nat.le_refl _
      exact I1.fpOk hle (I1.hok.fresh hle)
    · obtain ⟨its, rv, p', hz⟩ := I1.tuple hq
      have hT : s1.heap.IsTuple a its.toArray := p'
      have hal : a < s1.heap.objs.size := by
        obtain ⟨o, ho, _⟩ := hT
        exact Heap.lt_size ho
      refine call_enum1 (begins_tuple a its.toArray) hT fun h' he hit hsz hk => wpAny_pyIter_enum he ?_
      have I2 : Inv X pins σ H1 { s1 with heap := h' } := I1.kept (t' := s1.toks) hk
      refine ⟨s1.heap.objs.size + 1, [s1.heap.objs.size + 1, s1.heap.objs.size], _, _, H1, rfl, I2, turn_enumT a (s1.heap.objs.size + 1) s1.heap.objs.size, ⟨⟨.none, he⟩, ⟨_, hit, rfl, rfl⟩, Nat.succ_ne_self _, Nat.ne_of_gt (Nat.lt_succ_of_lt hal), Nat.ne_of_lt hal⟩, fun b hb => ?_, q⟩
      have e' : b = s1.heap.objs.size + 1 ∨ b = s1.heap.objs.size := by simpa using hb
      have hle : s1.heap.objs.size ≤ b := by
        rcases e' with z | z
        · rw [z]; exact Nat.le_add_right _ _
        · rw [z]; exact Nat.le_refl _
      exact I1.fpOk hle (I1.hok.fresh hle)
end F

namespace F
open PySem PySem.Spec PyProof.Rows L2
section
variable {prog : Program} {w : World} {A : Around} {E : Value → Shared → Prop} {s : Shared}
theorem draw_list {it t : Addr} {items : Array Value} (hne : t ≠ it) : ∀ (n i : Nat) (s : Shared) (Q : List Value → Shared → Prop), s.heap.IsListIter it t i → s.heap.IsList t items → i + n ≤ items.size →
    (∀ h', h'.IsListIter it t (i + n) → Heap.SameBut it s.heap h' → Q ((items.toList.drop i).take n) { s with heap := h' }) → wpAny (model prog w) A (draw (.ref it) n) Q E s
  | 0, i, s, Q, hit, _, _, hQ => by
    show wpAny _ _ (pure []) Q E s
    exact wpAny_pure (by simpa using hQ s.heap hit (Heap.SameBut.refl ..))
  | n + 1, i, s, Q, hit, ht, hle, hQ => by
    have hlt : i < items.size := by omega
    show wpAny _ _ (pyNext (.ref it) >>= _) Q E s
    refine wpAny_bind (wpAny_pyNext_list_item hit ht (x := items[i]) (by simp [hlt]) fun h₁ hit₁ hs₁ => ?_)
    refine wpAny_bind (wpAny_holding (draw_list hne n (i + 1) _ _ hit₁ (ht.extBut hs₁.extBut hne) (by omega) fun h₂ hit₂ hs₂ => wpAny_pure ?_))
    have hd : items.toList.drop i = items[i] :: items.toList.drop (i + 1) := by simp [List.drop_eq_getElem_cons, hlt]
    have := hQ h₂ (by rw [show i + (n + 1) = i + 1 + n by omega]; exact hit₂) (hs₁.trans hs₂)
    rw [hd, List.take_succ_cons] at this
    exact this
theorem unpackItems_list {t : Addr} {items : Array Value} {Q : List Value → Shared → Prop} (hh : A.handled = none) (ht : s.heap.IsList t items)
    (hQ : ∀ h', Heap.ExtBut s.heap.objs.size s.heap h' → Q items.toList { s with heap := h' }) : wpAny (model prog w) A (unpackItems (.ref t) items.size none) Q E s := by
  have hlt : t ≠ s.heap.objs.size := by obtain ⟨o, ho, _⟩ := ht; exact Nat.ne_of_lt (Heap.lt_size ho)
  unfold unpackItems
  refine wpAny_bind ?_
  · unfold notIterableAtAll
    refine wpAny_bind (wpAny_specialOf ht.typeIs F.slot_list_iter.lookup ?_)
    refine wpAny_pure ?_
    simp only [Bool.false_eq_true, if_false]
    refine wpAny_bind (wpAny_holding (wpAny_pyIter_list ht ?_))
    refine wpAny_bind (wpAny_holding (draw_list hlt items.size 0 _ _ ⟨_, Heap.get?_push_size _ rfl, rfl, rfl⟩ (ht.push _) (by omega) fun h₁ hit₁ hs₁ => ?_))
    have hall : List.take items.size (List.drop 0 items.toList) = items.toList := by
      rw [List.drop_zero]; exact List.take_of_length_le (by simp)
    rw [hall]
    rw [if_neg (by simp)]
    have ht₁ : h₁.IsList t items := (ht.push _).extBut hs₁.extBut hlt
    refine wpAny_bind (wpAny_holding (wpAny_pyNext_list_end hh hit₁ ht₁ (by simp) fun h₂ he₂ => ?_))
    simp only [Option.isSome_none, Bool.false_eq_true, if_false]
    refine wpAny_pure (hQ h₂ fun b o hb e => he₂ b o hb (hs₁.extBut b o hb (Heap.get?_push_of_some _ e)))
theorem assign_Tuple_list {env : Env} {elts : List Expr} {x1} {pos : Pos} {t : Addr} {items : Array Value} {Q : Unit → Shared → Prop} (hh : A.handled = none) (ht : s.heap.IsList t items)
    (hn : (assignEach elts env).length = items.size) (hstar : (assignEach elts env).findIdx? (·.1) = none)
    (h : ∀ h', Heap.ExtBut s.heap.objs.size s.heap h' → wpAny (model prog w) A (assignInOrder ((assignEach elts env).map (·.2)) items.toList) Q E { s with heap := h' }) :
    wpAny (model prog w) A (assign (.Tuple elts x1 pos) env (.ref t)) Q E s := by
  rw [assign_Tuple]
  refine wpAny_bind (wpAny_standAt ?_)
  unfold unpack
  rw [hn, hstar]
  exact wpAny_bind (wpAny_holding (unpackItems_list hh ht h))
end
section
variable {X : Cx} {pos : Pos}
/-- (a, b, ..) = a tuple or a list of that length -/
def gSeq (K : PySem.W.Frag) (n : Nat) (t : TGs) : TG := fun v σ H Q => ∃ a xs, v = .ref a ∧ (SqT K H a xs ∨ SqL K H a xs) ∧ xs.length = n ∧ t xs σ H Q
theorem pg_seq {es : List Expr} {k : Nat} {t : TGs} {n : Nat} (hc : X.calm = true) (h : PGs X es t)
    (hn : (assignEach es X.env).length = n := by rfl) (hst : (assignEach es X.env).findIdx? (·.1) = none := by rfl) : PG X (.Tuple es k pos) (gSeq X.K n t) := by
  refine ⟨fun pins s σ H v u Q I r hw => ?_⟩
  obtain ⟨a, xs, e1, hq, hl, hw⟩ := hw
  subst e1
  cases r
  rcases hq with hq | hq
  · obtain ⟨its, rv, ht, hz⟩ := I.tuple hq
    refine assign_Tuple_tuple (I.ok.hd hc) ht (by simp [hn, ← hl, rv.length]) hst fun h' hx => ?_
    have I1 : Inv X pins σ H { s with heap := h' } := I.kept (t' := s.toks) fun b o e => hx b o (Nat.ne_of_lt (Heap.lt_size e)) e
    exact h.run pins _ σ H xs _ Q I1 (by simpa using rv) hw
  · obtain ⟨its, rv, ht, hz⟩ := I.list hq
    refine assign_Tuple_list (I.ok.hd hc) ht.isList (by simp [hn, ← hl, rv.length]) hst fun h' hx => ?_
    have I1 : Inv X pins σ H { s with heap := h' } := I.kept (t' := s.toks) fun b o e => hx b o (Nat.ne_of_lt (Heap.lt_size e)) e
    exact h.run pins _ σ H xs _ Q I1 (by simpa using rv) hw
end
end F

namespace F
open PySem PySem.Spec L2
section
variable {G : GI} {I : CI} {lv : Nat} {Wx : WX} {sc : Scope} {N : List Str} {fnB : Str → Bool} {X : Cx} {a b e : Expr} {pos : Pos} {A B C : FA1}

theorem se_frz (o : XOk G I lv Wx sc N fnB X) (ha : PE X a (lift G Wx A)) : PE X a (lift G Wx (fun env c Q X => A env c (fun d c1 => clean I.flds c.length c1 fun f c2 => Q (f d) c2) X)) := by
  refine PE.imp ha fun σ H Q h => ?_
  obtain ⟨W, c, env, Q0, X0, e, ok, eo, h, q, x⟩ := h
  refine ⟨W, c, env, _, X0, e, ok, eo, h, fun v H' ⟨W1, c1, d, e1, x1, ok1, dn, k⟩ => ?_, x⟩
  have f1 := x1.frS (np := c.length) (by rw [ok.len]; exact Nat.le_refl _)
  obtain ⟨W2, f, c2, e2, x2, ok2, l2, d2, h2⟩ := clean_ok o.glob.flds ok1 (by rw [← ok1.len]; exact f1.le) k
  exact q _ _ ⟨W2, c2, _, e2.trans e1, FrS.ext (by rw [ok.len]; exact f1.trans x2), ok2, d2 dn, h2⟩

/-- a target's wish -/
abbrev FTG := D → En → Cs → (En → Prop) → Prop
abbrev FTGs := List D → En → Cs → (En → Prop) → Prop
/-- the same but at the places sl -/
def Off (sl : List Nat) (σ σ' : L2.St) : Prop := σ'.length = σ.length ∧ ∀ j, j ∉ sl → σ'[j]? = σ[j]?
theorem Off.refl {sl : List Nat} {σ : L2.St} : Off sl σ σ := ⟨rfl, fun _ _ => rfl⟩
theorem Off.trans {sl : List Nat} {σ σ' σ'' : L2.St} (a : Off sl σ σ') (b : Off sl σ' σ'') : Off sl σ σ'' := ⟨b.1.trans a.1, fun j h => (b.2 j h).trans (a.2 j h)⟩
theorem Off.mono {sl sl' : List Nat} {σ σ' : L2.St} (a : Off sl σ σ') (h : ∀ j ∈ sl, j ∈ sl') : Off sl' σ σ' := ⟨a.1, fun j hj => a.2 j fun z => hj (h j z)⟩
mutual
def ftSl : FT → List Nat
  | .nm i => [i]
  | .tp ts => ftSls ts
def ftSls : FTs → List Nat
  | .nil => []
  | .cons t ts => ftSl t ++ ftSls ts
end
def liftG (G : GI) (sl : List Nat) (T : FTG) : TG := fun v σ H Q => ∃ W c env d K, W.H = H ∧ Ok G W c ∧ EnvOk G W σ env ∧ Den G W v d ∧ T d env c K ∧ ∀ σ' env', EnvOk G W σ' env' → Off sl σ σ' → K env' → Q σ' H
def liftGs (G : GI) (sl : List Nat) (T : FTGs) : TGs := fun vs σ H Q => ∃ W c env ds K, W.H = H ∧ Ok G W c ∧ EnvOk G W σ env ∧ DenL G W vs ds ∧ T ds env c K ∧ ∀ σ' env', EnvOk G W σ' env' → Off sl σ σ' → K env' → Q σ' H
theorem PG.imp {tg : Expr} {t t' : TG} (h : PG X tg t) (i : ∀ v σ H Q, t' v σ H Q → t v σ H Q) : PG X tg t' := ⟨fun pins s σ H v u Q I r hw => h.run pins s σ H v u Q I r (i _ _ _ _ hw)⟩
theorem PGs.imp {tg : List Expr} {t t' : TGs} (h : PGs X tg t) (i : ∀ v σ H Q, t' v σ H Q → t v σ H Q) : PGs X tg t' := ⟨fun pins s σ H v u Q I r hw => h.run pins s σ H v u Q I r (i _ _ _ _ hw)⟩
theorem EnvOk.set {W : Wd} {σ : L2.St} {env : En} (eo : EnvOk G W σ env) {i : Nat} {v : V} {d : D} (hi : i < env.length) (dn : Den G W v d) : EnvOk G W (σ.set i (some v)) (setE env i d) := by
  refine ⟨by unfold setE; rw [List.length_set, List.length_set]; exact eo.1, fun j z h => ?_⟩
  unfold setE at h
  by_cases hj : j = i
  · subst hj
    rw [List.getElem?_set_self hi] at h
    cases h
    exact ⟨v, by rw [List.getElem?_set_self (by rw [← eo.1]; exact hi)], dn⟩
  · rw [List.getElem?_set_ne (Ne.symm hj)] at h
    obtain ⟨w, h1, h2⟩ := eo.2 j z h
    exact ⟨w, by rw [List.getElem?_set_ne (Ne.symm hj)]; exact h1, h2⟩
theorem EnvOk.wipe {W : Wd} {σ : L2.St} {env : En} (eo : EnvOk G W σ env) (i : Nat) : EnvOk G W σ (env.set i none) := by
  refine ⟨by rw [List.length_set]; exact eo.1, fun j z h => ?_⟩
  by_cases hj : j = i
  · subst hj
    by_cases hi : j < env.length
    · rw [List.getElem?_set_self hi] at h; cases h
    · rw [List.getElem?_eq_none (by rw [List.length_set]; omega)] at h; cases h
  · rw [List.getElem?_set_ne (Ne.symm hj)] at h
    exact eo.2 j z h
theorem loc_of (o : XOk G I lv Wx sc N fnB X) {x : Str} (h : locB sc fnB x = true) : Loc X.env.scope x ∧ (X.fn x = true ∨ X.env.scope.names.lookup x = some .local) := by
  rw [o.hsc]
  unfold locB at h
  split at h
  · rename_i q; exact ⟨.inl q, .inr q⟩
  · rename_i q; exact ⟨.inr q, .inl (o.fnb x h)⟩
  · cases h
theorem sg_name (o : XOk G I lv Wx sc N fnB X) {i : Nat} {x : Str} (h1 : N[i]? = some x) (h2 : locB sc fnB x = true) : PG X (.Name x pos) (liftG G (ftSl (.nm i)) (wpT (.nm i))) := by
  obtain ⟨l1, l2⟩ := loc_of o h2
  refine PG.imp (pg_name (by rw [o.hN]; exact o.nd) (by rw [o.hN]; exact h1) l1 l2) fun v σ H Q ⟨W, c, env, d, K, e, ok, eo, dn, k, q⟩ => ?_
  subst e
  exact q _ _ (eo.set k.1 dn) ⟨List.length_set .., fun j hj => List.getElem?_set_ne (fun e => hj (by rw [← e]; exact List.mem_cons_self))⟩ k.2
theorem sg_nil : PGs X [] (liftGs G (ftSls .nil) (wpTs .nil)) := by
  refine PGs.imp pgs_nil fun v σ H Q ⟨W, c, env, ds, K, e, ok, eo, dn, k, q⟩ => ?_
  subst e
  cases dn with
  | nil => exact ⟨rfl, q _ _ eo Off.refl k⟩
  | cons _ _ => exact k.elim
theorem sg_cons {t : Expr} {ts : List Expr} {T : FT} {Ts : FTs} (hn : noStar t = true) (h1 : PG X t (liftG G (ftSl T) (wpT T))) (h2 : PGs X ts (liftGs G (ftSls Ts) (wpTs Ts))) : PGs X (t :: ts) (liftGs G (ftSls (.cons T Ts)) (wpTs (.cons T Ts))) := by
  refine PGs.imp (pgs_cons h1 h2 (each_cons hn)) fun v σ H Q ⟨W, c, env, ds, K, e, ok, eo, dn, k, q⟩ => ?_
  subst e
  cases dn with
  | nil => exact k.elim
  | cons d1 dr => exact ⟨_, _, rfl, W, c, env, _, _, rfl, ok, eo, d1, k, fun σ' env' eo' f k' => ⟨W, c, env', _, K, rfl, ok, eo', dr, k', fun σ2 env2 eo2 f2 k2 => q σ2 env2 eo2 ((f.mono fun j h => List.mem_append_left _ h).trans (f2.mono fun j h => List.mem_append_right _ h)) k2⟩⟩
theorem sg_tup (o : XOk G I lv Wx sc N fnB X) {ts : List Expr} {Ts : FTs} {k : Nat} (hst : ts.all noStar = true) (hl : ts.length = ftLen Ts) (h : PGs X ts (liftGs G (ftSls Ts) (wpTs Ts))) : PG X (.Tuple ts k pos) (liftG G (ftSl (.tp Ts)) (wpT (.tp Ts))) := by
  refine PG.imp (pg_seq (n := ts.length) o.calm h each_len (each_star hst)) fun v σ H Q ⟨W, c, env, d, K, e, ok, eo, dn, k, q⟩ => ?_
  subst e
  unfold wpT at k
  obtain ⟨xs, hx, k⟩ := onO_of k
  obtain ⟨p, vs, rfl, ta, da⟩ := den_getS ok dn hx
  exact ⟨p, vs, rfl, by rw [o.hK]; exact ta.symm, by rw [da.length, k.1, hl], W, c, env, _, K, rfl, ok, eo, da, k.2, q⟩

/-- the iterator J yields the items xs, as long as the lists of gd stand -/
def ItOk (G : GI) (W0 : Wd) (J : It) (xs : List D) (gd : List (Nat × Cont)) : Prop :=
  ∀ (W : Wd) (c : Cs), FrS W0.as.length W0 W → Ok G W c → gdOk c gd →
    (∀ (i : Nat) (x : D), xs[i]? = some x → J.go i W.H ∧ ∀ v H', J.yld i W.H v H' → ∃ W', W'.H = H' ∧ Ext W W' ∧ Ok G W' c ∧ Den G W' v x) ∧ (∀ i, xs.length ≤ i → J.stop i W.H)
def liftI (G : GI) (Wx : WX) (A : En → Cs → (List D → List (Nat × Cont) → Cs → Prop) → QX → Prop) : TI := fun σ H R => ∃ W c env Q0 X0, W.H = H ∧ Ok G W c ∧ EnvOk G W σ env ∧ A env c Q0 X0 ∧
  (∀ J W' c' xs gd, Ext W W' → Ok G W' c' → ItOk G W' J xs gd → Q0 xs gd c' → R J W'.H) ∧ (∀ cls dd H', XPost G W X0 cls dd H' → Wx cls dd σ H')
theorem PI.imp {tg e : Expr} {t t' : TI} (h : PI X tg e t) (i : ∀ σ H Q, t' σ H Q → t σ H Q) : PI X tg e t' := ⟨fun pins s σ H Q I hw => h.run pins s σ H Q I (i _ _ _ hw)⟩
/-- a list, a tuple that is read: it stands later, too -/
def Src (G : GI) (W0 : Wd) (k : Bool) (a : Addr) (xs : List D) (gd : List (Nat × Cont)) : Prop := ∀ (W : Wd) (c : Cs), FrS W0.as.length W0 W → Ok G W c → gdOk c gd → ∃ vs, SqX G.K W.H k a vs ∧ DenL G W vs xs
theorem src_of {W0 : Wd} {c0 : Cs} (ok0 : Ok G W0 c0) {v : V} {d : D} {xs : List D} (dn : Den G W0 v d) (e : getS c0 d = some xs) : ∃ k a, v = .ref a ∧ Src G W0 k a xs (gdOf c0 d) ∧ ∃ vs, SqX G.K W0.H k a vs ∧ DenL G W0 vs xs := by
  have mv : ∀ {W : Wd} {vs : List V}, FrS W0.as.length W0 W → DenL G W0 vs xs → DenL G W vs xs := fun {W vs} x t =>
    t.mono0 (x.toFr.mv ok0.fz) fun n a h => x.get (List.getElem?_eq_some_iff.mp h).1 h
  cases dn with
  | @tup a vs _ h t =>
    simp only [getS] at e; cases e
    exact ⟨true, a, rfl, fun W c x ok _ => ⟨vs, (h.mono (x.toFr.mv ok0.fz)).seq, mv x t⟩, vs, h.seq, t⟩
  | @lst a vs _ h t =>
    simp only [getS, getL] at e; cases e
    exact ⟨false, a, rfl, fun W c x ok _ => ⟨vs, .inl (.inl (x.keep a _ h.2 (ok0.fz a h.1))), mv x t⟩, vs, .inl (.inl h.2), t⟩
  | @scr a vs _ h t =>
    simp only [getS] at e; cases e
    exact ⟨false, a, rfl, fun W c x ok _ => ⟨vs, (h.mono (x.toFr.mv ok0.fz)).seq, mv x t⟩, vs, h.seq, t⟩
  | @cell a n h =>
    obtain ⟨y, hy, ca⟩ := ok0.at h
    cases y with
    | lst zs =>
      simp only [getS, getL, hy] at e; cases e
      obtain ⟨vs0, q1, q2⟩ := ca
      refine ⟨false, a, rfl, fun W c x ok gd => ?_, vs0, .inl (.inl q1), q2⟩
      simp only [gdOf, hy, gdOk, and_true] at gd
      obtain ⟨a', ha', vs, q1, q2⟩ := ok.atC gd
      have h' : W.as[n]? = some a := x.get (List.getElem?_eq_some_iff.mp h).1 h
      rw [h'] at ha'; cases ha'
      exact ⟨vs, .inl (.inl q1), q2⟩
    | dct _ _ => simp [getS, getL, hy] at e
    | obj _ _ => simp [getS, getL, hy] at e
  | _ => simp [getS, getL] at e
theorem itl_of {W1 : Wd} {k : Bool} {a : Addr} {xs : List D} {gd : List (Nat × Cont)} (s : Src G W1 k a xs gd) : ItOk G W1 (match k with | true => Itt G.K a | false => Itl G.K a) xs gd := by
  intro W2 c2 y ok2 g
  obtain ⟨ws, h1, h2⟩ := s W2 c2 y ok2 g
  cases k with
  | true =>
    refine ⟨fun i z hz => ?_, fun i hi => ⟨ws, h1, by rw [h2.length]; exact hi⟩⟩
    obtain ⟨w, hw, dw⟩ := h2.get hz
    refine ⟨⟨ws, w, h1, hw⟩, fun v H' hy => ?_⟩
    obtain ⟨e2, hy⟩ := hy
    subst e2
    have := hy ws h1
    rw [hw] at this; cases this
    exact ⟨W2, rfl, Ext.refl _, ok2, dw⟩
  | false =>
    refine ⟨fun i z hz => ?_, fun i hi => ⟨ws, h1, by rw [h2.length]; exact hi⟩⟩
    obtain ⟨w, hw, dw⟩ := h2.get hz
    refine ⟨⟨ws, w, h1, hw⟩, fun v H' hy => ?_⟩
    obtain ⟨e2, hy⟩ := hy
    subst e2
    have := hy ws h1
    rw [hw] at this; cases this
    exact ⟨W2, rfl, Ext.refl _, ok2, dw⟩
theorem si_ex (o : XOk G I lv Wx sc N fnB X) {tg : Expr} (ha : PE X a (lift G Wx A)) : PI X tg a (liftI G Wx (fun env c Q X => A env c (fun d c1 => exA c1 Q d (getS c1 d)) X)) := by
  refine PI.imp (pi_any ha) fun σ H R ⟨W, c, env, Q0, X0, e, ok, eo, h, q, x⟩ => ?_
  refine ⟨W, c, env, _, X0, e, ok, eo, h, fun v H' ⟨W1, c1, d, e1, x1, ok1, dn, k⟩ => ?_, x⟩
  subst e1
  rw [o.hK]
  replace k : exA c1 Q0 d (getS c1 d) := k
  cases hx : getS c1 d with
  | some xs =>
    rw [hx] at k
    obtain ⟨kd, a, rfl, src, vs, hs, dv⟩ := src_of ok1 dn hx
    have it := itl_of src
    cases kd with
    | true => exact ⟨a, rfl, .inr (.inl ⟨⟨vs, hs⟩, q _ W1 c1 _ _ x1 ok1 it k⟩)⟩
    | false => exact ⟨a, rfl, .inl ⟨⟨vs, hs⟩, q _ W1 c1 _ _ x1 ok1 it k⟩⟩
  | none =>
    rw [hx] at k
    obtain ⟨hd, k⟩ := k
    obtain ⟨kv, hkv, k⟩ := onO_of k
    cases dn with
    | @dctK a ks ds r f h1 h2 h3 h4 =>
      simp only [getC] at hkv; cases hkv
      refine ⟨a, rfl, .inr (.inr ⟨r, h1, h2.fct, q _ W1 c1 _ _ x1 ok1 (fun W2 c2 y ok2 _ => ?_) k⟩)⟩
      have h1' : W2.H a = some (r.ho a) := y.keep a _ h1 (ok1.fz a f)
      have h3' : DenL G W2 r.keys ks := h3.mono0 (y.toFr.mv ok1.fz) fun n a h => y.get (List.getElem?_eq_some_iff.mp h).1 h
      refine ⟨fun i z hz => ?_, fun i hi => ⟨h1', by rw [h3'.length]; exact hi⟩⟩
      obtain ⟨w, hw, dw⟩ := h3'.get hz
      refine ⟨⟨h1', (List.getElem?_eq_some_iff.mp hw).1⟩, fun v H' hy => ?_⟩
      obtain ⟨e2, hy⟩ := hy
      subst e2
      rw [hw] at hy; cases hy
      exact ⟨W2, rfl, Ext.refl _, ok2, dw⟩
    | _ => simp [isDct] at hd
theorem rng_it {W : Wd} {lo : Int} {n : Nat} : ItOk G W (Itr lo n) (rngL lo n) [] := by
  intro W2 c2 y ok2 _
  have hl : (rngL lo n).length = n := by unfold rngL; rw [List.length_map, List.length_range]
  refine ⟨fun i z hz => ?_, fun i hi => by rw [hl] at hi; exact hi⟩
  have hi : i < n := by rw [← hl]; exact (List.getElem?_eq_some_iff.mp hz).1
  unfold rngL at hz
  rw [List.getElem?_map, List.getElem?_range hi] at hz
  cases hz
  refine ⟨hi, fun v H' hy => ?_⟩
  obtain ⟨e1, e2⟩ := hy
  subst e1; subst e2
  exact ⟨W2, rfl, Ext.refl _, ok2, .int⟩
theorem si_rng1 (o : XOk G I lv Wx sc N fnB X) {tg : Expr} {p : Pos} (hg : glB sc "range" = true) (hn : noStar a = true) (ha : PE X a (lift G Wx A)) : PI X tg (.Call (.Name "range" p) [a] [] pos) (liftI G Wx (fun env c Q X => A env c (fun d c1 => match d with
    | .int n => small n ∧ Q (rngL 0 n.toNat) [] c1
    | _ => False) X)) := by
  obtain ⟨g, hd, _⟩ := gl_of o hg
  have hm : X.mg "range" = none := by rw [o.hmg]; exact o.glob.bl _ (by decide +kernel)
  have hs : starEach [a] X.env = [(false, eval a X.env)] := star_cons hn
  refine PI.imp (pi_range1 g hm (pa_consN hn ha pa_nil) hs) fun σ H R ⟨W, c, env, Q0, X0, e, ok, eo, h, q, x⟩ => ?_
  refine ⟨W, c, env, _, X0, e, ok, eo, h, fun v H' ⟨W1, c1, d, e1, x1, ok1, dn, k⟩ => ?_, x⟩
  subst e1
  cases dn with
  | int => exact ⟨_, rfl, k.1.1, k.1.2, q _ W1 c1 _ _ x1 ok1 rng_it k.2⟩
  | _ => exact k.elim
theorem si_rng2 (o : XOk G I lv Wx sc N fnB X) {tg : Expr} {p : Pos} (hg : glB sc "range" = true) (hn : noStar a = true) (hn2 : noStar b = true) (ha : PE X a (lift G Wx A)) (hb : PE X b (lift G Wx B)) : PI X tg (.Call (.Name "range" p) [a, b] [] pos) (liftI G Wx (fun env c Q X => A env c (fun x c1 => B env c1 (fun y c2 => int2 (fun i j => small i ∧ small j ∧ Q (rngL i (j - i).toNat) [] c2) x y) X) X)) := by
  obtain ⟨g, hd, _⟩ := gl_of o hg
  have hm : X.mg "range" = none := by rw [o.hmg]; exact o.glob.bl _ (by decide +kernel)
  have hs : starEach [b] X.env = [(false, eval b X.env)] := star_cons hn2
  have hs2 : starEach [a, b] X.env = [(false, eval a X.env), (false, eval b X.env)] := by rw [star_cons hn, hs]
  refine PI.imp (pi_range2 g hm (pa_consN hn ha (pa_consN hn2 hb pa_nil)) hs2 hs) fun σ H R ⟨W, c, env, Q0, X0, e, ok, eo, h, q, x⟩ => ?_
  refine ⟨W, c, env, _, X0, e, ok, eo, h, fun v H' ⟨W1, c1, d, e1, x1, ok1, dn, k⟩ => ?_, x⟩
  refine ⟨W1, c1, env, _, X0, e1, ok1, eo.mono ok x1, k, fun v2 H2 ⟨W2, c2, d2, e2, x2, ok2, dn2, k2⟩ => ?_, fun cls dd H' p => x cls dd H' (p.up x1)⟩
  subst e2
  obtain ⟨i, j, rfl, rfl, k2⟩ := int2_of (dn.mono ok1 x2) dn2 k2
  exact ⟨i, j, rfl, ⟨k2.1.1, k2.1.2, k2.2.1.1, k2.2.1.2⟩, q _ W2 c2 _ _ (x1.trans x2) ok2 rng_it k2.2.2⟩
theorem rngD_it {W : Wd} {lo : Int} {n : Nat} : ItOk G W (Itc lo (-1) n) (rngD lo n) [] := by
  intro W2 c2 y ok2 _
  have hl : (rngD lo n).length = n := by unfold rngD; rw [List.length_map, List.length_range]
  refine ⟨fun i z hz => ?_, fun i hi => by rw [hl] at hi; exact hi⟩
  have hi : i < n := by rw [← hl]; exact (List.getElem?_eq_some_iff.mp hz).1
  unfold rngD at hz
  rw [List.getElem?_map, List.getElem?_range hi] at hz
  cases hz
  refine ⟨hi, fun v H' hy => ?_⟩
  obtain ⟨e1, e2⟩ := hy
  subst e1; subst e2
  refine ⟨W2, rfl, Ext.refl _, ok2, ?_⟩
  have e : lo + (i : Nat) * (-1) = lo - (i : Int) := by omega
  rw [e]
  exact .int
theorem si_rng3 (o : XOk G I lv Wx sc N fnB X) {tg d : Expr} {p : Pos} (hg : glB sc "range" = true) (hn : noStar a = true) (hn2 : noStar b = true) (hn3 : noStar d = true) (ha : PE X a (lift G Wx A)) (hb : PE X b (lift G Wx B)) (hd : PE X d (lift G Wx C)) : PI X tg (.Call (.Name "range" p) [a, b, d] [] pos) (liftI G Wx (fun env c Q X => A env c (fun x c1 => B env c1 (fun y c2 => C env c2 (fun z c3 => isM1 z = true ∧ int2 (fun i j => small i ∧ small j ∧ Q (rngD i (i - j).toNat) [] c3) x y) X) X) X)) := by
  obtain ⟨g, hdd, _⟩ := gl_of o hg
  have hm : X.mg "range" = none := by rw [o.hmg]; exact o.glob.bl _ (by decide +kernel)
  have hs : starEach [a, b, d] X.env = (false, eval a X.env) :: starEach [b, d] X.env := star_cons hn
  refine PI.imp (pi_range3 g hm (pa_consN hn ha (pa_consN hn2 hb (pa_consN hn3 hd pa_nil))) hs (star_any (by simp [hn2, hn3]))) fun σ H R ⟨W, c, env, Q0, X0, e, ok, eo, h, q, x⟩ => ?_
  refine ⟨W, c, env, _, X0, e, ok, eo, h, fun v H' ⟨W1, c1, d, e1, x1, ok1, dn, k⟩ => ?_, x⟩
  refine ⟨W1, c1, env, _, X0, e1, ok1, eo.mono ok x1, k, fun v2 H2 ⟨W2, c2, d2, e2, x2, ok2, dn2, k2⟩ => ?_, fun cls dd H' p => x cls dd H' (p.up x1)⟩
  refine ⟨W2, c2, env, _, X0, e2, ok2, (eo.mono ok x1).mono ok1 x2, k2, fun v3 H3 ⟨W3, c3, d3, e3, x3, ok3, dn3, k3⟩ => ?_, fun cls dd H' p => x cls dd H' ((p.up x2).up x1)⟩
  subst e3
  obtain ⟨hz, k3⟩ := k3
  obtain ⟨i, j, rfl, rfl, k3⟩ := int2_of ((dn.mono ok1 x2).mono ok2 x3) (dn2.mono ok2 x3) k3
  obtain ⟨s1, s2, k3⟩ := k3
  cases dn3 with
  | @int z =>
    have ez : z = -1 := eq_of_beq hz
    subst ez
    exact ⟨i, j, -1, _, rfl, RgC.neg s1.1 s1.2 s2.1 s2.2, q _ W3 c3 _ _ ((x1.trans x2).trans x3) ok3 rngD_it k3⟩
  | _ => simp [isM1] at hz
theorem enumL_get : ∀ {xs : List D} {k i : Nat} {x : D}, (enumL xs k)[i]? = some x → ∃ y, xs[i]? = some y ∧ x = .tup [.int ((k + i : Nat) : Int), y]
  | [], k, i, x, h => by simp [enumL] at h
  | y :: r, k, 0, x, h => by simp [enumL] at h; exact ⟨y, rfl, h.symm⟩
  | y :: r, k, i + 1, x, h => by
    simp only [enumL, List.getElem?_cons_succ] at h
    obtain ⟨z, h1, h2⟩ := enumL_get h
    exact ⟨z, by simpa using h1, by rw [h2]; congr 3; omega⟩
theorem enumL_len : ∀ (xs : List D) (k : Nat), (enumL xs k).length = xs.length
  | [], _ => rfl
  | x :: r, k => by simp only [enumL, List.length_cons]; rw [enumL_len r]
theorem si_enum (o : XOk G I lv Wx sc N fnB X) {ts : List Expr} {kk : Nat} {tpos p : Pos} (hg : glB sc "enumerate" = true) (hn : noStar a = true) (ha : PE X a (lift G Wx A)) : PI X (.Tuple ts kk tpos) (.Call (.Name "enumerate" p) [a] [] pos) (liftI G Wx (fun env c Q X => A env c (fun d c1 => onO (getS c1 d) fun xs => Q (enumL xs 0) (gdOf c1 d) c1) X)) := by
  obtain ⟨g, hd, _⟩ := gl_of o hg
  have hm : X.mg "enumerate" = none := by rw [o.hmg]; exact o.glob.bl _ (by decide +kernel)
  have hs : starEach [a] X.env = [(false, eval a X.env)] := star_cons hn
  refine PI.imp (pi_enumS g hm (pa_consN hn ha pa_nil) hs) fun σ H R ⟨W, c, env, Q0, X0, e, ok, eo, h, q, x⟩ => ?_
  refine ⟨W, c, env, _, X0, e, ok, eo, h, fun v H' ⟨W1, c1, d, e1, x1, ok1, dn, k⟩ => ?_, x⟩
  subst e1
  obtain ⟨xs, hx, k⟩ := onO_of k
  rw [o.hK]
  obtain ⟨kd, p1, rfl, src, vs, hs', _⟩ := src_of ok1 dn hx
  cases kd with
  | true =>
    refine ⟨p1, rfl, .inr ⟨⟨vs, hs'⟩, q _ W1 c1 _ _ x1 ok1 (fun W2 c2 y ok2 gd => ?_) k⟩⟩
    obtain ⟨ws, h1, h2⟩ := src W2 c2 y ok2 gd
    refine ⟨fun i z hz => ?_, fun i hi => ⟨ws, h1, by rw [h2.length]; rwa [enumL_len] at hi⟩⟩
    obtain ⟨z', hz', rfl⟩ := enumL_get hz
    obtain ⟨w, hw, dw⟩ := h2.get hz'
    refine ⟨⟨ws, w, h1, hw⟩, fun v H' hy => ?_⟩
    obtain ⟨T, w', rfl, nT, rfl, hy⟩ := hy
    have := hy ws h1
    rw [hw] at this; cases this
    obtain ⟨x3, ok3⟩ := ok2.alloc nT (.tup [.int (i : Nat), w])
    refine ⟨_, rfl, x3, ok3, .tup (.inl upd_same) ?_⟩
    rw [Nat.zero_add]
    exact .cons .int (.cons (dw.mono ok2 x3) .nil)
  | false =>
    refine ⟨p1, rfl, .inl ⟨⟨vs, hs'⟩, q _ W1 c1 _ _ x1 ok1 (fun W2 c2 y ok2 gd => ?_) k⟩⟩
    obtain ⟨ws, h1, h2⟩ := src W2 c2 y ok2 gd
    refine ⟨fun i z hz => ?_, fun i hi => ⟨ws, h1, by rw [h2.length]; rwa [enumL_len] at hi⟩⟩
    obtain ⟨z', hz', rfl⟩ := enumL_get hz
    obtain ⟨w, hw, dw⟩ := h2.get hz'
    refine ⟨⟨ws, w, h1, hw⟩, fun v H' hy => ?_⟩
    obtain ⟨T, w', rfl, nT, rfl, hy⟩ := hy
    have := hy ws h1
    rw [hw] at this; cases this
    obtain ⟨x3, ok3⟩ := ok2.alloc nT (.tup [.int (i : Nat), w])
    refine ⟨_, rfl, x3, ok3, .tup (.inl upd_same) ?_⟩
    rw [Nat.zero_add]
    exact .cons .int (.cons (dw.mono ok2 x3) .nil)
theorem zipL_get : ∀ {xs ys : List D} {i : Nat} {x : D}, (zipL xs ys)[i]? = some x → ∃ y z, xs[i]? = some y ∧ ys[i]? = some z ∧ x = .tup [y, z]
  | [], ys, i, x, h => by simp [zipL] at h
  | _ :: _, [], i, x, h => by simp [zipL] at h
  | y :: r, z :: s, 0, x, h => by simp [zipL] at h; exact ⟨y, z, rfl, rfl, h.symm⟩
  | y :: r, z :: s, i + 1, x, h => by
    simp only [zipL, List.getElem?_cons_succ] at h
    obtain ⟨u, w, h1, h2, h3⟩ := zipL_get h
    exact ⟨u, w, by simpa using h1, by simpa using h2, h3⟩
theorem zipL_len : ∀ (xs ys : List D), (zipL xs ys).length = min xs.length ys.length
  | [], ys => by simp [zipL]
  | _ :: _, [] => by simp [zipL]
  | y :: r, z :: s => by simp only [zipL, List.length_cons]; rw [zipL_len r s]; omega
theorem gdOk_app {c : Cs} : ∀ {g h : List (Nat × Cont)}, gdOk c (g ++ h) → gdOk c g ∧ gdOk c h
  | [], h, k => ⟨trivial, k⟩
  | (n, xs) :: g, h, k => by
    obtain ⟨k1, k2⟩ := k
    obtain ⟨a, b⟩ := gdOk_app (g := g) k2
    exact ⟨⟨k1, a⟩, b⟩
theorem si_zip (o : XOk G I lv Wx sc N fnB X) {ts : List Expr} {kk : Nat} {tpos p : Pos} (hg : glB sc "zip" = true) (hn : noStar a = true) (hn2 : noStar b = true) (ha : PE X a (lift G Wx A)) (hb : PE X b (lift G Wx B)) : PI X (.Tuple ts kk tpos) (.Call (.Name "zip" p) [a, b] [] pos)
    (liftI G Wx (fun env c Q X => A env c (fun x c1 => B env c1 (fun y c2 => onO (getS c2 x) fun xs => onO (getS c2 y) fun ys => Q (zipL xs ys) (gdOf c2 x ++ gdOf c2 y) c2) X) X)) := by
  obtain ⟨g, hd, _⟩ := gl_of o hg
  have hm : X.mg "zip" = none := by rw [o.hmg]; exact o.glob.bl _ (by decide +kernel)
  have hs : starEach [a, b] X.env = (false, eval a X.env) :: starEach [b] X.env := star_cons hn
  refine PI.imp (pi_zip2 g hm (pa_consN hn ha (pa_consN hn2 hb pa_nil)) hs (star_any (by simp [hn2]))) fun σ H R ⟨W, c, env, Q0, X0, e, ok, eo, h, q, x⟩ => ?_
  refine ⟨W, c, env, _, X0, e, ok, eo, h, fun v H' ⟨W1, c1, d, e1, x1, ok1, dn, k⟩ => ?_, x⟩
  refine ⟨W1, c1, env, _, X0, e1, ok1, eo.mono ok x1, k, fun v2 H2 ⟨W2, c2, d2, e2, x2, ok2, dn2, k2⟩ => ?_, fun cls dd H' p => x cls dd H' (p.up x1)⟩
  subst e2
  obtain ⟨xs, hx, k2⟩ := onO_of k2
  obtain ⟨ys, hy, k2⟩ := onO_of k2
  have dn' := dn.mono ok1 x2
  obtain ⟨ka, p1, rfl, s1, vs, hs1, dv1⟩ := src_of ok2 dn' hx
  obtain ⟨kb, p2, rfl, s2, ws, hs2, dv2⟩ := src_of ok2 dn2 hy
  rw [o.hK]
  refine ⟨p1, p2, ka, kb, vs, ws, rfl, hs1, hs2, q _ W2 c2 _ _ (x1.trans x2) ok2 (fun W3 c3 y ok3 gd => ?_) k2⟩
  obtain ⟨g1, g2⟩ := gdOk_app gd
  obtain ⟨us, h1, h2⟩ := s1 W3 c3 y ok3 g1
  obtain ⟨ts', h3, h4⟩ := s2 W3 c3 y ok3 g2
  have l1 : us.length = vs.length := by rw [h2.length, dv1.length]
  have l2 : ts'.length = ws.length := by rw [h4.length, dv2.length]
  refine ⟨fun i z hz => ?_, fun i hi => ⟨us, ts', h1, h3, l1, l2, ?_⟩⟩
  · obtain ⟨z1, z2, hz1, hz2, rfl⟩ := zipL_get hz
    obtain ⟨w1, hw1, dw1⟩ := h2.get hz1
    obtain ⟨w2, hw2, dw2⟩ := h4.get hz2
    refine ⟨⟨us, ts', w1, w2, h1, h3, l1, l2, hw1, hw2⟩, fun v H' hy => ?_⟩
    obtain ⟨T, w1', w2', rfl, nT, rfl, y1, y2⟩ := hy
    have e1 := y1 us h1
    rw [hw1] at e1; cases e1
    have e2 := y2 ts' h3
    rw [hw2] at e2; cases e2
    obtain ⟨x4, ok4⟩ := ok3.alloc nT (.tup [w1, w2])
    exact ⟨_, rfl, x4, ok4, .tup (.inl upd_same) (.cons (dw1.mono ok3 x4) (.cons (dw2.mono ok3 x4) .nil))⟩
  · rw [zipL_len, ← dv1.length, ← dv2.length] at hi
    omega
theorem zip3L_get : ∀ {xs ys zs : List D} {i : Nat} {x : D}, (zip3L xs ys zs)[i]? = some x → ∃ y z w, xs[i]? = some y ∧ ys[i]? = some z ∧ zs[i]? = some w ∧ x = .tup [y, z, w]
  | [], ys, zs, i, x, h => by simp [zip3L] at h
  | _ :: _, [], zs, i, x, h => by simp [zip3L] at h
  | _ :: _, _ :: _, [], i, x, h => by simp [zip3L] at h
  | a :: xs, b :: ys, d :: zs, 0, x, h => by simp [zip3L] at h; exact ⟨a, b, d, rfl, rfl, rfl, h.symm⟩
  | a :: xs, b :: ys, d :: zs, i + 1, x, h => by
    obtain ⟨y, z, w, h1, h2, h3, e⟩ := zip3L_get (xs := xs) (ys := ys) (zs := zs) (i := i) (by simpa [zip3L] using h)
    exact ⟨y, z, w, by simpa using h1, by simpa using h2, by simpa using h3, e⟩
theorem zip3L_len : ∀ (xs ys zs : List D), (zip3L xs ys zs).length = min xs.length (min ys.length zs.length)
  | [], ys, zs => by simp [zip3L]
  | _ :: _, [], zs => by simp [zip3L]
  | _ :: _, _ :: _, [] => by simp [zip3L]
  | _ :: xs, _ :: ys, _ :: zs => by
    rw [zip3L, List.length_cons, zip3L_len xs ys zs]
    simp only [List.length_cons]
    omega
theorem si_zip3 (o : XOk G I lv Wx sc N fnB X) {ts : List Expr} {kk : Nat} {tpos p : Pos} {d : Expr} (hg : glB sc "zip" = true) (hn : noStar a = true) (hn2 : noStar b = true) (hn3 : noStar d = true) (ha : PE X a (lift G Wx A)) (hb : PE X b (lift G Wx B)) (hd3 : PE X d (lift G Wx C)) : PI X (.Tuple ts kk tpos) (.Call (.Name "zip" p) [a, b, d] [] pos)
    (liftI G Wx (fun env c Q X => A env c (fun x c1 => B env c1 (fun y c2 => C env c2 (fun z c3 => onO (getS c3 x) fun xs => onO (getS c3 y) fun ys => onO (getS c3 z) fun zs => Q (zip3L xs ys zs) (gdOf c3 x ++ (gdOf c3 y ++ gdOf c3 z)) c3) X) X) X)) := by
  obtain ⟨g, hd, _⟩ := gl_of o hg
  have hm : X.mg "zip" = none := by rw [o.hmg]; exact o.glob.bl _ (by decide +kernel)
  have hs : starEach [a, b, d] X.env = (false, eval a X.env) :: starEach [b, d] X.env := star_cons hn
  refine PI.imp (pi_zip3 g hm (pa_consN hn ha (pa_consN hn2 hb (pa_consN hn3 hd3 pa_nil))) hs (star_any (by simp [hn2, hn3]))) fun σ H R ⟨W, c, env, Q0, X0, e, ok, eo, h, q, x⟩ => ?_
  refine ⟨W, c, env, _, X0, e, ok, eo, h, fun v H' ⟨W1, c1, d1, e1, x1, ok1, dn, k⟩ => ?_, x⟩
  refine ⟨W1, c1, env, _, X0, e1, ok1, eo.mono ok x1, k, fun v2 H2 ⟨W2, c2, d2, e2, x2, ok2, dn2, k2⟩ => ?_, fun cls dd H' p => x cls dd H' (p.up x1)⟩
  refine ⟨W2, c2, env, _, X0, e2, ok2, (eo.mono ok x1).mono ok1 x2, k2, fun v3 H3 ⟨W3, c3, d3, e3, x3, ok3, dn3, k3⟩ => ?_, fun cls dd H' p => x cls dd H' ((p.up x2).up x1)⟩
  subst e3
  obtain ⟨xs, hx, k3⟩ := onO_of k3
  obtain ⟨ys, hy, k3⟩ := onO_of k3
  obtain ⟨zs, hz, k3⟩ := onO_of k3
  have dn' := (dn.mono ok1 x2).mono ok2 x3
  have dn2' := dn2.mono ok2 x3
  obtain ⟨ka, p1, rfl, s1, vs, hs1, dv1⟩ := src_of ok3 dn' hx
  obtain ⟨kb, p2, rfl, s2, ws, hs2, dv2⟩ := src_of ok3 dn2' hy
  obtain ⟨kd, p3, rfl, s3, us3, hs3, dv3⟩ := src_of ok3 dn3 hz
  rw [o.hK]
  refine ⟨p1, p2, p3, ka, kb, kd, vs, ws, us3, rfl, hs1, hs2, hs3, q _ W3 c3 _ _ ((x1.trans x2).trans x3) ok3 (fun W4 c4 y ok4 gd => ?_) k3⟩
  obtain ⟨g1, g2⟩ := gdOk_app gd
  obtain ⟨g2, g3⟩ := gdOk_app g2
  obtain ⟨us, h1, h2⟩ := s1 W4 c4 y ok4 g1
  obtain ⟨ts', h3, h4⟩ := s2 W4 c4 y ok4 g2
  obtain ⟨rs, h5, h6⟩ := s3 W4 c4 y ok4 g3
  have l1 : us.length = vs.length := by rw [h2.length, dv1.length]
  have l2 : ts'.length = ws.length := by rw [h4.length, dv2.length]
  have l3 : rs.length = us3.length := by rw [h6.length, dv3.length]
  refine ⟨fun i z hz => ?_, fun i hi => ⟨us, ts', rs, h1, h3, h5, l1, l2, l3, ?_⟩⟩
  · obtain ⟨z1, z2, z3, hz1, hz2, hz3, rfl⟩ := zip3L_get hz
    obtain ⟨w1, hw1, dw1⟩ := h2.get hz1
    obtain ⟨w2, hw2, dw2⟩ := h4.get hz2
    obtain ⟨w3, hw3, dw3⟩ := h6.get hz3
    refine ⟨⟨us, ts', rs, w1, w2, w3, h1, h3, h5, l1, l2, l3, hw1, hw2, hw3⟩, fun v H' hy => ?_⟩
    obtain ⟨T, w1', w2', w3', rfl, nT, rfl, y1, y2, y3⟩ := hy
    have e1 := y1 us h1
    rw [hw1] at e1; cases e1
    have e2 := y2 ts' h3
    rw [hw2] at e2; cases e2
    have e3 := y3 rs h5
    rw [hw3] at e3; cases e3
    obtain ⟨x4, ok5⟩ := ok4.alloc nT (.tup [w1, w2, w3])
    exact ⟨_, rfl, x4, ok5, .tup (.inl upd_same) (.cons (dw1.mono ok4 x4) (.cons (dw2.mono ok4 x4) (.cons (dw3.mono ok4 x4) .nil)))⟩
  · rw [zip3L_len, ← dv1.length, ← dv2.length, ← dv3.length] at hi
    omega
end
end F

namespace F
open PySem PySem.Spec L2
section
variable {G : GI} {I : CI} {lv : Nat} {Wx : WX} {sc : Scope} {N : List Str} {fnB : Str → Bool} {X : Cx} {a b e : Expr} {pos : Pos} {A B C : FA1}

def dl (H : Hp) (p : Addr) : Hp := fun b => if b = p then none else H b
theorem dl_same {H : Hp} {p : Addr} : dl H p p = none := if_pos rfl
theorem dl_ne {H : Hp} {p b : Addr} (h : b ≠ p) : dl H p b = H b := if_neg h
theorem envOk_wipeE {W : Wd} {σ : L2.St} {env : En} (eo : EnvOk G W σ env) : ∀ vs : List Nat, EnvOk G W (wipe σ vs) (F.wipeE env vs)
  | [] => eo
  | v :: vs => by
    have ih := envOk_wipeE eo vs
    unfold wipe F.wipeE
    refine ⟨by rw [List.length_set, List.length_set]; exact ih.1, fun j z h => ?_⟩
    by_cases hj : j = v
    · subst hj
      by_cases hi : j < (F.wipeE env vs).length
      · rw [List.getElem?_set_self hi] at h; cases h
      · rw [List.getElem?_eq_none (by rw [List.length_set]; omega)] at h; cases h
    · rw [List.getElem?_set_ne (Ne.symm hj)] at h
      obtain ⟨w, h1, h2⟩ := ih.2 j z h
      exact ⟨w, by rw [List.getElem?_set_ne (Ne.symm hj)]; exact h1, h2⟩
theorem wipe_in {σ : L2.St} {i : Nat} : ∀ {vs : List Nat}, i ∈ vs → i < σ.length → (wipe σ vs)[i]? = some none
  | [], h, _ => by simp at h
  | v :: vs, h, hl => by
    unfold wipe
    by_cases e : v = i
    · subst e; rw [List.getElem?_set_self (by rw [wipe_length]; exact hl)]
    · rw [List.getElem?_set_ne e]
      rcases List.mem_cons.mp h with z | z
      · exact absurd z.symm e
      · exact wipe_in z hl
theorem wipe_off {σ σ' : L2.St} {vs sl : List Nat} (h : Off sl (wipe σ vs) σ') (hs : ∀ j ∈ sl, j ∈ vs) : wipe σ' vs = wipe σ vs := by
  have hl : σ'.length = σ.length := by rw [h.1, wipe_length]
  refine List.ext_getElem? fun j => ?_
  by_cases hj : j ∈ vs
  · by_cases hlt : j < σ.length
    · rw [wipe_in hj (by rw [hl]; exact hlt), wipe_in hj hlt]
    · rw [List.getElem?_eq_none (by rw [wipe_length, hl]; omega), List.getElem?_eq_none (by rw [wipe_length]; omega)]
  · have e1 : (wipe σ' vs)[j]? = σ'[j]? := wipe_out hj
    rw [e1, h.2 j fun z => hj (hs j z)]
/-- a foreign list is changed -/
theorem Ok.poke {W W1 : Wd} {c : Cs} (x : Ext W1 W) (ok : Ok G W c) {p : Addr} {o o' : HO} (h1 : W1.H p = none) (hp : W.H p = some o) (ht : ∀ xs, o ≠ .tup xs) (ha : p ∉ W.as) (hf : ¬ W.Fz p) :
    Ext W1 { W with H := upd W.H p o' } ∧ Ok G { W with H := upd W.H p o' } c ∧ Mv W { W with H := upd W.H p o' } := by
  have mv : Mv W { W with H := upd W.H p o' } := ⟨fun b xs h => by
    show upd _ _ _ _ = _
    rw [upd_ne (fun z => by subst z; rw [hp] at h; exact ht xs (Option.some.inj h))]; exact h, fun b u f h => by
    show upd _ _ _ _ = _
    rw [upd_ne (fun z => by subst z; exact hf f)]; exact h, fun b h => h⟩
  refine ⟨⟨⟨fun b xs h => ?_, fun b u h hb => ?_, x.fz, fun b h => ?_, x.new, x.fzn⟩, x.as⟩, ⟨ok.len, ok.nd, ok.fz, fun b h => ?_, fun n a y g1 g2 => ?_⟩, mv⟩
  · show upd _ _ _ _ = _
    rw [upd_ne (ne_of_none h h1)]; exact x.tup b xs h
  · show upd _ _ _ _ = _
    rw [upd_ne (ne_of_none h h1)]; exact x.keep b u h hb
  · have h' : upd W.H p o' b = none := h
    by_cases hb : b = p
    · subst hb; rw [upd_same] at h'; cases h'
    · rw [upd_ne hb] at h'; exact x.trk b h'
  · obtain ⟨u, e⟩ := ok.fzt b h
    exact ⟨u, by show upd _ _ _ _ = _; rw [upd_ne (fun z => by subst z; exact hf h)]; exact e⟩
  · have ca := ok.cell n a y g1 g2
    have na : a ≠ p := fun z => by subst z; exact ha (List.mem_of_getElem? g1)
    have eH : upd W.H p o' a = W.H a := upd_ne na
    cases y with
    | lst ds => obtain ⟨vs, q1, q2⟩ := ca; exact ⟨vs, by show upd _ _ _ _ = _; rw [eH]; exact q1, q2.mono0 mv fun _ _ h => h⟩
    | dct ks ds => obtain ⟨kvs, q1, q0, q2, q3⟩ := ca; exact ⟨kvs, by show upd _ _ _ _ = _; rw [eH]; exact q1, q0, q2.mono0 mv fun _ _ h => h, q3.mono0 mv fun _ _ h => h⟩
    | obj k fs => obtain ⟨dx, gs, q1, q2, q3⟩ := ca; exact ⟨dx, gs, by show upd _ _ _ _ = _; rw [eH]; exact q1, q2, q3.mono0 mv fun _ _ h => h⟩
/-- .. is taken out of the tracked -/
theorem Ok.lose {W W1 : Wd} {c : Cs} (x : Ext W1 W) (ok : Ok G W c) {p : Addr} {o : HO} (h1 : W1.H p = none) (hp : W.H p = some o) (ht : ∀ xs, o ≠ .tup xs) (ha : p ∉ W.as) (hf : ¬ W.Fz p) :
    Ext W1 { W with H := dl W.H p } ∧ Ok G { W with H := dl W.H p } c ∧ Mv W { W with H := dl W.H p } := by
  have mv : Mv W { W with H := dl W.H p } := ⟨fun b xs h => by
    show dl _ _ _ = _
    rw [dl_ne (fun z => by subst z; rw [hp] at h; exact ht xs (Option.some.inj h))]; exact h, fun b u f h => by
    show dl _ _ _ = _
    rw [dl_ne (fun z => by subst z; exact hf f)]; exact h, fun b h => h⟩
  refine ⟨⟨⟨fun b xs h => ?_, fun b u h hb => ?_, x.fz, fun b h => ?_, x.new, x.fzn⟩, x.as⟩, ⟨ok.len, ok.nd, ok.fz, fun b h => ?_, fun n a y g1 g2 => ?_⟩, mv⟩
  · show dl _ _ _ = _
    rw [dl_ne (ne_of_none h h1)]; exact x.tup b xs h
  · show dl _ _ _ = _
    rw [dl_ne (ne_of_none h h1)]; exact x.keep b u h hb
  · have h' : dl W.H p b = none := h
    by_cases hb : b = p
    · subst hb; exact h1
    · rw [dl_ne hb] at h'; exact x.trk b h'
  · obtain ⟨u, e⟩ := ok.fzt b h
    exact ⟨u, by show dl _ _ _ = _; rw [dl_ne (fun z => by subst z; exact hf h)]; exact e⟩
  · have ca := ok.cell n a y g1 g2
    have na : a ≠ p := fun z => by subst z; exact ha (List.mem_of_getElem? g1)
    have eH : dl W.H p a = W.H a := dl_ne na
    cases y with
    | lst ds => obtain ⟨vs, q1, q2⟩ := ca; exact ⟨vs, by show dl _ _ _ = _; rw [eH]; exact q1, q2.mono0 mv fun _ _ h => h⟩
    | dct ks ds => obtain ⟨kvs, q1, q0, q2, q3⟩ := ca; exact ⟨kvs, by show dl _ _ _ = _; rw [eH]; exact q1, q0, q2.mono0 mv fun _ _ h => h, q3.mono0 mv fun _ _ h => h⟩
    | obj k fs => obtain ⟨dx, gs, q1, q2, q3⟩ := ca; exact ⟨dx, gs, by show dl _ _ _ = _; rw [eH]; exact q1, q2, q3.mono0 mv fun _ _ h => h⟩
theorem upd_dl {H : Hp} {p : Addr} {o : HO} (h : H p = some o) : upd (dl H p) p o = H := by
  funext b
  by_cases hb : b = p
  · subst hb; rw [upd_same, h]
  · rw [upd_ne hb, dl_ne hb]
abbrev W00 : WX := fun _ _ _ _ => False
theorem takes00 {X : Cx} : Takes X W00 := fun _ _ ⟨_, _, _, _, _, _, _, _, _, _, _, _, _, _, _, _, w⟩ => w.elim
abbrev FAI := En → Cs → (List D → List (Nat × Cont) → Cs → Prop) → QX → Prop
abbrev turnF (t : FT) (cond : FAB) (A : FA1) (vs : List Nat) (env : En) : D → (Option D → Cs → Prop) → Cs → Prop := fun x K c2 => wpT t x (wipeE env vs) c2 fun env' =>
      cond env' c2 (fun k c3 => sIf k (A env' c3 (fun d c4 => K (some d) c4) fun _ _ _ => False) (K none c3)) fun _ _ _ => False
abbrev coF (flds : Nat → List Str) (m keep : Bool) (t : FT) (AI : FAI) (cond : FAB) (A : FA1) (vs : List Nat) : FA1 := fun env c Q X => AI env c (fun xs gd c1 => compL flds keep c1.length gd (turnF t cond A vs env)
      (fun ds c2 => newL m ds c2 Q) xs [] c1) X
theorem compL_gd {flds : Nat → List Str} {keep : Bool} {np : Nat} {gd : List (Nat × Cont)} {turn : D → (Option D → Cs → Prop) → Cs → Prop} {Q : List D → Cs → Prop} {xs acc : List D} {c : Cs} (h : compL flds keep np gd turn Q xs acc c) : gdOk c gd := by
  cases xs with
  | nil => exact h.1
  | cons _ _ => exact h.1
/-- a turn's end: what is new is frozen, or stays -/
theorem turn_end {flds : Nat → List Str} (hf : flds = G.flds) {keep : Bool} {W1 Wi W4 : Wd} {c1 ci c4 : Cs} {K : (D → D) → Cs → Prop} {accV : List V} {accD : List D} (ok1 : Ok G W1 c1) (oki : Ok G Wi ci) (ok4 : Ok G W4 c4) (xi : Ext W1 Wi) (x4 : Ext Wi W4)
    (hl : keep = false → ci.length = c1.length) (dacc : DenL G Wi accV accD) (h : cl flds keep c1.length c4 K) :
    ∃ W5 f c5, W5.H = W4.H ∧ Ext W1 W5 ∧ Fr Wi W5 ∧ Ok G W5 c5 ∧ (keep = false → c5.length = c1.length) ∧ (∀ {v : V} {d : D}, Den G W4 v d → Den G W5 v (f d)) ∧ DenL G W5 accV accD ∧ K f c5 := by
  cases keep with
  | true => exact ⟨W4, id, c4, rfl, xi.trans x4, x4.toFr, ok4, (fun z => nomatch z), fun h => h, dacc.mono oki x4, h⟩
  | false =>
    have hb := hl rfl
    have x14 := xi.trans x4
    have hle : c1.length ≤ c4.length := by
      have := (x14.frS (np := c1.length) (by rw [ok1.len]; exact Nat.le_refl _)).le
      rw [← ok4.len]; exact this
    obtain ⟨W5, f, c5, e5, x5, ok5, l5, d5, h5⟩ := clean_ok hf ok4 hle h
    have y : FrS c1.length Wi W5 := (x4.frS (by rw [oki.len, hb]; exact Nat.le_refl _)).trans x5
    refine ⟨W5, f, c5, e5, FrS.ext (by rw [ok1.len]; exact (x14.frS (by rw [ok1.len]; exact Nat.le_refl _)).trans x5), y.toFr, ok5, fun _ => l5, d5, ?_, h5⟩
    exact dacc.mono0 (y.toFr.mv oki.fz) fun n a hn => y.get (by rw [← hb, ← oki.len]; exact (List.getElem?_eq_some_iff.mp hn).1) hn
theorem co_red {flds : Nat → List Str} (hf : flds = G.flds) (hK : X.K = G.K) {m keep : Bool} {t : FT} {AI : FAI} {cond : FAB} {vs : List Nat} (hsl : ∀ j ∈ ftSl t, j ∈ vs) {σ : L2.St} {H : Hp} {Q : VK} (h : lift G Wx (coF flds m keep t AI cond A vs) σ H Q) :
    tLc (liftI G Wx AI) (liftG G (ftSl t) (wpT t)) (liftB G W00 cond) (lift G W00 A) vs σ H Q := by
  obtain ⟨W, c, env, Q0, X0, e, ok, eo, h, q, x⟩ := h
  refine ⟨W, c, env, _, X0, e, ok, eo, h, fun J W1 c1 xs gd x1 ok1 it k => ?_, x⟩
  intro p hp
  have eo1 : EnvOk G W1 σ env := eo.mono ok x1
  -- the turns' word
  refine ⟨fun i m' H => m' = xs.length - i ∧ i ≤ xs.length ∧ ∃ Wi ci accV accD, Wi.H = H ∧ Ext W1 Wi ∧ Ok G Wi ci ∧ (keep = false → ci.length = c1.length) ∧ Wi.H p = some (.lst accV) ∧ p ∉ Wi.as ∧ ¬ Wi.Fz p ∧ DenL G Wi accV accD ∧
    compL flds keep c1.length gd (turnF t cond A vs env) (fun ds c2 => newL m ds c2 Q0) (xs.drop i) accD ci,
    ⟨xs.length, by simp, Nat.zero_le _, ?_⟩, ?_⟩
  · obtain ⟨x2, ok2⟩ := ok1.alloc hp (.lst [])
    refine ⟨_, c1, [], [], rfl, x2, ok2, fun _ => rfl, upd_same, fun hm => ?_, fun hf => ?_, .nil, by rw [List.drop_zero]; exact k⟩
    · obtain ⟨o, e1, _⟩ := ok1.mem hm
      rw [hp] at e1; cases e1
    · obtain ⟨o, e1⟩ := ok1.fzt p hf
      rw [hp] at e1; cases e1
  · rintro i m' Hi ⟨rfl, hi, Wi, ci, accV, accD, rfl, xi, oki, hkl, hD, hDa, hDf, dacc, kc⟩
    have hgd := compL_gd kc
    obtain ⟨itg, its⟩ := it Wi ci (xi.frS (Nat.le_refl _)) oki hgd
    by_cases hlt : i < xs.length
    · refine .inr ?_
      have hx : xs[i]? = some xs[i] := List.getElem?_eq_getElem hlt
      obtain ⟨go, yl⟩ := itg i _ hx
      rw [List.drop_eq_getElem_cons hlt] at kc
      obtain ⟨_, hlen, kc⟩ := kc
      -- one item more, or none
      have keepD : ∀ {W' : Wd}, Fr Wi W' → W'.H p = some (.lst accV) ∧ p ∉ W'.as ∧ ¬ W'.Fz p := by
        intro W' y
        refine ⟨y.keep p _ hD hDa, ?_, ?_⟩
        · intro hm
          rcases y.new p hm with z | z
          · exact hDa z
          · rw [hD] at z; cases z
        · intro hf
          rcases y.fzn p hf with z | z | z
          · exact hDf z
          · rw [hD] at z; cases z
          · exact hDa z
      refine ⟨go, fun H' => i + 1 ≤ xs.length ∧ ∃ Wi ci accV accD, Wi.H = H' ∧ Ext W1 Wi ∧ Ok G Wi ci ∧ (keep = false → ci.length = c1.length) ∧ Wi.H p = some (.lst accV) ∧ p ∉ Wi.as ∧ ¬ Wi.Fz p ∧ DenL G Wi accV accD ∧
        compL flds keep c1.length gd (turnF t cond A vs env) (fun ds c2 => newL m ds c2 Q0) (xs.drop (i + 1)) accD ci,
        fun H' hN => ⟨xs.length - (i + 1), by omega, rfl, hN.1, hN.2⟩, fun v H' hy => ?_⟩
      obtain ⟨W2, rfl, x2, ok2, dn⟩ := yl v H' hy
      have x12 := xi.trans x2
      have eo2 : EnvOk G W2 (wipe σ vs) (wipeE env vs) := envOk_wipeE (eo1.mono ok1 x12) vs
      refine ⟨W2, ci, wipeE env vs, _, _, rfl, ok2, eo2, dn, kc, fun σ2 env2 eo3 off k2 => ⟨wipe_off off hsl, ?_⟩⟩
      refine ⟨W2, ci, env2, _, _, rfl, ok2, eo3, k2, fun bb H3 ⟨W3, c3, e3, x3, ok3, k3⟩ => ?_, fun cls dd H' ⟨_, _, _, _, _, _, _, _, _, f⟩ => f.elim⟩
      subst e3
      cases bb with
      | true =>
        rw [if_pos rfl]
        refine ⟨W3, c3, env2, _, _, rfl, ok3, eo3.mono ok2 x3, k3, fun y H4 ⟨W4, c4, d4, e4, x4, ok4, dn4, k4⟩ => ?_, fun cls dd H' ⟨_, _, _, _, _, _, _, _, _, f⟩ => f.elim⟩
        subst e4
        have x24 := (x2.trans x3).trans x4
        have k4' : cl flds keep c1.length c4 fun f c'' => compL flds keep c1.length gd (turnF t cond A vs env) (fun ds c2 => newL m ds c2 Q0) (xs.drop (i + 1)) (accD ++ [f d4]) c'' := k4
        obtain ⟨W5, f, c5, e5, z1, z2, ok5, l5, d5, dacc5, k5⟩ := turn_end hf ok1 oki ok4 xi x24 hkl dacc k4'
        obtain ⟨d1, d2, d3⟩ := keepD z2
        obtain ⟨y1, y2, mv⟩ := ok5.poke (o' := .lst (accV ++ [y])) z1 hp d1 (fun _ z => nomatch z) d2 d3
        rw [← e5]
        refine ⟨accV, d1, by rw [line_eq, dacc.length]; exact hlen, hlt, _, c5, _, _, rfl, y1, y2, l5, upd_same, d2, d3, ?_, k5⟩
        exact (dacc5.mono0 mv fun _ _ h => h).append (.cons ((d5 dn4).mono0 mv fun _ _ h => h) .nil)
      | false =>
        rw [if_neg Bool.false_ne_true]
        have x23 := x2.trans x3
        have k3' : cl flds keep c1.length c3 fun f c'' => compL flds keep c1.length gd (turnF t cond A vs env) (fun ds c2 => newL m ds c2 Q0) (xs.drop (i + 1)) accD c'' := k3
        obtain ⟨W5, f, c5, e5, z1, z2, ok5, l5, d5, dacc5, k5⟩ := turn_end hf ok1 oki ok3 xi x23 hkl dacc k3'
        obtain ⟨d1, d2, d3⟩ := keepD z2
        exact ⟨hlt, W5, c5, accV, accD, e5, z1, ok5, l5, d1, d2, d3, dacc5, k5⟩
    · have hie : i = xs.length := by omega
      refine .inl ⟨its i (by omega), ?_⟩
      rw [hie, List.drop_length] at kc
      obtain ⟨y1, y2, mv⟩ := oki.lose xi hp hD (fun _ z => nomatch z) hDa hDf
      have z := newL_ok y2 (dacc.mono0 mv fun _ _ h => h) kc.2 (fun v H' p => q v H' ((p.up y1).up x1)) p dl_same
      rwa [upd_dl hD] at z
theorem bop_nil {k : Bool} {env : En} {c : Cs} {Q : QE} {X : QX} : wpBop I k .nil env c Q X ↔ False := Iff.rfl
end
end F

namespace F
open PySem PySem.Spec L2
section
variable {G : GI} {I : CI} {lv : Nat} {Wx : WX} {sc : Scope} {N : List Str} {fnB : Str → Bool} {X : Cx} {a b e : Expr} {pos : Pos} {A B C : FA1}

abbrev cellB (scope : Scope) : Str → Bool := fun x => scope.names.lookup x == some .cell
theorem xok_blk (o : XOk G I lv Wx sc N fnB X) (s : Shared) (H : Hp) (scope : Scope) (D : Addr) (cl : List (Str × Addr)) (fp : List Addr) :
    XOk G I lv W00 (relS scope sc) N (cellB scope) (X.blk s H scope (compEnvC scope cl D X.env) fp) where
  hK := o.hK
  hmg := o.hmg
  hN := o.hN
  nd := o.nd
  hsc := by show (compEnvC scope cl D X.env).scope = _; rw [← o.hsc]; rfl
  calm := o.calm
  room := o.room
  tk := takes00
  fnb := fun _ h => h
  glob := o.glob
theorem pts0 : PTs X [] (liftB G Wx (wpCs I .nil)) := ⟨fun pins s σ H Q J h => pts_nil.run pins s σ H Q J (by
  obtain ⟨W, c, env, Q0, X0, e, ok, eo, h, q, x⟩ := h
  exact q true H ⟨W, c, e, Ext.refl W, ok, h⟩)⟩
theorem pts1 {t : Expr} {T : FC} (h : PT X t (liftB G Wx (wpC I T))) : PTs X [t] (liftB G Wx (wpCs I (.cons T .nil))) := pts_one h
theorem se_comp (o : XOk G I lv Wx sc N fnB X) {m keep : Bool} {t : FT} {it : FI} {cond : FCs} {el : FE} {vs : List (Str × Nat)} {elt tg iter : Expr} {ifs : List Expr} {scope : Scope}
    (hb : blkC N sc scope vs = true) (hsl : ∀ j ∈ ftSl t, j ∈ vs.map (·.2)) (hns : notSet iter = true) (hi : PI X tg iter (liftI G Wx (wpI I it)))
    (hg : ∀ X', XOk G I lv W00 (relS scope sc) N (cellB scope) X' → PG X' tg (liftG G (ftSl t) (wpT t)))
    (ht : ∀ X', XOk G I lv W00 (relS scope sc) N (cellB scope) X' → PTs X' ifs (liftB G W00 (wpCs I cond)))
    (he : ∀ X', XOk G I lv W00 (relS scope sc) N (cellB scope) X' → PE X' elt (lift G W00 (wpE I el))) :
    PE X (.ListComp elt [⟨tg, iter, ifs, 0⟩] scope pos) (lift G Wx (wpE I (.comp m keep t it cond el vs))) := by
  have hbk : BlkOk X.N X.env.scope scope vs := blkOk_by (by rw [o.hN, o.hsc]; exact hb)
  refine PE.imp (pe_lc o.calm (by rw [o.hN]; exact o.nd) hi hbk (fun s H D cl fp => hg _ (xok_blk o s H scope D cl fp)) (fun s H D cl fp => ht _ (xok_blk o s H scope D cl fp)) (fun s H D cl fp => he _ (xok_blk o s H scope D cl fp)) (folded_of hns)) fun σ H Q h => ?_
  exact co_red o.glob.flds o.hK hsl h
/-- y = [..] -/
def swC (N : List Str) (sc scope : Scope) (y : Str) (l l' : Nat) : Bool :=
  (match sc.kind with | .function => true | _ => false) && (match sc.names.lookup y with | some .local => true | _ => false) && (l == l') && !(scope.names.any fun (n, k) => n == y && (k == .local || k == .cell))
theorem ss_setC (o : XOk G I lv Wx sc N fnB X) {i : Nat} {y : Str} {py spos : Pos} {m keep : Bool} {t : FT} {it : FI} {cond : FCs} {el : FE} {vs : List (Str × Nat)} {elt tg iter : Expr} {ifs : List Expr} {scope : Scope}
    (hy : N[i]? = some y) (hsw : swC N sc scope y py.line pos.line = true) (hb : blkC N sc scope vs = true) (hsl : ∀ j ∈ ftSl t, j ∈ vs.map (·.2)) (hns : notSet iter = true) (hi : PI X tg iter (liftI G Wx (wpI I it)))
    (hg : ∀ X', XOk G I lv W00 (relS scope sc) N (cellB scope) X' → PG X' tg (liftG G (ftSl t) (wpT t)))
    (ht : ∀ X', XOk G I lv W00 (relS scope sc) N (cellB scope) X' → PTs X' ifs (liftB G W00 (wpCs I cond)))
    (he : ∀ X', XOk G I lv W00 (relS scope sc) N (cellB scope) X' → PE X' elt (lift G W00 (wpE I el))) :
    PS X (.Assign [.Name y py] (.ListComp elt [⟨tg, iter, ifs, 0⟩] scope pos) spos) (tAsg (lift G Wx (wpE I (.comp m keep t it cond el vs))) (gName i)) := by
  have hbk : BlkOk X.N X.env.scope scope vs := blkOk_by (by rw [o.hN, o.hsc]; exact hb)
  unfold swC at hsw
  simp only [Bool.and_eq_true, Bool.not_eq_true'] at hsw
  obtain ⟨⟨⟨h1, h2⟩, h3⟩, h4⟩ := hsw
  have k1 : X.env.scope.kind = .function := by
    rw [o.hsc]
    split at h1
    · assumption
    · cases h1
  have k2 : X.env.scope.names.lookup y = some .local := by
    rw [o.hsc]
    split at h2
    · assumption
    · cases h2
  have z := ps_setLc o.calm (by rw [o.hN]; exact o.nd) (by rw [o.hN]; exact hy) k2 (sw_true (l := spos.line) k1 k2 h3 h4) hi hbk (fun s H D cl fp => hg _ (xok_blk o s H scope D cl fp)) (fun s H D cl fp => ht _ (xok_blk o s H scope D cl fp)) (fun s H D cl fp => he _ (xok_blk o s H scope D cl fp)) (folded_of hns)
  exact ⟨fun pins s σ H D J h => z.run pins s σ H D J (co_red o.glob.flds o.hK hsl h)⟩

theorem se_bop1 {op : BoolOp} (ha : PE X a (lift G Wx A)) : PE X (.BoolOp op [a] pos) (lift G Wx A) := pe_one ha
abbrev bopF (k : Bool) (A B : FA1) : FA1 := fun env c Q X => A env c (fun d c1 => match d with
    | .bl b => sIf b (match k with | true => B env c1 Q X | false => Q (.bl true) c1) (match k with | true => Q (.bl false) c1 | false => B env c1 Q X)
    | _ => False) X
theorem se_and {rest : List Expr} (ha : PE X a (lift G Wx A)) (hb : PE X (.BoolOp .And (b :: rest) pos) (lift G Wx B)) : PE X (.BoolOp .And (a :: b :: rest) pos) (lift G Wx (bopF true A B)) := by
  refine PE.imp (pe_and ha hb) fun σ H Q h => ?_
  obtain ⟨W, c, env, Q0, X0, e, ok, eo, h, q, x⟩ := h
  refine ⟨W, c, env, _, X0, e, ok, eo, h, fun v H' ⟨W1, c1, d, e1, x1, ok1, dn, k⟩ => ?_, x⟩
  cases dn with
  | @bl b =>
    refine ⟨b, rfl, ?_⟩
    cases b with
    | true => rw [if_pos rfl]; exact ⟨W1, c1, env, Q0, X0, e1, ok1, eo.mono ok x1, k, fun v H' p => q v H' (p.up x1), fun cls dd H' p => x cls dd H' (p.up x1)⟩
    | false => rw [if_neg Bool.false_ne_true]; exact q _ _ ⟨W1, c1, _, e1, x1, ok1, .bl, k⟩
  | _ => exact k.elim
theorem se_or {rest : List Expr} (ha : PE X a (lift G Wx A)) (hb : PE X (.BoolOp .Or (b :: rest) pos) (lift G Wx B)) : PE X (.BoolOp .Or (a :: b :: rest) pos) (lift G Wx (bopF false A B)) := by
  refine PE.imp (pe_or ha hb) fun σ H Q h => ?_
  obtain ⟨W, c, env, Q0, X0, e, ok, eo, h, q, x⟩ := h
  refine ⟨W, c, env, _, X0, e, ok, eo, h, fun v H' ⟨W1, c1, d, e1, x1, ok1, dn, k⟩ => ?_, x⟩
  cases dn with
  | @bl b =>
    refine ⟨b, rfl, ?_⟩
    cases b with
    | false => rw [if_neg Bool.false_ne_true]; exact ⟨W1, c1, env, Q0, X0, e1, ok1, eo.mono ok x1, k, fun v H' p => q v H' (p.up x1), fun cls dd H' p => x cls dd H' (p.up x1)⟩
    | true => rw [if_pos rfl]; exact q _ _ ⟨W1, c1, _, e1, x1, ok1, .bl, k⟩
  | _ => exact k.elim
abbrev olF (A B : FA1) : FA1 := fun env c Q X => A env c (fun d c1 => onO (getL c1 d) fun xs => sIf (!xs.isEmpty) (Q d c1) (B env c1 Q X)) X
theorem se_orL (o : XOk G I lv Wx sc N fnB X) (ha : PE X a (lift G Wx A)) (hb : PE X b (lift G Wx B)) : PE X (.BoolOp .Or [a, b] pos) (lift G Wx (olF A B)) := by
  refine PE.imp (pe_orT ha (pe_one hb)) fun σ H Q h => ?_
  obtain ⟨W, c, env, Q0, X0, e, ok, eo, h, q, x⟩ := h
  refine ⟨W, c, env, _, X0, e, ok, eo, h, fun v H' ⟨W1, c1, d, e1, x1, ok1, dn, k⟩ => ?_, x⟩
  obtain ⟨xs, hx, k⟩ := onO_of k
  obtain ⟨p, vs, rfl, hv, t⟩ := den_getL ok1 dn hx
  subst e1
  have el : vs.isEmpty = xs.isEmpty := by
    have := t.length
    cases vs <;> cases xs <;> first | rfl | cases this
  refine ⟨!xs.isEmpty, .inl ⟨vs, by rw [o.hK]; exact SqL.of hv, by rw [el]⟩, ?_⟩
  cases he : xs.isEmpty with
  | true =>
    rw [he] at k
    rw [if_neg (by decide)]
    exact ⟨W1, c1, env, Q0, X0, rfl, ok1, eo.mono ok x1, k, fun v H' p => q v H' (p.up x1), fun cls dd H' p => x cls dd H' (p.up x1)⟩
  | false =>
    rw [he] at k
    rw [if_pos (by decide)]
    exact q _ _ ⟨W1, c1, _, rfl, x1, ok1, dn, k⟩
abbrev bcF (k : Bool) (A B : FAB) : FAB := fun env c Q X => A env c (fun b c1 =>
      sIf b (match k with | true => B env c1 Q X | false => Q true c1) (match k with | true => Q false c1 | false => B env c1 Q X)) X
theorem sc_and {A B : FAB} {rest : List Expr} (ha : PT X a (liftB G Wx A)) (hb : PW X (.BoolOp .And (b :: rest) pos) (liftB G Wx B)) : PW X (.BoolOp .And (a :: b :: rest) pos) (liftB G Wx (bcF true A B)) := by
  refine ⟨fun wh pins s σ H Q J h => (pw_and ha hb).run wh pins s σ H Q J ?_⟩
  obtain ⟨W, c, env, Q0, X0, e, ok, eo, h, q, x⟩ := h
  refine ⟨W, c, env, _, X0, e, ok, eo, h, fun b H' ⟨W1, c1, e1, x1, ok1, k⟩ => ?_, x⟩
  cases b with
  | true => rw [if_pos rfl]; exact ⟨W1, c1, env, Q0, X0, e1, ok1, eo.mono ok x1, k, fun v H' ⟨W2, c2, e2, x2, ok2, k2⟩ => q v H' ⟨W2, c2, e2, x1.trans x2, ok2, k2⟩, fun cls dd H' p => x cls dd H' (p.up x1)⟩
  | false => rw [if_neg Bool.false_ne_true]; exact q _ _ ⟨W1, c1, e1, x1, ok1, k⟩
theorem sc_or {A B : FAB} {rest : List Expr} (ha : PT X a (liftB G Wx A)) (hb : PW X (.BoolOp .Or (b :: rest) pos) (liftB G Wx B)) : PW X (.BoolOp .Or (a :: b :: rest) pos) (liftB G Wx (bcF false A B)) := by
  refine ⟨fun wh pins s σ H Q J h => (pw_or ha hb).run wh pins s σ H Q J ?_⟩
  obtain ⟨W, c, env, Q0, X0, e, ok, eo, h, q, x⟩ := h
  refine ⟨W, c, env, _, X0, e, ok, eo, h, fun b H' ⟨W1, c1, e1, x1, ok1, k⟩ => ?_, x⟩
  cases b with
  | false => rw [if_neg Bool.false_ne_true]; exact ⟨W1, c1, env, Q0, X0, e1, ok1, eo.mono ok x1, k, fun v H' ⟨W2, c2, e2, x2, ok2, k2⟩ => q v H' ⟨W2, c2, e2, x1.trans x2, ok2, k2⟩, fun cls dd H' p => x cls dd H' (p.up x1)⟩
  | true => rw [if_pos rfl]; exact q _ _ ⟨W1, c1, e1, x1, ok1, k⟩
theorem sc_and1 {A : FAB} (ha : PT X a (liftB G Wx A)) : PW X (.BoolOp .And [a] pos) (liftB G Wx A) := pw_and1 ha
theorem sc_or1 {A : FAB} (ha : PT X a (liftB G Wx A)) : PW X (.BoolOp .Or [a] pos) (liftB G Wx A) := pw_or1 ha

def tyVal (G : GI) : Ty → Value
  | .bt x => .type x
  | .cls k => .ref (G.cls k)
def tyV (G : GI) : Ty → V
  | .bt x => .ty x
  | .cls k => .ref (G.cls k)
theorem cls_v {t : Ty} : ClsV (tyV G t) (tyVal G t) := by
  cases t with
  | bt x => exact .ty x
  | cls k => exact .own _
def tyTab : List (String × Str) := [("int", "int"), ("bool", "bool"), ("list", "list"), ("tuple", "tuple"), ("str", "str"), ("dict", "dict")]
def tyOkE (I : CI) (sc : Scope) : Ty → Expr → Bool
  | .bt x, .Name y _ => ((x, y) ∈ tyTab) && glB sc y
  | .cls k, .Name y _ => decide (k < I.nk) && decide (I.kname k = y) && glB sc y
  | _, _ => false
theorem se_ty (o : XOk G I lv Wx sc N fnB X) {t : Ty} (h : tyOkE I sc t e = true) : PE X e (tC (tyV G t)) := by
  unfold tyOkE at h
  split at h
  · rename_i x y p
    simp only [Bool.and_eq_true, decide_eq_true_eq] at h
    obtain ⟨h1, h3⟩ := h
    obtain ⟨g, hd, hn⟩ := gl_of o h3
    have hv : bootBuiltins y = some (.type x) := by
      have : ∀ q ∈ tyTab, bootBuiltins q.2 = some (.type q.1) := by decide +kernel
      exact this (x, y) h1
    have hm : y ∈ blNames := by
      have : ∀ q ∈ tyTab, q.2 ∈ blNames := by decide +kernel
      exact this (x, y) h1
    exact pe_bltn g (by rw [o.hmg]; exact o.glob.bl y hm) hv rfl hn hd
  · rename_i k y p
    simp only [Bool.and_eq_true, decide_eq_true_eq] at h
    obtain ⟨⟨h1, h2⟩, h3⟩ := h
    obtain ⟨g, hd, hn⟩ := gl_of o h3
    have hm := o.glob.kn k h1
    rw [h2] at hm
    exact pe_glob g (by rw [o.hmg]; exact hm) rfl hd
  · cases h
/-- what stands for a type: as the hand layer tells, or a dict of ours -/
inductive TyX2 (K : PySem.W.Frag) (H : Hp) : V → Value → Prop where
  | old {x : V} {t : Value} (h : TyX K H x t) : TyX2 K H x t
  | dct {a : Addr} {r : DRep} (e : H a = some (r.ho a)) (c : r.o.ExactDict) : TyX2 K H (.ref a) (.type "dict")
theorem kit_of2 {X : Cx} {pins : List (Addr × Obj)} {σ : L2.St} {H : Hp} {s : Shared} {x : V} {u t : Value} (I : Inv X pins σ H s) (rx : RelV x u) (ty : TyX2 X.K H x t) : ∃ P : Heap → Prop, PySem.W.KitX X.K u t P ∧ P s.heap ∧ u ≠ .builtin "__main__.__loader__#opaque" := by
  cases ty with
  | old h => exact kit_of I rx h
  | @dct a r e c =>
    cases (show u = Value.ref a from rx)
    exact ⟨_, PySem.W.kitx_dict, ⟨r.o, (I.hok a _ e).1, c.1⟩, fun z => nomatch z⟩
def rIsi2 (K : PySem.W.Frag) : List V → Hp → VK → Prop := fun xs H Q => ∃ (x c : V) (t u : Value) (b : Bool), xs = [x, c] ∧ ClsV c u ∧ TyX2 K H x t ∧ PySem.W.kitOne K t u = some b ∧ Q (.bl b) H
def rIsiT2 (K : PySem.W.Frag) : List V → Hp → VK → Prop := fun xs H Q => ∃ (x : V) (tp : Addr) (cs : List V) (t : Value) (us : List Value) (b : Bool), xs = [x, .ref tp] ∧ H tp = some (.tup cs) ∧ Paired ClsV cs us ∧ TyX2 K H x t ∧ PySem.W.kitAny K t us = some b ∧ Q (.bl b) H
theorem call_isi2 {X : Cx} : CallR X (.builtin "isinstance") (rIsi2 X.K) := by
  intro pins s σ H xs us Q I r h
  obtain ⟨x, c, t, u, b, rfl, k, ty, e, q⟩ := h
  obtain ⟨u1, u2, rfl, r1, r2⟩ := vals2 r
  have e2 := k.eq r2
  subst e2
  obtain ⟨P, Z, p, hx⟩ := kit_of2 I r1 ty
  exact PySem.W.kia_one Z I.kIn p e hx fun tk => ⟨.bl b, H, I.tok tk, rfl, q⟩
theorem call_isiT2 {X : Cx} : CallR X (.builtin "isinstance") (rIsiT2 X.K) := by
  intro pins s σ H xs us Q I r h
  obtain ⟨x, tp, cs, t, ws, b, rfl, hT, k, ty, e, q⟩ := h
  obtain ⟨u1, u2, rfl, r1, r2⟩ := vals2 r
  cases (show u2 = Value.ref tp from r2)
  obtain ⟨P, Z, p, hx⟩ := kit_of2 I r1 ty
  obtain ⟨_, its, rv, o, h1, h2, n, h3⟩ := (show ObjOk X.prog X.w H s.heap tp (.tup cs) from I.hok tp _ hT)
  have e3 := ClsV.all k rv
  subst e3
  obtain ⟨oc, od, dt, sl⟩ := o
  simp only at h2 h3
  subst h2 h3
  exact PySem.W.kia_tup Z I.kIn p h1 e hx fun tk => ⟨.bl b, H, I.tok tk, rfl, q⟩
theorem ty_den {W : Wd} {c : Cs} (K1 : ∀ k, k < I.nk → KIs G.K (G.cls k)) (ok : Ok G W c) {v : V} {d : D} {t : Ty} (dn : Den G W v d) (h : tyD c d = some t) (hk : ∀ k, t = .cls k → k < I.nk) : TyX2 G.K W.H v (tyVal G t) := by
  cases dn with
  | non => simp only [tyD] at h; cases h; exact .old (.base .non)
  | bl => simp only [tyD] at h; cases h; exact .old (.base (.bl _))
  | int => simp only [tyD] at h; cases h; exact .old (.base (.int _))
  | str => simp only [tyD] at h; cases h; exact .old (.base (.str _))
  | tup q _ =>
    simp only [tyD] at h; cases h
    rcases q with q | ⟨ob, its, n, q, qc, _⟩
    · exact .old (.base (.tup q))
    · exact .old (.kTuple q qc)
  | lst q _ => simp only [tyD] at h; cases h; exact .old (.base (.lst q.2))
  | scr q _ =>
    simp only [tyD] at h; cases h
    rcases q with ⟨_, ob, q⟩ | ⟨ob, its, n, q, qc, _⟩
    · exact .old (.base (.frz q))
    · exact .old (.kList q qc)
  | dctK _ q r _ _ => simp only [tyD] at h; cases h; exact .dct q r.1
  | @obj a k dx gs fs _ q _ _ =>
    simp only [tyD] at h; cases h
    have z := K1 k (hk k rfl)
    exact .old (.base (.ins q z.cl z.ha z.hn z.htk z.hm))
  | @cell a n ha =>
    obtain ⟨y, hy, ca⟩ := ok.at ha
    simp only [tyD, hy] at h
    cases y with
    | lst ds => cases h; obtain ⟨vs, q1, q2⟩ := ca; exact .old (.base (.lst q1))
    | dct ks ds => cases h; obtain ⟨r, q1, q2, q3⟩ := ca; exact .dct q1 q2.1
    | obj k fs =>
      cases h
      obtain ⟨dx, gs, q1, q2, q3⟩ := ca
      have z := K1 k (hk k rfl)
      exact .old (.base (.ins q1 z.cl z.ha z.hn z.htk z.hm))
  | ty => simp only [tyD] at h; cases h
  | ref => simp only [tyD] at h; cases h
def tyN2 : List String := ["int", "bool", "list", "tuple", "str", "dict"]
theorem kit_bt : ∀ a ∈ tyNames, ∀ b ∈ tyN2, kitB a b = some (tySub (.bt a) (.bt b)) := by decide +kernel
def tyIn2 (I : CI) : Ty → Bool
  | .bt x => x ∈ tyN2
  | .cls k => decide (k < I.nk)
theorem kit_sub (o : GOk G I lv P w base) {t u : Ty} (ht : tyIn I t = true) (hu : tyIn2 I u = true) : PySem.W.kitOne G.K (tyVal G t) (tyVal G u) = some (tySub t u) := by
  cases t with
  | bt x =>
    have ht' : x ∈ tyNames := of_decide_eq_true ht
    cases u with
    | bt y => exact kit_ty (kit_bt x ht' y (of_decide_eq_true hu))
    | cls j => exact o.ktk j (of_decide_eq_true hu) x ht'
  | cls k =>
    have ht' := of_decide_eq_true ht
    cases u with
    | bt y =>
      have h2 : ∀ b ∈ tyN2, b ∈ tyNames := by decide +kernel
      exact o.kkt k ht' y (h2 y (of_decide_eq_true hu))
    | cls j => exact o.kkk k j ht' (of_decide_eq_true hu)
theorem kit_any (o : GOk G I lv P w base) {t : Ty} (ht : tyIn I t = true) : ∀ {us : List Ty}, us.all (tyIn2 I) = true → PySem.W.kitAny G.K (tyVal G t) (us.map (tyVal G)) = some (us.any (tySub t))
  | [], _ => kitAny_nil
  | u :: us, h => by
    rw [List.all_cons, Bool.and_eq_true] at h
    rw [List.map_cons, List.any_cons]
    refine kitAny_cons (kit_sub o ht h.1) (fun e => ?_) fun e => ?_
    · rw [e, Bool.false_or]; exact kit_any o ht h.2
    · rw [e, Bool.true_or]
theorem tyOkE_in {t : Ty} (h : tyOkE I sc t e = true) : tyIn2 I t = true := by
  unfold tyOkE at h
  split at h
  · simp only [Bool.and_eq_true, decide_eq_true_eq] at h
    have : ∀ q ∈ tyTab, q.1 ∈ tyN2 := by decide +kernel
    exact decide_eq_true (this _ h.1)
  · simp only [Bool.and_eq_true, decide_eq_true_eq] at h
    exact decide_eq_true h.1.1
  · cases h
abbrev isF (I : CI) (A : FA1) (ts : List Ty) : FA1 := fun env c Q X => A env c (fun d c1 => onO (tyD c1 d) fun t => tyIn I t = true ∧ Q (.bl (ts.any (tySub t))) c1) X
theorem se_isi1 (o : XOk G I lv Wx sc N fnB X) {t : Ty} {p : Pos} (hg : glB sc "isinstance" = true) (hn : noStar a = true) (ht : tyOkE I sc t e = true) (ha : PE X a (lift G Wx A)) : PE X (.Call (.Name "isinstance" p) [a, e] [] pos) (lift G Wx (isF I A [t])) := by
  obtain ⟨g, hd, hnn⟩ := gl_of o hg
  have hes : noStar e = true := by
    unfold tyOkE at ht
    split at ht <;> first | rfl | cases ht
  refine PE.imp (pe_callBN call_isi2 g (by rw [o.hmg]; exact o.glob.bl _ (by decide +kernel)) (by decide +kernel) (pa_consN hn ha (pa_consN hes (se_ty o ht) pa_nil)) hnn hd (by rw [List.all_cons, List.all_cons, hn, hes]; rfl)) fun σ H Q h => ?_
  obtain ⟨W, c, env, Q0, X0, e, ok, eo, h, q, x⟩ := h
  refine ⟨W, c, env, _, X0, e, ok, eo, h, fun v H' ⟨W1, c1, d, e1, x1, ok1, dn, k⟩ => ?_, x⟩
  obtain ⟨u, hu, k1, k2⟩ := onO_of k
  subst e1
  refine ⟨v, tyV G t, tyVal G u, tyVal G t, tySub u t, rfl, cls_v, ?_, ?_, ?_⟩
  · rw [o.hK]
    exact ty_den (I := I) o.glob.kis ok1 dn hu fun k ek => by subst ek; exact of_decide_eq_true k1
  · rw [o.hK]; exact kit_sub o.glob k1 (tyOkE_in ht)
  · rw [List.any_cons, List.any_nil, Bool.or_false] at k2
    exact q _ _ ⟨W1, c1, _, rfl, x1, ok1, .bl, k2⟩
def tyOkEs (I : CI) (sc : Scope) : List Ty → List Expr → Bool
  | [], [] => true
  | t :: ts, e :: es => tyOkE I sc t e && tyOkEs I sc ts es
  | _, _ => false
theorem tyOkEs_in : ∀ {ts : List Ty} {es : List Expr}, tyOkEs I sc ts es = true → ts.all (tyIn2 I) = true
  | [], [], _ => rfl
  | t :: ts, e :: es, h => by
    unfold tyOkEs at h
    rw [Bool.and_eq_true] at h
    rw [List.all_cons, tyOkE_in h.1, tyOkEs_in h.2]; rfl
  | [], _ :: _, h => by cases h
  | _ :: _, [], h => by cases h
def tTys (G : GI) (ts : List Ty) : TA := fun _ H Q => Q (ts.map (tyV G)) H
theorem sa_tys (o : XOk G I lv Wx sc N fnB X) : ∀ {ts : List Ty} {es : List Expr}, tyOkEs I sc ts es = true → PA X es (tTys G ts) ∧ es.all noStar = true
  | [], [], _ => ⟨pa_nil, rfl⟩
  | t :: ts, e :: es, h => by
    unfold tyOkEs at h
    rw [Bool.and_eq_true] at h
    have hes : noStar e = true := by
      have ht := h.1
      unfold tyOkE at ht
      split at ht <;> first | rfl | cases ht
    obtain ⟨h1, h2⟩ := sa_tys o h.2
    exact ⟨pa_consN hes (se_ty o h.1) h1, by rw [List.all_cons, hes, h2]; rfl⟩
  | [], _ :: _, h => by cases h
  | _ :: _, [], h => by cases h
theorem se_isiT (o : XOk G I lv Wx sc N fnB X) {ts : List Ty} {es : List Expr} {p p2 : Pos} {k0 : Nat} (hg : glB sc "isinstance" = true) (hn : noStar a = true) (ht : tyOkEs I sc ts es = true) (hl : ts.length ≤ 1000) (ha : PE X a (lift G Wx A)) :
    PE X (.Call (.Name "isinstance" p) [a, .Tuple es k0 p2] [] pos) (lift G Wx (isF I A ts)) := by
  obtain ⟨g, hd, hnn⟩ := gl_of o hg
  obtain ⟨h1, h2⟩ := sa_tys o ht
  refine PE.imp (pe_callBN call_isiT2 g (by rw [o.hmg]; exact o.glob.bl _ (by decide +kernel)) (by decide +kernel) (pa_consN hn ha (pa_consN rfl (pe_tup h1) pa_nil)) hnn hd (by rw [List.all_cons, List.all_cons, hn]; rfl)) fun σ H Q h => ?_
  obtain ⟨W, c, env, Q0, X0, e, ok, eo, h, q, x⟩ := h
  refine ⟨W, c, env, _, X0, e, ok, eo, h, fun v H' ⟨W1, c1, d, e1, x1, ok1, dn, k⟩ => ?_, x⟩
  obtain ⟨u, hu, k1, k2⟩ := onO_of k
  subst e1
  refine ⟨by rw [List.length_map, line_eq]; omega, fun tp htp => ?_⟩
  obtain ⟨x2, ok2⟩ := ok1.alloc htp (.tup (ts.map (tyV G)))
  have hall : ts.all (tyIn2 I) = true := tyOkEs_in ht
  have hp : ∀ us : List Ty, Paired ClsV (us.map (tyV G)) (us.map (tyVal G)) := fun us => by
    induction us with
    | nil => exact .nil
    | cons u us ih => exact .cons cls_v ih
  refine ⟨v, tp, ts.map (tyV G), tyVal G u, ts.map (tyVal G), ts.any (tySub u), rfl, upd_same, hp ts, ?_, ?_, ?_⟩
  · rw [o.hK]
    have z := ty_den (I := I) o.glob.kis ok2 (dn.mono ok1 x2) hu fun k ek => by subst ek; exact of_decide_eq_true k1
    exact z
  · rw [o.hK]; exact kit_any o.glob k1 hall
  · exact q _ _ (Post.up x1 ⟨_, c1, _, rfl, x2, ok2, .bl, k2⟩)
theorem newD_ok {W : Wd} {c : Cs} {m : Bool} {p : Addr} {r : DRep} {ks vs : List D} {Q0 : QE} {Q : VK} (ok : Ok G W c) (hp : W.H p = none) (rk : r.ok G.w p ks) (dk : DenL G W r.keys ks) (dv : DenL G W r.vals vs)
    (k : newD m ks vs c Q0) (q : ∀ v H', Post G W Q0 v H' → Q v H') : Q (.ref p) (upd W.H p (r.ho p)) := by
  cases m with
  | true =>
    obtain ⟨x, ok1⟩ := ok.alloc hp (r.ho p)
    have hc : CellAt G (W.cellAt p (r.ho p)) p (.dct ks vs) := by
      obtain ⟨x2, _⟩ := ok.allocC hp (.lst []) (y := .lst []) ⟨[], upd_same, .nil⟩
      have mv : Mv W (W.cellAt p (r.ho p)) := ⟨fun b xs h => by
        show upd _ _ _ _ = _
        rw [upd_ne (ne_of_none h hp)]; exact h, fun b u f h => by
        show upd _ _ _ _ = _
        rw [upd_ne (ne_of_none h hp)]; exact h, fun b h => h⟩
      refine ⟨r, upd_same, rk, dk.mono0 mv fun n a h => ?_, dv.mono0 mv fun n a h => ?_⟩ <;> exact x2.get h
    obtain ⟨x3, ok3⟩ := ok.allocC hp (r.ho p) hc
    refine q _ _ ⟨_, _, _, rfl, x3, ok3, .cell ?_, k⟩
    show (W.as ++ [p])[c.length]? = some p
    rw [← ok.len, List.getElem?_append_right (Nat.le_refl _)]
    simp
  | false =>
    obtain ⟨x3, ok3⟩ := ok.allocF hp (r.ho p)
    exact q _ _ ⟨_, _, _, rfl, x3, ok3, .dctK (.inl rfl) upd_same rk (dk.mono ok x3) (dv.mono ok x3), k⟩
theorem se_dct0 {m : Bool} : PE X (.Dict [] [] pos) (lift G Wx (wpE I (.dct0 m))) := by
  refine PE.imp pe_dnew fun σ H Q ⟨W, c, env, Q0, X0, e, ok, eo, h, q, x⟩ => ?_
  subst e
  intro p hp hs
  exact newD_ok (r := nilRep) ok hp (nil_ok hs) .nil .nil h q
/-- the new dict's own place, when its pairs are made -/
theorem disp_back {W W2 : Wd} {c c2 : Cs} (ok : Ok G W c) {p : Addr} {o : HO} (hp : W.H p = none) (ht : ∀ xs, o ≠ .tup xs) (x12 : Ext { W with H := upd W.H p o } W2) (ok2 : Ok G W2 c2) :
    W2.H p = some o ∧ Ext W { W2 with H := dl W2.H p } ∧ Ok G { W2 with H := dl W2.H p } c2 ∧ Mv W2 { W2 with H := dl W2.H p } := by
  obtain ⟨x0, ok0⟩ := ok.alloc hp o
  have hD : W2.H p = some o := x12.keep p _ upd_same fun hm => by
    obtain ⟨o, e3, _⟩ := ok.mem hm
    rw [hp] at e3; cases e3
  have hDa : p ∉ W2.as := fun hm => by
    rcases x12.new p hm with z | z
    · have z' : p ∈ W.as := z
      obtain ⟨o, e3, _⟩ := ok.mem z'
      rw [hp] at e3; cases e3
    · have z' : upd W.H p o p = none := z
      rw [upd_same] at z'; cases z'
  have hDf : ¬ W2.Fz p := fun hf => by
    rcases x12.fzn p hf with z | z | z
    · obtain ⟨o, e3⟩ := ok.fzt p z
      rw [hp] at e3; cases e3
    · have z' : upd W.H p o p = none := z
      rw [upd_same] at z'; cases z'
    · obtain ⟨o, e3, _⟩ := ok.mem z
      rw [hp] at e3; cases e3
  obtain ⟨y1, y2, mv⟩ := ok2.lose (x0.trans x12) hp hD ht hDa hDf
  exact ⟨hD, y1, y2, mv⟩
theorem upd_dl2 {H : Hp} {p : Addr} {o : HO} : upd (dl H p) p o = upd H p o := by
  funext b
  by_cases hb : b = p
  · subst hb; rw [upd_same, upd_same]
  · rw [upd_ne hb, upd_ne hb, dl_ne hb]
abbrev d1F (m tk : Bool) (A B : FA1) : FA1 := fun env c Q X => A env c (fun x c1 => B env c1 (fun y c2 => (cond tk (isTupD x) (isKey x)) = true ∧ newD m [x] [y] c2 Q) X) X
theorem se_dct1K (o : XOk G I lv Wx sc N fnB X) {m : Bool} (ha : PE X a (lift G Wx A)) (hb : PE X b (lift G Wx B)) : PE X (.Dict [some a] [b] pos) (lift G Wx (d1F m false A B)) := by
  refine PE.imp (pe_dispK (pps_cons ha hb pps_nil) rfl rfl (by simp) (by simp)) fun σ H Q ⟨W, c, env, Q0, X0, e, ok, eo, h, q, x⟩ => ?_
  subst e
  intro p hp hs
  obtain ⟨x0, ok0⟩ := ok.alloc hp (nilRep.ho p)
  refine ⟨_, c, env, _, X0, rfl, ok0, eo.mono ok x0, h, fun v H' ⟨W1, c1, d, e1, x1, ok1, dn, k⟩ => ?_, fun cls dd H' p => x cls dd H' (p.up x0)⟩
  refine ⟨W1, c1, env, _, X0, e1, ok1, (eo.mono ok x0).mono ok0 x1, k, fun v2 H2 ⟨W2, c2, d2, e2, x2, ok2, dn2, k2⟩ => ?_, fun cls dd H' p => x cls dd H' ((p.up x1).up x0)⟩
  subst e2
  have x12 := x1.trans x2
  obtain ⟨hD, y1, y2, mv⟩ := disp_back ok hp (fun _ => DRep.ho_tup) x12 ok2
  obtain ⟨kk, e1', e2'⟩ := key_cases (show isKey d = true from k2.1)
  have ev := e2' dn
  subst ev
  refine ⟨hD, [(kk, v2)], rfl, by simp, fun r hr => ?_⟩
  obtain ⟨r1, r2, r3⟩ := hr
  have dk : DenL G { W2 with H := dl W2.H p } r.keys [d] := by rw [r1]; exact .cons ((dn.mono ok1 x2).mono0 mv fun _ _ h => h) .nil
  have dv : DenL G { W2 with H := dl W2.H p } r.vals [d2] := by rw [r2]; exact .cons (dn2.mono0 mv fun _ _ h => h) .nil
  have rk : r.ok G.w p [d] := by
    rw [o.glob.hw]
    exact r3 [d] (by rw [List.all_cons, show isKey d = true from k2.1]; rfl) (by simp only [keysN, e1']; rfl)
  have z := newD_ok y2 dl_same rk dk dv k2.2 (fun v H' p => q v H' (p.up y1))
  rwa [upd_dl2] at z
theorem se_dct1N (o : XOk G I lv Wx sc N fnB X) {m : Bool} (ha : PE X a (lift G Wx A)) (hb : PE X b (lift G Wx B)) : PE X (.Dict [some a] [b] pos) (lift G Wx (d1F m true A B)) := by
  refine ⟨fun pins s σ H Q I ⟨W, c, env, Q0, X0, e, ok, eo, h, q, x⟩ => ?_⟩
  subst e
  have hp : W.H s.heap.objs.size = none := I.hok.fresh (Nat.le_refl s.heap.objs.size)
  have hs : (s.heap.objs.size == sysModules) = false := beq_eq_false_iff_ne.mpr (Ne.symm (Nat.ne_of_lt I.big))
  have I1 := I.laid (a := s.heap.objs.size) (o := nilRep.ho s.heap.objs.size) (h' := s.heap.push { cls := .type "dict", data := .dict #[] }) (t' := s.toks) (fun _ _ q => Heap.get?_push_of_some _ q) (Nat.le_refl _) (rep_obj (Heap.get?_push_size _ rfl))
  have hu : (nestedKind X.prog X.w).room X.A := by have := hu_x o; show X.A.units + 8 < cLine; omega
  rw [arm_eval_Dict, zip_pairTrees [some a] [b] X.env pos rfl rfl, dictDisplay_pairs (pairTrees [some a] [b] X.env pos) (by simp [pairTrees]) (by simp [pairTrees])]
  refine wpAny_bind (wpAny_standAt (wpAny_bind (wpAny_subDictH (knd := nestedKind X.prog X.w) hu (by simp [pairTrees]) ?_)))
  obtain ⟨x0, ok0⟩ := ok.alloc hp (nilRep.ho s.heap.objs.size)
  refine thn ((pps_cons ha hb pps_nil).run pins _ σ _ (fun ps H2 => ∃ W2 c2 d d2 v v2, W2.H = H2 ∧ ps = [(v, v2)] ∧ Ext { W with H := upd W.H s.heap.objs.size (nilRep.ho s.heap.objs.size) } W2 ∧ Ok G W2 c2 ∧ Den G W2 v d ∧ Den G W2 v2 d2 ∧ isTupD d = true ∧ newD m [d] [d2] c2 Q0) I1 ?_) fun ws s2 ⟨ps, H2, I2, rel, W2, c2, d, d2, v, v2, e2, ep, x12, ok2, dn, dn2, k1, k2⟩ => ?_
  · refine ⟨_, c, env, _, X0, rfl, ok0, eo.mono ok x0, h, fun v H' ⟨W1, c1, d, e1, x1, ok1, dn, k⟩ => ?_, fun cls dd H' p => x cls dd H' (p.up x0)⟩
    refine ⟨W1, c1, env, _, X0, e1, ok1, (eo.mono ok x0).mono ok0 x1, k, fun v2 H2 ⟨W2, c2, d2, e2, x2, ok2, dn2, k2⟩ => ?_, fun cls dd H' p => x cls dd H' ((p.up x1).up x0)⟩
    exact ⟨W2, c2, d, d2, v, v2, e2, rfl, x1.trans x2, ok2, dn.mono ok1 x2, dn2, k2.1, k2.2⟩
  · subst e2 ep
    obtain ⟨n, n1, n2, n3, n4⟩ := isTup_ref k1
    obtain ⟨b', rfl⟩ := n4 dn
    cases rel with
    | @cons p1 q1 _ _ r1 r2 =>
      cases r2
      obtain ⟨kx, vx⟩ := q1
      cases (show kx = Value.ref b' from r1.1)
      obtain ⟨hD, y1, y2, mv⟩ := disp_back ok hp (fun _ => DRep.ho_tup) x12 ok2
      refine ⟨[(n, b', vx)], ⟨rfl, rfl, ⟨den_nk o.hK I2 dn n1 rfl, n3⟩, trivial⟩, nil_dictOfH (I2.hok _ _ hD).1, fun h' tk dd hs' => ?_⟩
      obtain ⟨r, p1, p2⟩ := repN_of (ys := [(n, b', v2)]) hs (by rw [line_eq]; show 1 ≤ _; omega) dd (.cons ⟨rfl, rfl, r1.2⟩ .nil)
      have I3 := I2.write (x := s.heap.objs.size) (e := s.heap.objs.size) (t' := tk) (by rw [hD]; exact trivial) (.inl rfl) (fun b o hb z => (hs'.2 b hb).trans z) ⟨_, p1⟩ (rep_obj (H' := upd W2.H s.heap.objs.size (r.ho s.heap.objs.size)) p1)
      refine wpAny_pure ⟨.ref s.heap.objs.size, _, I3, rfl, ?_⟩
      obtain ⟨r1', r2', r3'⟩ := p2
      have dk : DenL G { W2 with H := dl W2.H s.heap.objs.size } r.keys [d] := by rw [r1']; exact .cons (dn.mono0 mv fun _ _ h => h) .nil
      have dv : DenL G { W2 with H := dl W2.H s.heap.objs.size } r.vals [d2] := by rw [r2']; exact .cons (dn2.mono0 mv fun _ _ h => h) .nil
      have rk : r.ok G.w s.heap.objs.size [d] := by
        rw [o.glob.hw]
        exact r3' [d] (by rw [List.all_cons, k1]; rfl) (by simp only [keysN, n1]; rfl)
      have z := newD_ok y2 dl_same rk dk dv k2 (fun v H' p => q v H' (p.up y1))
      rwa [upd_dl2] at z
end
end F

namespace F
open PySem PySem.Spec L2

abbrev FAS := Nat → FEnds → EX → En → Cs → Prop
def SPost (G : GI) (np : Nat) (W : Wd) (K : En → Cs → Prop) : L2.St → Hp → Prop := fun σ' H' => ∃ W' c' env', W'.H = H' ∧ FrS np W W' ∧ Ok G W' c' ∧ EnvOk G W' σ' env' ∧ K env' c'
def RPost (G : GI) (np : Nat) (W : Wd) (K : QE) : V → Hp → Prop := fun v H' => ∃ W' c' d, W'.H = H' ∧ FrS np W W' ∧ Ok G W' c' ∧ Den G W' v d ∧ K d c'
def SXPost (G : GI) (np : Nat) (W : Wd) (X0 : EX) : Value → Option Addr → L2.St → Hp → Prop := fun cls dd σ' H' => ∃ W' c' env' k fs, W'.H = H' ∧ FrS np W W' ∧ Ok G W' c' ∧ EnvOk G W' σ' env' ∧ cls = .ref (G.exc k) ∧ ExcD G W' dd k fs ∧ X0 k fs env' c'
structure SOut (G : GI) (Wx : WX) (np : Nat) (W : Wd) (E : FEnds) (X0 : EX) (D : Ends) : Prop where
  nx : ∀ σ' H', SPost G np W E.nx σ' H' → D.nx σ' H'
  rt : ∀ v H', RPost G np W E.rt v H' → D.rt v H'
  bk : ∀ σ' H', SPost G np W E.bk σ' H' → D.bk σ' H'
  ct : ∀ σ' H', SPost G np W E.ct σ' H' → D.ct σ' H'
  ex : ∀ cls dd σ' H', SXPost G np W X0 cls dd σ' H' → Wx cls dd σ' H'
def liftS (G : GI) (Wx : WX) (np : Nat) (T : FAS) : TS := fun D σ H => ∃ W c env E X0, W.H = H ∧ np ≤ c.length ∧ Ok G W c ∧ EnvOk G W σ env ∧ T np E X0 env c ∧ SOut G Wx np W E X0 D
theorem PS.imp {X : Cx} {s : Stmt} {t t' : TS} (h : PS X s t) (i : ∀ D σ H, t' D σ H → t D σ H) : PS X s t' := ⟨fun pins s σ H D I hw => h.run pins s σ H D I (i _ _ _ hw)⟩
theorem PSs.imp {X : Cx} {s : List Stmt} {t t' : TS} (h : PSs X s t) (i : ∀ D σ H, t' D σ H → t D σ H) : PSs X s t' := ⟨fun pins s σ H D I hw => h.run pins s σ H D I (i _ _ _ hw)⟩
section
variable {G : GI} {I : CI} {lv : Nat} {Wx : WX} {sc : Scope} {N : List Str} {fnB : Str → Bool} {X : Cx} {a b e : Expr} {pos : Pos} {A B C : FA1} {np : Nat}
theorem SPost.up {W W' : Wd} (x : FrS np W W') {K : En → Cs → Prop} {σ' : L2.St} {H' : Hp} (p : SPost G np W' K σ' H') : SPost G np W K σ' H' :=
  let ⟨W2, c2, env2, e, y, r⟩ := p; ⟨W2, c2, env2, e, x.trans y, r⟩
theorem RPost.up {W W' : Wd} (x : FrS np W W') {K : QE} {v : V} {H' : Hp} (p : RPost G np W' K v H') : RPost G np W K v H' :=
  let ⟨W2, c2, d, e, y, r⟩ := p; ⟨W2, c2, d, e, x.trans y, r⟩
theorem SXPost.up {W W' : Wd} (x : FrS np W W') {K : EX} {cls : Value} {dd : Option Addr} {σ' : L2.St} {H' : Hp} (p : SXPost G np W' K cls dd σ' H') : SXPost G np W K cls dd σ' H' :=
  let ⟨W2, c2, env2, k, fs, e, y, r⟩ := p; ⟨W2, c2, env2, k, fs, e, x.trans y, r⟩
theorem SOut.up {W W' : Wd} (x : FrS np W W') {E : FEnds} {X0 : EX} {D : Ends} (o : SOut G Wx np W E X0 D) : SOut G Wx np W' E X0 D :=
  ⟨fun σ' H' p => o.nx σ' H' (p.up x), fun v H' p => o.rt v H' (p.up x), fun σ' H' p => o.bk σ' H' (p.up x), fun σ' H' p => o.ct σ' H' (p.up x), fun cls dd σ' H' p => o.ex cls dd σ' H' (p.up x)⟩
theorem SPost.mono {n : Nat} {W : Wd} (h : np ≤ n) {K : En → Cs → Prop} {σ' : L2.St} {H' : Hp} (p : SPost G n W K σ' H') : SPost G np W K σ' H' :=
  let ⟨W2, c2, env2, e, y, r⟩ := p; ⟨W2, c2, env2, e, y.mono h, r⟩
theorem RPost.mono {n : Nat} {W : Wd} (h : np ≤ n) {K : QE} {v : V} {H' : Hp} (p : RPost G n W K v H') : RPost G np W K v H' :=
  let ⟨W2, c2, d, e, y, r⟩ := p; ⟨W2, c2, d, e, y.mono h, r⟩
theorem SXPost.mono {n : Nat} {W : Wd} (h : np ≤ n) {K : EX} {cls : Value} {dd : Option Addr} {σ' : L2.St} {H' : Hp} (p : SXPost G n W K cls dd σ' H') : SXPost G np W K cls dd σ' H' :=
  let ⟨W2, c2, env2, k, fs, e, y, r⟩ := p; ⟨W2, c2, env2, k, fs, e, y.mono h, r⟩
/-- an expression's end inside a statement -/
theorem SOut.exE {W : Wd} {c : Cs} {σ : L2.St} {env : En} (hn : np ≤ c.length) (ok : Ok G W c) (eo : EnvOk G W σ env) {E : FEnds} {X0 : EX} {D : Ends} (o : SOut G Wx np W E X0 D) : ∀ cls dd H', XPost G W (atE X0 env) cls dd H' → Wx cls dd σ H' :=
  fun cls dd H' ⟨W1, c1, k, fs, e, x1, ok1, ec, ed, q⟩ => o.ex cls dd σ H' ⟨W1, c1, env, k, fs, e, x1.frS (by rw [ok.len]; exact hn), ok1, eo.mono ok x1, ec, ed, q⟩
theorem le_ext {W W' : Wd} {c c' : Cs} (hn : np ≤ c.length) (ok : Ok G W c) (x : Ext W W') (ok' : Ok G W' c') : np ≤ c'.length ∧ FrS np W W' := by
  have f := x.frS (np := np) (by rw [ok.len]; exact hn)
  exact ⟨by rw [← ok'.len]; exact f.le, f⟩

theorem ss_nil : PSs X [] (liftS G Wx np (wpSs I .nil)) := by
  refine PSs.imp pss_nil fun D σ H ⟨W, c, env, E, X0, e, hn, ok, eo, h, o⟩ => ?_
  exact o.nx σ H ⟨W, c, env, e, FrS.refl (by rw [ok.len]; exact hn), ok, eo, h⟩
theorem ss_cons {s : Stmt} {ss : List Stmt} {f : FS} {fs : FSs} (h1 : PS X s (liftS G Wx np (wpS I f))) (h2 : PSs X ss (liftS G Wx np (wpSs I fs))) : PSs X (s :: ss) (liftS G Wx np (wpSs I (.cons f fs))) := by
  refine PSs.imp (pss_cons h1 h2) fun D σ H ⟨W, c, env, E, X0, e, hn, ok, eo, h, o⟩ => ?_
  refine ⟨W, c, env, _, X0, e, hn, ok, eo, h, ⟨fun σ' H' ⟨W1, c1, env1, e1, x1, ok1, eo1, k⟩ => ?_, o.rt, o.bk, o.ct, o.ex⟩⟩
  exact ⟨W1, c1, env1, E, X0, e1, by rw [← ok1.len]; exact x1.le, ok1, eo1, k, o.up x1⟩
/-- a statement of F alone -/
theorem ss_ghost {ss : List Stmt} {f : FS} {fs : FSs} (hg : ∀ (W : Wd) (c : Cs) (σ : L2.St) (env : En) (E : FEnds) (X0 : EX), np ≤ c.length → Ok G W c → EnvOk G W σ env → wpS I f np E X0 env c → SPost G np W E.nx σ W.H)
    (h2 : PSs X ss (liftS G Wx np (wpSs I fs))) : PSs X ss (liftS G Wx np (wpSs I (.cons f fs))) := by
  refine PSs.imp h2 fun D σ H ⟨W, c, env, E, X0, e, hn, ok, eo, h, o⟩ => ?_
  obtain ⟨W1, c1, env1, e1, x1, ok1, eo1, k⟩ := hg W c σ env _ X0 hn ok eo h
  exact ⟨W1, c1, env1, E, X0, e1.trans e, by rw [← ok1.len]; exact x1.le, ok1, eo1, k, o.up x1⟩

theorem ss_expr (hc : notComp e = true) {f : FE} (ha : PE X e (lift G Wx (wpE I f))) : PS X (.Expr e pos) (liftS G Wx np (wpS I (.expr f))) := by
  refine PS.imp (ps_expr ha (swaps_of hc)) fun D σ H ⟨W, c, env, E, X0, eH, hn, ok, eo, h, o⟩ => ?_
  refine ⟨W, c, env, _, _, eH, ok, eo, h, fun v H' ⟨W1, c1, d, e1, x1, ok1, dn, k⟩ => ?_, o.exE hn ok eo⟩
  exact o.nx _ _ ⟨W1, c1, env, e1, (le_ext hn ok x1 ok1).2, ok1, eo.mono ok x1, k⟩
theorem ss_doc {x : Str} {j : Nat} {p : Pos} {ss : List Stmt} {T : TS} (h : PSs X ss T) : PSs X (.Expr (.Constant (.str x) j p) pos :: ss) T :=
  PSs.imp (pss_cons ps_doc h) fun D σ H h => h
theorem asg_red {f : FE} {t : FT} {D : Ends} {σ : L2.St} {H : Hp} (h : liftS G Wx np (wpS I (.set t f)) D σ H) : tAsg (lift G Wx (wpE I f)) (liftG G (ftSl t) (wpT t)) D σ H := by
  obtain ⟨W, c, env, E, X0, eH, hn, ok, eo, h, o⟩ := h
  refine ⟨W, c, env, _, _, eH, ok, eo, h, fun v H' ⟨W1, c1, d, e1, x1, ok1, dn, k⟩ => ?_, o.exE hn ok eo⟩
  exact ⟨W1, c1, env, d, _, e1, ok1, eo.mono ok x1, dn, k, fun σ' env' eo' _ k' => o.nx _ _ ⟨W1, c1, env', e1, (le_ext hn ok x1 ok1).2, ok1, eo', k'⟩⟩
theorem swaps_cell {e : Expr} {x : Str} {p : Pos} {l : Nat} {env : Env} (h : env.scope.names.lookup x = some .cell) : swapsWith e (some (.Name x p)) l env = pure false := by
  have hk : (NameKind.cell == NameKind.local) = false := rfl
  unfold swapsWith
  cases e <;> first | rfl | simp [Env.kindOf, h, hk]
/-- a comprehension may be put into a name that an inner one reads -/
def cellV (sc : Scope) (x : Str) : Bool := match sc.names.lookup x with
  | some .cell => true
  | _ => false
theorem ss_setN (o : XOk G I lv Wx sc N fnB X) {i : Nat} {x : Str} {p : Pos} {f : FE} (hx : N[i]? = some x) (hl : locB sc fnB x = true) (hc : (notComp e || cellV sc x) = true) (ha : PE X e (lift G Wx (wpE I f))) : PS X (.Assign [.Name x p] e pos) (liftS G Wx np (wpS I (.set (.nm i) f))) := by
  have hsw : swapsWith e (some (.Name x p)) pos.line X.env = pure false := by
    rcases Bool.or_eq_true _ _ |>.mp hc with hc | hc
    · exact swaps_of hc
    · refine swaps_cell ?_
      rw [o.hsc]
      unfold cellV at hc
      split at hc
      · assumption
      · cases hc
  refine PS.imp (ps_asg ha (sg_name o hx hl) hsw stores_name (each_one rfl)) fun D σ H h => asg_red h
def tupOk : Expr → Bool
  | .Tuple vs _ _ => vs.all (foldedForSure 8)
  | _ => true
theorem stores_fold {ts vs : List Expr} {kt k2 : Nat} {pt pt2 : Pos} {env : Env} (h : vs.all (foldedForSure 8) = true) : swappedStores [.Tuple ts kt pt] (.Tuple vs k2 pt2) env = pure none := by
  unfold swappedStores
  dsimp only
  rw [h]
  simp only [if_true]
  repeat' (first | rfl | split)
theorem stores_tupOk {ts : List Expr} {k : Nat} {p : Pos} {e : Expr} {env : Env} (h : tupOk e = true) : swappedStores [.Tuple ts k p] e env = pure none := by
  cases e with
  | Tuple vs k2 p2 => exact stores_fold h
  | _ => exact stores_tup rfl
theorem ss_setT (o : XOk G I lv Wx sc N fnB X) {ts : List Expr} {k : Nat} {p : Pos} {f : FE} {t : FT} (hg : PG X (.Tuple ts k p) (liftG G (ftSl t) (wpT t))) (hc : tupOk e = true) (ha : PE X e (lift G Wx (wpE I f))) : PS X (.Assign [.Tuple ts k p] e pos) (liftS G Wx np (wpS I (.set t f))) := by
  refine PS.imp (ps_asg ha hg (show swapsWith e (some (.Tuple ts k p)) pos.line X.env = pure false from swapsT_of) (stores_tupOk hc) (each_one rfl)) fun D σ H h => asg_red h
theorem ss_setCo {i : Nat} {f : FE} {s : Stmt} (h : PS X s (tAsg (lift G Wx (wpE I f)) (gName i))) : PS X s (liftS G Wx np (wpS I (.setC i f))) := by
  refine PS.imp h fun D σ H ⟨W, c, env, E, X0, eH, hn, ok, eo, h, o⟩ => ?_
  refine ⟨W, c, env, _, _, eH, ok, eo, h, fun v H' ⟨W1, c1, d, e1, x1, ok1, dn, k⟩ => ?_, o.exE hn ok eo⟩
  exact o.nx _ _ ⟨W1, c1, _, e1, (le_ext hn ok x1 ok1).2, ok1, (eo.mono ok x1).set k.1 dn, k.2⟩
theorem ss_ret {f : FE} (ha : PE X e (lift G Wx (wpE I f))) : PS X (.Return (some e) pos) (liftS G Wx np (wpS I (.ret f))) := by
  refine PS.imp (ps_ret ha) fun D σ H ⟨W, c, env, E, X0, eH, hn, ok, eo, h, o⟩ => ?_
  refine ⟨W, c, env, _, _, eH, ok, eo, h, fun v H' ⟨W1, c1, d, e1, x1, ok1, dn, k⟩ => ?_, o.exE hn ok eo⟩
  exact o.rt _ _ ⟨W1, c1, d, e1, (le_ext hn ok x1 ok1).2, ok1, dn, k⟩
theorem ss_retN : PS X (.Return none pos) (liftS G Wx np (wpS I .retN)) := by
  refine PS.imp ps_retN fun D σ H ⟨W, c, env, E, X0, eH, hn, ok, eo, h, o⟩ => ?_
  exact o.rt _ _ ⟨W, c, .non, eH, FrS.refl (by rw [ok.len]; exact hn), ok, .non, h⟩
theorem ss_brk : PS X (.Break pos) (liftS G Wx np (wpS I .brk)) := by
  refine PS.imp ps_break fun D σ H ⟨W, c, env, E, X0, eH, hn, ok, eo, h, o⟩ => ?_
  exact o.bk _ _ ⟨W, c, env, eH, FrS.refl (by rw [ok.len]; exact hn), ok, eo, h⟩
theorem ss_cnt : PS X (.Continue pos) (liftS G Wx np (wpS I .cnt)) := by
  refine PS.imp ps_continue fun D σ H ⟨W, c, env, E, X0, eH, hn, ok, eo, h, o⟩ => ?_
  exact o.ct _ _ ⟨W, c, env, eH, FrS.refl (by rw [ok.len]; exact hn), ok, eo, h⟩
theorem ss_pass : PS X (.Pass pos) (liftS G Wx np (wpS I .pass)) := by
  refine PS.imp ps_pass fun D σ H ⟨W, c, env, E, X0, eH, hn, ok, eo, h, o⟩ => ?_
  exact o.nx _ _ ⟨W, c, env, eH, FrS.refl (by rw [ok.len]; exact hn), ok, eo, h⟩
theorem ss_if {t : Expr} {p q : List Stmt} {T : FC} {F1 F2 : FSs} (ht : PT X t (liftB G Wx (wpC I T))) (hp : PSs X p (liftS G Wx np (wpSs I F1))) (hq : PSs X q (liftS G Wx np (wpSs I F2))) : PS X (.If t p q pos) (liftS G Wx np (wpS I (.ifs T F1 F2))) := by
  refine PS.imp (ps_if ht hp hq) fun D σ H ⟨W, c, env, E, X0, eH, hn, ok, eo, h, o⟩ => ?_
  refine ⟨W, c, env, _, _, eH, ok, eo, h, fun b H' ⟨W1, c1, e1, x1, ok1, k⟩ => ?_, o.exE hn ok eo⟩
  obtain ⟨n1, f1⟩ := le_ext hn ok x1 ok1
  cases b with
  | true => rw [if_pos rfl]; exact ⟨W1, c1, env, E, X0, e1, n1, ok1, eo.mono ok x1, k, o.up f1⟩
  | false => rw [if_neg Bool.false_ne_true]; exact ⟨W1, c1, env, E, X0, e1, n1, ok1, eo.mono ok x1, k, o.up f1⟩
abbrev augT : B2 → Operator → Bool
  | .add, .Add => true
  | .sub, .Sub => true
  | _, _ => false
theorem aug_ip {op : B2} {pp : Operator} (hop : augT op pp = true) : ∃ g : Int → Int → Int, PIp X pp (ipI g) ∧ ∀ (k : Int) (K : Int → Prop) (y : D), augI op k K y → ∃ j, y = .int j ∧ K (g k j) := by
  unfold augT at hop
  split at hop
  · refine ⟨_, ip_add, fun k K y h => ?_⟩
    cases y <;> first | exact h.elim | exact ⟨_, rfl, h⟩
  · refine ⟨_, ip_sub, fun k K y h => ?_⟩
    cases y <;> first | exact h.elim | exact ⟨_, rfl, h⟩
  · cases hop
theorem ss_aug (o : XOk G I lv Wx sc N fnB X) {i : Nat} {x : Str} {p : Pos} {op : B2} {m : Bool} {pp : Operator} {f : FE} (hx : N[i]? = some x) (hl : locB sc fnB x = true) (hop : augT op pp = true) (ha : PE X e (lift G Wx (wpE I f))) : PS X (.AugAssign (.Name x p) pp e pos) (liftS G Wx np (wpS I (.aug i op m f))) := by
  obtain ⟨l1, l2⟩ := loc_of o hl
  have run : ∀ (g : Int → Int → Int), PIp X pp (ipI g) → (∀ (k : Int) (K : Int → Prop) (y : D), augI op k K y → ∃ j, y = .int j ∧ K (g k j)) → PS X (.AugAssign (.Name x p) pp e pos) (liftS G Wx np (wpS I (.aug i op m f))) := fun g hg hk => by
    refine PS.imp (ps_aug (by rw [o.hN]; exact o.nd) (by rw [o.hN]; exact hx) l1 ha hg l2) fun D σ H ⟨W, c, env, E, X0, eH, hn, ok, eo, h, o⟩ => ?_
    unfold wpS at h
    split at h
    · rename_i k hk0
      obtain ⟨v, hv, dv⟩ := eo.get hk0
      cases dv
      refine ⟨_, hv, W, c, env, _, _, eH, ok, eo, h, fun v H' ⟨W1, c1, d, e1, x1, ok1, dn, k1⟩ => ?_, o.exE hn ok eo⟩
      obtain ⟨j, rfl, k2⟩ := hk k _ d k1
      cases dn
      refine ⟨k, j, rfl, rfl, o.nx _ _ ⟨W1, c1, _, e1, (le_ext hn ok x1 ok1).2, ok1, (eo.mono ok x1).set (List.getElem?_eq_some_iff.mp hk0).1 .int, k2⟩⟩
    · exact h.elim
  obtain ⟨g, hg, hk⟩ := aug_ip (X := X) hop
  exact run g hg hk
theorem idxS_of {c : Cs} {q : Int} {K : QE} {o : Option (List D)} (h : idxS c K q o) : ∃ xs, o = some xs ∧ ∃ old, atI xs q = some old ∧ K old c := by
  unfold idxS at h
  split at h
  · rename_i xs
    split at h
    · rename_i old hold
      exact ⟨xs, rfl, old, hold, h⟩
    · exact h.elim
  · exact h.elim
/-- o[i] = v: a list's place, a dict's key -/
def rSetX (G : GI) : V → V → V → Hp → (Hp → Prop) → Prop := fun o i v H Q => rSetL o i v H Q ∨ ∃ (W : Wd) (a : Addr) (r : DRep) (ks ds : List D) (k d : D), W.H = H ∧ o = .ref a ∧ DAt G W a r ks ds ∧ Den G W i k ∧ Den G W v d ∧ kOk ks k = true ∧ ks.length < 16777216 ∧ ∀ r', DPutd G W a ks ds k d r' → Q (upd H a (r'.ho a))
theorem set_x (hK : X.K = G.K) (hw : G.w = X.w) (hu : X.A.units + 64 < cLine) : PSet X (rSetX G) := by
  intro pins s σ H o i v ov iv vv Q I ro ri rv h
  rcases h with h | ⟨W, a, r, ks, ds, k, d, rfl, rfl, da, dk, dd, k1, k2, q⟩
  · exact set_list pins s σ H o i v ov iv vv Q I ro ri rv h
  · cases ro
    exact da.setItem hK hw hu I dk ri dd rv k1 k2 fun r' s' I' hr => ⟨_, I', q r' hr⟩
theorem setD_ok {W : Wd} {c : Cs} (ok : Ok G W c) {o i v : D} {ov iv vv : V} (d1 : Den G W ov o) (d2 : Den G W iv i) (d3 : Den G W vv v) {K : Cs → Prop} (h : setD o i v c K) {Q : Hp → Prop}
    (q : ∀ W' c', Ext W W' → Ok G W' c' → K c' → Q W'.H) : rSetX G ov iv vv W.H Q := by
  unfold setD at h
  split at h
  · rename_i n
    cases d1 with
    | @cell a n ha =>
      obtain ⟨y, hy, ca⟩ := ok.at ha
      rw [hy] at h
      cases y with
      | lst xs =>
        simp only [setDC] at h
        unfold onI at h
        split at h
        · rename_i j
          obtain ⟨k, hk, h⟩ := onO_of h
          cases d2
          obtain ⟨vs, q1, q2⟩ := ca
          refine .inl ⟨a, vs, j, k, rfl, rfl, q1, by rw [q2.length]; exact hk, ?_⟩
          have z := ok.setE ha (.lst (vs.set k vv))
          have hc : CellAt G (W.setAt a (.lst (vs.set k vv))) a (.lst (xs.set k v)) := ⟨vs.set k vv, upd_same, DenL.set (d3.mono ok z) k (q2.mono ok z)⟩
          obtain ⟨xe, ok2⟩ := ok.setC ha (.lst (vs.set k vv)) hc
          exact q _ _ xe ok2 h
        · exact h.elim
      | dct ks ds =>
        obtain ⟨k1, k2, h⟩ := h
        obtain ⟨r, q1, q2, q3, q4⟩ := ca
        refine .inr ⟨W, a, r, ks, ds, i, v, rfl, rfl, ⟨q1, q2, q3, q4⟩, d2, d3, k1, k2, fun r' hr => ?_⟩
        have z := ok.setE ha (r'.ho a)
        have hc : CellAt G (W.setAt a (r'.ho a)) a (.dct (dPutK ks i) (dPutV ks ds i v)) := ⟨r', upd_same, hr.ok, hr.dk.mono ok z, hr.dv.mono ok z⟩
        obtain ⟨xe, ok2⟩ := ok.setC ha (r'.ho a) hc
        exact q _ _ xe ok2 h
      | obj _ _ => exact h.elim
  · exact h.elim
theorem ss_setI (o : XOk G I lv Wx sc N fnB X) {ve oe ie : Expr} {p : Pos} {fv fo fi : FE} (hv : PE X ve (lift G Wx (wpE I fv))) (ho : PE X oe (lift G Wx (wpE I fo))) (hi : PE X ie (lift G Wx (wpE I fi))) (hsl : notSlice ie = true) :
    PS X (.Assign [.Subscript oe ie p] ve pos) (liftS G Wx np (wpS I (.setI fo fi fv))) := by
  refine PS.imp (ps_asg hv (pg_sub ho hi (set_x o.hK o.glob.hw (hu_x o)) (fun v => by cases ie <;> first | rfl | simp [notSlice] at hsl)) (show swapsWith ve (some (.Subscript oe ie p)) pos.line X.env = pure false from swapsS_of) stores_sub (each_one rfl)) fun D σ H ⟨W, c, env, E, X0, eH, hn, ok, eo, h, o⟩ => ?_
  refine ⟨W, c, env, _, _, eH, ok, eo, h, fun v H' ⟨W1, c1, d, e1, x1, ok1, dn, k⟩ => ?_, o.exE hn ok eo⟩
  obtain ⟨n1, f1⟩ := le_ext hn ok x1 ok1
  refine ⟨W1, c1, env, _, _, e1, ok1, eo.mono ok x1, k, fun v2 H2 ⟨W2, c2, d2, e2, x2, ok2, dn2, k2⟩ => ?_, (o.up f1).exE n1 ok1 (eo.mono ok x1)⟩
  obtain ⟨n2, f2⟩ := le_ext n1 ok1 x2 ok2
  have eo2 := (eo.mono ok x1).mono ok1 x2
  refine ⟨W2, c2, env, _, _, e2, ok2, eo2, k2, fun v3 H3 ⟨W3, c3, d3, e3, x3, ok3, dn3, k3⟩ => ?_, ((o.up f1).up f2).exE n2 ok2 eo2⟩
  obtain ⟨n3, f3⟩ := le_ext n2 ok2 x3 ok3
  subst e3
  refine setD_ok ok3 (dn2.mono ok2 x3) dn3 ((dn.mono ok1 x2).mono ok2 x3) k3 fun W4 c4 x4 ok4 k4 => ?_
  exact (((o.up f1).up f2).up f3).nx _ _ ⟨W4, c4, env, rfl, (le_ext n3 ok3 x4 ok4).2, ok4, (eo2.mono ok2 x3).mono ok3 x4, k4⟩
end
end F

namespace F
open PySem PySem.Spec PyProof.Rows L2
section
variable {G : GI} {I : CI} {lv : Nat} {Wx : WX} {sc : Scope} {N : List Str} {fnB : Str → Bool} {X : Cx} {a b e d : Expr} {pos : Pos} {A B C : FA1}
theorem few_of {n : Nat} {args : List Expr} {env : Env} {pos : Pos} (hst : args.all noStar = true) (hlen : n < 30) :
    ((backTo pos (starEach args env)).all (fun x => !x.1) && (backToKw pos (keywordEach [] env)).all (fun x => x.1.isSome) && decide (n + ([] : List Keyword).length + (if ([] : List Keyword).isEmpty then 0 else 1) < 30)) = true := by
  rw [star_all hst, kw_nil]
  show decide (n + 0 + 0 < 30) = true
  exact decide_eq_true (by omega)
theorem trees1 {pos : Pos} {env : Env} (h : noStar e = true) : backTo pos (starEach [e] env) = [(false, eval e env)] := by
  rw [star_cons h]; rfl
theorem trees2 {pos : Pos} {env : Env} (h : noStar e = true) (h2 : noStar d = true) : backTo pos (starEach [e, d] env) = [(false, eval e env), (false, eval d env)] := by
  rw [star_cons h, star_cons h2]; rfl
abbrev dgF (A B : FA1) (L : FAL) : FA1 := fun env c Q X => A env c (fun d c1 => isSomeO (getC c1 d) = true ∧ B env c1 (fun y c2 => L env c2 (fun z c3 => onO (dfltOf z) fun w => onO (getC c3 d) fun kv => kOk kv.1 y = true ∧ Q ((dGet kv.1 kv.2 y).getD w) c3) X) X) X
theorem noDict {W : Wd} {pins : List (Addr × Obj)} {σ : L2.St} {s : Shared} {a : Addr} {r : DRep} {ks ds : List D} (x : DAt G W a r ks ds) (I : Inv X pins σ W.H s) : ∀ b, Value.ref a = .ref b → ∃ ob, s.heap.get? b = some ob ∧ ob.dict = none := fun b q => by
  cases q
  exact ⟨r.o, x.get I, x.ok.1.2.1⟩
theorem some_getC {c : Cs} {dd : D} (h : isSomeO (getC c dd) = true) : ∃ kv, getC c dd = some kv := by
  cases e : getC c dd with
  | none => rw [e] at h; cases h
  | some kv => exact ⟨kv, rfl⟩
theorem se_dget1 (o : XOk G I lv Wx sc N fnB X) {apos : Pos} (hno : notCall a = true) (hn : noStar b = true) (hline : (apos.endLine == pos.line) = true) (ha : PE X a (lift G Wx A)) (hb : PE X b (lift G Wx B)) :
    PE X (.Call (.Attribute a "get" apos) [b] [] pos) (lift G Wx (dgF A B (wpA I .nil))) := by
  refine ⟨fun pins s σ H Q I0 ⟨W, c, env, Q0, X0, eH, ok, eo, h, q, x⟩ => ?_⟩
  refine wpAny_Call_method (base_of hno) (few_of (n := 1) (by simp [hn]) (by omega)) hline PySem.F.plainAttrs_dict PySem.F.slot_dict_get PySem.F.type_dict_get
    (thn (ha.run pins s σ H (fun v H1 => ∃ W1 c1 d, W1.H = H1 ∧ Ext W W1 ∧ Ok G W1 c1 ∧ Den G W1 v d ∧ isSomeO (getC c1 d) = true ∧ B env c1 (fun y c2 => onO (getC c2 d) fun kv => kOk kv.1 y = true ∧ Q0 ((dGet kv.1 kv.2 y).getD .non) c2) X0) I0 ?_) fun u s1 ⟨v, H1, I1, rv, W1, c1, dd, e1, x1, ok1, dn, k1, k2⟩ => ?_)
  · exact ⟨W, c, env, _, X0, eH, ok, eo, h, fun v H' ⟨W1, c1, d, e1, x1, ok1, dn, k⟩ => ⟨W1, c1, d, e1, x1, ok1, dn, k.1, k.2⟩, x⟩
  · subst e1
    obtain ⟨kv, hkv⟩ := some_getC k1
    obtain ⟨p, r, rfl, da, _⟩ := den_getC ok1 dn hkv
    cases (show u = Value.ref p from rv)
    refine ⟨da.typeIs I1, noDict da I1, ?_⟩
    rw [trees1 hn]
    refine Calls.callWith_builtin rfl (Calls.evalArgs_plain (Calls.spliced_cons (thn (hb.run pins s1 σ W1.H (fun v H2 => ∃ W2 c2 y, W2.H = H2 ∧ Ext W1 W2 ∧ Ok G W2 c2 ∧ Den G W2 v y ∧ onO (getC c2 dd) fun kv => kOk kv.1 y = true ∧ Q0 ((dGet kv.1 kv.2 y).getD .non) c2) I1 ?_) fun iv s2 ⟨v2, H2, I2, rv2, W2, c2, y, e2, x2, ok2, dn2, k3⟩ => Calls.spliced_nil ?_)))
    · exact ⟨W1, c1, env, _, X0, rfl, ok1, eo.mono ok x1, k2, fun v H' ⟨W2, c2, d2, e2, x2, ok2, dn2, k⟩ => ⟨W2, c2, d2, e2, x2, ok2, dn2, k⟩, fun cls dd H' p => x cls dd H' (p.up x1)⟩
    · subst e2
      obtain ⟨kv2, hkv2, k4, k5⟩ := onO_of k3
      obtain ⟨p', r', ep, da2, _⟩ := den_getC ok2 (dn.mono ok1 x2) hkv2
      cases ep
      exact da2.get1 o.hK o.glob.hw (hu_x o) I2 dn2 rv2 k4 fun v w' s' I' rr dv => ⟨v, W2.H, I', rr, q _ _ (Post.up (x1.trans x2) (Post.now ok2 dv k5))⟩
theorem se_dget2 (o : XOk G I lv Wx sc N fnB X) {apos : Pos} (hno : notCall a = true) (hn : noStar b = true) (hn2 : noStar d = true) (hline : (apos.endLine == pos.line) = true) (ha : PE X a (lift G Wx A)) (hb : PE X b (lift G Wx B)) (hd : PE X d (lift G Wx C)) :
    PE X (.Call (.Attribute a "get" apos) [b, d] [] pos) (lift G Wx (dgF A B (consF C (wpA I .nil)))) := by
  refine ⟨fun pins s σ H Q I0 ⟨W, c, env, Q0, X0, eH, ok, eo, h, q, x⟩ => ?_⟩
  refine wpAny_Call_method (base_of hno) (few_of (n := 2) (by simp [hn, hn2]) (by omega)) hline PySem.F.plainAttrs_dict PySem.F.slot_dict_get PySem.F.type_dict_get
    (thn (ha.run pins s σ H (fun v H1 => ∃ W1 c1 d, W1.H = H1 ∧ Ext W W1 ∧ Ok G W1 c1 ∧ Den G W1 v d ∧ isSomeO (getC c1 d) = true ∧ B env c1 (fun y c2 => C env c2 (fun z c3 => onO (getC c3 d) fun kv => kOk kv.1 y = true ∧ Q0 ((dGet kv.1 kv.2 y).getD z) c3) X0) X0) I0 ?_) fun u s1 ⟨v, H1, I1, rv, W1, c1, dd, e1, x1, ok1, dn, k1, k2⟩ => ?_)
  · exact ⟨W, c, env, _, X0, eH, ok, eo, h, fun v H' ⟨W1, c1, d, e1, x1, ok1, dn, k⟩ => ⟨W1, c1, d, e1, x1, ok1, dn, k.1, k.2⟩, x⟩
  · subst e1
    obtain ⟨kv, hkv⟩ := some_getC k1
    obtain ⟨p, r, rfl, da, _⟩ := den_getC ok1 dn hkv
    cases (show u = Value.ref p from rv)
    refine ⟨da.typeIs I1, noDict da I1, ?_⟩
    rw [trees2 hn hn2]
    refine Calls.callWith_builtin rfl (Calls.evalArgs_plain (Calls.spliced_cons (thn (hb.run pins s1 σ W1.H (fun v H2 => ∃ W2 c2 y, W2.H = H2 ∧ Ext W1 W2 ∧ Ok G W2 c2 ∧ Den G W2 v y ∧ C env c2 (fun z c3 => onO (getC c3 dd) fun kv => kOk kv.1 y = true ∧ Q0 ((dGet kv.1 kv.2 y).getD z) c3) X0) I1 ?_) fun iv s2 ⟨v2, H2, I2, rv2, W2, c2, y, e2, x2, ok2, dn2, k3⟩ => ?_)))
    · exact ⟨W1, c1, env, _, X0, rfl, ok1, eo.mono ok x1, k2, fun v H' ⟨W2, c2, d2, e2, x2, ok2, dn2, k⟩ => ⟨W2, c2, d2, e2, x2, ok2, dn2, k⟩, fun cls dd H' p => x cls dd H' (p.up x1)⟩
    · subst e2
      refine Calls.spliced_cons (thn (hd.run pins s2 σ W2.H (fun v H3 => ∃ W3 c3 z, W3.H = H3 ∧ Ext W2 W3 ∧ Ok G W3 c3 ∧ Den G W3 v z ∧ onO (getC c3 dd) fun kv => kOk kv.1 y = true ∧ Q0 ((dGet kv.1 kv.2 y).getD z) c3) I2 ?_) fun fv s3 ⟨v3, H3, I3, rv3, W3, c3, z, e3, x3, ok3, dn3, k4⟩ => Calls.spliced_nil ?_)
      · exact ⟨W2, c2, env, _, X0, rfl, ok2, (eo.mono ok x1).mono ok1 x2, k3, fun v H' ⟨W3, c3, d3, e3, x3, ok3, dn3, k⟩ => ⟨W3, c3, d3, e3, x3, ok3, dn3, k⟩, fun cls dd H' p => x cls dd H' ((p.up x2).up x1)⟩
      · subst e3
        obtain ⟨kv2, hkv2, k5, k6⟩ := onO_of k4
        obtain ⟨p', r', ep, da2, _⟩ := den_getC ok3 ((dn.mono ok1 x2).mono ok2 x3) hkv2
        cases ep
        exact da2.get2 o.hK o.glob.hw (hu_x o) I3 (dn2.mono ok2 x3) rv2 k5 dn3 rv3 fun v w' s' I' rr dv => ⟨v, W3.H, I', rr, q _ _ (Post.up ((x1.trans x2).trans x3) (Post.now ok3 dv k6))⟩

theorem rgV_den {W : Wd} {i j : Int} : DenL G W (rgV i j) (rngL i (j - i).toNat) := by
  unfold rgV rngL
  generalize (j - i).toNat = n
  generalize List.range n = l
  induction l with
  | nil => exact .nil
  | cons x r ih => exact .cons .int ih
abbrev rgF (m : Bool) (A B : FA1) : FA1 := fun env c Q X => A env c (fun x c1 => B env c1 (fun y c2 => int2 (fun i j => small i ∧ small j ∧ j - i ≤ 16777216 ∧ newL m (rngL i (j - i).toNat) c2 Q) x y) X) X
theorem se_rngE (o : XOk G I lv Wx sc N fnB X) {m : Bool} {p p2 pos2 : Pos} (hg : glB sc "list" = true) (hg2 : glB sc "range" = true) (hn : noStar a = true) (hn2 : noStar b = true) (ha : PE X a (lift G Wx A)) (hb : PE X b (lift G Wx B)) :
    PE X (.Call (.Name "list" p) [.Call (.Name "range" p2) [a, b] [] pos2] [] pos) (lift G Wx (rgF m A B)) := by
  obtain ⟨g, hd, _⟩ := gl_of o hg
  obtain ⟨g2, hd2, _⟩ := gl_of o hg2
  have hm : X.mg "list" = none := by rw [o.hmg]; exact o.glob.bl _ (by decide +kernel)
  have hm2 : X.mg "range" = none := by rw [o.hmg]; exact o.glob.bl _ (by decide +kernel)
  refine PE.imp (pe_listRg o.calm g hm (prg_2 g2 hm2 ha hb (star_cons hn) (star_cons hn2) (star_any (by simp [hn2]))) rfl) fun σ H Q ⟨W, c, env, Q0, X0, e, ok, eo, h, q, x⟩ => ?_
  refine ⟨W, c, env, _, X0, e, ok, eo, h, fun v H' ⟨W1, c1, d, e1, x1, ok1, dn, k⟩ => ?_, x⟩
  refine ⟨W1, c1, env, _, X0, e1, ok1, eo.mono ok x1, k, fun v2 H2 ⟨W2, c2, d2, e2, x2, ok2, dn2, k2⟩ => ?_, fun cls dd H' p => x cls dd H' (p.up x1)⟩
  subst e2
  obtain ⟨i, j, rfl, rfl, k2⟩ := int2_of (dn.mono ok1 x2) dn2 k2
  obtain ⟨s1, s2, s3, k3⟩ := k2
  exact ⟨i, j, rfl, rfl, ⟨s1.1, s1.2, s2.1, s2.2, by omega⟩, newL_ok ok2 rgV_den k3 fun v H' p => q v H' ((p.up x2).up x1)⟩

theorem pe_items {ta : TE} {apos : Pos} (hno : notCall a = true) (hline : (apos.endLine == pos.line) = true) (ha : PE X a ta) :
    PE X (.Call (.Attribute a "items" apos) [] [] pos) (fun σ H Q => ta σ H fun x H1 => ∃ d r, x = .ref d ∧ H1 d = some (r.ho d) ∧ DFct d r ∧ ∀ p, H1 p = none → Q (.ref p) (upd H1 p (L2.DX.itemsO p d))) := by
  refine ⟨fun pins s σ H R I h => ?_⟩
  refine wpAny_Call_method (T := "dict") (id := "dict.items") (base_of hno) rfl hline F.plainAttrs_dict F.slot_dict_items F.type_dict_items (thn (ha.run pins s σ H _ I h) fun u s1 ⟨x, H1, I1, rx, d, r, ex, hd, ⟨f1, f2, es, ep, f3, f4⟩, q⟩ => ?_)
  subst ex
  obtain rfl : u = Value.ref d := rx
  have hg : s1.heap.get? d = some r.o := (I1.hok d _ hd).1
  have raw : s1.heap.DictRaw d es ep := ⟨_, hg, f1, f3⟩
  refine ⟨⟨_, hg, f1.1⟩, fun b z => by cases z; exact ⟨r.o, hg, f1.2.1⟩, ?_⟩
  show wpAny _ _ (callWith pos (.builtin "dict.items") [.ref d] [] []) _ X.xe s1
  refine method_meetsIn F.slot_dict_items F.entry_dict_items rfl (PySem.evalArgs_none ⟨rfl, raw.typeIs, F.args_dict_items_1 _, _, meets_dict_items_raw d f2, ⟨es, ep, raw⟩, ?_⟩)
  have hf : H1 s1.heap.objs.size = none := I1.hok.fresh (Nat.le_refl _)
  exact ⟨.ref s1.heap.objs.size, upd H1 s1.heap.objs.size (L2.DX.itemsO s1.heap.objs.size d), I1.laid (t' := s1.toks) (fun b u e => Heap.get?_push_of_some _ e) (Nat.le_refl _) (L2.DX.itemsO_ok (Heap.get?_push_size _ rfl)), rfl, q _ hf⟩
abbrev siF (m : Bool) (A : FA1) : FA1 := fun env c Q X => A env c (fun d c1 => onO (getC c1 d) fun kv => onO (toPL (zipL kv.1 kv.2)) fun ps => srtOk ps ∧ noLsts ps = true ∧ ∀ ms : List D, ms.Perm (zipL kv.1 kv.2) → ms.Pairwise (fun a b => ltD b a = false) → newL m ms c1 Q) X
def RSI (G : GI) (m : Bool) : List V → Hp → VK → Prop := fun vs H Q => ∃ W c d r ks ds p Q0, vs = [.ref p] ∧ W.H = H ∧ H p = some (L2.DX.itemsO p d) ∧ Ok G W c ∧ DAt G W d r ks ds ∧ (onO (toPL (zipL ks ds)) fun ps => srtOk ps ∧ noLsts ps = true ∧ ∀ ms : List D, ms.Perm (zipL ks ds) → ms.Pairwise (fun a b => ltD b a = false) → newL m ms c Q0) ∧ ∀ v H', Post G W Q0 v H' → Q v H'
theorem callr_sortI (hK : X.K = G.K) (hu : X.A.units + 65 < cLine) (hc : X.calm = true) {m : Bool} : CallR X (.builtin "sorted") (RSI G m) := by
  intro pins s σ H vs us Q I r ⟨W, c, d, r', ks, ds, p, Q0, ev, eH, hp, ok, da, h, q⟩
  subst ev eH
  obtain rfl := Vals.ref1 r
  obtain ⟨ps, hps, h1, h2, h3⟩ := onO_of h
  have view : s.heap.IsItemsView p d := (I.hok p _ hp).1
  exact da.sortedI hK hu (I.ok.hd hc) ok I view hps h1 h2 fun W2 p' vs' ms s' x2 ok2 hp' m1 m2 m3 I' => ⟨.ref p', _, I', rfl, newL_ok ok2 m3 (h3 ms m1 m2) (fun v H' p => q v H' (p.up x2)) p' hp'⟩
theorem se_srtI (o : XOk G I lv Wx sc N fnB X) {m : Bool} {p apos pos2 : Pos} (hg : glB sc "sorted" = true) (hno : notCall a = true) (hline : (apos.endLine == pos2.line) = true) (ha : PE X a (lift G Wx A)) :
    PE X (.Call (.Name "sorted" p) [.Call (.Attribute a "items" apos) [] [] pos2] [] pos) (lift G Wx (siF m A)) := by
  obtain ⟨g, hd, hn⟩ := gl_of o hg
  have hm : X.mg "sorted" = none := by rw [o.hmg]; exact o.glob.bl _ (by decide +kernel)
  refine PE.imp (pe_callBN (callr_sortI (m := m) o.hK (hu_x1 o) o.calm) g hm (by decide +kernel) (pa_consN rfl (pe_items hno hline ha) pa_nil) hn hd rfl) fun σ H Q ⟨W, c, env, Q0, X0, e, ok, eo, h, q, x⟩ => ?_
  refine ⟨W, c, env, _, X0, e, ok, eo, h, fun v H' ⟨W1, c1, d, e1, x1, ok1, dn, k⟩ => ?_, x⟩
  subst e1
  obtain ⟨kv, hkv, k⟩ := onO_of k
  obtain ⟨a', r, rfl, da, _⟩ := den_getC ok1 dn hkv
  refine ⟨a', r, rfl, da.at_, da.ok.fct, fun p' hp' => ?_⟩
  obtain ⟨x2, ok2⟩ := ok1.alloc hp' (L2.DX.itemsO p' a')
  have da2 : DAt G { W1 with H := upd W1.H p' (L2.DX.itemsO p' a') } a' r kv.1 kv.2 := ⟨by show upd _ _ _ _ = _; rw [upd_ne (ne_of_none da.at_ hp')]; exact da.at_, da.ok, da.dk.mono ok1 x2, da.dv.mono ok1 x2⟩
  exact ⟨_, c1, a', r, kv.1, kv.2, p', Q0, rfl, rfl, upd_same, ok2, da2, k, fun v H' p => q v H' ((p.up x2).up x1)⟩

abbrev d2F (m : Bool) (A B A' B' : FA1) : FA1 := fun env c Q X => A env c (fun x c1 => B env c1 (fun y c2 => A' env c2 (fun x' c3 => B' env c3 (fun y' c4 => isKey x = true ∧ isKey x' = true ∧ newD m (dPutK [x] x') (dPutV [x] [y] x' y') c4 Q) X) X) X) X
theorem se_dct2 (o : XOk G I lv Wx sc N fnB X) {m : Bool} {a' b' : Expr} {A' B' : FA1} (ha : PE X a (lift G Wx A)) (hb : PE X b (lift G Wx B)) (ha' : PE X a' (lift G Wx A')) (hb' : PE X b' (lift G Wx B')) : PE X (.Dict [some a, some a'] [b, b'] pos) (lift G Wx (d2F m A B A' B')) := by
  refine PE.imp (pe_dispK (pps_cons ha hb (pps_cons ha' hb' pps_nil)) rfl rfl (by simp) (by simp)) fun σ H Q ⟨W, c, env, Q0, X0, e, ok, eo, h, q, x⟩ => ?_
  subst e
  intro p hp hs
  obtain ⟨x0, ok0⟩ := ok.alloc hp (nilRep.ho p)
  refine ⟨_, c, env, _, X0, rfl, ok0, eo.mono ok x0, h, fun v H' ⟨W1, c1, d, e1, x1, ok1, dn, k⟩ => ?_, fun cls dd H' p => x cls dd H' (p.up x0)⟩
  refine ⟨W1, c1, env, _, X0, e1, ok1, (eo.mono ok x0).mono ok0 x1, k, fun v2 H2 ⟨W2, c2, d2, e2, x2, ok2, dn2, k2⟩ => ?_, fun cls dd H' p => x cls dd H' ((p.up x1).up x0)⟩
  refine ⟨W2, c2, env, _, X0, e2, ok2, ((eo.mono ok x0).mono ok0 x1).mono ok1 x2, k2, fun v3 H3 ⟨W3, c3, d3, e3, x3, ok3, dn3, k3⟩ => ?_, fun cls dd H' p => x cls dd H' (((p.up x2).up x1).up x0)⟩
  refine ⟨W3, c3, env, _, X0, e3, ok3, (((eo.mono ok x0).mono ok0 x1).mono ok1 x2).mono ok2 x3, k3, fun v4 H4 ⟨W4, c4, d4, e4, x4, ok4, dn4, k4⟩ => ?_, fun cls dd H' p => x cls dd H' ((((p.up x3).up x2).up x1).up x0)⟩
  subst e4
  have x14 := (x1.trans x2).trans (x3.trans x4)
  obtain ⟨hD, y1, y2, mv⟩ := disp_back ok hp (fun _ => DRep.ho_tup) x14 ok4
  have dn' := (((dn.mono ok1 x2).mono ok2 x3).mono ok3 x4).mono0 mv fun _ _ h => h
  have dn2' := ((dn2.mono ok2 x3).mono ok3 x4).mono0 mv fun _ _ h => h
  have dn3' := (dn3.mono ok3 x4).mono0 mv fun _ _ h => h
  have dn4' := dn4.mono0 mv fun _ _ h => h
  obtain ⟨q1, q2, q3⟩ := k4
  obtain ⟨kk, e1', e2'⟩ := key_cases q1
  obtain ⟨kk2, e3', e4'⟩ := key_cases q2
  have ev := e2' dn
  subst ev
  have ev := e4' dn3
  subst ev
  refine ⟨hD, [(kk, v2), (kk2, v4)], rfl, by simp, fun r hr => ?_⟩
  obtain ⟨r1, r2, r3⟩ := hr
  rw [← o.glob.hw] at r3
  have hcase : (kk = kk2 ∧ mergeK [] [(kk, v2), (kk2, v4)] = [(kk, v4)] ∧ dPutK [d] d3 = [d] ∧ dPutV [d] [d2] d3 d4 = [d4]) ∨ (kk ≠ kk2 ∧ mergeK [] [(kk, v2), (kk2, v4)] = [(kk, v2), (kk2, v4)] ∧ dPutK [d] d3 = [d, d3] ∧ dPutV [d] [d2] d3 d4 = [d2, d4]) := by
    have hh : dHas [d] d3 = decide (kk = kk2) := by
      unfold dHas
      rw [List.any_cons, List.any_nil, Bool.or_false, e1', e3', dec_key]
    by_cases hc : kk = kk2
    · left
      subst hc
      refine ⟨rfl, by simp [mergeK, putK], ?_, ?_⟩
      · unfold dPutK; rw [hh]; simp
      · unfold dPutV dRep; rw [hh, e1', e3']; simp [dRep]
    · right
      refine ⟨hc, by simp [mergeK, putK, hc], ?_, ?_⟩
      · unfold dPutK; rw [hh, decide_eq_false hc]; simp
      · unfold dPutV; rw [hh, decide_eq_false hc]; simp
  rcases hcase with ⟨c1, c2, c3, c4⟩ | ⟨c1, c2, c3, c4⟩
  · rw [c2] at r1 r2 r3
    rw [c3, c4] at q3
    have dk : DenL G { W4 with H := dl W4.H p } r.keys [d] := by rw [r1]; exact .cons dn' .nil
    have dv : DenL G { W4 with H := dl W4.H p } r.vals [d4] := by rw [r2]; exact .cons dn4' .nil
    have rk : r.ok G.w p [d] := r3 [d] (by rw [List.all_cons, q1]; rfl) (by simp only [keysN, e1']; rfl)
    have z := newD_ok y2 dl_same rk dk dv q3 (fun v H' p => q v H' (p.up y1))
    rwa [upd_dl2] at z
  · rw [c2] at r1 r2 r3
    rw [c3, c4] at q3
    have dk : DenL G { W4 with H := dl W4.H p } r.keys [d, d3] := by rw [r1]; exact .cons dn' (.cons dn3' .nil)
    have dv : DenL G { W4 with H := dl W4.H p } r.vals [d2, d4] := by rw [r2]; exact .cons dn2' (.cons dn4' .nil)
    have rk : r.ok G.w p [d, d3] := r3 [d, d3] (by rw [List.all_cons, q1, List.all_cons, q2]; rfl) (by simp only [keysN, e1', e3']; rfl)
    have z := newD_ok y2 dl_same rk dk dv q3 (fun v H' p => q v H' (p.up y1))
    rwa [upd_dl2] at z
end
end F

namespace F
open PySem PySem.Spec PyProof.Rows L2
section
variable {G : GI} {I : CI} {lv : Nat} {Wx : WX} {sc : Scope} {N : List Str} {fnB : Str → Bool} {X : Cx} {a b d e : Expr} {pos : Pos} {A B C : FA1}
def DFcv (a : Addr) (r : DRep) : Prop := r.o.ExactDict ∧ (a == sysModules) = false ∧ ∃ es ep, r.o.data = .dict es ep ∧ Vals r.vals (es.toList.map (·.val))
theorem DRep.ok.fcv {w : World} {a : Addr} {ks : List D} {r : DRep} (h : r.ok w a ks) : DFcv a r := let ⟨h1, h2, es, ep, _, h3, _, _, h6, _⟩ := h; ⟨h1, h2, es, ep, h3, h6⟩
theorem pe_minV {ta : TE} {p apos mpos : Pos} (hc : X.calm = true) (hg : Gl X "min") (hm : X.mg "min" = none) (hno : notCall a = true) (hline : (apos.endLine == mpos.line) = true) (ha : PE X a ta) :
    PE X (.Call (.Name "min" p) [.Call (.Attribute a "values" apos) [] [] mpos] [] pos) (fun σ H Q => ta σ H fun x H1 => ∃ (d : Addr) (r : DRep) (is : List Int), x = .ref d ∧ H1 d = some (r.ho d) ∧ DFcv d r ∧ r.vals = is.map V.int ∧ is ≠ [] ∧ ∀ m ∈ is, (∀ j ∈ is, m ≤ j) → Q (.int m) H1) := by
  refine ⟨fun pins s σ H Q I h => ?_⟩
  refine wpAny_Call_Name_kw (ld_blt I hg hm (u := .builtin "min") (by first | rfl | decide +kernel) ?_ (by first | decide +kernel | decide) (by first | decide +kernel | decide))
  rw [show starEach [Expr.Call (.Attribute a "values" apos) [] [] mpos] X.env = [(false, eval (Expr.Call (.Attribute a "values" apos) [] [] mpos) X.env)] by rfl]
  refine PySem.callWith_builtin1 (wpAny_Call_method0_late (base_of hno) hline (thn (ha.run pins s σ H _ I h) fun v s1 ⟨x, H1, I1, r1, d, r, is, ex, hd, ⟨f1, f2, es, ep, f3, f4⟩, hv, hne, q⟩ => ?_))
  subst ex
  obtain rfl : v = Value.ref d := r1
  have hg' : s1.heap.get? d = some r.o := (I1.hok d _ hd).1
  have raw : s1.heap.DictRaw d es ep := ⟨_, hg', f1, f3⟩
  refine ⟨"dict", "dict.values", F.plainAttrs_dict, F.slot_dict_values, F.type_dict_values, ⟨_, hg', f1.1⟩, fun b e => ?_, Calls.callWith_builtin rfl (PySem.evalArgs_none ?_)⟩
  · cases e
    exact ⟨_, hg', f1.2.1⟩
  refine call_meetsIn F.slot_dict_values ⟨_, hg', f1.1⟩ F.entry_dict_values (F.args_dict_values_1 _) (meets_dict_values_raw d f2) ⟨⟨es, ep, raw⟩, ?_⟩
  have k1 : ∀ b u, s1.heap.get? b = some u → (s1.heap.push { cls := .type "dict_values", data := .fields #[.ref d] }).get? b = some u := fun b u e => Heap.get?_push_of_some _ e
  have raw1 : (s1.heap.push { cls := .type "dict_values", data := .fields #[.ref d] }).DictRaw d es ep := raw.at fun o e => k1 _ _ e
  have hlv : es.size = is.length := by
    have e1 := f4.length
    rw [hv, List.length_map, List.length_map] at e1
    have : es.toList.length = es.size := by simp
    omega
  have hlen : 0 < es.size := by
    rw [hlv]
    exact List.length_pos_iff.mpr hne
  have hval : ∀ (i : Nat) (v : Value), (∃ hi : i < es.size, v = es[i].val) → ∃ t, v = Value.int (is.getD i 0) t := fun i v ⟨hi, hk⟩ => by
    have hi' : i < is.length := by omega
    obtain ⟨u, eu, ru⟩ := f4.get (i := i) (x := .int (is[i])) (by rw [hv, List.getElem?_map, List.getElem?_eq_getElem hi']; rfl)
    rw [List.getElem?_map, show es.toList[i]? = some es[i] by simp [hi]] at eu
    obtain rfl : es[i].val = u := Option.some.inj eu
    obtain ⟨t, e3⟩ := ru
    refine ⟨t, ?_⟩
    rw [hk, e3, List.getD_eq_getElem?_getD, List.getElem?_eq_getElem hi']; rfl
  refine call_min_walk (wpAny_pyIter_values_raw (v := s1.heap.objs.size) (d := d) ⟨_, Heap.get?_push_size _ rfl, rfl, rfl⟩ raw1 ?_)
  have hlt : d < s1.heap.objs.size := Heap.lt_size hg'
  have hsz : (s1.heap.push { cls := .type "dict_values", data := .fields #[.ref d] }).objs.size = s1.heap.objs.size + 1 := Heap.size_push _ _
  refine ⟨_, _, _, _, _, _, _, rfl, Walks.rawValues (A := X.A.in1) (I.ok.hd hc) (s1.heap.push { cls := .type "dict_values", data := .fields #[.ref d] }).objs.size d (by rw [hsz]; exact Nat.ne_of_lt (Nat.lt_succ_of_lt hlt)) es ep,
    ⟨⟨_, Heap.get?_push_size _ rfl, rfl, rfl⟩, raw1.at fun u e => Heap.get?_push_of_some _ e⟩, fun b hb => ?_, hlen, CmpOf.ints_lt (fun i => is.getD i 0) hval, fun v h' tk hP hk => ?_⟩
  · show b < ((s1.heap.push _).push _).objs.size
    rw [Heap.size_push, Heap.size_push]
    rw [hsz] at hb
    rcases List.mem_cons.mp hb with e | hb
    · rw [e]
      exact Nat.lt_succ_self _
    · have e : b = d := List.mem_singleton.mp hb
      rw [e]
      exact Nat.lt_succ_of_lt (Nat.lt_succ_of_lt hlt)
  · obtain ⟨t, rfl⟩ := hval _ v hP
    obtain ⟨b1, b2⟩ := argBest_lt (fun i => is.getD i 0) (es.size - 1)
    refine ⟨.int _, H1, I1.kept (t' := tk) fun b u e => hk b u (fun hmem => ?_) (Heap.get?_push_of_some _ (k1 b u e)), ⟨t, rfl⟩, q _ ?_ fun j hj => ?_⟩
    · have e1 : b = (s1.heap.push { cls := .type "dict_values", data := .fields #[.ref d] }).objs.size := List.mem_singleton.mp hmem
      have e2 := Heap.lt_size e
      rw [hsz] at e1
      rw [e1] at e2
      exact absurd e2 (Nat.not_lt.mpr (Nat.le_succ _))
    · have hb : argBest (fun i j => decide (is.getD i 0 < is.getD j 0)) (es.size - 1) < is.length := by omega
      rw [List.getD_eq_getElem?_getD, List.getElem?_eq_getElem hb]
      exact List.getElem_mem hb
    · obtain ⟨i, hi, e⟩ := List.mem_iff_getElem.mp hj
      have e2 : is.getD i 0 = j := by rw [List.getD_eq_getElem?_getD, List.getElem?_eq_getElem hi, ← e] <;> rfl
      rw [← e2]
      exact b2 i (by omega)
abbrev mvF (A : FA1) : FA1 := fun env c Q X => A env c (fun d c1 => onO (getC c1 d) fun kv => minI c1 Q (allI kv.2)) X
theorem se_minV (o : XOk G I lv Wx sc N fnB X) {p apos pos2 : Pos} (hg : glB sc "min" = true) (hno : notCall a = true) (hline : (apos.endLine == pos2.line) = true) (ha : PE X a (lift G Wx A)) :
    PE X (.Call (.Name "min" p) [.Call (.Attribute a "values" apos) [] [] pos2] [] pos) (lift G Wx (mvF A)) := by
  obtain ⟨g, hd, hn⟩ := gl_of o hg
  have hm : X.mg "min" = none := by rw [o.hmg]; exact o.glob.bl _ (by decide +kernel)
  refine PE.imp (pe_minV o.calm g hm hno hline ha) fun σ H Q ⟨W, c, env, Q0, X0, e, ok, eo, h, q, x⟩ => ?_
  refine ⟨W, c, env, _, X0, e, ok, eo, h, fun v H' ⟨W1, c1, d, e1, x1, ok1, dn, k⟩ => ?_, x⟩
  subst e1
  obtain ⟨kv, hkv, k⟩ := onO_of k
  obtain ⟨a', r, rfl, da, _⟩ := den_getC ok1 dn hkv
  unfold minI at k
  split at k
  · rename_i n ns hns
    have e := allI_den da.dv hns
    exact ⟨a', r, n :: ns, rfl, da.at_, da.ok.fcv, e, by simp, fun m hm hy => q _ _ (Post.up x1 (Post.now ok1 .int (k m hm hy)))⟩
  · exact k.elim

inductive Ents (G : GI) (W : Wd) : List (Key × V) → List D → List D → Prop
  | nil : Ents G W [] [] []
  | cons {kk : Key} {v : V} {k d : D} {r : List (Key × V)} {ks ds : List D} (hk : keyN k = some (kN kk)) (ky : isKey k = true) (dn : Den G W (kV kk) k) (dv : Den G W v d) (t : Ents G W r ks ds) : Ents G W ((kk, v) :: r) (k :: ks) (d :: ds)
theorem ents_of {W : Wd} (hK : X.K = G.K) : ∀ {xs : List D} {ws : List V} {ks ds : List D}, DenL G W ws xs → pairsD xs = some (ks, ds) → ks.all isKey = true → ∃ (ps : List Addr) (kvs : List (Key × V)), ws = ps.map V.ref ∧ Paired (fun p kv => SqT X.K W.H p [kV kv.1, kv.2]) ps kvs ∧ Ents G W kvs ks ds
  | [], _, ks, ds, .nil, h, _ => by cases h; exact ⟨[], [], rfl, .nil, .nil⟩
  | x :: r, _, ks, ds, .cons dx t, h, ha => by
    unfold pairsD at h
    split at h
    · rename_i e; cases e
    · rename_i a b r' e
      injection e with e1 e2
      subst e1 e2
      cases hp : pairsD r with
      | none => rw [hp] at h; cases h
      | some p =>
        rw [hp] at h
        obtain ⟨ks', ds'⟩ := p
        cases h
        rw [List.all_cons, Bool.and_eq_true] at ha
        obtain ⟨ps, kvs, e3, e4, e5⟩ := ents_of hK t hp ha.2
        obtain ⟨q, vs, rfl, ta, da⟩ := den_tup dx
        obtain ⟨u, v, rfl, du, dv⟩ := denL_two da
        obtain ⟨kk, k1, k2⟩ := key_cases ha.1
        have eu := k2 du
        subst eu
        exact ⟨q :: ps, (kk, v) :: kvs, by rw [e3]; rfl, .cons (by rw [hK]; exact ta.seq) e4, .cons k1 ha.1 du dv e5⟩
    · cases h
theorem merged_ok {W : Wd} : ∀ {more : List (Key × V)} {ks' ds' : List D} {rs : List (Key × Value)} {kvs : List (Key × Value)} {ks ds : List D} {vs : List V}, Ents G W more ks' ds' → KV more rs → ks.all isKey = true → keysN ks = some (kvs.map fun p => kN p.1) → DenL G W (kvs.map fun p => kV p.1) ks → DenL G W vs ds → Vals vs (kvs.map (·.2)) →
    ∃ vs', DenL G W ((merged kvs rs).map fun p => kV p.1) (dMrg ks ds ks' ds').1 ∧ DenL G W vs' (dMrg ks ds ks' ds').2 ∧ Vals vs' ((merged kvs rs).map (·.2)) ∧ (dMrg ks ds ks' ds').1.all isKey = true ∧ keysN (dMrg ks ds ks' ds').1 = some ((merged kvs rs).map fun p => kN p.1)
  | _, _, _, _, kvs, ks, ds, vs, .nil, .nil, ha, hn, dk, dv, rv => by
    have e : dMrg ks ds [] [] = (ks, ds) := by unfold dMrg; rfl
    rw [e]
    exact ⟨vs, dk, dv, rv, ha, hn⟩
  | _, _, _, _, kvs, ks, ds, vs, .cons (kk := kk) (v := v) (k := k) (d := d) (ks := ks2) (ds := ds2) hk ky dn dv' t, .cons (b := q) h tr, ha, hn, dk, dv, rv => by
    obtain ⟨h1, h2⟩ := h
    obtain ⟨vs', g1, g2, g3, g4, g5⟩ := stored_k (y := kV kk) hk ky dn rfl dv' h2 ha hn dk dv rv
    have ih := merged_ok t tr g4 g5 g1 g2 g3
    have e : dMrg ks ds (k :: ks2) (d :: ds2) = dMrg (dPutK ks k) (dPutV ks ds k d) ks2 ds2 := by rw [dMrg]
    rw [e]
    have e2 : ∀ l, merged kvs (q :: l) = merged (stored kvs q.1 q.2) l := fun _ => rfl
    rw [e2, ← h1]
    exact ih
inductive EntsT (G : GI) (W : Wd) : List (NestedKey × Addr × V) → List D → List D → Prop
  | nil : EntsT G W [] [] []
  | cons {n : NestedKey} {b : Addr} {v : V} {k d : D} {r : List (NestedKey × Addr × V)} {ks ds : List D} (hk : keyN k = some n) (ky : isTupD k = true) (dn : Den G W (.ref b) k) (dv : Den G W v d) (t : EntsT G W r ks ds) : EntsT G W ((n, b, v) :: r) (k :: ks) (d :: ds)
inductive KVT : List (NestedKey × Addr × V) → List (NestedKey × Addr × Value) → Prop
  | nil : KVT [] []
  | cons {n : NestedKey} {b : Addr} {v : V} {u : Value} {r : List (NestedKey × Addr × V)} {rs : List (NestedKey × Addr × Value)} (rv : RelV v u) (t : KVT r rs) : KVT ((n, b, v) :: r) ((n, b, u) :: rs)
theorem entsT_of {W : Wd} (hK : X.K = G.K) : ∀ {xs : List D} {ws : List V} {ks ds : List D}, DenL G W ws xs → pairsD xs = some (ks, ds) → ks.all isTupD = true → ∃ (ps : List Addr) (kvs : List (NestedKey × Addr × V)), ws = ps.map V.ref ∧ Paired (fun p kv => SqT X.K W.H p [V.ref kv.2.1, kv.2.2]) ps kvs ∧ EntsT G W kvs ks ds
  | [], _, ks, ds, .nil, h, _ => by cases h; exact ⟨[], [], rfl, .nil, .nil⟩
  | x :: r, _, ks, ds, .cons dx t, h, ha => by
    unfold pairsD at h
    split at h
    · rename_i e; cases e
    · rename_i a b r' e
      injection e with e1 e2
      subst e1 e2
      cases hp : pairsD r with
      | none => rw [hp] at h; cases h
      | some p =>
        rw [hp] at h
        obtain ⟨ks', ds'⟩ := p
        cases h
        rw [List.all_cons, Bool.and_eq_true] at ha
        obtain ⟨ps, kvs, e3, e4, e5⟩ := entsT_of hK t hp ha.2
        obtain ⟨q, vs, rfl, ta, da⟩ := den_tup dx
        obtain ⟨u, v, rfl, du, dv⟩ := denL_two da
        obtain ⟨n, n1, n2, n3, n4⟩ := isTup_ref ha.1
        obtain ⟨b', eu⟩ := n4 du
        subst eu
        exact ⟨q :: ps, (n, b', v) :: kvs, by rw [e3]; rfl, .cons (by rw [hK]; exact ta.seq) e4, .cons n1 ha.1 du dv e5⟩
    · cases h
theorem pairsT_of {pins : List (Addr × Obj)} {σ : L2.St} {H : Hp} {s : Shared} (I : Inv X pins σ H s) : ∀ {ps : List Addr} {kvs : List (NestedKey × Addr × V)}, Paired (fun p kv => SqT X.K H p [V.ref kv.2.1, kv.2.2]) ps kvs →
    ∃ prs : List (NestedKey × Addr × Value), KVT kvs prs ∧ prs.length = ps.length ∧ ∀ (j : Nat) (q : NestedKey × Addr × Value), prs[j]? = some q → ∃ (b : Addr), ps[j]? = some b ∧ IsTup s.heap b #[Value.ref q.2.1, q.2.2]
  | _, _, .nil => ⟨[], .nil, rfl, fun j q e => by simp at e⟩
  | _, _, .cons (a := p) (b := kv) h t => by
    obtain ⟨prs, r, hl, hp⟩ := pairsT_of I t
    obtain ⟨its, rv, ht, _⟩ := I.tuple h
    obtain ⟨u, y, ei, ru, ry⟩ := vals2 rv
    subst ei
    cases ru
    refine ⟨(kv.1, kv.2.1, y) :: prs, .cons ry r, by rw [List.length_cons, List.length_cons, hl], fun j q e => ?_⟩
    cases j with
    | zero =>
      have e' : (kv.1, kv.2.1, y) = q := Option.some.inj e
      subst e'
      exact ⟨p, rfl, ht⟩
    | succ j =>
      obtain ⟨b, e1, e2⟩ := hp j q (by simpa using e)
      exact ⟨b, by simpa using e1, e2⟩
theorem mergedT_ok {W : Wd} : ∀ {more : List (NestedKey × Addr × V)} {ks' ds' : List D} {rs ys : List (NestedKey × Addr × Value)} {ks ds : List D} {vs : List V}, EntsT G W more ks' ds' → KVT more rs → ks.all isTupD = true → keysN ks = some (ys.map (·.1)) → DenL G W (ys.map fun y => V.ref y.2.1) ks → DenL G W vs ds → Vals vs (ys.map (·.2.2)) →
    ∃ vs', DenL G W ((storedAllH ys rs).map fun y => V.ref y.2.1) (dMrg ks ds ks' ds').1 ∧ DenL G W vs' (dMrg ks ds ks' ds').2 ∧ Vals vs' ((storedAllH ys rs).map (·.2.2)) ∧ (dMrg ks ds ks' ds').1.all isTupD = true ∧ keysN (dMrg ks ds ks' ds').1 = some ((storedAllH ys rs).map (·.1))
  | _, _, _, _, ys, ks, ds, vs, .nil, .nil, ha, hn, dk, dv, rv => by
    have e : dMrg ks ds [] [] = (ks, ds) := by unfold dMrg; rfl
    rw [e]
    exact ⟨vs, dk, dv, rv, ha, hn⟩
  | _, _, _, _, ys, ks, ds, vs, .cons (n := n) (b := b) (v := v) (k := k) (d := d) (ks := ks2) (ds := ds2) hk ky dn dv' t, .cons (u := u) h2 tr, ha, hn, dk, dv, rv => by
    obtain ⟨vs', g1, g2, g3, g4, g5⟩ := stored_n (ru := u) hk ky dn dv' h2 ha hn dk dv rv
    have ih := mergedT_ok t tr g4 g5 g1 g2 g3
    have e : dMrg ks ds (k :: ks2) (d :: ds2) = dMrg (dPutK ks k) (dPutV ks ds k d) ks2 ds2 := by rw [dMrg]
    rw [e]
    exact ih
theorem KVT.len : ∀ {kvs : List (NestedKey × Addr × V)} {rs : List (NestedKey × Addr × Value)}, KVT kvs rs → kvs.length = rs.length
  | _, _, .nil => rfl
  | _, _, .cons _ t => by rw [List.length_cons, List.length_cons, t.len]
theorem KVT.stay {W : Wd} {pins : List (Addr × Obj)} {σ : L2.St} {s : Shared} (hK : X.K = G.K) (I : Inv X pins σ W.H s) : ∀ {kvs : List (NestedKey × Addr × V)} {rs : List (NestedKey × Addr × Value)} {ks ds : List D}, EntsT G W kvs ks ds → KVT kvs rs → ∀ x ∈ rs, NestedIs s.heap x.1 (.ref x.2.1) ∧ x.1.depth ≤ 8
  | _, _, _, _, .nil, .nil, x, hx => by cases hx
  | _, _, _, _, .cons hk ky dn dv t, .cons rv tr, x, hx => by
    rcases List.mem_cons.mp hx with rfl | hx
    · obtain ⟨n', n1, n2, n3, n4⟩ := isTup_ref ky
      rw [hk] at n1
      cases n1
      exact ⟨den_nk hK I dn hk rfl, n3⟩
    · exact KVT.stay hK I t tr x hx
abbrev RDL (G : GI) (m : Bool) : List V → Hp → VK → Prop := fun vs H Q => ∃ (W : Wd) (c : Cs) (x : V × D) (xs : List D) (Q0 : QE), vs = [x.1] ∧ W.H = H ∧ Ok G W c ∧ Den G W x.1 x.2 ∧ getR c x.2 = some xs ∧ dictA m c Q0 (pairsD xs) ∧ ∀ v H', Post G W Q0 v H' → Q v H'
theorem callr_dictL (hK : X.K = G.K) (hw : G.w = X.w) (hu : X.A.units + 64 < cLine) (hc : X.calm = true) {m : Bool} : CallR X (.type "dict") (RDL G m) := by
  intro pins s σ H vs us Q I r ⟨W, c, ⟨x, dx⟩, xs, Q0, ev, eH, ok, dz, hx, h, q⟩
  subst ev eH
  obtain ⟨a, ws, rfl, ha, da⟩ := den_getR ok dz hx
  obtain rfl := Vals.ref1 r
  unfold dictA at h
  split at h
  · rename_i kv hp
    obtain ⟨hall, h⟩ := h
    obtain ⟨ks, ds⟩ := kv
    rcases hall with hall | hall
    rotate_left
    · obtain ⟨ps, kvs, rfl, hpp, en⟩ := entsT_of hK da hp hall
      obtain ⟨its, rv, pl, hz⟩ := I.list (show SqL X.K W.H a (ps.map V.ref) by rw [hK]; exact ha)
      have ei := refs_at rv
      subst ei
      rw [List.length_map] at hz
      obtain ⟨prs, rel, hl, hpr⟩ := pairsT_of I hpp
      obtain ⟨o, n, ho, hcl, hd, hdat⟩ := pl
      have hst := KVT.stay hK I en rel
      refine PySem.call_dict_pairsH (knd := nestedKind X.prog X.w) (ps := prs) (PairArg.list a (ps.map Value.ref).toArray (fun j => ps.getD j 0) (prs.map fun q => (Value.ref q.2.1, q.2.2))) (I.ok.hd hc) (by show X.A.units + 1 + 1 + 8 < cLine; omega) ⟨⟨o, n, ho, hcl, hd, hdat⟩, by simp [hl], fun j k v hj => ?_⟩ ⟨by simp, fun i key v hr => ?_⟩ (fun h' hk x hx => ?_) (by rw [List.length_map, hl]; exact hz) fun h' tk hd' k => ?_
      · rw [List.getElem?_map] at hj
        cases hq : prs[j]? with
        | none => rw [hq] at hj; cases hj
        | some q' =>
          rw [hq] at hj
          cases hj
          obtain ⟨b, e1, e2⟩ := hpr j q' hq
          have e3 : ps.getD j 0 = b := by rw [List.getD_eq_getElem?_getD, e1]; rfl
          dsimp only
          rw [e3]
          exact ⟨by simp [e1], .inl (let ⟨o', h1, h2, h3⟩ := e2; ⟨o', h1, h2, h3⟩)⟩
      · unfold PairRel at hr
        rw [List.getElem?_map] at hr
        cases hq : prs[i]? with
        | none => rw [hq] at hr; cases hr
        | some q' =>
          rw [hq] at hr
          cases hr
          exact ⟨q'.1, q'.2.1, rfl, rfl⟩
      · obtain ⟨z1, z2⟩ := hst x hx
        exact ⟨NestedIs.at (fun b ob vs n hb _ => hk b ob (Nat.ne_of_lt (Heap.lt_size hb)) (fun h => nomatch h) hb) _ _ z1, z2⟩
      · have hm : (s.heap.objs.size == sysModules) = false := beq_eq_false_iff_ne.mpr (Nat.ne_of_gt I.big)
        have hlen : (storedAllH ([] : List (NestedKey × Addr × Value)) prs).length ≤ sizeLine := by
          have h1 := storedAllH_length prs ([] : List (NestedKey × Addr × Value))
          rw [List.length_nil] at h1
          omega
        obtain ⟨vs', g1, g2, g3, g4, g5⟩ := mergedT_ok (ys := []) (ks := []) (ds := []) (vs := []) en rel rfl rfl .nil .nil .nil
        obtain ⟨r', e1, e2, e3, e4⟩ := dictOfH_rep (P := X.prog) hm hlen (by rw [hw]; exact hd') g1 g2 g3 g4 g5
        exact ⟨.ref s.heap.objs.size, upd W.H s.heap.objs.size (r'.ho s.heap.objs.size), I.laid (t' := tk) (fun b o e => k b o (fun h => nomatch h) e) (Nat.le_refl _) (rep_obj e1), rfl, newD_ok ok (I.hok.fresh (Nat.le_refl _)) e2 e3 e4 h q⟩
    obtain ⟨ps, kvs, rfl, hpp, en⟩ := ents_of hK da hp hall
    obtain ⟨its, rv, pl, hz⟩ := I.list (show SqL X.K W.H a (ps.map V.ref) by rw [hK]; exact ha)
    have ei := refs_at rv
    subst ei
    rw [List.length_map] at hz
    obtain ⟨prs, rel, hl, hpr⟩ := pairs_of I hpp
    obtain ⟨o, n, ho, hcl, hd, hdat⟩ := pl
    refine call_dict_pairs (prs := prs) (I.ok.hd hc) ho hcl hd hdat (by simp [hl]) (by rw [hl]; exact hz) (fun j q' e => ?_) fun h' tk hd' k => ?_
    · obtain ⟨b, u, e1, e2, e3⟩ := hpr j q' e
      exact ⟨b, u, by simp [e1], e2, e3⟩
    · have hm : (s.heap.objs.size == sysModules) = false := beq_eq_false_iff_ne.mpr (Nat.ne_of_gt I.big)
      have hlen : (merged [] prs).length ≤ sizeLine := by
        have h1 := (rel.merge (kvs := []) (vs := []) .nil).length
        have h2 := length_mergeK kvs []
        have h3 := rel.length
        rw [List.length_nil] at h2
        omega
      obtain ⟨vs', g1, g2, g3, g4, g5⟩ := merged_ok (kvs := []) (ks := []) (ds := []) (vs := []) en rel rfl rfl .nil .nil .nil
      have hd2 : h'.DictOf (mixKind X.prog G.w) s.heap.objs.size (merged [] prs) := by rw [hw]; exact hd'
      obtain ⟨r', e1, e2, e3, e4⟩ := dictOf_rep (P := X.prog) hm hlen hd2 g1 g2 g3 g4 g5
      exact ⟨.ref s.heap.objs.size, upd W.H s.heap.objs.size (r'.ho s.heap.objs.size), I.laid (t' := tk) k (Nat.le_refl _) (rep_obj e1), rfl, newD_ok ok (I.hok.fresh (Nat.le_refl _)) e2 e3 e4 h q⟩
  · exact h.elim
abbrev dlF (m : Bool) (A : FA1) : FA1 := fun env c Q X => A env c (fun d c1 => onO (getR c1 d) fun xs => dictA m c1 Q (pairsD xs)) X
theorem se_dctL (o : XOk G I lv Wx sc N fnB X) {m : Bool} {p : Pos} (hg : glB sc "dict" = true) (hst : noStar a = true) (ha : PE X a (lift G Wx A)) : PE X (.Call (.Name "dict" p) [a] [] pos) (lift G Wx (dlF m A)) := by
  obtain ⟨g, hd, hn⟩ := gl_of o hg
  have hm : X.mg "dict" = none := by rw [o.hmg]; exact o.glob.bl _ (by decide +kernel)
  refine PE.imp (pe_callTyN (callr_dictL (m := m) o.hK o.glob.hw (hu_x o) o.calm) g hm (by decide +kernel) (pa_consN hst ha pa_nil) hn hd (by rw [List.all_cons, hst]; rfl)) fun σ H Q ⟨W, c, env, Q0, X0, e, ok, eo, h, q, x⟩ => ?_
  refine ⟨W, c, env, _, X0, e, ok, eo, h, fun v H' ⟨W1, c1, d, e1, x1, ok1, dn, k⟩ => ?_, x⟩
  subst e1
  obtain ⟨xs, hx, k⟩ := onO_of k
  exact ⟨W1, c1, (v, d), xs, _, rfl, rfl, ok1, dn, hx, k, fun v H' p => q v H' (p.up x1)⟩
end
end F

namespace F
open PySem PySem.Spec PyProof.Rows L2
section
variable {G : GI} {I : CI} {lv : Nat} {Wx : WX} {sc : Scope} {N : List Str} {fnB : Str → Bool} {X : Cx} {a b d e : Expr} {pos : Pos} {A B C : FA1}
theorem den_prs {W : Wd} : ∀ {vs : List V} {ts : List (Int × Int)}, DenL G W vs (ts.map prD) → ∃ ks : List (Addr × List Int), vs = ks.map (fun p => V.ref p.1) ∧ ks.length = ts.length ∧ (∀ p ∈ ks, ∃ t ∈ ts, p.2 = [t.1, t.2] ∧ Den G W (.ref p.1) (prD t)) ∧ ∀ t ∈ ts, ∃ p ∈ ks, p.2 = [t.1, t.2]
  | _, [], h => by
    cases h
    exact ⟨[], rfl, rfl, fun p hp => (by cases hp), fun t ht => (by cases ht)⟩
  | _, t :: ts, h => by
    cases h with
    | cons d r =>
      obtain ⟨ks, e, l, h1, h2⟩ := den_prs r
      obtain ⟨x, rfl, _⟩ := den_tupI (n := [t.1, t.2]) (show Den G W _ (tupI [t.1, t.2]) from d)
      refine ⟨(x, [t.1, t.2]) :: ks, by rw [List.map_cons, ← e], by simp [l], fun p hp => ?_, fun u hu => ?_⟩
      · rcases List.mem_cons.mp hp with rfl | hp
        · exact ⟨t, by simp, rfl, d⟩
        · obtain ⟨u, hu, g⟩ := h1 p hp
          exact ⟨u, by simp [hu], g⟩
      · rcases List.mem_cons.mp hu with rfl | hu
        · exact ⟨_, List.mem_cons_self, rfl⟩
        · obtain ⟨p, hp, g⟩ := h2 u hu
          exact ⟨p, List.mem_cons_of_mem _ hp, g⟩
def toPr (l : List Int) : Int × Int := (l.headD 0, (l.drop 1).headD 0)
theorem den_back {W : Wd} {ts : List (Int × Int)} : ∀ {L : List (Addr × List Int)}, (∀ p ∈ L, ∃ t ∈ ts, p.2 = [t.1, t.2] ∧ Den G W (.ref p.1) (prD t)) → DenL G W (L.map fun p => V.ref p.1) ((L.map fun p => toPr p.2).map prD)
  | [], _ => .nil
  | p :: L, h => by
    obtain ⟨t, _, e, d⟩ := h p (by simp)
    refine .cons ?_ (den_back fun q hq => h q (by simp [hq]))
    show Den G W (.ref p.1) (prD (toPr p.2))
    rw [e]
    exact d
abbrev ssF (m : Bool) (A : FA1) : FA1 := fun env c Q X => A env c (fun d c1 => onO (getR c1 d) fun xs => srtSW m xs c1 Q) X
theorem se_srtS (o : XOk G I lv Wx sc N fnB X) {m : Bool} {p p2 pos2 : Pos} (hg : glB sc "sorted" = true) (hg2 : glB sc "set" = true) (hst : noStar a = true) (ha : PE X a (lift G Wx A)) :
    PE X (.Call (.Name "sorted" p) [.Call (.Name "set" p2) [a] [] pos2] [] pos) (lift G Wx (ssF m A)) := by
  obtain ⟨g, hd, hn⟩ := gl_of o hg
  obtain ⟨g2, hd2, hn2⟩ := gl_of o hg2
  have hm : X.mg "sorted" = none := by rw [o.hmg]; exact o.glob.bl _ (by decide +kernel)
  have hm2 : X.mg "set" = none := by rw [o.hmg]; exact o.glob.bl _ (by decide +kernel)
  have hin := pe_callTyN (pos := pos2) (p := p2) (cr_setOfT o.calm (hu_x o)) g2 hm2 (by decide +kernel) (pa_consN hst ha pa_nil) hn2 hd2 (by rw [List.all_cons, hst]; rfl)
  refine PE.imp (pe_callBN (cr_sortedT o.calm) g hm (by decide +kernel) (pa_consN rfl hin pa_nil) hn hd rfl) fun σ H Q ⟨W, c, env, Q0, X0, e, ok, eo, h, q, x⟩ => ?_
  refine ⟨W, c, env, _, X0, e, ok, eo, h, fun v H' ⟨W1, c1, d, e1, x1, ok1, dn, k⟩ => ?_, x⟩
  subst e1
  obtain ⟨xs, hxs, k⟩ := onO_of k
  obtain ⟨ts, rfl, hl, hb, k⟩ := k
  obtain ⟨l, vs, rfl, hsq, da⟩ := den_getR ok1 dn hxs
  obtain ⟨ks, rfl, kl, hk, hk2⟩ := den_prs da
  have sq : ∀ {W' : Wd} {p : Addr × List Int}, (∃ t ∈ ts, p.2 = [t.1, t.2] ∧ Den G W' (.ref p.1) (prD t)) → SqT X.K W'.H p.1 (p.2.map V.int) := fun {W' p} ⟨t, _, e, dt⟩ => by
    obtain ⟨x, ex, hx⟩ := den_tupI (n := [t.1, t.2]) (show Den G W' _ (tupI [t.1, t.2]) from dt)
    cases ex
    rw [e, o.hK]
    exact hx
  refine ⟨l, ks, rfl, by rw [o.hK]; exact hsq, fun p hp => sq (hk p hp), by omega, fun a' L ha' h1 h2 => ?_⟩
  obtain ⟨x2, ok2⟩ := ok1.alloc ha' (SetTO X.prog X.w a' L)
  have hL : ∀ p ∈ L, ∃ t ∈ ts, p.2 = [t.1, t.2] ∧ Den G { W1 with H := upd W1.H a' (SetTO X.prog X.w a' L) } (.ref p.1) (prD t) := fun p hp => by
    obtain ⟨t, ht, e, dt⟩ := hk p (h1 p hp)
    exact ⟨t, ht, e, dt.mono ok1 x2⟩
  refine ⟨a', L, 2, 64, rfl, upd_same, fun p hp => sq (hL p hp), by decide, fun p hp => ?_, fun L' p' pm nd few pw hp' => ?_⟩
  · obtain ⟨t, ht, e, _⟩ := hL p hp
    have := hb t ht
    refine ⟨by rw [e]; rfl, fun z hz => ?_⟩
    rw [e] at hz
    simp only [List.mem_cons, List.not_mem_nil, or_false] at hz
    rcases hz with rfl | rfl <;> omega
  have hL' : ∀ p ∈ L', ∃ t ∈ ts, p.2 = [t.1, t.2] ∧ Den G { W1 with H := upd W1.H a' (SetTO X.prog X.w a' L) } (.ref p.1) (prD t) := fun p hp => hL p (pm.mem_iff.mp hp)
  refine newL_ok ok2 (den_back hL') (k (L'.map fun p => toPr p.2) ?_ (fun t => ?_) ?_) (fun v H' p => q v H' ((p.up x2).up x1)) p' hp'
  · refine List.pairwise_map.mpr (List.Pairwise.imp_of_mem ?_ (List.pairwise_map.mp nd))
    · intro p1 p2 m1 m2 hne he
      obtain ⟨t1, _, e1, _⟩ := hL' p1 m1
      obtain ⟨t2, _, e2, _⟩ := hL' p2 m2
      rw [e1, e2] at he
      apply hne
      rw [e1, e2]
      have a1 : t1.1 = t2.1 := congrArg Prod.fst he
      have a2 : t1.2 = t2.2 := congrArg Prod.snd he
      rw [a1, a2]
  · constructor
    · intro ht
      obtain ⟨p, hp, rfl⟩ := List.mem_map.mp ht
      obtain ⟨u, hu, e, _⟩ := hL' p hp
      rw [e]
      exact hu
    · intro ht
      obtain ⟨p, hp, e⟩ := hk2 t ht
      obtain ⟨p2, hp2, e2⟩ := List.mem_map.mp (h2 p hp)
      refine List.mem_map.mpr ⟨p2, pm.mem_iff.mpr hp2, ?_⟩
      rw [e2, e]
      rfl
  · refine List.pairwise_map.mpr (List.Pairwise.imp_of_mem ?_ pw)
    intro p1 p2 m1 m2 hle
    obtain ⟨t1, _, e1, _⟩ := hL' p1 m1
    obtain ⟨t2, _, e2, _⟩ := hL' p2 m2
    rw [e1, e2, code_pair, code_pair] at hle
    rw [e1, e2]
    exact hle
end
end F

namespace F
open PySem PySem.Spec PyProof.Rows L2
section
variable {X : Cx} {G : GI} {W : Wd} {c : Cs} {pins : List (Addr × Obj)} {σ : L2.St} {s : Shared} {A : Around} {E : Value → Shared → Prop} {a b : Addr} {r r2 : DRep} {ks ds ks2 ds2 : List D}
theorem upd_n : ∀ {zs ys : List (NestedKey × Addr × Value)} {vs ws : List V} {ks ds ks2 ds2 : List D}, ks.all isTupD = true → keysN ks = some (ys.map (·.1)) → DenL G W (ys.map fun y => V.ref y.2.1) ks → DenL G W vs ds → Vals vs (ys.map (·.2.2)) →
    ks2.all isTupD = true → keysN ks2 = some (zs.map (·.1)) → DenL G W (zs.map fun y => V.ref y.2.1) ks2 → DenL G W ws ds2 → Vals ws (zs.map (·.2.2)) →
    ∃ vs', DenL G W ((storedAllH ys zs).map fun y => V.ref y.2.1) (dMrg ks ds ks2 ds2).1 ∧ DenL G W vs' (dMrg ks ds ks2 ds2).2 ∧ Vals vs' ((storedAllH ys zs).map (·.2.2)) ∧ (dMrg ks ds ks2 ds2).1.all isTupD = true ∧ keysN (dMrg ks ds ks2 ds2).1 = some ((storedAllH ys zs).map (·.1))
  | [], ys, vs, ws, ks, ds, ks2, ds2, a1, a2, a3, a4, a5, b1, b2, b3, b4, b5 => by
    cases b3
    exact ⟨vs, a3, a4, a5, a1, a2⟩
  | z :: zs, ys, vs, ws, ks, ds, ks2, ds2, a1, a2, a3, a4, a5, b1, b2, b3, b4, b5 => by
    cases b5 with
    | cons rv rt =>
      cases b4 with
      | cons dv dt =>
        cases b3 with
        | cons dk dkt =>
          rename_i k kt _ _ _
          obtain ⟨n, l, h, e1, e2⟩ := keysN_cons b2
          simp only [List.map_cons, List.cons.injEq] at h
          obtain ⟨h0, h4⟩ := h
          subst h0 h4
          rw [List.all_cons, Bool.and_eq_true] at b1
          obtain ⟨vs', g1, g2, g3, g4, g5⟩ := stored_n (b := z.2.1) e1 b1.1 dk dv rv a1 a2 a3 a4 a5
          have ih := upd_n (zs := zs) (ys := storedH ys z.1 z.2.1 z.2.2) g4 g5 g1 g2 g3 b1.2 e2 dkt dt rt
          exact ih
theorem DAt.update (hK : X.K = G.K) (hw : G.w = X.w) (hu : A.units + 65 < cLine) (x : DAt G W a r ks ds) (y : DAt G W b r2 ks2 ds2) (hab : a ≠ b) (I : Inv X pins σ W.H s) (k1 : ks.all isTupD = true) (k2 : ks2.all isTupD = true) (hne : ks ≠ []) (hl : ks.length + ks2.length < 16777216) {Q : Value → Shared → Prop}
    (h : ∀ (r' : DRep) (s' : Shared), Inv X pins σ (upd W.H a (r'.ho a)) s' → r'.ok G.w a (dMrg ks ds ks2 ds2).1 → DenL G W r'.keys (dMrg ks ds ks2 ds2).1 → DenL G W r'.vals (dMrg ks ds ks2 ds2).2 → Q .none s') : wpAny (model X.prog X.w) A (call (.builtin "dict.update") [.ref a, .ref b]) Q E s := by
  have hl9 : sizeLine = 16777216 := sizeLine_eq
  obtain ⟨ys, q1, q2, q3, q4, q5⟩ := x.nof hK hw I k1
  obtain ⟨zs, p1, p2, p3, p4, p5⟩ := y.nof hK hw I k2
  have dk := x.dk
  rw [← q3] at dk
  have dk2 := y.dk
  rw [← p3] at dk2
  have lk := dk.length
  have lk2 := dk2.length
  rw [List.length_map] at lk lk2
  obtain ⟨vs', g1, g2, g3, g4, g5⟩ := upd_n k1 q5 dk x.dv q4 k2 p5 dk2 y.dv p4
  have hz := storedAllH_length zs ys
  refine call_update_dictH (room_n (by omega)) hab y.ok.2.1 q1 p1 (.inl fun e => hne ?_) (by omega) fun h' dd' _ hs => ?_
  · rw [e] at lk
    exact List.length_eq_zero_iff.mp lk.symm
  obtain ⟨r', t1, t2, t3, t4⟩ := dictOfH_rep (a := a) x.ok.2.1 (by omega) (by rw [hw]; exact dd') g1 g2 g3 g4 g5
  exact h r' _ (I.write (x := a) (e := a) (by rw [x.at_]; exact trivial) (.inl rfl) (fun b o hb z => (hs.2 b hb).trans z) ⟨_, t1⟩ (rep_obj t1)) t2 t3 t4
end
section
variable {G : GI} {I : CI} {lv : Nat} {Wx : WX} {sc : Scope} {N : List Str} {fnB : Str → Bool} {X : Cx} {a b e d : Expr} {pos : Pos} {A B C : FA1}
abbrev duF (A B : FA1) : FA1 := fun env c Q X => A env c (fun d c1 => isSomeO (getC c1 d) = true ∧ B env c1 (fun y c2 => updW d y c2 Q) X) X
theorem se_dupd (o : XOk G I lv Wx sc N fnB X) {apos : Pos} (hno : notCall a = true) (hn : noStar b = true) (hline : (apos.endLine == pos.line) = true) (ha : PE X a (lift G Wx A)) (hb : PE X b (lift G Wx B)) :
    PE X (.Call (.Attribute a "update" apos) [b] [] pos) (lift G Wx (duF A B)) := by
  refine ⟨fun pins s σ H Q I0 ⟨W, c, env, Q0, X0, eH, ok, eo, h, q, x⟩ => ?_⟩
  refine wpAny_Call_method (base_of hno) (few_of (n := 1) (by simp [hn]) (by omega)) hline PySem.F.plainAttrs_dict PySem.F.slot_dict_update PySem.F.type_dict_update
    (thn (ha.run pins s σ H (fun v H1 => ∃ W1 c1 d, W1.H = H1 ∧ Ext W W1 ∧ Ok G W1 c1 ∧ Den G W1 v d ∧ isSomeO (getC c1 d) = true ∧ B env c1 (fun y c2 => updW d y c2 Q0) X0) I0 ?_) fun u s1 ⟨v, H1, I1, rv, W1, c1, dd, e1, x1, ok1, dn, k1, k2⟩ => ?_)
  · exact ⟨W, c, env, _, X0, eH, ok, eo, h, fun v H' ⟨W1, c1, d, e1, x1, ok1, dn, k⟩ => ⟨W1, c1, d, e1, x1, ok1, dn, k.1, k.2⟩, x⟩
  · subst e1
    obtain ⟨kv, hkv⟩ := some_getC k1
    obtain ⟨p, r, rfl, da, _⟩ := den_getC ok1 dn hkv
    cases (show u = Value.ref p from rv)
    refine ⟨da.typeIs I1, noDict da I1, ?_⟩
    rw [trees1 hn]
    refine Calls.callWith_builtin rfl (Calls.evalArgs_plain (Calls.spliced_cons (thn (hb.run pins s1 σ W1.H (fun v H2 => ∃ W2 c2 y, W2.H = H2 ∧ Ext W1 W2 ∧ Ok G W2 c2 ∧ Den G W2 v y ∧ updW dd y c2 Q0) I1 ?_) fun iv s2 ⟨v2, H2, I2, rv2, W2, c2, y, e2, x2, ok2, dn2, k3⟩ => Calls.spliced_nil ?_)))
    · exact ⟨W1, c1, env, _, X0, rfl, ok1, eo.mono ok x1, k2, fun v H' ⟨W2, c2, d2, e2, x2, ok2, dn2, k⟩ => ⟨W2, c2, d2, e2, x2, ok2, dn2, k⟩, fun cls dd H' p => x cls dd H' (p.up x1)⟩
    · subst e2
      cases dd with
      | cell n =>
        cases y with
        | dct ks2 ds2 =>
          have dn' := dn.mono ok1 x2
          have k3' : updC n c2 Q0 ks2 ds2 c2[n]? := k3
          cases dn' with
          | cell hn2 =>
            obtain ⟨z, hz, ca⟩ := ok2.at hn2
            rw [hz] at k3'
            cases z with
            | dct ks ds =>
              obtain ⟨t1, t2, t3, t4, t5⟩ := k3'
              obtain ⟨r1, q1, q2, q3, q4⟩ := ca
              cases dn2 with
              | @dctK b _ _ r2 f1 f2 f3 f4 f5 =>
                cases (show iv = Value.ref b from rv2)
                have hpb : p ≠ b := fun e => ok2.fz b f1 (e ▸ List.mem_of_getElem? hn2)
                refine DAt.update o.hK o.glob.hw (hu_x1 o) ⟨q1, q2, q3, q4⟩ ⟨f2, f3, f4, f5⟩ hpb I2 t1 t2 t3 t4 fun r' s' I' h1 h2 h3 => ?_
                have z := ok2.setE hn2 (r'.ho p)
                have hc : CellAt G (W2.setAt p (r'.ho p)) p (.dct (dMrg ks ds ks2 ds2).1 (dMrg ks ds ks2 ds2).2) := ⟨r', upd_same, h1, h2.mono ok2 z, h3.mono ok2 z⟩
                obtain ⟨xe, ok3⟩ := ok2.setC hn2 (r'.ho p) hc
                exact ⟨.non, _, I', rfl, q _ _ (Post.up (x1.trans x2) (Post.up xe (Post.now ok3 .non t5)))⟩
            | _ => exact k3'.elim
        | _ => exact k3.elim
      | _ => exact k3.elim
end
section
variable {X : Cx}
/-- len(set), the set of tuples of ints -/
def rLenT (K : PySem.W.Frag) (P : Program) (w : World) : List V → Hp → VK → Prop := fun vs H Q => ∃ (a : Addr) (L : List (Addr × List Int)), vs = [V.ref a] ∧ H a = some (SetTO P w a L) ∧ (∀ p ∈ L, SqT K H p.1 (p.2.map V.int)) ∧ ((L.map (·.2)).Nodup → Q (.int L.length) H)
theorem cr_lenT (hc : X.calm = true) : CallR X (.builtin "len") (rLenT X.K X.prog X.w) := by
  intro pins s σ H vs us Q I r h
  obtain ⟨a, L, rfl, ha, hk, q⟩ := h
  have R0 : SetT0 X.prog X.w s.heap a L := (I.hok a _ ha).1
  obtain ⟨es, ep, t, R⟩ := R0.full fun p hp => I.isT (hk p hp)
  obtain ⟨o, ho, hex, hd⟩ := R.ob
  have hl : es.size = L.length := by
    have e := congrArg List.length R.rows
    unfold rowsOf at e
    rw [List.length_map] at e
    rw [← e]; simp
  have few := R.few
  rw [Vals.ref1 r]
  refine call_len_set ho hex hd R.fits (by omega) ⟨.int L.length, H, I.tok _, ⟨_, by rw [hl]⟩, q R.nd⟩
end
section
variable {G : GI} {I : CI} {lv : Nat} {Wx : WX} {sc : Scope} {N : List Str} {fnB : Str → Bool} {X : Cx} {a b e d : Expr} {pos : Pos} {A B C : FA1}
abbrev lsF (A : FA1) : FA1 := fun env c Q X => A env c (fun d c1 => onO (getR c1 d) fun xs => lenSW xs c1 Q) X
theorem se_lenS (o : XOk G I lv Wx sc N fnB X) {p p2 pos2 : Pos} (hg : glB sc "len" = true) (hg2 : glB sc "set" = true) (hst : noStar a = true) (ha : PE X a (lift G Wx A)) :
    PE X (.Call (.Name "len" p) [.Call (.Name "set" p2) [a] [] pos2] [] pos) (lift G Wx (lsF A)) := by
  obtain ⟨g, hd, hn⟩ := gl_of o hg
  obtain ⟨g2, hd2, hn2⟩ := gl_of o hg2
  have hm : X.mg "len" = none := by rw [o.hmg]; exact o.glob.bl _ (by decide +kernel)
  have hm2 : X.mg "set" = none := by rw [o.hmg]; exact o.glob.bl _ (by decide +kernel)
  have hin := pe_callTyN (pos := pos2) (p := p2) (cr_setOfT o.calm (hu_x o)) g2 hm2 (by decide +kernel) (pa_consN hst ha pa_nil) hn2 hd2 (by rw [List.all_cons, hst]; rfl)
  refine PE.imp (pe_callBN (cr_lenT o.calm) g hm (by decide +kernel) (pa_consN rfl hin pa_nil) hn hd rfl) fun σ H Q ⟨W, c, env, Q0, X0, e, ok, eo, h, q, x⟩ => ?_
  refine ⟨W, c, env, _, X0, e, ok, eo, h, fun v H' ⟨W1, c1, d, e1, x1, ok1, dn, k⟩ => ?_, x⟩
  subst e1
  obtain ⟨xs, hxs, k⟩ := onO_of k
  obtain ⟨ts, rfl, hl, k⟩ := k
  obtain ⟨l, vs, rfl, hsq, da⟩ := den_getR ok1 dn hxs
  obtain ⟨ks, rfl, kl, hk, hk2⟩ := den_prs da
  have sq : ∀ {W' : Wd} {p : Addr × List Int}, (∃ t ∈ ts, p.2 = [t.1, t.2] ∧ Den G W' (.ref p.1) (prD t)) → SqT X.K W'.H p.1 (p.2.map V.int) := fun {W' p} ⟨t, _, e, dt⟩ => by
    obtain ⟨x, ex, hx⟩ := den_tupI (n := [t.1, t.2]) (show Den G W' _ (tupI [t.1, t.2]) from dt)
    cases ex
    rw [e, o.hK]
    exact hx
  refine ⟨l, ks, rfl, by rw [o.hK]; exact hsq, fun p hp => sq (hk p hp), by omega, fun a' L ha' h1 h2 => ?_⟩
  obtain ⟨x2, ok2⟩ := ok1.alloc ha' (SetTO X.prog X.w a' L)
  have hL : ∀ p ∈ L, ∃ t ∈ ts, p.2 = [t.1, t.2] ∧ Den G { W1 with H := upd W1.H a' (SetTO X.prog X.w a' L) } (.ref p.1) (prD t) := fun p hp => by
    obtain ⟨t, ht, e, dt⟩ := hk p (h1 p hp)
    exact ⟨t, ht, e, dt.mono ok1 x2⟩
  refine ⟨a', L, rfl, upd_same, fun p hp => sq (hL p hp), fun nd => ?_⟩
  have e := k (L.map fun p => toPr p.2) ?_ fun t => ?_
  · rw [List.length_map] at e
    exact q _ _ (Post.up (x1.trans x2) (Post.now ok2 .int e))
  · refine List.pairwise_map.mpr (List.Pairwise.imp_of_mem ?_ (List.pairwise_map.mp nd))
    intro p1 p2 m1 m2 hne he
    obtain ⟨t1, _, e1, _⟩ := hL p1 m1
    obtain ⟨t2, _, e2, _⟩ := hL p2 m2
    rw [e1, e2] at he
    apply hne
    rw [e1, e2]
    have a1 : t1.1 = t2.1 := congrArg Prod.fst he
    have a2 : t1.2 = t2.2 := congrArg Prod.snd he
    rw [a1, a2]
  · constructor
    · intro ht
      obtain ⟨p, hp, rfl⟩ := List.mem_map.mp ht
      obtain ⟨u, hu, e, _⟩ := hL p hp
      rw [e]
      exact hu
    · intro ht
      obtain ⟨p, hp, e⟩ := hk2 t ht
      obtain ⟨p2, hp2, e2⟩ := List.mem_map.mp (h2 p hp)
      refine List.mem_map.mpr ⟨p2, hp2, ?_⟩
      rw [e2, e]
      rfl
end
end F

namespace PySem
open PySem PySem.Spec PyProof.Rows PySem.Calls
section
variable {prog : Program} {w : World} {A : Around} {E : Value → Shared → Prop} {s : Shared} {z TI TO T i1 i2 i3 : Addr} {fp1 fp2 fp3 : List Addr} {n1 n2 n3 i : Nat} {P1 P2 P3 : Nat → Value → Prop} {St1 St2 St3 : Nat → Heap → Prop} {a1 a2 a3 : Value} {f : Bool} {oT : Obj}
theorem flz_next_item {Q : Value → Shared → Prop} (S : ZipSep3 z TI TO i1 i2 i3 fp1 fp2 fp3) (D1 : Draws prog w A i1 fp1 n1 P1 St1) (D2 : Draws prog w A i2 fp2 n2 P2 St2) (D3 : Draws prog w A i3 fp3 n3 P3 St3)
    (hz : IsZipHeld s.heap z TI TO T f) (hT : s.heap.get? T = some oT) (hTI : IsTupOf3 s.heap TI (.ref i1) (.ref i2) (.ref i3)) (st1 : St1 i s.heap) (st2 : St2 i s.heap) (st3 : St3 i s.heap) (hlt1 : i < n1) (hlt2 : i < n2) (hlt3 : i < n3)
    (hQ : ∀ x1 x2 x3 h' tk, P1 i x1 → P2 i x2 → P3 i x3 → IsZipHeld h' z TI TO T true → St1 (i + 1) h' → St2 (i + 1) h' → St3 (i + 1) h' → IsTupOf3 h' s.heap.objs.size x1 x2 x3 → h'.objs.size = s.heap.objs.size + 1 →
      (∀ c o, c ≠ z → c ≠ i1 → c ≠ i2 → c ≠ i3 → s.heap.get? c = some o → h'.get? c = some o) → Q (.ref s.heap.objs.size) { s with heap := h', toks := tk }) :
    wpAny (model prog w) A (Builtin.«zip.__next__» ⟨[.ref z], []⟩) (fun fin s' => ∃ v, fin = .done (.ret v) ∧ Q v s') E s := by
  obtain ⟨hp, g, d, tk0, os⟩ := s
  show wpAny _ _ (field (.ref z) 2 >>= _) _ _ _
  refine wpAny_bind (wpAny_field hz rfl (x := .bool false) rfl ?_)
  show wpAny _ _ (field (.ref z) 3 >>= _) _ _ _
  refine wpAny_bind (wpAny_field hz rfl (x := .ref TI) rfl ?_)
  refine wpAny_bind (wpAny_seqItems hTI rfl ?_)
  show wpAny _ _ (Builtin.SmallTypes.ownedTupleIsFree (.ref z) >>= _) _ _ _
  refine wpAny_bind (wpAny_tupleHeld_zip hz hT fun g0 hz0 hs0 => ?_)
  replace hs0 : Heap.SameBut z hp g0 := hs0
  simp only [Bool.false_eq_true, if_false]
  refine wpAny_bind ?_
  rw [← Array.forIn_toList]
  simp only [List.forIn_cons, List.forIn_nil]
  refine wpAny_bind (wpAny_bind (wpAny_holding ?_))
  show wpAny _ _ (Builtin.SmallTypes.nextOf (.ref i1) >>= _) _ _ ⟨g0, g, d, tk0, os⟩
  refine wpAny_bind (D1.item i _ _ _ hlt1 (D1.over st1 hs0 S.zf1) fun x1 p1 tk1 hx1 sn1 hp1 => wpAny_pure ?_)
  replace hp1 : Heap.SameBut i1 g0 p1 := hp1
  refine wpAny_pure ?_
  refine wpAny_bind (wpAny_bind (wpAny_holding ?_))
  show wpAny _ _ (Builtin.SmallTypes.nextOf (.ref i2) >>= _) _ _ ⟨p1, g, d, tk1, os⟩
  refine wpAny_bind (D2.item i _ _ _ hlt2 (D2.over (D2.over st2 hs0 S.zf2) hp1 S.sep1_2) fun x2 p2 tk2 hx2 sn2 hp2 => wpAny_pure ?_)
  replace hp2 : Heap.SameBut i2 p1 p2 := hp2
  refine wpAny_pure ?_
  refine wpAny_bind (wpAny_bind (wpAny_holding ?_))
  show wpAny _ _ (Builtin.SmallTypes.nextOf (.ref i3) >>= _) _ _ ⟨p2, g, d, tk2, os⟩
  refine wpAny_bind (D3.item i _ _ _ hlt3 (D3.over (D3.over (D3.over st3 hs0 S.zf3) hp1 S.sep1_3) hp2 S.sep2_3) fun x3 p3 tk3 hx3 sn3 hp3 => wpAny_pure ?_)
  replace hp3 : Heap.SameBut i3 p2 p3 := hp3
  refine wpAny_pure (wpAny_pure ?_)
  show wpAny _ _ (newTuple [x1, x2, x3] >>= _) _ _ _
  refine wpAny_bind (wpAny_newTuple ?_)
  have hsz : p3.objs.size = hp.objs.size := by rw [hp3.1, hp2.1, hp1.1, hs0.1]
  have hz₃ : IsZipHeld p3 z TI TO T true := hp3.extBut _ _ S.zi3 (hp2.extBut _ _ S.zi2 (hp1.extBut _ _ S.zi1 hz0))
  have hk : ∀ c o, c ≠ z → c ≠ i1 → c ≠ i2 → c ≠ i3 → hp.get? c = some o → p3.get? c = some o := fun c o c0 c1 c2 c3 e => hp3.extBut _ _ c3 (hp2.extBut _ _ c2 (hp1.extBut _ _ c1 (hs0.extBut _ _ c0 e)))
  have hj1 : St1 (i + 1) p3 := D1.over (D1.over sn1 hp2 S.sep2_1) hp3 S.sep3_1
  have hj2 : St2 (i + 1) p3 := D2.over sn2 hp3 S.sep3_2
  have hj3 : St3 (i + 1) p3 := sn3
  refine wpAny_pure ⟨_, rfl, ?_⟩
  show Q (.ref p3.objs.size) ⟨p3.push { cls := .type "tuple", data := .seq #[x1, x2, x3] }, g, d, tk3, os⟩
  have hp' : IsTupOf3 (p3.push { cls := .type "tuple", data := .seq #[x1, x2, x3] }) p3.objs.size x1 x2 x3 := Heap.get?_push_size _ rfl
  have hz4 : (p3.push { cls := .type "tuple", data := .seq #[x1, x2, x3] }).objs.size = p3.objs.size + 1 := Heap.size_push ..
  have up : ∀ c o, p3.get? c = some o → (p3.push { cls := .type "tuple", data := .seq #[x1, x2, x3] }).get? c = some o := fun c o e => Heap.get?_push_of_some _ e
  rw [hsz] at hp' hz4 ⊢
  exact hQ x1 x2 x3 _ tk3 hx1 hx2 hx3 (up _ _ hz₃) (D1.frame _ _ _ hj1 fun b hb o e => up b o e) (D2.frame _ _ _ hj2 fun b hb o e => up b o e) (D3.frame _ _ _ hj3 fun b hb o e => up b o e) hp' hz4 fun c o c0 c1 c2 c3 e => up _ _ (hk c o c0 c1 c2 c3 e)
theorem flz_next_end {Q : Fin → Shared → Prop} (S : ZipSep3 z TI TO i1 i2 i3 fp1 fp2 fp3) (D1 : Draws prog w A i1 fp1 n1 P1 St1)
    (hz : IsZipHeld s.heap z TI TO T f) (hT : s.heap.get? T = some oT) (hTI : IsTupOf3 s.heap TI (.ref i1) (.ref i2) (.ref i3)) (st1 : St1 n1 s.heap)
    (hE : ∀ h' tk e, (∀ c o, c ≠ z → c ≠ i1 → s.heap.get? c = some o → h'.get? c = some o) → (∃ o, h'.get? e = some o ∧ o.cls = .type "StopIteration") → E (.ref e) { s with heap := h', toks := tk }) :
    wpAny (model prog w) A (Builtin.«zip.__next__» ⟨[.ref z], []⟩) Q E s := by
  obtain ⟨hp, g, d, tk0, os⟩ := s
  show wpAny _ _ (field (.ref z) 2 >>= _) _ _ _
  refine wpAny_bind (wpAny_field hz rfl (x := .bool false) rfl ?_)
  show wpAny _ _ (field (.ref z) 3 >>= _) _ _ _
  refine wpAny_bind (wpAny_field hz rfl (x := .ref TI) rfl ?_)
  refine wpAny_bind (wpAny_seqItems hTI rfl ?_)
  show wpAny _ _ (Builtin.SmallTypes.ownedTupleIsFree (.ref z) >>= _) _ _ _
  refine wpAny_bind (wpAny_tupleHeld_zip hz hT fun g0 hz0 hs0 => ?_)
  replace hs0 : Heap.SameBut z hp g0 := hs0
  simp only [Bool.false_eq_true, if_false]
  refine wpAny_bind ?_
  rw [← Array.forIn_toList]
  simp only [List.forIn_cons, List.forIn_nil]
  refine wpAny_bind (wpAny_bind (wpAny_holding ?_))
  show wpAny _ _ (Builtin.SmallTypes.nextOf (.ref i1) >>= _) _ _ ⟨g0, g, d, tk0, os⟩
  refine wpAny_bind (D1.done _ _ _ (D1.over st1 hs0 S.zf1) fun p1 e hp1 he => ?_)
  exact hE p1 tk0 e (fun c o c0 c1 x => hp1 _ _ c1 (hs0.extBut _ _ c0 x)) he
theorem flz_py_item {Q : Option Value → Shared → Prop} (S : ZipSep3 z TI TO i1 i2 i3 fp1 fp2 fp3) (D1 : Draws prog w A.in1 i1 fp1 n1 P1 St1) (D2 : Draws prog w A.in1 i2 fp2 n2 P2 St2) (D3 : Draws prog w A.in1 i3 fp3 n3 P3 St3)
    (hz : IsZipHeld s.heap z TI TO T f) (hT : s.heap.get? T = some oT) (hTI : IsTupOf3 s.heap TI (.ref i1) (.ref i2) (.ref i3)) (st1 : St1 i s.heap) (st2 : St2 i s.heap) (st3 : St3 i s.heap) (hlt1 : i < n1) (hlt2 : i < n2) (hlt3 : i < n3)
    (hQ : ∀ x1 x2 x3 h' tk, P1 i x1 → P2 i x2 → P3 i x3 → IsZipHeld h' z TI TO T true → St1 (i + 1) h' → St2 (i + 1) h' → St3 (i + 1) h' → IsTupOf3 h' s.heap.objs.size x1 x2 x3 → h'.objs.size = s.heap.objs.size + 1 →
      (∀ c o, c ≠ z → c ≠ i1 → c ≠ i2 → c ≠ i3 → s.heap.get? c = some o → h'.get? c = some o) → Q (some (.ref s.heap.objs.size)) { s with heap := h', toks := tk }) :
    wpAny (model prog w) A (pyNext (.ref z)) Q E s := by
  have hTy : s.TypeIs (.ref z) "zip" := ⟨_, hz, rfl⟩
  unfold pyNext
  exact wpAny_bind (wpAny_attempt (wpAny_callSpecial?_slot (name := Str.ofString "__next__") hTy F.slot_zip_next
    (wpAny_call_entry F.slot_zip_next hTy F.entry_zip_next
      (flz_next_item S D1 D2 D3 hz hT hTI st1 st2 st3 hlt1 hlt2 hlt3 fun x1 x2 x3 h' tk y1 y2 y3 b1 d1 d2 d3 b5 b6 b7 => wpAny_pure (hQ x1 x2 x3 h' tk y1 y2 y3 b1 d1 d2 d3 b5 b6 b7)) (F.args_zip_next_1 _))))
theorem flz_py_end {Q : Option Value → Shared → Prop} (S : ZipSep3 z TI TO i1 i2 i3 fp1 fp2 fp3) (D1 : Draws prog w A.in1 i1 fp1 n1 P1 St1)
    (hz : IsZipHeld s.heap z TI TO T f) (hT : s.heap.get? T = some oT) (hTI : IsTupOf3 s.heap TI (.ref i1) (.ref i2) (.ref i3)) (st1 : St1 n1 s.heap)
    (hQ : ∀ h' tk, (∀ c o, c ≠ z → c ≠ i1 → s.heap.get? c = some o → h'.get? c = some o) → Q none { s with heap := h', toks := tk }) : wpAny (model prog w) A (pyNext (.ref z)) Q E s := by
  have hTy : s.TypeIs (.ref z) "zip" := ⟨_, hz, rfl⟩
  unfold pyNext
  refine wpAny_bind (wpAny_attempt (wpAny_callSpecial?_slot (name := Str.ofString "__next__") hTy F.slot_zip_next
    (wpAny_call_entry F.slot_zip_next hTy F.entry_zip_next (flz_next_end S D1 hz hT hTI st1 fun h' tk e hk he => ?_) (F.args_zip_next_1 _))))
  obtain ⟨o, ho, hc⟩ := he
  refine wpAny_bind (wpAny_isInstance (T := "StopIteration") (b := true) ⟨o, ho, hc⟩ isSubtype_stop ?_)
  exact wpAny_pure (hQ _ _ hk)
end
end PySem
namespace F
open PySem PySem.Spec PyProof.Rows PySem.Calls L2
/-- the tuples made so far -/
structure LzG (S : Addr) (x1 x2 x3 : Array Value) (as : List Addr) (h : Heap) : Prop where
  rise : as.Pairwise (· < ·)
  above : ∀ t ∈ as, S < t ∧ t < h.objs.size
  at_ : ∀ (j : Nat) (t : Addr), as[j]? = some t → ∃ u v y, x1[j]? = some u ∧ x2[j]? = some v ∧ x3[j]? = some y ∧ IsTupOf3 h t u v y
theorem LzG.mono {S : Addr} {x1 x2 x3 : Array Value} {as : List Addr} {h h' : Heap} (g : LzG S x1 x2 x3 as h) (hk : ∀ t ∈ as, ∀ o, h.get? t = some o → h'.get? t = some o) : LzG S x1 x2 x3 as h' :=
  ⟨g.rise, fun t ht => by
    obtain ⟨j, hj⟩ := List.mem_iff_getElem?.mp ht
    obtain ⟨u, v, y, _, _, _, e⟩ := g.at_ j t hj
    exact ⟨(g.above t ht).1, Heap.lt_size (hk t ht _ e)⟩, fun j t hj => by
    obtain ⟨u, v, y, e1, e2, e3, e⟩ := g.at_ j t hj
    exact ⟨u, v, y, e1, e2, e3, hk t (List.mem_of_getElem? hj) _ e⟩⟩
section
variable {prog : Program} {w : World} {A : Around} {R : Result → Shared → Prop} {k1 k2 k3 : Bool} {a b d z TI TO i1 i2 i3 S : Addr} {x1 x2 x3 : Array Value} {n : Nat}
/-- zip's own state, i items on -/
def LzZ (z TI TO : Addr) (as : List Addr) (h : Heap) : Prop := (as = [] ∧ IsZip h z TI TO .none ∧ ∃ a1 a2 a3, IsTupOf3 h TO a1 a2 a3) ∨ ∃ T f, T ∈ as ∧ IsZipHeld h z TI TO T f
structure LzS (k1 k2 k3 : Bool) (a b d z TI TO i1 i2 i3 : Addr) (x1 x2 x3 : Array Value) (as : List Addr) (i : Nat) (h : Heap) : Prop where
  z : LzZ z TI TO as h
  ti : IsTupOf3 h TI (.ref i1) (.ref i2) (.ref i3)
  q1 : ItX k1 h i1 a i ∧ HpX k1 h a x1
  q2 : ItX k2 h i2 b i ∧ HpX k2 h b x2
  q3 : ItX k3 h i3 d i ∧ HpX k3 h d x3
theorem lz_loop (hh : A.handled = none) (D : ZipSep3 z TI TO i1 i2 i3 [i1, a] [i2, b] [i3, d]) (h1a : a ≠ i1) (h2b : b ≠ i2) (h3d : d ≠ i3) (n1 : x1.size = n) (n2 : x2.size = n) (n3 : x3.size = n) (hn : n ≤ sizeLine)
    (hS : S ≠ z ∧ S ≠ TI ∧ S ≠ TO ∧ S ≠ i1 ∧ S ≠ i2 ∧ S ≠ i3 ∧ S ≠ a ∧ S ≠ b ∧ S ≠ d) (hzS : z < S ∧ TI < S ∧ TO < S ∧ i1 < S ∧ i2 < S ∧ i3 < S) (res : Value) :
    ∀ (k i : Nat) (s : Shared) (acc : Array Value) (c : Nat) (as : List Addr), n - i = k → i ≤ n → LzS k1 k2 k3 a b d z TI TO i1 i2 i3 x1 x2 x3 as i s.heap → s.heap.get? S = some { cls := .type "list", dict := none, data := .seq acc c, slots := #[] } →
    acc.toList = as.map Value.ref → as.length = i → LzG S x1 x2 x3 as s.heap →
    (∀ h' tk acc' c' as', (∀ b o, b ≠ z → b ≠ TO → b ≠ i1 → b ≠ i2 → b ≠ i3 → b ≠ S → s.heap.get? b = some o → h'.get? b = some o) → h'.get? S = some { cls := .type "list", dict := none, data := .seq acc' c', slots := #[] } → acc'.toList = as'.map Value.ref → as'.length = n → LzG S x1 x2 x3 as' h' → R (.ok (.ret res)) { s with heap := h', toks := tk }) →
    codeAny (model prog w) A (.builtin "list.extend.loop" ⟨[.ref S, .ref z, res], []⟩) R s := by
  intro k
  have hh2 : A.in1.in1.handled = none := hh
  have D1 := drX (prog := prog) (w := w) hh2 k1 i1 a h1a x1
  have D2 := drX (prog := prog) (w := w) hh2 k2 i2 b h2b x2
  have D3 := drX (prog := prog) (w := w) hh2 k3 i3 d h3d x3
  rw [n1] at D1
  rw [n2] at D2
  rw [n3] at D3
  induction k with
  | zero =>
    intro i s acc c as hk hi st hS0 hacc hal hg hR
    have hin : i = n := by omega
    subst hin
    refine codeAny_builtin F.entry_extend_loop ?_
    rw [Around.under_plainId F.plain_extend_loop _]
    show wpAny _ A.in1 (pyNext (.ref z) >>= _) _ _ s
    rcases st.z with ⟨e0, hz, y1, y2, y3, hTO⟩ | ⟨T, f, hT, hz⟩
    · refine wpAny_bind (wpAny_pyNext_zipD3_end D D1 D2 D3 hz st.ti hTO st.q1 st.q2 st.q3 (Nat.le_refl _) (Nat.le_refl _) (Nat.le_refl _) (.inl rfl) fun h' tk hk2 => ?_)
      refine wpAny_pure (hR h' tk acc c as (fun b o c1 c2 c3 c4 c5 _ e => hk2 b o c1 c2 c3 c4 c5 e) (hk2 S _ hS.1 hS.2.2.1 hS.2.2.2.1 hS.2.2.2.2.1 hS.2.2.2.2.2.1 hS0) hacc hal (hg.mono fun t ht o e => ?_))
      rw [e0] at ht; cases ht
    · obtain ⟨j, hj⟩ := List.mem_iff_getElem?.mp hT
      obtain ⟨_, _, _, _, _, _, eT⟩ := hg.at_ j T hj
      refine wpAny_bind (flz_py_end D D1 hz eT st.ti st.q1 fun h' tk hk2 => ?_)
      refine wpAny_pure (hR h' tk acc c as (fun b o c1 c2 c3 c4 c5 _ e => hk2 b o c1 c3 e) (hk2 S _ hS.1 hS.2.2.2.1 hS0) hacc hal (hg.mono fun t ht o e => hk2 t o ?_ ?_ e))
      · exact Nat.ne_of_gt (Nat.lt_trans hzS.1 (hg.above t ht).1)
      · exact Nat.ne_of_gt (Nat.lt_trans hzS.2.2.2.1 (hg.above t ht).1)
  | succ k ih =>
    intro i s acc c as hk hi st hS0 hacc hal hg hR
    have hlt : i < n := by omega
    refine codeAny_builtin F.entry_extend_loop ?_
    rw [Around.under_plainId F.plain_extend_loop _]
    show wpAny _ A.in1 (pyNext (.ref z) >>= _) _ _ s
    have hSl : S < s.heap.objs.size := Heap.lt_size hS0
    have hsz : acc.size = i := by
      have := congrArg List.length hacc
      rw [List.length_map, hal, Array.length_toList] at this
      exact this
    have key : ∀ (u v y : Value) (h' : Heap) (tk : Nat), x1[i]? = some u → x2[i]? = some v → x3[i]? = some y → LzZ z TI TO (as ++ [s.heap.objs.size]) h' → (ItX k1 h' i1 a (i + 1) ∧ HpX k1 h' a x1) → (ItX k2 h' i2 b (i + 1) ∧ HpX k2 h' b x2) → (ItX k3 h' i3 d (i + 1) ∧ HpX k3 h' d x3) →
        IsTupOf3 h' s.heap.objs.size u v y → (∀ c o, c ≠ z → c ≠ TO → c ≠ i1 → c ≠ i2 → c ≠ i3 → s.heap.get? c = some o → h'.get? c = some o) →
        wpAny (model prog w) A.in1 (updateSeq S (·.push (.ref s.heap.objs.size)) >>= fun _ => again (.builtin "list.extend.loop" ⟨[.ref S, .ref z, res], []⟩)) (fun fin s' => match fin with | .done f => R (.ok f) s' | .again c' => c'.quiet = true ∧ codeAny (model prog w) A c' R s') (fun e s' => R (.error e) s') { s with heap := h', toks := tk } := by
      intro u v y h' tk e1 e2 e3 hz q1 q2 q3 hT hkp
      have hS' := hkp S _ hS.1 hS.2.2.1 hS.2.2.2.1 hS.2.2.2.2.1 hS.2.2.2.2.2.1 hS0
      refine wpAny_bind ?_
      have oth : ∀ c o, c ≠ S → h'.get? c = some o → (h'.update S (Obj.mapSeq (·.push (Value.ref s.heap.objs.size)))).get? c = some o := fun c o hc e => (Heap.get?_update_other _ _ (Ne.symm hc)).trans e
      have sne : ∀ c, c < S → c ≠ S := fun c h => Nat.ne_of_lt h
      have below : ∀ t ∈ as, t ≠ z ∧ t ≠ TO ∧ t ≠ i1 ∧ t ≠ i2 ∧ t ≠ i3 ∧ t ≠ S := fun t ht =>
        have q := (hg.above t ht).1
        ⟨Nat.ne_of_gt (Nat.lt_trans hzS.1 q), Nat.ne_of_gt (Nat.lt_trans hzS.2.2.1 q), Nat.ne_of_gt (Nat.lt_trans hzS.2.2.2.1 q), Nat.ne_of_gt (Nat.lt_trans hzS.2.2.2.2.1 q), Nat.ne_of_gt (Nat.lt_trans hzS.2.2.2.2.2 q), Nat.ne_of_gt q⟩
      have hTl : s.heap.objs.size < (h'.update S (Obj.mapSeq (·.push (Value.ref s.heap.objs.size)))).objs.size := Heap.lt_size (oth _ _ (Nat.ne_of_gt hSl) hT)
      refine wpAny_updateSeq hS' rfl (wpAny_pure ⟨plainId_quiet F.plain_extend_loop _, ih (i + 1) _ (acc.push (.ref s.heap.objs.size)) _ (as ++ [s.heap.objs.size]) (by omega) hlt ⟨?_, ?_, ?_, ?_, ?_⟩ (Heap.get?_update_self _ hS' rfl) ?_ ?_ ⟨?_, ?_, ?_⟩ ?_⟩) (by rw [hsz]; omega) (by show (acc.push _).size ≤ sizeLine + 1; rw [Array.size_push, hsz]; omega)
      · rcases hz with ⟨e0, _⟩ | ⟨T, f, hT, hz⟩
        · simp at e0
        · exact .inr ⟨T, f, hT, oth _ _ hS.1.symm hz⟩
      · exact oth _ _ hS.2.1.symm (hkp _ _ D.TIz D.TITO D.TIi1 D.TIi2 D.TIi3 st.ti)
      · exact (drX (prog := prog) (w := w) hh2 k1 i1 a h1a x1).frame _ _ _ q1 fun c hc o e => oth c o (by
          have hc2 : c = i1 ∨ c = a := by simpa using hc
          rcases hc2 with rfl | rfl
          · exact hS.2.2.2.1.symm
          · exact hS.2.2.2.2.2.2.1.symm) e
      · exact (drX (prog := prog) (w := w) hh2 k2 i2 b h2b x2).frame _ _ _ q2 fun c hc o e => oth c o (by
          have hc2 : c = i2 ∨ c = b := by simpa using hc
          rcases hc2 with rfl | rfl
          · exact hS.2.2.2.2.1.symm
          · exact hS.2.2.2.2.2.2.2.1.symm) e
      · exact (drX (prog := prog) (w := w) hh2 k3 i3 d h3d x3).frame _ _ _ q3 fun c hc o e => oth c o (by
          have hc2 : c = i3 ∨ c = d := by simpa using hc
          rcases hc2 with rfl | rfl
          · exact hS.2.2.2.2.2.1.symm
          · exact hS.2.2.2.2.2.2.2.2.symm) e
      · rw [Array.toList_push, hacc, List.map_append]; rfl
      · rw [List.length_append, hal]; rfl
      · rw [List.pairwise_append]
        exact ⟨hg.rise, List.pairwise_singleton _ _, fun t ht t' ht' => by rw [List.mem_singleton.mp ht']; exact (hg.above t ht).2⟩
      · intro t ht
        rcases List.mem_append.mp ht with ht | ht
        · refine ⟨(hg.above t ht).1, Nat.lt_trans (hg.above t ht).2 hTl⟩
        · rw [List.mem_singleton.mp ht]; exact ⟨hSl, hTl⟩
      · intro j t hj
        rcases Nat.lt_or_ge j as.length with hj2 | hj2
        · rw [List.getElem?_append_left hj2] at hj
          obtain ⟨u', v', y', g1, g2, g3, g4⟩ := hg.at_ j t hj
          have bl := below t (List.mem_of_getElem? hj)
          exact ⟨u', v', y', g1, g2, g3, oth _ _ bl.2.2.2.2.2 (hkp _ _ bl.1 bl.2.1 bl.2.2.1 bl.2.2.2.1 bl.2.2.2.2.1 g4)⟩
        · have hj3 : j = as.length := by
            have := (List.getElem?_eq_some_iff.mp hj).1
            rw [List.length_append, List.length_singleton] at this
            omega
          rw [hj3, List.getElem?_append_right (Nat.le_refl _), Nat.sub_self] at hj
          have e := Option.some.inj hj
          rw [hj3, hal, ← e]
          exact ⟨u, v, y, e1, e2, e3, oth _ _ (Nat.ne_of_gt hSl) hT⟩
      · intro h'' tk' acc' c' as' hk3 hS3 ha3 hl3 hg3
        exact hR h'' tk' acc' c' as' (fun b o c1 c2 c3 c4 c5 c6 e => hk3 b o c1 c2 c3 c4 c5 c6 (oth b o c6 (hkp b o c1 c2 c3 c4 c5 e))) hS3 ha3 hl3 hg3
    rcases st.z with ⟨e0, hz, y1, y2, y3, hTO⟩ | ⟨T, f, hT, hz⟩
    · refine wpAny_bind (wpAny_pyNext_zipD3_item D D1 D2 D3 hz st.ti hTO st.q1 st.q2 st.q3 hlt hlt hlt fun u v y h' tk p1 p2 p3 b1 b2 d1 d2 d3 b5 b6 hk2 => ?_)
      exact key u v y h' tk p1 p2 p3 (.inr ⟨_, false, by simp, b1⟩) d1 d2 d3 b5 hk2
    · obtain ⟨j, hj⟩ := List.mem_iff_getElem?.mp hT
      obtain ⟨_, _, _, _, _, _, eT⟩ := hg.at_ j T hj
      refine wpAny_bind (flz_py_item D D1 D2 D3 hz eT st.ti st.q1 st.q2 st.q3 hlt hlt hlt fun u v y h' tk p1 p2 p3 b1 d1 d2 d3 b5 b6 hk2 => ?_)
      exact key u v y h' tk p1 p2 p3 (.inr ⟨T, true, by simp [hT], b1⟩) d1 d2 d3 b5 fun c o c1 _ c3 c4 c5 e => hk2 c o c1 c3 c4 c5 e
theorem zip_no_len : typeLookup (.type "zip") "__len__" = pure none := am_miss_of_fast (by decide +kernel)
theorem zip_no_hint : typeLookup (.type "zip") "__length_hint__" = pure none := am_miss_of_fast (by decide +kernel)
theorem LzS.keep (prog : Program) (w : World) {as : List Addr} {i : Nat} {h h' : Heap} (hh : A.handled = none) (h1a : a ≠ i1) (h2b : b ≠ i2) (h3d : d ≠ i3) (hS : S ≠ z ∧ S ≠ TI ∧ S ≠ TO ∧ S ≠ i1 ∧ S ≠ i2 ∧ S ≠ i3 ∧ S ≠ a ∧ S ≠ b ∧ S ≠ d) (oth : ∀ c o, c ≠ S → h.get? c = some o → h'.get? c = some o) (st : LzS k1 k2 k3 a b d z TI TO i1 i2 i3 x1 x2 x3 as i h) : LzS k1 k2 k3 a b d z TI TO i1 i2 i3 x1 x2 x3 as i h' := by
  refine ⟨?_, ?_, ?_, ?_, ?_⟩
  · rcases st.z with ⟨e0, hz, y1, y2, y3, hTO⟩ | ⟨T, f, hT, hz⟩
    · exact .inl ⟨e0, oth _ _ hS.1.symm hz, y1, y2, y3, oth _ _ hS.2.2.1.symm hTO⟩
    · exact .inr ⟨T, f, hT, oth _ _ hS.1.symm hz⟩
  · exact oth _ _ hS.2.1.symm st.ti
  · exact (drX (prog := prog) (w := w) hh k1 i1 a h1a x1).frame _ _ _ st.q1 fun c hc o e => oth c o (by
      have hc2 : c = i1 ∨ c = a := by simpa using hc
      rcases hc2 with rfl | rfl
      · exact hS.2.2.2.1.symm
      · exact hS.2.2.2.2.2.2.1.symm) e
  · exact (drX (prog := prog) (w := w) hh k2 i2 b h2b x2).frame _ _ _ st.q2 fun c hc o e => oth c o (by
      have hc2 : c = i2 ∨ c = b := by simpa using hc
      rcases hc2 with rfl | rfl
      · exact hS.2.2.2.2.1.symm
      · exact hS.2.2.2.2.2.2.2.1.symm) e
  · exact (drX (prog := prog) (w := w) hh k3 i3 d h3d x3).frame _ _ _ st.q3 fun c hc o e => oth c o (by
      have hc2 : c = i3 ∨ c = d := by simpa using hc
      rcases hc2 with rfl | rfl
      · exact hS.2.2.2.2.2.1.symm
      · exact hS.2.2.2.2.2.2.2.2.symm) e
theorem lz_extend {s : Shared} (hh : A.handled = none) (D : ZipSep3 z TI TO i1 i2 i3 [i1, a] [i2, b] [i3, d]) (h1a : a ≠ i1) (h2b : b ≠ i2) (h3d : d ≠ i3) (n1 : x1.size = n) (n2 : x2.size = n) (n3 : x3.size = n) (hn : n ≤ sizeLine)
    (hS : S ≠ z ∧ S ≠ TI ∧ S ≠ TO ∧ S ≠ i1 ∧ S ≠ i2 ∧ S ≠ i3 ∧ S ≠ a ∧ S ≠ b ∧ S ≠ d) (hzS : z < S ∧ TI < S ∧ TO < S ∧ i1 < S ∧ i2 < S ∧ i3 < S) (res : Value) (c₀ : Nat) (st : LzS k1 k2 k3 a b d z TI TO i1 i2 i3 x1 x2 x3 [] 0 s.heap)
    (hS0 : s.heap.get? S = some { cls := .type "list", data := .seq #[] c₀ })
    (hR : ∀ h' tk acc' c' as', (∀ b o, b ≠ z → b ≠ TO → b ≠ i1 → b ≠ i2 → b ≠ i3 → b ≠ S → s.heap.get? b = some o → h'.get? b = some o) → h'.get? S = some { cls := .type "list", dict := none, data := .seq acc' c', slots := #[] } → acc'.toList = as'.map Value.ref → as'.length = n → LzG S x1 x2 x3 as' h' → R (.ok (.ret res)) { s with heap := h', toks := tk }) :
    wpAny (model prog w) A.in1 (Builtin.List.listExtendWith (.ref S) (.ref z) res)
      (fun fin s' => match fin with | .done f => R (.ok f) s' | .again c' => c'.quiet = true ∧ codeAny (model prog w) A c' R s') (fun e s' => R (.error e) s') s := by
  obtain ⟨hz, y1, y2, y3, hTO⟩ : IsZip s.heap z TI TO .none ∧ ∃ a1 a2 a3, IsTupOf3 s.heap TO a1 a2 a3 := by
    rcases st.z with ⟨_, h⟩ | ⟨T, f, hT, _⟩
    · exact h
    · cases hT
  have hT : s.TypeIs (.ref z) "zip" := ⟨_, hz, rfl⟩
  unfold Builtin.List.listExtendWith
  refine wpAny_bind (wpAny_typeOf hT ?_)
  have h1 : Builtin.List.listSameRef (.ref S) (.ref z) = false := by simp [Builtin.List.listSameRef, hS.1]
  have h2 : (Value.type "zip" == Value.type "list") = false := by decide
  have h3 : (Value.type "zip" == Value.type "tuple") = false := by decide
  simp only [h1, h2, h3, Bool.or_false, Bool.false_eq_true, if_false]
  refine wpAny_bind (wpAny_pyIter_zip hz ?_)
  refine wpAny_bind (wpAny_holding ?_)
  unfold Builtin.List.listLengthHint
  refine wpAny_bind (wpAny_specialOf hT zip_no_len ?_)
  show wpAny _ A.in1 (specialOf (Value.ref z) (Str.ofString "__length_hint__") >>= _) _ _ _
  refine wpAny_bind (wpAny_specialOf hT zip_no_hint ?_)
  refine wpAny_pure ?_
  show wpAny _ A.in1 (rule "list.extend.makes-room" >>= fun _ => Builtin.List.listTouch (.ref S) >>= fun _ =>
    again (.builtin "list.extend.loop" ⟨[.ref S, .ref z, res], []⟩)) _ _ _
  refine wpAny_bind (wpAny_rule ?_)
  refine wpAny_bind ?_
  show wpAny _ A.in1 (updateSeq S (·.push .none) >>= fun _ => updateSeq S (·.pop)) _ _ _
  refine wpAny_bind (wpAny_updateSeq hS0 rfl ?_)
  have hS₂ := Heap.get?_update_self (Obj.mapSeq (·.push Value.none)) hS0 rfl
  refine wpAny_updateSeq (hz := by seq_fits) hS₂ rfl ?_
  have hS₃ := Heap.get?_update_self (Obj.mapSeq (·.pop)) hS₂ rfl
  have oth : ∀ b o, b ≠ S → s.heap.get? b = some o → ((s.heap.update S (Obj.mapSeq (·.push Value.none))).update S (Obj.mapSeq (·.pop))).get? b = some o :=
    fun b o hb e => (Heap.get?_update_other _ _ (Ne.symm hb)).trans ((Heap.get?_update_other _ _ (Ne.symm hb)).trans e)
  refine wpAny_pure ⟨plainId_quiet F.plain_extend_loop _, lz_loop hh D h1a h2b h3d n1 n2 n3 hn hS hzS res n 0 _ _ _ [] rfl (Nat.zero_le _) (st.keep prog w hh h1a h2b h3d hS oth) hS₃ rfl rfl ⟨.nil, (fun _ h => by cases h), (fun j t h => by simp at h)⟩ fun h' tk acc' c' as' hk e1 e2 e3 e4 => ?_⟩
  exact hR h' tk acc' c' as' (fun b o c1 c2 c3 c4 c5 c6 e => hk b o c1 c2 c3 c4 c5 c6 (oth b o c6 e)) e1 e2 e3 e4
theorem lz_init {s : Shared} (hh : A.handled = none) (D : ZipSep3 z TI TO i1 i2 i3 [i1, a] [i2, b] [i3, d]) (h1a : a ≠ i1) (h2b : b ≠ i2) (h3d : d ≠ i3) (n1 : x1.size = n) (n2 : x2.size = n) (n3 : x3.size = n) (hn : n ≤ sizeLine)
    (hS : S ≠ z ∧ S ≠ TI ∧ S ≠ TO ∧ S ≠ i1 ∧ S ≠ i2 ∧ S ≠ i3 ∧ S ≠ a ∧ S ≠ b ∧ S ≠ d) (hzS : z < S ∧ TI < S ∧ TO < S ∧ i1 < S ∧ i2 < S ∧ i3 < S) (st : LzS k1 k2 k3 a b d z TI TO i1 i2 i3 x1 x2 x3 [] 0 s.heap)
    (hS0 : s.heap.get? S = some { cls := .type "list", data := .seq #[] })
    (hR : ∀ h' tk acc' c' as', (∀ b o, b ≠ z → b ≠ TO → b ≠ i1 → b ≠ i2 → b ≠ i3 → b ≠ S → s.heap.get? b = some o → h'.get? b = some o) → h'.get? S = some { cls := .type "list", dict := none, data := .seq acc' c', slots := #[] } → acc'.toList = as'.map Value.ref → as'.length = n → LzG S x1 x2 x3 as' h' → R (.ok (.ret .none)) { s with heap := h', toks := tk }) :
    wpAny (model prog w) A.in1 (Builtin.«list.__init__» ⟨[.ref S, .ref z], []⟩)
      (fun fin s' => match fin with | .done f => R (.ok f) s' | .again c' => c'.quiet = true ∧ codeAny (model prog w) A c' R s') (fun e s' => R (.error e) s') s := by
  show wpAny _ A.in1 (do let old ← Builtin.List.listItems (.ref S); Builtin.List.listUpdate (.ref S) (fun _ => #[]); letGo old.toList.reverse; Builtin.List.listExtendWith (.ref S) (.ref z) .none) _ _ s
  refine wpAny_bind ?_
  unfold Builtin.List.listItems
  refine wpAny_bind (wpAny_seqItems hS0 rfl (wpAny_pure ?_))
  show wpAny _ A.in1 (updateSeq S (fun _ => #[]) >>= fun _ => letGo (#[] : Array Value).toList.reverse >>= fun _ => Builtin.List.listExtendWith (.ref S) (.ref z) .none) _ _ s
  refine wpAny_bind (wpAny_updateSeq hS0 rfl ?_)
  have hS₂ := Heap.get?_update_self (Obj.mapSeq (fun _ => (#[] : Array Value))) hS0 rfl
  have oth : ∀ b o, b ≠ S → s.heap.get? b = some o → (s.heap.update S (Obj.mapSeq (fun _ => (#[] : Array Value)))).get? b = some o :=
    fun b o hb e => (Heap.get?_update_other _ _ (Ne.symm hb)).trans e
  refine wpAny_bind (wpAny_letGo ?_)
  refine lz_extend hh D h1a h2b h3d n1 n2 n3 hn hS hzS .none _ (st.keep prog w hh h1a h2b h3d hS oth) hS₂ fun h' tk acc' c' as' hk e1 e2 e3 e4 => ?_
  exact hR h' tk acc' c' as' (fun b o c1 c2 c3 c4 c5 c6 e => hk b o c1 c2 c3 c4 c5 c6 (oth b o c6 e)) e1 e2 e3 e4
theorem lz_call {s : Shared} {Q E : Value → Shared → Prop} (hh : A.handled = none) (D : ZipSep3 z TI TO i1 i2 i3 [i1, a] [i2, b] [i3, d]) (h1a : a ≠ i1) (h2b : b ≠ i2) (h3d : d ≠ i3) (n1 : x1.size = n) (n2 : x2.size = n) (n3 : x3.size = n) (hn : n ≤ sizeLine)
    (hlt : z < s.heap.objs.size ∧ TI < s.heap.objs.size ∧ TO < s.heap.objs.size ∧ i1 < s.heap.objs.size ∧ i2 < s.heap.objs.size ∧ i3 < s.heap.objs.size ∧ a < s.heap.objs.size ∧ b < s.heap.objs.size ∧ d < s.heap.objs.size) (st : LzS k1 k2 k3 a b d z TI TO i1 i2 i3 x1 x2 x3 [] 0 s.heap)
    (hQ : ∀ h' tk acc' c' as', (∀ b o, b ≠ z → b ≠ TO → b ≠ i1 → b ≠ i2 → b ≠ i3 → s.heap.get? b = some o → h'.get? b = some o) → h'.get? s.heap.objs.size = some { cls := .type "list", dict := none, data := .seq acc' c', slots := #[] } → acc'.toList = as'.map Value.ref → as'.length = n → LzG s.heap.objs.size x1 x2 x3 as' h' → Q (.ref s.heap.objs.size) { s with heap := h', toks := tk }) :
    wpAny (model prog w) A (call (.type "list") [.ref z]) Q E s := by
  refine callType_codes (Q₁ := fun obj s₁ => obj = .ref s.heap.objs.size ∧ s₁ = { s with heap := s.heap.push { cls := .type "list", data := .seq #[] } }) F.called_list (F.typeCall_list_1 _) F.entry_list_init
    (code_list_new _ ⟨rfl, rfl⟩) fun obj s₁ h₁ => ?_
  obtain ⟨rfl, rfl⟩ := h₁
  have hS0 : (s.heap.push { cls := .type "list", data := .seq #[] }).get? s.heap.objs.size = some { cls := .type "list", data := .seq #[] } := Heap.get?_push_size _ rfl
  obtain ⟨l1, l2, l3, l4, l5, l6, l7, l8, l9⟩ := hlt
  have hS : s.heap.objs.size ≠ z ∧ s.heap.objs.size ≠ TI ∧ s.heap.objs.size ≠ TO ∧ s.heap.objs.size ≠ i1 ∧ s.heap.objs.size ≠ i2 ∧ s.heap.objs.size ≠ i3 ∧ s.heap.objs.size ≠ a ∧ s.heap.objs.size ≠ b ∧ s.heap.objs.size ≠ d := ⟨Nat.ne_of_gt l1, Nat.ne_of_gt l2, Nat.ne_of_gt l3, Nat.ne_of_gt l4, Nat.ne_of_gt l5, Nat.ne_of_gt l6, Nat.ne_of_gt l7, Nat.ne_of_gt l8, Nat.ne_of_gt l9⟩
  refine ⟨⟨_, hS0, rfl⟩, F.args_list_init_2 _ _, lz_init (A := A.in1) hh D h1a h2b h3d n1 n2 n3 hn hS ⟨l1, l2, l3, l4, l5, l6⟩ (st.keep prog w (A := A) hh h1a h2b h3d hS fun c o _ e => Heap.get?_push_of_some _ e) hS0 fun h' tk acc' c' as' hk e1 e2 e3 e4 => ?_⟩
  exact ⟨rfl, hQ h' tk acc' c' as' (fun b o c1 c2 c3 c4 c5 e => hk b o c1 c2 c3 c4 c5 (Nat.ne_of_lt (Heap.lt_size e)) (Heap.get?_push_of_some _ e)) e1 e2 e3 e4⟩
end
end F

namespace F
open PySem PySem.Spec PyProof.Rows PySem.Calls L2
/-- the tuples tracked at their addresses -/
def putT3 : Hp → List Addr → List (List V) → Hp
  | H, a :: as, t :: ts => putT3 (upd H a (.tup t)) as ts
  | H, _, _ => H
def zT3 : List V → List V → List V → List (List V)
  | x :: xs, y :: ys, z :: zs => [x, y, z] :: zT3 xs ys zs
  | _, _, _ => []
theorem putT3_off {b : Addr} : ∀ (as : List Addr) (ts : List (List V)) (H : Hp), b ∉ as → putT3 H as ts b = H b
  | [], _, _, _ => rfl
  | _ :: _, [], _, _ => rfl
  | a :: as, p :: ts, H, h => by
    show putT3 (upd H a (.tup p)) as ts b = H b
    rw [putT3_off as ts _ (fun z => h (List.mem_cons_of_mem _ z)), upd_ne (fun z => h (by rw [z]; exact List.mem_cons_self))]
theorem putT3_at : ∀ (as : List Addr) (ts : List (List V)) (H : Hp) (j : Nat) (a : Addr) (t : List V), as.Nodup → as[j]? = some a → ts[j]? = some t → putT3 H as ts a = some (.tup t)
  | [], _, _, j, a, t, _, h, _ => by simp at h
  | _ :: _, [], _, j, a, t, _, _, h => by simp at h
  | b :: as, p :: ts, H, 0, a, t, hn, h1, h2 => by
    have e1 := Option.some.inj h1
    have e2 := Option.some.inj h2
    subst e1 e2
    show putT3 (upd H b (.tup p)) as ts b = _
    rw [putT3_off as ts _ (List.nodup_cons.mp hn).1, upd_same]
  | b :: as, p :: ts, H, j + 1, a, t, hn, h1, h2 => putT3_at as ts (upd H b (.tup p)) j a t (List.nodup_cons.mp hn).2 h1 h2
theorem zT3_at : ∀ (xs ys zs : List V) (j : Nat) (x y z : V), xs[j]? = some x → ys[j]? = some y → zs[j]? = some z → (zT3 xs ys zs)[j]? = some [x, y, z]
  | [], _, _, j, x, y, z, h, _, _ => by simp at h
  | _ :: _, [], _, j, x, y, z, _, h, _ => by simp at h
  | _ :: _, _ :: _, [], j, x, y, z, _, _, h => by simp at h
  | a :: xs, b :: ys, d :: zs, 0, x, y, z, h1, h2, h3 => by
    have e1 := Option.some.inj h1
    have e2 := Option.some.inj h2
    have e3 := Option.some.inj h3
    subst e1 e2 e3
    rfl
  | a :: xs, b :: ys, d :: zs, j + 1, x, y, z, h1, h2, h3 => zT3_at xs ys zs j x y z h1 h2 h3
theorem zT3_len : ∀ (xs ys zs : List V), xs.length = ys.length → ys.length = zs.length → (zT3 xs ys zs).length = xs.length
  | [], _, _, _, _ => by simp [zT3]
  | _ :: _, [], _, h, _ => by simp at h
  | _ :: _, _ :: _, [], _, h => by simp at h
  | a :: xs, b :: ys, d :: zs, h1, h2 => by
    rw [zT3, List.length_cons, List.length_cons, zT3_len xs ys zs (Nat.succ.inj h1) (Nat.succ.inj h2)]
theorem vals_refs : ∀ as : List Addr, Vals (as.map V.ref) (as.map Value.ref)
  | [] => .nil
  | _ :: as => .cons rfl (vals_refs as)
def rZl (K : PySem.W.Frag) : List V → Hp → VK → Prop := fun vs H Q => ∃ a b d k1 k2 k3 xs ys zs, vs = [.ref a, .ref b, .ref d] ∧ SqX K H k1 a xs ∧ SqX K H k2 b ys ∧ SqX K H k3 d zs ∧ xs.length = ys.length ∧ ys.length = zs.length ∧
  ∀ (ts : List Addr) (p : Addr), ts.length = xs.length → ts.Nodup → (∀ t ∈ ts, H t = none) → p ∉ ts → H p = none → Q (.ref p) (upd (putT3 H ts (zT3 xs ys zs)) p (.lst (ts.map V.ref)))
def tZl (K : PySem.W.Frag) (ta : TA) : TE := fun σ H Q => ta σ H fun vs H1 => rZl K vs H1 Q
section
variable {X : Cx} {pins : List (Addr × Obj)} {σ : L2.St} {H : Hp} {s : Shared}
theorem invXs (I : Inv X pins σ H s) {k : Bool} {a : Addr} {xs : List V} (h : SqX X.K H k a xs) : xs.length ≤ sizeLine := match k, h with
  | true, h => let ⟨_, _, _, q⟩ := I.tuple h; q
  | false, h => let ⟨_, _, _, q⟩ := I.list h; q
theorem zip_laid {h' : Heap} {tk : Nat} {acc : Array Value} {c S : Nat} {as : List Addr} {xs ys zs : List V} {us vs ws : List Value} (I : Inv X pins σ H s) (hz : xs.length ≤ sizeLine) (l1 : xs.length = ys.length) (l2 : ys.length = zs.length) (rx : Vals xs us) (ry : Vals ys vs) (rz : Vals zs ws)
    (hle : s.heap.objs.size ≤ S) (hk : ∀ b o, s.heap.get? b = some o → h'.get? b = some o) (hS : h'.get? S = some { cls := .type "list", dict := none, data := .seq acc c, slots := #[] }) (hl : as.length = xs.length) (hG : LzG S us.toArray vs.toArray ws.toArray as h') (hacc : acc.toList = as.map Value.ref) :
    as.Nodup ∧ (∀ t ∈ as, H t = none) ∧ S ∉ as ∧ H S = none ∧ Inv X pins σ (upd (putT3 H as (zT3 xs ys zs)) S (.lst (as.map V.ref))) { s with heap := h', toks := tk } := by
  have hSn : S ∉ as := fun z => Nat.lt_irrefl _ (hG.above _ z).1
  have nd : as.Nodup := List.Pairwise.imp (fun {a b} (h : a < b) => Nat.ne_of_lt h) hG.rise
  have new : ∀ t ∈ as, H t = none := fun t ht => I.hok.fresh (Nat.le_trans hle (Nat.le_of_lt (hG.above t ht).1))
  have newS : H S = none := I.hok.fresh hle
  refine ⟨nd, new, hSn, newS, ?_⟩
  have off : ∀ b, b ∉ as → b ≠ S → upd (putT3 H as (zT3 xs ys zs)) S (.lst (as.map V.ref)) b = H b := fun b h1 h2 => by rw [upd_ne h2, putT3_off as _ _ h1]
  have low : ∀ b o, s.heap.get? b = some o → b ∉ as ∧ b ≠ S := fun b o e => ⟨fun z => absurd (Nat.lt_of_lt_of_le (Heap.lt_size e) hle) (Nat.not_lt.mpr (Nat.le_of_lt (hG.above b z).1)), Nat.ne_of_lt (Nat.lt_of_lt_of_le (Heap.lt_size e) hle)⟩
  have kp : ∀ b u, H b = some u → (upd (putT3 H as (zT3 xs ys zs)) S (.lst (as.map V.ref))) b = some u := fun b u e => by
    rw [off b (fun z => by rw [new b z] at e; cases e) (fun z => by rw [z, newS] at e; cases e)]
    exact e
  refine I.call' (ch := []) rfl ⟨fun b o q _ _ _ => hk b o q, fun b o q _ _ _ => ⟨o.slots, hk b o q⟩, fun b o q n _ => ?_, fun b o q _ => ⟨o, hk b o q⟩, fun b xs q => kp b _ q, fun b o u q => kp b _ q, fun b ps q => ⟨#[], by rw [kp b _ q]; simp⟩⟩ (fun b u q => ?_) I.bare fun b z => by simp at z
  · obtain ⟨z1, z2⟩ := low b o q
    rw [off b z1 z2]
    exact n
  · by_cases hb2 : b = S
    · rw [hb2] at q ⊢
      rw [upd_same] at q
      cases q
      refine ⟨by rw [List.length_map]; omega, acc.toList, c, by rw [hacc]; exact vals_refs as, ?_⟩
      rw [Array.toArray_toList]
      exact hS
    · by_cases hb : b ∈ as
      · obtain ⟨j, hj⟩ := List.mem_iff_getElem?.mp hb
        obtain ⟨u1, u2, u3, e1, e2, e3, e4⟩ := hG.at_ j b hj
        have hjl : j < xs.length := by rw [← hl]; exact (List.getElem?_eq_some_iff.mp hj).1
        obtain ⟨x, hx⟩ : ∃ x, xs[j]? = some x := ⟨xs[j], List.getElem?_eq_getElem hjl⟩
        obtain ⟨y, hy⟩ : ∃ y, ys[j]? = some y := ⟨ys[j], List.getElem?_eq_getElem (by omega)⟩
        obtain ⟨z, hz⟩ : ∃ z, zs[j]? = some z := ⟨zs[j], List.getElem?_eq_getElem (by omega)⟩
        rw [upd_ne hb2, putT3_at as _ _ j b _ nd hj (zT3_at xs ys zs j x y z hx hy hz)] at q
        cases q
        obtain ⟨v1, f1, r1⟩ := rx.get hx
        obtain ⟨v2, f2, r2⟩ := ry.get hy
        obtain ⟨v3, f3, r3⟩ := rz.get hz
        rw [List.getElem?_toArray, f1] at e1
        rw [List.getElem?_toArray, f2] at e2
        rw [List.getElem?_toArray, f3] at e3
        cases e1
        cases e2
        cases e3
        exact ⟨by show 3 ≤ sizeLine; decide, [u1, u2, u3], .cons r1 (.cons r2 (.cons r3 .nil)), ⟨_, e4, rfl, _, rfl⟩⟩
      · rw [off b hb hb2] at q
        exact (I.hok b u q).stay (fun d v _ y => hk d v y) (fun d y => kp d _ y) fun d xs y => kp d _ y
end
theorem pe_listZip {X : Cx} {e e2 e3 : Expr} {ta : TA} {p p2 pos pos2 : Pos} (hc : X.calm = true) (hgl : Gl X "list") (hml : X.mg "list" = none) (hv : bootBuiltins "list" = some (.type "list")) (hg : Gl X "zip") (hm : X.mg "zip" = none) (ha : PA X [e, e2, e3] ta)
    (hs : starEach [e, e2, e3] X.env = (false, eval e X.env) :: starEach [e2, e3] X.env := by rfl) (hpl : (backTo pos2 (starEach [e2, e3] X.env)).any (·.1) = false := by rfl)
    (hs2 : starEach [.Call (.Name "zip" p2) [e, e2, e3] [] pos2] X.env = (false, eval (.Call (.Name "zip" p2) [e, e2, e3] [] pos2) X.env) :: starEach [] X.env := by rfl) :
    PE X (.Call (.Name "list" p) [.Call (.Name "zip" p2) [e, e2, e3] [] pos2] [] pos) (tZl X.K ta) := by
  refine ⟨fun pins s σ H R I h => ?_⟩
  refine wpAny_Call_Name_kw (ld_blt I hgl hml hv ?_)
  refine PyProof.Rows.callWith_type1 ?_ hs2 rfl
  rw [hs2]
  show wpAny _ _ (spliced ((false, eval (.Call (.Name "zip" p2) [e, e2, e3] [] pos2) X.env) :: backTo pos (starEach [] X.env))) _ _ s
  refine Calls.spliced_cons ?_
  refine Call_ (ld_blt I hg hm PyProof.Rows.boot_zip (PyProof.Rows.callWith_type1 (thn (ha.run pos2 pins s σ H _ I h) fun us s1 ⟨vs, H1, I1, r1, q1⟩ => ?_) hs hpl))
  obtain ⟨a, b, d, k1, k2, k3, xs, ys, zs, ex, hqx, hqy, hqz, l1, l2, q⟩ := q1
  subst ex
  cases r1 with
  | cons r rr =>
    cases rr with
    | cons r' rr =>
      cases rr with
      | cons r2 rr =>
        cases rr
        cases r
        cases r'
        cases r2
        obtain ⟨its, rv, p1, la⟩ := invX I1 hqx
        obtain ⟨its2, rv2, p2, lb⟩ := invX I1 hqy
        obtain ⟨its3, rv3, p3, ld⟩ := invX I1 hqz
        have hsz0 := invXs I1 hqx
        refine zip_begins3 (begX k1 a its.toArray) (begX k2 b its2.toArray) (begX k3 d its3.toArray) p1 p2 p3 fun h' hz hTI hTO h1 h2 h3 hsz hk => ?_
        have S := zip_sep3 (N := s1.heap.objs.size) (fp1 := [a]) (fp2 := [b]) (fp3 := [d]) (fun c hc => by rw [List.mem_singleton.mp hc]; exact la) (fun c hc => by rw [List.mem_singleton.mp hc]; exact lb) (fun c hc => by rw [List.mem_singleton.mp hc]; exact ld)
        refine Calls.spliced_nil ?_
        have rl1 := rv.length
        have rl2 := rv2.length
        have rl3 := rv3.length
        have up : ∀ c o, s1.heap.get? c = some o → h'.get? c = some o := hk
        have pX : ∀ {k : Bool} {a : Addr} {its : Array Value}, HpX k s1.heap a its → HpX k h' a its := fun {k a its} hp => match k, hp with
          | true, hp => let ⟨o, ho, r⟩ := hp; ⟨o, up _ _ ho, r⟩
          | false, hp => let ⟨o, ho, r⟩ := hp; ⟨o, up _ _ ho, r⟩
        refine lz_call (s := { s1 with heap := h' }) (n := xs.length) (I1.ok.hd hc) S (Nat.ne_of_lt la) (Nat.ne_of_lt (Nat.lt_succ_of_lt lb)) (Nat.ne_of_lt (Nat.lt_add_right 2 ld)) (x1 := its.toArray) (x2 := its2.toArray) (x3 := its3.toArray) (by simp; omega) (by simp; omega) (by simp; omega) hsz0 ?_ ⟨.inl ⟨rfl, hz, _, _, _, hTO⟩, hTI, ⟨itX0 h1, pX p1⟩, ⟨itX0 h2, pX p2⟩, ⟨itX0 h3, pX p3⟩⟩ fun h'' tk acc c as hk2 hS hacc hl hG => ?_
        · show _ < h'.objs.size ∧ _ < h'.objs.size ∧ _ < h'.objs.size ∧ _ < h'.objs.size ∧ _ < h'.objs.size ∧ _ < h'.objs.size ∧ _ < h'.objs.size ∧ _ < h'.objs.size ∧ _ < h'.objs.size
          rw [hsz]
          exact ⟨Nat.add_lt_add_left (by decide) _, Nat.add_lt_add_left (by decide) _, Nat.add_lt_add_left (by decide) _, Nat.lt_add_of_pos_right (by decide), Nat.add_lt_add_left (by decide) _, Nat.add_lt_add_left (by decide) _, Nat.lt_add_right 6 la, Nat.lt_add_right 6 lb, Nat.lt_add_right 6 ld⟩
        · have hszz : h'.objs.size = s1.heap.objs.size + 6 := hsz
          have big : ∀ (c : Nat) (o : Obj), s1.heap.get? c = some o → ∀ k, c ≠ s1.heap.objs.size + k := fun c o e k => Nat.ne_of_lt (Nat.lt_of_lt_of_le (Heap.lt_size e) (Nat.le_add_right _ _))
          obtain ⟨z1, z2, z3, z4, J⟩ := zip_laid (h' := h'') (tk := tk) I1 hsz0 l1 l2 rv rv2 rv3 (S := h'.objs.size) (by omega) (fun c o e => hk2 c o (big c o e _) (big c o e _) (big c o e 0) (big c o e _) (big c o e _) (up c o e)) hS hl hG hacc
          exact ⟨.ref _, _, J, rfl, q as _ hl z1 z2 z3 z4⟩
section
variable {G : GI} {I : CI} {lv : Nat} {Wx : WX} {sc : Scope} {N : List Str} {fnB : Str → Bool} {X : Cx} {a b e d : Expr} {pos : Pos} {A B C : FA1} {W : Wd} {c : Cs}
theorem putT3_ok : ∀ (as : List Addr) (xs ys zs : List V) {ds es fs : List D} {W : Wd} (ok : Ok G W c), DenL G W xs ds → DenL G W ys es → DenL G W zs fs → as.length = xs.length → xs.length = ys.length → ys.length = zs.length → as.Nodup → (∀ t ∈ as, W.H t = none) →
    ∃ W', W'.H = putT3 W.H as (zT3 xs ys zs) ∧ Ext W W' ∧ Ok G W' c ∧ DenL G W' (as.map V.ref) (zip3L ds es fs)
  | [], [], [], [], _, _, _, W, ok, .nil, .nil, .nil, _, _, _, _, _ => ⟨W, rfl, Ext.refl W, ok, .nil⟩
  | a :: as, x :: xs, y :: ys, z :: zs, _, _, _, W, ok, .cons dx r, .cons dy r2, .cons dz r3, l0, l1, l2, nd, hn => by
    obtain ⟨e, k⟩ := ok.alloc (hn a List.mem_cons_self) (.tup [x, y, z])
    have nd' := List.nodup_cons.mp nd
    obtain ⟨W', w1, w2, w3, w4⟩ := putT3_ok as xs ys zs k (r.mono ok e) (r2.mono ok e) (r3.mono ok e) (Nat.succ.inj l0) (Nat.succ.inj l1) (Nat.succ.inj l2) nd'.2 fun t ht => by
      show upd W.H a _ t = none
      rw [upd_ne (fun z => nd'.1 (by rw [← z]; exact ht))]
      exact hn t (List.mem_cons_of_mem _ ht)
    refine ⟨W', w1, e.trans w2, w3, .cons (.tup (.inl (w2.tup a _ upd_same)) ?_) w4⟩
    have dx' := dx.mono ok e
    have dy' := dy.mono ok e
    have dz' := dz.mono ok e
    exact .cons (dx'.mono k w2) (.cons (dy'.mono k w2) (.cons (dz'.mono k w2) .nil))
  | [], _ :: _, _, _, _, _, _, _, _, _, _, _, l0, _, _, _, _ => by simp at l0
  | _ :: _, [], _, _, _, _, _, _, _, _, _, _, l0, _, _, _, _ => by simp at l0
  | _, [], _ :: _, _, _, _, _, _, _, _, _, _, _, l1, _, _, _ => by simp at l1
  | _, _ :: _, [], _, _, _, _, _, _, _, _, _, _, l1, _, _, _ => by simp at l1
  | _, _, [], _ :: _, _, _, _, _, _, _, _, _, _, _, l2, _, _ => by simp at l2
  | _, _, _ :: _, [], _, _, _, _, _, _, _, _, _, _, l2, _, _ => by simp at l2
abbrev zpF (m : Bool) (A B C : FA1) : FA1 := fun env c Q X => A env c (fun x c1 => B env c1 (fun y c2 => C env c2 (fun z c3 => onO (getS c3 x) fun xs => onO (getS c3 y) fun ys => onO (getS c3 z) fun zs => (xs.length = ys.length ∧ ys.length = zs.length) ∧ newL m (zip3L xs ys zs) c3 Q) X) X) X
theorem se_zipE (o : XOk G I lv Wx sc N fnB X) {m : Bool} {p p2 pos2 : Pos} (hgl : glB sc "list" = true) (hg : glB sc "zip" = true) (hn : noStar a = true) (hn2 : noStar b = true) (hn3 : noStar d = true) (ha : PE X a (lift G Wx A)) (hb : PE X b (lift G Wx B)) (hd3 : PE X d (lift G Wx C)) :
    PE X (.Call (.Name "list" p) [.Call (.Name "zip" p2) [a, b, d] [] pos2] [] pos) (lift G Wx (zpF m A B C)) := by
  obtain ⟨gl, _, _⟩ := gl_of o hgl
  obtain ⟨g, hd, _⟩ := gl_of o hg
  have hml : X.mg "list" = none := by rw [o.hmg]; exact o.glob.bl _ (by decide +kernel)
  have hm : X.mg "zip" = none := by rw [o.hmg]; exact o.glob.bl _ (by decide +kernel)
  have hs : starEach [a, b, d] X.env = (false, eval a X.env) :: starEach [b, d] X.env := star_cons hn
  refine PE.imp (pe_listZip o.calm gl hml rfl g hm (pa_consN hn ha (pa_consN hn2 hb (pa_consN hn3 hd3 pa_nil))) hs (star_any (by simp [hn2, hn3]))) fun σ H Q ⟨W, c, env, Q0, X0, e, ok, eo, h, q, x⟩ => ?_
  refine ⟨W, c, env, _, X0, e, ok, eo, h, fun v H' ⟨W1, c1, d1, e1, x1, ok1, dn, k⟩ => ?_, x⟩
  refine ⟨W1, c1, env, _, X0, e1, ok1, eo.mono ok x1, k, fun v2 H2 ⟨W2, c2, d2, e2, x2, ok2, dn2, k2⟩ => ?_, fun cls dd H' p => x cls dd H' (p.up x1)⟩
  refine ⟨W2, c2, env, _, X0, e2, ok2, (eo.mono ok x1).mono ok1 x2, k2, fun v3 H3 ⟨W3, c3, d3, e3, x3, ok3, dn3, k3⟩ => ?_, fun cls dd H' p => x cls dd H' ((p.up x2).up x1)⟩
  subst e3
  obtain ⟨xs, hx, k3⟩ := onO_of k3
  obtain ⟨ys, hy, k3⟩ := onO_of k3
  obtain ⟨zs, hz, k3⟩ := onO_of k3
  obtain ⟨⟨l1, l2⟩, k3⟩ := k3
  have dn' := (dn.mono ok1 x2).mono ok2 x3
  have dn2' := dn2.mono ok2 x3
  obtain ⟨ka, p1, rfl, s1, vs, hs1, dv1⟩ := src_of ok3 dn' hx
  obtain ⟨kb, p2, rfl, s2, ws, hs2, dv2⟩ := src_of ok3 dn2' hy
  obtain ⟨kd, p3, rfl, s3, us3, hs3, dv3⟩ := src_of ok3 dn3 hz
  rw [o.hK]
  refine ⟨p1, p2, p3, ka, kb, kd, vs, ws, us3, rfl, hs1, hs2, hs3, by rw [dv1.length, dv2.length]; exact l1, by rw [dv2.length, dv3.length]; exact l2, fun ts pp e1 e2 e3 e4 e5 => ?_⟩
  obtain ⟨W4, w1, w2, w3, w4⟩ := putT3_ok ts vs ws us3 ok3 dv1 dv2 dv3 e1 (by rw [dv1.length, dv2.length]; exact l1) (by rw [dv2.length, dv3.length]; exact l2) e2 e3
  rw [← w1]
  exact newL_ok w3 w4 k3 (fun v H' p => q v H' ((((p.up w2).up x3).up x2).up x1)) pp (by rw [w1, putT3_off ts _ _ e4]; exact e5)
end
end F

namespace F
open PySem PySem.Spec L2
section
variable {G : GI} {I : CI} {lv : Nat} {Wx : WX} {sc : Scope} {N : List Str} {fnB : Str → Bool} {X : Cx} {a b e : Expr} {pos : Pos} {A B C : FA1} {np : Nat}

def getV (K : PySem.W.Frag) : V → V → Hp → VK → Prop := fun o i H Q => ∃ a xs k v, o = .ref a ∧ i = .int k ∧ H a = some (.lst xs) ∧ atI xs k = some v ∧ Q v H
theorem ss_augI (o : XOk G I lv Wx sc N fnB X) (pg : PGet X (getV X.K)) {ve oe ie : Expr} {p : Pos} {op : B2} {pp : Operator} {fv fo fi : FE} (hop : augT op pp = true) (ho : PE X oe (lift G Wx (wpE I fo))) (hi : PE X ie (lift G Wx (wpE I fi))) (hv : PE X ve (lift G Wx (wpE I fv))) (hsl : notSlice ie = true) :
    PS X (.AugAssign (.Subscript oe ie p) pp ve pos) (liftS G Wx np (wpS I (.augI op fo fi fv))) := by
  obtain ⟨g, hg, hk⟩ := aug_ip (X := X) hop
  refine PS.imp (ps_augS ho hi pg hv hg (set_x o.hK o.glob.hw (hu_x o)) (fun ov iv new => by cases ie <;> first | rfl | simp [notSlice] at hsl)) fun D σ H ⟨W, c, env, E, X0, eH, hn, ok, eo, h, oo⟩ => ?_
  refine ⟨W, c, env, _, _, eH, ok, eo, h, fun v1 H1 ⟨W1, c1, d1, e1, x1, ok1, dn1, k1⟩ => ?_, oo.exE hn ok eo⟩
  obtain ⟨n1, f1⟩ := le_ext hn ok x1 ok1
  have eo1 := eo.mono ok x1
  refine ⟨W1, c1, env, _, _, e1, ok1, eo1, k1, fun v2 H2 pst2 => ?_, (oo.up f1).exE n1 ok1 eo1⟩
  obtain ⟨W2, c2, d2, e2, x2, ok2, dn2, k2⟩ := pst2
  obtain ⟨n2, f2⟩ := le_ext n1 ok1 x2 ok2
  have eo2 := eo1.mono ok1 x2
  cases dn2 <;> first | exact k2.elim | skip
  rename_i q
  obtain ⟨xs, hx, old, hold, k2⟩ : ∃ xs, getL c2 d1 = some xs ∧ ∃ old, atI xs q = some old ∧ wpE I fv env c2 (fun z c3 => onI (fun p => augI op p (fun r => setD d1 (.int q) (.int r) c3 (E.nx env)) z) old) (atE X0 env) := idxS_of k2
  subst e2
  obtain ⟨a, vs, rfl, hv, t⟩ := den_getL ok2 (dn1.mono ok1 x2) hx
  obtain ⟨w, hw, dw⟩ := atI_den t hold
  refine ⟨a, vs, q, w, rfl, rfl, hv, hw, ?_⟩
  refine ⟨W2, c2, env, _, _, rfl, ok2, eo2, k2, fun v4 H4 pst4 => ?_, ((oo.up f1).up f2).exE n2 ok2 eo2⟩
  obtain ⟨W4, c4, d4, e4, x4, ok4, dn4, k4⟩ := pst4
  obtain ⟨n4, f4⟩ := le_ext n2 ok2 x4 ok4
  cases dw <;> first | exact k4.elim | skip
  rename_i pp0
  obtain ⟨j, rfl, k5⟩ := hk pp0 (fun r => setD d1 (.int q) (.int r) c4 (E.nx env)) d4 k4
  cases dn4
  subst e4
  refine ⟨pp0, j, rfl, rfl, ?_⟩
  refine setD_ok ok4 (((dn1.mono ok1 x2)).mono ok2 x4) .int .int k5 fun W5 c5 x5 ok5 k5 => ?_
  exact (((oo.up f1).up f2).up f4).nx _ _ ⟨W5, c5, env, rfl, (le_ext n4 ok4 x5 ok5).2, ok5, (eo2.mono ok2 x4).mono ok4 x5, k5⟩

theorem putF_none {f : Str} {v : V} : ∀ {gs : List (Str × V)}, f ∉ gs.map (·.1) → putF f v gs = gs ++ [(f, v)]
  | [], _ => rfl
  | (g, x) :: r, h => by
    simp only [List.map_cons, List.mem_cons, not_or] at h
    show (if g = f then (g, v) :: r else (g, x) :: putF f v r) = _
    rw [if_neg (fun z => h.1 z.symm), putF_none h.2]
    rfl
theorem putF_at {f : Str} {v : V} : ∀ {gs : List (Str × V)} {j : Nat}, (gs.map (·.1)).Nodup → (gs.map (·.1))[j]? = some f → (putF f v gs).map (·.1) = gs.map (·.1) ∧ (putF f v gs).map (·.2) = (gs.map (·.2)).set j v
  | [], j, _, h => by simp at h
  | (g, x) :: r, 0, _, h => by
    simp at h
    subst h
    have e : putF g v ((g, x) :: r) = (g, v) :: r := by unfold putF; rw [if_pos rfl]
    rw [e]
    exact ⟨rfl, rfl⟩
  | (g, x) :: r, j + 1, nd, h => by
    simp only [List.map_cons, List.nodup_cons] at nd
    have h' : (r.map (·.1))[j]? = some f := by simpa using h
    have ne : g ≠ f := fun z => nd.1 (by rw [z]; exact List.mem_of_getElem? h')
    obtain ⟨h1, h2⟩ := putF_at (v := v) (j := j) nd.2 h'
    unfold putF
    rw [if_neg ne]
    exact ⟨by rw [List.map_cons, List.map_cons, h1], by rw [List.map_cons, List.map_cons, h2]; rfl⟩
theorem setF_ok {W : Wd} {c : Cs} (ok : Ok G W c) {flds : Nat → List Str} (hfl : flds = G.flds) {ov vv : V} {o v : D} {k j : Nat} {f : Str} (hf : (flds k)[j]? = some f) (hnd : (flds k).Nodup) (hk : (flds k).length ≤ 999) (d1 : Den G W ov o) (d2 : Den G W vv v) {K : Cs → Prop} (h : setF flds o k j v c K) :
    ∃ a dx gs, ov = .ref a ∧ W.H a = some (.ins (G.cls k) dx gs) ∧ gs.length < 1000 ∧ ∃ W' c', Ext W W' ∧ Ok G W' c' ∧ K c' ∧ W'.H = upd W.H a (.ins (G.cls k) dx (putF f vv gs)) := by
  subst hfl
  unfold setF at h
  split at h
  · rename_i n
    split at h
    · rename_i k' fs hc
      obtain ⟨rfl, hj, hl, h⟩ := h
      cases d1 with
      | @cell a n ha =>
        obtain ⟨y, hy, ca⟩ := ok.at ha
        rw [hc] at hy; cases hy
        obtain ⟨dx, gs, q1, q2, q3⟩ := ca
        have lg : gs.length = fs.length := by
          have := q3.length
          rw [List.length_map] at this
          exact this
        have z := ok.setE ha (.ins (G.cls k) dx (putF f vv gs))
        refine ⟨a, dx, gs, rfl, q1, by omega, ?_⟩
        split at h
        · rename_i hlt
          have hf' : (gs.map (·.1))[j]? = some f := by rw [q2, List.getElem?_take_of_lt hlt]; exact hf
          obtain ⟨p1, p2⟩ := putF_at (v := vv) (by rw [q2]; exact hnd.sublist (List.take_sublist _ _)) hf'
          have hcell : CellAt G (W.setAt a (.ins (G.cls k) dx (putF f vv gs))) a (.obj k (fs.set j v)) := ⟨dx, _, upd_same, by rw [p1, q2, List.length_set], by rw [p2]; exact DenL.set (d2.mono ok z) j (q3.mono ok z)⟩
          obtain ⟨xe, ok2⟩ := ok.setC ha _ hcell
          exact ⟨_, _, xe, ok2, h, rfl⟩
        · rename_i hlt
          obtain ⟨rfl, h⟩ := h
          have hnm : f ∉ gs.map (·.1) := by
            rw [q2]
            intro hm
            obtain ⟨i, hi⟩ := List.mem_iff_getElem?.mp hm
            have hi2 : i < fs.length := by
              have := (List.getElem?_eq_some_iff.mp hi).1
              rw [List.length_take] at this
              omega
            rw [List.getElem?_take_of_lt hi2] at hi
            have e1 := (List.getElem?_eq_some_iff.mp hi)
            have e2 := (List.getElem?_eq_some_iff.mp hf)
            have := (List.getElem_inj hnd).mp (e1.2.trans e2.2.symm)
            omega
          have e3 : putF f vv gs = gs ++ [(f, vv)] := putF_none hnm
          have hcell : CellAt G (W.setAt a (.ins (G.cls k) dx (putF f vv gs))) a (.obj k (fs ++ [v])) := ⟨dx, _, upd_same, by
            rw [e3, List.map_append, q2, List.length_append, List.length_singleton, List.take_add_one, hf]; rfl, by
            have e4 : (putF f vv gs).map (·.2) = gs.map (·.2) ++ [vv] := by rw [e3, List.map_append]; rfl
            rw [e4]; exact (q3.mono ok z).append (.cons (d2.mono ok z) .nil)⟩
          obtain ⟨xe, ok2⟩ := ok.setC ha _ hcell
          exact ⟨_, _, xe, ok2, h, rfl⟩
    · exact h.elim
  · exact h.elim
theorem ss_setA (o : XOk G I lv Wx sc N fnB X) {ve oe : Expr} {p : Pos} {k j : Nat} {f : Str} {fv fo : FE} (hk : k < I.nk) (hf : (I.flds k)[j]? = some f) (hd : (I.flds k).Nodup) (hl : (I.flds k).length ≤ 999) (hv : PE X ve (lift G Wx (wpE I fv))) (ho : PE X oe (lift G Wx (wpE I fo))) :
    PS X (.Assign [.Attribute oe f p] ve pos) (liftS G Wx np (wpS I (.setA fo k j fv))) := by
  obtain ⟨cl, na⟩ := o.glob.cls k hk
  have hfm : f ∈ G.flds k := by rw [← o.glob.flds]; exact List.mem_of_getElem? hf
  refine PS.imp (ps_fld ho hv swapsA_of) fun D σ H ⟨W, c, env, E, X0, eH, hn, ok, eo, h, oo⟩ => ?_
  refine ⟨W, c, env, _, _, eH, ok, eo, h, fun v H' ⟨W1, c1, d, e1, x1, ok1, dn, k1⟩ => ?_, oo.exE hn ok eo⟩
  obtain ⟨n1, f1⟩ := le_ext hn ok x1 ok1
  have eo1 := eo.mono ok x1
  refine ⟨W1, c1, env, _, _, e1, ok1, eo1, k1, fun v2 H2 ⟨W2, c2, d2, e2, x2, ok2, dn2, k2⟩ => ?_, (oo.up f1).exE n1 ok1 eo1⟩
  obtain ⟨n2, f2⟩ := le_ext n1 ok1 x2 ok2
  subst e2
  obtain ⟨a, dx, gs, ea, hH, hlen, W3, c3, x3, ok3, k3, e3⟩ := setF_ok ok2 o.glob.flds hf hd hl dn2 (dn.mono ok1 x2) k2
  refine ⟨a, G.cls k, dx, gs, ea, hH, by rw [o.hK]; exact cl, by rw [o.hK]; exact na f hfm, hlen, ?_⟩
  rw [← e3]
  exact ((oo.up f1).up f2).nx _ _ ⟨W3, c3, env, rfl, (le_ext n2 ok2 x3 ok3).2, ok3, (eo1.mono ok1 x2).mono ok2 x3, k3⟩

def parB (sc : Scope) (N : List Str) (i j : Nat) (ts vs : List Expr) : Bool :=
  match ts, vs with
  | [.Name x px, .Name y py], [a, b] => decide (N[i]? = some x) && decide (N[j]? = some y) && decide (i ≠ j) && decide (x ≠ y) && (px.line == py.line) && (match sc.kind with | .function => true | _ => false) &&
    (match sc.names.lookup x with | some .local => true | _ => false) && (match sc.names.lookup y with | some .local => true | _ => false) && noStar a && noStar b && !([a, b].all (foldedForSure 8)) && !([a, b].all (constantsAlone 8))
  | _, _ => false
def starry : Expr → Bool
  | .Starred .. => true
  | _ => false
theorem starry_of (h : noStar e = true) : starry e = false := by cases e <;> first | rfl | simp [noStar] at h
theorem par_stores {x y : Str} {px py pt : Pos} {kt : Nat} {a b : Expr} {k2 : Nat} {pt2 : Pos} {env : Env} (hk : env.scope.kind = .function) (hx : env.scope.names.lookup x = some .local) (hy : env.scope.names.lookup y = some .local) (hne : x ≠ y) (hl : (px.line == py.line) = true)
    (na : noStar a = true) (nb : noStar b = true) (h1 : [a, b].all (foldedForSure 8) = false) (h2 : [a, b].all (constantsAlone 8) = false) :
    swappedStores [.Tuple [.Name x px, .Name y py] kt pt] (.Tuple [a, b] k2 pt2) env = pure (some [x, y]) := by
  have ky : env.kindOf x = some .local := hx
  have kz : env.kindOf y = some .local := hy
  have hb : env.blockKind = .function := by unfold Env.blockKind; rw [hk]; rfl
  have hl' : (py.line == px.line) = true := by rw [eq_of_beq hl]; exact beq_self_eq_true _
  unfold swappedStores
  dsimp only
  rw [hb]
  generalize hq : List.any [a, b] _ = q
  have eq : q = false := by
    rw [← hq]
    show (starry a || (starry b || false)) = false
    rw [starry_of na, starry_of nb]; rfl
  generalize hn : List.filterMap _ _ = names
  have en : names = [x, y] := by
    rw [← hn, List.filterMap_cons_some (b := x) (by
      show (if (env.kindOf x == some .local && px.line == px.line) = true then some x else none) = some x
      rw [ky, if_pos (by simp)]), List.filterMap_cons_some (b := y) (by
      show (if (env.kindOf y == some .local && py.line == px.line) = true then some y else none) = some y
      rw [kz, if_pos (by rw [hl']; rfl)])]
    rfl
  rw [eq, en, h1, h2]
  have hyx : (y == x) = false := beq_eq_false_iff_ne.mpr (Ne.symm hne)
  have hd : ([x, y].eraseDups.length != [x, y].length) = false := by
    simp [List.eraseDups, List.eraseDupsBy, List.eraseDupsBy.loop, hyx]
  simp only [hd]
  rfl
theorem ss_par (o : XOk G I lv Wx sc N fnB X) {i j kt k2 : Nat} {pt pt2 : Pos} {ts vs : List Expr} {fa fb : FE} (h : parB sc N i j ts vs = true) (ha : ∀ x ∈ vs[0]?, PE X x (lift G Wx (wpE I fa))) (hb : ∀ x ∈ vs[1]?, PE X x (lift G Wx (wpE I fb))) :
    PS X (.Assign [.Tuple ts kt pt] (.Tuple vs k2 pt2) pos) (liftS G Wx np (wpS I (.par i j fa fb))) := by
  unfold parB at h
  split at h
  · rename_i x px y py a b
    simp only [Bool.and_eq_true, Bool.not_eq_true', decide_eq_true_eq] at h
    obtain ⟨⟨⟨⟨⟨⟨⟨⟨⟨⟨⟨p1, p2⟩, p3⟩, p4⟩, p5⟩, p6⟩, p7⟩, p8⟩, p9⟩, p10⟩, p11⟩, p12⟩ := h
    have k1 : X.env.scope.kind = .function := by
      rw [o.hsc]; split at p6
      · assumption
      · cases p6
    have kx : X.env.scope.names.lookup x = some .local := by
      rw [o.hsc]; split at p7
      · assumption
      · cases p7
    have ky : X.env.scope.names.lookup y = some .local := by
      rw [o.hsc]; split at p8
      · assumption
      · cases p8
    refine PS.imp (ps_par o.calm (by rw [o.hN]; exact o.nd) (by rw [o.hN]; exact p1) (by rw [o.hN]; exact p2) p3 kx ky (pa_consN p9 (ha a rfl) (pa_consN p10 (hb b rfl) pa_nil)) (par_stores k1 kx ky p4 p5 p9 p10 p11 p12) (show swapsWith (.Tuple [a, b] k2 pt2) (some (.Tuple [.Name x px, .Name y py] kt pt)) pos.line X.env = pure false from swaps_of rfl)) fun D σ H ⟨W, c, env, E, X0, eH, hn, ok, eo, h, oo⟩ => ?_
    refine ⟨W, c, env, _, _, eH, ok, eo, h, fun v H' ⟨W1, c1, d, e1, x1, ok1, dn, k⟩ => ?_, oo.exE hn ok eo⟩
    obtain ⟨n1, f1⟩ := le_ext hn ok x1 ok1
    have eo1 := eo.mono ok x1
    refine ⟨W1, c1, env, _, _, e1, ok1, eo1, k, fun v2 H2 ⟨W2, c2, d2, e2, x2, ok2, dn2, k2⟩ => ?_, (oo.up f1).exE n1 ok1 eo1⟩
    obtain ⟨n2, f2⟩ := le_ext n1 ok1 x2 ok2
    refine ⟨v, v2, rfl, ?_⟩
    have eo3 := ((eo1.mono ok1 x2).set k2.1 (dn.mono ok1 x2))
    exact ((oo.up f1).up f2).nx _ _ ⟨W2, c2, _, e2, FrS.refl f2.le, ok2, eo3.set (by unfold setE; rw [List.length_set]; exact k2.2.1) dn2, k2.2.2⟩
  · cases h
end
end F

namespace F
open PySem PySem.Spec L2
section
variable {G : GI} {I : CI} {lv : Nat} {Wx : WX} {sc : Scope} {N : List Str} {fnB : Str → Bool} {X : Cx} {a b e : Expr} {pos : Pos} {A B C : FA1} {np : Nat}
theorem EnvOk.map {W W' : Wd} {σ : L2.St} {env : En} {f : D → D} (h : ∀ {v : V} {d : D}, Den G W v d → Den G W' v (f d)) (eo : EnvOk G W σ env) : EnvOk G W' σ (env.map (Option.map f)) := by
  refine ⟨by rw [List.length_map]; exact eo.1, fun i d e => ?_⟩
  rw [List.getElem?_map] at e
  obtain ⟨o, e1, e2⟩ := Option.map_eq_some_iff.mp e
  obtain ⟨d0, rfl, rfl⟩ := Option.map_eq_some_iff.mp e2
  obtain ⟨v, h1, h2⟩ := eo.2 i d0 e1
  exact ⟨v, h1, h h2⟩
def liftSx (G : GI) (Wx : WX) (T : FAS) : TS := fun D σ H => ∃ n, liftS G Wx n T D σ H
theorem pss_x {ss : List Stmt} {T : FAS} (h : ∀ n, PSs X ss (liftS G Wx n T)) : PSs X ss (liftSx G Wx T) := ⟨fun pins s σ H D I ⟨n, hw⟩ => (h n).run pins s σ H D I hw⟩
theorem forL_gd {flds : Nat → List Str} {keep : Bool} {n : Nat} {gd : List (Nat × Cont)} {turn : D → FEnds → En → Cs → Prop} {E : FEnds} {xs : List D} {env : En} {c : Cs} (h : forL flds keep n gd turn E xs env c) : gdOk c gd := by
  cases xs with
  | nil => exact h.1
  | cons _ _ => exact h.1
theorem ss_for (o : XOk G I lv Wx sc N fnB X) (po : PassesOwn (model X.prog X.w) X.A X.env X.xe) {keep : Bool} {t : FT} {it : FI} {bd : FSs} {tg iter : Expr} {body : List Stmt} (hns : notSet iter = true)
    (hi : PI X tg iter (liftI G Wx (wpI I it))) (hg : PG X tg (liftG G (ftSl t) (wpT t))) (hb : ∀ n, PSs X body (liftS G Wx n (wpSs I bd))) :
    PS X (.For tg iter body [] pos) (liftS G Wx np (wpS I (.for_ keep t it bd))) := by
  refine PS.imp (ps_for po o.calm hi hg (pss_x hb) (folded_of hns)) fun D σ H ⟨W, c, env, E, X0, eH, hn, ok, eo, h, oo⟩ => ?_
  have h' : wpI I it env c (fun xs gd c1 => forL I.flds keep c1.length gd (fun x E' env' c' => wpT t x env' c' fun env2 => wpSs I bd c1.length E' X0 env2 c') E xs env c1) (atE X0 env) := h
  refine ⟨W, c, env, _, _, eH, ok, eo, h', fun J W1 c1 xs gd x1 ok1 itk k => ?_, oo.exE hn ok eo⟩
  obtain ⟨n1, f1⟩ := le_ext hn ok x1 ok1
  have eo1 := eo.mono ok x1
  have len1 : W1.as.length = c1.length := ok1.len
  have oo1 := oo.up f1
  refine ⟨fun i m σ H => m = xs.length - i ∧ i ≤ xs.length ∧ ∃ Wi ci envi, Wi.H = H ∧ FrS c1.length W1 Wi ∧ Ok G Wi ci ∧ EnvOk G Wi σ envi ∧
    forL I.flds keep c1.length gd (fun x E' env' c' => wpT t x env' c' fun env2 => wpSs I bd c1.length E' X0 env2 c') E (xs.drop i) envi ci, ⟨xs.length, by simp, Nat.zero_le _, W1, c1, env, rfl, FrS.refl (by rw [len1]; exact Nat.le_refl _), ok1, eo1, by rw [List.drop_zero]; exact k⟩, ?_⟩
  rintro i m σi Hi ⟨rfl, hi, Wi, ci, envi, rfl, xi, oki, eoi, kc⟩
  have hgd := forL_gd kc
  obtain ⟨itg, its⟩ := itk Wi ci (by rw [len1]; exact xi) oki hgd
  have lci : c1.length ≤ ci.length := by rw [← oki.len]; exact xi.le
  by_cases hlt : i < xs.length
  · refine .inr ?_
    have hx : xs[i]? = some xs[i] := List.getElem?_eq_getElem hlt
    obtain ⟨go, yl⟩ := itg i _ hx
    rw [List.drop_eq_getElem_cons hlt] at kc
    obtain ⟨_, kc⟩ := kc
    refine ⟨go, fun σ' H' => i + 1 ≤ xs.length ∧ ∃ Wi ci envi, Wi.H = H' ∧ FrS c1.length W1 Wi ∧ Ok G Wi ci ∧ EnvOk G Wi σ' envi ∧
      forL I.flds keep c1.length gd (fun x E' env' c' => wpT t x env' c' fun env2 => wpSs I bd c1.length E' X0 env2 c') E (xs.drop (i + 1)) envi ci,
      fun σ' H' hN => ⟨xs.length - (i + 1), by omega, rfl, hN.1, hN.2⟩, fun v H' hy => ?_⟩
    obtain ⟨W2, rfl, x2, ok2, dn⟩ := yl v H' hy
    have f2 : FrS c1.length W1 W2 := xi.trans (x2.frS (by rw [oki.len]; exact lci))
    refine ⟨W2, ci, envi, _, _, rfl, ok2, eoi.mono oki x2, dn, kc, fun σ2 env2 eo2 _ k2 => ?_⟩
    have oo2 := oo1.up (f2.mono n1)
    have again : ∀ σ' H', SPost G c1.length W2 (fun env' c' => cl I.flds keep c1.length c' fun f c'' => forL I.flds keep c1.length gd (fun x E' env' c' => wpT t x env' c' fun env2 => wpSs I bd c1.length E' X0 env2 c') E (xs.drop (i + 1)) (env'.map (Option.map f)) c'') σ' H' →
        i + 1 ≤ xs.length ∧ ∃ Wi ci envi, Wi.H = H' ∧ FrS c1.length W1 Wi ∧ Ok G Wi ci ∧ EnvOk G Wi σ' envi ∧
      forL I.flds keep c1.length gd (fun x E' env' c' => wpT t x env' c' fun env2 => wpSs I bd c1.length E' X0 env2 c') E (xs.drop (i + 1)) envi ci := fun σ' H' ⟨W3, c3, env3, e3, x3, ok3, eo3, k3⟩ => by
      obtain ⟨W4, f, c4, e4, x4, ok4, d4, k4⟩ := cl_ok o.glob.flds ok3 (by rw [← ok3.len]; exact x3.le) k3
      exact ⟨hlt, W4, c4, _, e4.trans e3, (f2.trans x3).trans x4, ok4, eo3.map d4, k4⟩
    refine ⟨c1.length, W2, ci, env2, _, X0, rfl, by rw [← ok2.len]; exact f2.le, ok2, eo2, k2, ⟨again, fun v H' p => oo2.rt v H' (p.mono n1), fun σ' H' ⟨W3, c3, env3, e3, x3, ok3, eo3, k3⟩ => ?_, again, fun cls dd σ' H' p => oo2.ex cls dd σ' H' (p.mono n1)⟩⟩
    have k3' : cl I.flds keep c1.length c3 fun f c'' => E.nx (env3.map (Option.map f)) c'' := k3
    obtain ⟨W4, f, c4, e4, x4, ok4, d4, k4⟩ := cl_ok o.glob.flds ok3 (by rw [← ok3.len]; exact x3.le) k3'
    exact oo2.nx _ _ ⟨W4, c4, _, e4.trans e3, (x3.trans x4).mono n1, ok4, eo3.map d4, k4⟩
  · have hie : i = xs.length := by omega
    refine .inl ⟨its i (by omega), ?_⟩
    rw [hie, List.drop_length] at kc
    exact oo1.nx _ _ ⟨Wi, ci, envi, rfl, xi.mono n1, oki, eoi, kc.2⟩
theorem ss_while (o : XOk G I lv Wx sc N fnB X) (po : PassesOwn (model X.prog X.w) X.A X.env X.xe) {t : Expr} {T : FC} {body : List Stmt} {bd : FSs} (ht : PT X t (liftB G Wx (wpC I T))) (hb : PSs X body (liftS G Wx np (wpSs I bd))) :
    PS X (.While t body [] pos) (liftS G Wx np (wpS I (.while_ T bd))) := by
  refine PS.imp (ps_while po ht hb) fun D σ H ⟨W, c, env, E, X0, eH, hn, ok, eo, h, oo⟩ => ?_
  obtain ⟨J, n, j0, turn⟩ := h
  refine ⟨fun m σ H => ∃ Wi ci envi, Wi.H = H ∧ FrS np W Wi ∧ Ok G Wi ci ∧ EnvOk G Wi σ envi ∧ J m envi ci, ⟨n, W, c, env, eH, FrS.refl (by rw [ok.len]; exact hn), ok, eo, j0⟩, ?_⟩
  rintro m σi Hi ⟨Wi, ci, envi, rfl, xi, oki, eoi, ji⟩
  have li : np ≤ ci.length := by rw [← oki.len]; exact xi.le
  have ooi := oo.up xi
  refine ⟨Wi, ci, envi, _, _, rfl, oki, eoi, turn m envi ci li ji, fun bb H3 ⟨W3, c3, e3, x3, ok3, k3⟩ => ?_, ooi.exE li oki eoi⟩
  obtain ⟨n3, f3⟩ := le_ext li oki x3 ok3
  have eo3 := eoi.mono oki x3
  have oo3 := ooi.up f3
  cases bb with
  | true =>
    rw [if_pos rfl]
    have again : ∀ σ' H', SPost G np W3 (fun env' c' => ∃ m', m' < m ∧ J m' env' c') σ' H' → ∃ m', m' < m ∧ ∃ Wi ci envi, Wi.H = H' ∧ FrS np W Wi ∧ Ok G Wi ci ∧ EnvOk G Wi σ' envi ∧ J m' envi ci := fun σ' H' ⟨W4, c4, env4, e4, x4, ok4, eo4, m', hm, k4⟩ =>
      ⟨m', hm, W4, c4, env4, e4, (xi.trans f3).trans x4, ok4, eo4, k4⟩
    refine ⟨fun σ' H' => ∃ m', m' < m ∧ ∃ Wi ci envi, Wi.H = H' ∧ FrS np W Wi ∧ Ok G Wi ci ∧ EnvOk G Wi σ' envi ∧ J m' envi ci, fun σ' H' h => h, ?_⟩
    exact ⟨W3, c3, envi, _, X0, e3, n3, ok3, eo3, k3, ⟨again, oo3.rt, oo3.nx, again, oo3.ex⟩⟩
  | false =>
    rw [if_neg Bool.false_ne_true]
    exact oo3.nx _ _ ⟨W3, c3, envi, e3, FrS.refl f3.le, ok3, eo3, k3⟩

theorem ss_frz (o : XOk G I lv Wx sc N fnB X) {ss : List Stmt} {i : Nat} {fs : FSs} (h2 : PSs X ss (liftS G Wx np (wpSs I fs))) : PSs X ss (liftS G Wx np (wpSs I (.cons (.frz i) fs))) := by
  refine ss_ghost (fun W c σ env E X0 hn ok eo h => ?_) h2
  obtain ⟨n, hi, hp, h⟩ := onO_of h
  obtain ⟨W1, ρ, c1, e1, x1, ok1, d1, h1⟩ := frz1_ok (np := np) o.glob.flds ok hp h
  exact ⟨W1, c1, _, e1, x1, ok1, eo.map d1, h1⟩
theorem ss_cln (o : XOk G I lv Wx sc N fnB X) {ss : List Stmt} {i : Nat} {fs : FSs} (h2 : PSs X ss (liftS G Wx np (wpSs I fs))) : PSs X ss (liftS G Wx np (wpSs I (.cons (.cln i) fs))) := by
  refine ss_ghost (fun W c σ env E X0 hn ok eo h => ?_) h2
  obtain ⟨n, hi, ⟨hp, hlt⟩, h⟩ := onO_of h
  obtain ⟨W1, f, c1, e1, x1, ok1, l1, d1, h1⟩ := clean_ok (np := n + 1) o.glob.flds ok (by omega) h
  exact ⟨W1, c1, _, e1, x1.mono hp, ok1, eo.map d1, h1⟩
theorem ss_clnA (o : XOk G I lv Wx sc N fnB X) {ss : List Stmt} {fs : FSs} (h2 : PSs X ss (liftS G Wx np (wpSs I fs))) : PSs X ss (liftS G Wx np (wpSs I (.cons .clnA fs))) := by
  refine ss_ghost (fun W c σ env E X0 hn ok eo h => ?_) h2
  obtain ⟨W1, f, c1, e1, x1, ok1, l1, d1, h1⟩ := clean_ok (np := np) o.glob.flds ok (by have := ok.len; omega) h
  exact ⟨W1, c1, _, e1, x1, ok1, eo.map d1, h1⟩
theorem ss_forget {ss : List Stmt} {i : Nat} {fs : FSs} (h2 : PSs X ss (liftS G Wx np (wpSs I fs))) : PSs X ss (liftS G Wx np (wpSs I (.cons (.forget i) fs))) := by
  refine ss_ghost (fun W c σ env E X0 hn ok eo h => ?_) h2
  exact ⟨W, c, _, rfl, FrS.refl (by rw [ok.len]; exact hn), ok, eo.wipe i, h⟩
theorem ss_dead {s : Stmt} : PS X s (liftS G Wx np (wpS I .dead)) := PS.imp ps_never fun D σ H ⟨W, c, env, E, X0, eH, hn, ok, eo, h, oo⟩ => h
theorem se_dead : PE X e (lift G Wx (wpE I .dead)) := ⟨fun pins s σ H Q I ⟨W, c, env, Q0, X0, eH, ok, eo, h, _⟩ => h.elim⟩
end
end F

namespace F
open PySem PySem.Spec L2 PyProof.Rows
theorem bounds_from {a n : Nat} (h : a ≤ n) : sliceBounds (some (a : Int)) none none n = ((a : Int), (n : Int), 1) := by
  simp only [sliceBounds, Option.getD_none]
  have h1 : ¬ ((a : Int) < 0) := by omega
  simp only [h1, if_false, show (1 : Int) > 0 by decide, if_true]
  congr 1
  omega
section
variable {prog : Program} {w : World} {A : Around} {E : Value → Shared → Prop} {s : Shared}
/-- list.__setitem__ with a slice from a place on, and another list -/
theorem setItem_from {l b sl : Addr} {items new : Array Value} {n n2 : Nat} {vl vu : Value} {a : Nat} {Q : Unit → Shared → Prop}
    (e : s.heap.get? l = some { cls := .type "list", data := .seq items n }) (e2 : s.heap.get? b = some { cls := .type "list", data := .seq new n2 }) (hne : l ≠ b)
    (hs : s.heap.IsSliceOf sl vl vu .none) (pl : IsPart vl (some (a : Int))) (pu : IsPart vu none) (ha : a ≤ items.size)
    (hsz : items.size + new.size ≤ sizeLine) (h : Q () { s with heap := s.heap.update l (Obj.mapSeq fun xs => xs.extract 0 a ++ new ++ xs.extract items.size xs.size) }) :
    wpAny (model prog w) A (setItem (.ref l) (.ref sl) (.ref b)) Q E s := by
  have hl : s.heap.IsList l items := PySem.IsL.isList e
  have hb : s.heap.IsList b new := PySem.IsL.isList e2
  obtain ⟨os, hos, hcs, hds⟩ := id hs
  have hTs : s.TypeIs (.ref sl) "slice" := ⟨os, hos, hcs⟩
  have hstep : ¬ ((rawPart none == rawInt 0) = true) := Bool.false_ne_true
  have hsame : Builtin.List.listSameRef (.ref l) (.ref b) = false := by
    unfold Builtin.List.listSameRef
    exact beq_eq_false_iff_ne.mpr hne
  have hmax : (max (a : Int) (items.size : Int)).toNat = items.size := by omega
  have hz' : ((fun xs : Array Value => xs.extract 0 a ++ new ++ xs.extract items.size xs.size) items).size ≤ sizeLine + 1 := by
    simp only [Array.size_append, Array.size_extract]
    omega
  unfold setItem
  try with_reducible refine wpAny_holding ?_
  first | refine wpAny_bind (wpAny_pure ?_) | skip
  refine wpAny_bind (wpAny_sequenceKey hl.typeIs (by decide) ?_)
  refine wpAny_bind (wpAny_callSpecial?_slot (name := Str.ofString "__setitem__") hl.typeIs slot_list_setitem
    (wpAny_call_entry slot_list_setitem hl.typeIs entry_list_setitem ?_ (args_list_setitem _ _ _)))
  show wpAny _ _ (Builtin.List.listSubscript? (.ref sl) >>= _) _ _ s
  refine wpAny_bind ?_
  unfold Builtin.List.listSubscript?
  refine wpAny_bind (wpAny_specialOf hTs slice_no_index ?_)
  simp only [Option.isNone_none, if_true]
  refine wpAny_pure ?_
  show wpAny _ _ (typeOf (.ref sl) >>= _) _ _ s
  refine wpAny_bind (wpAny_typeOf hTs ?_)
  first
    | rw [if_neg (by decide)]
    | refine PySem.W.KFB.if_not (by decide) ?_
  rw [listSliceParts_eq]
  refine wpAny_bind (wpAny_bind (wpAny_field hos hds (x := .none) rfl (wpAny_bind (wpAny_listPart .none ?_))))
  rw [if_neg hstep]
  refine wpAny_bind (wpAny_field hos hds (x := vl) rfl (wpAny_bind (wpAny_listPart pl ?_)))
  refine wpAny_bind (wpAny_field hos hds (x := vu) rfl (wpAny_bind (wpAny_listPart pu (wpAny_pure ?_))))
  first
    | simp only [hsame, Bool.false_eq_true, if_false]
    | refine PySem.W.KFB.if_not hsame ?_
    | (dsimp only
       rw [if_neg (by rw [hsame]; exact Bool.false_ne_true)])
  refine wpAny_bind (m := Builtin.List.listAllItems (.ref b) "must assign iterable to extended slice") ?_
  unfold Builtin.List.listAllItems
  refine wpAny_bind (wpAny_typeOf hb.typeIs ?_)
  first
    | refine PySem.W.KFB.if_so (by decide) ?_
    | rw [if_pos (by decide)]
    | simp only [beq_self_eq_true, Bool.true_or, if_true]
  unfold Builtin.List.listItems
  refine wpAny_bind (wpAny_seqItems e2 rfl (wpAny_pure ?_))
  refine wpAny_bind (wpAny_bind (wpAny_seqItems e rfl (wpAny_pure ?_)))
  refine wpAny_bind (wpAny_of_eq ((sliceIndices_raw (some (a : Int)) none none items.size (by simp)).trans (congrArg (pure : Int × Int × Int → Sem (Int × Int × Int)) (bounds_from ha))) ?_)
  show wpAny _ _ (if ((1 : Int) == 1) = true then _ else _) _ _ s
  rw [if_pos (by decide)]
  refine wpAny_bind (wpAny_rule ?_)
  first
    | simp only [notLongL hsz, Bool.false_eq_true, if_false]
    | refine PySem.W.KFB.if_not (notLongL hsz) ?_
  first | refine wpAny_bind (wpAny_pure ?_) | skip
  show wpAny _ _ (updateSeq l (fun xs => xs.extract 0 ((a : Int)).toNat ++ new ++ xs.extract (max (a : Int) (items.size : Int)).toNat xs.size) >>= _) _ _ s
  rw [hmax, Int.toNat_natCast]
  refine wpAny_bind (wpAny_updateSeq (hz := Nat.le_trans (Nat.le_add_right _ _) hsz) (_hz' := hz') e rfl ?_)
  refine wpAny_bind (wpAny_letGo ?_)
  first
    | exact wpAny_bind (wpAny_pure (wpAny_pure ⟨.none, rfl, wpAny_pure h⟩))
    | exact wpAny_pure ⟨.none, rfl, wpAny_pure h⟩
end
section
variable {X : Cx}
theorem set_from {pins : List (Addr × Obj)} {s : Shared} {σ : L2.St} {H : Hp} {l b sl : Addr} {xs : List V} {a : Int} {vl vu : Value} {Q : Unit → Shared → Prop} (I : Inv X pins σ H s)
    (hH : H l = some (.lst xs)) (hB : H b = some (.lst [])) (hne : l ≠ b) (hs : s.heap.IsSliceOf sl vl vu .none) (ra : RelV (.int a) vl) (pu : IsPart vu none) (h0 : 0 ≤ a) (ha : a ≤ xs.length)
    (hz : xs.length ≤ sizeLine) (h : ∀ s', Inv X pins σ (upd H l (.lst (xs.take a.toNat))) s' → Q () s') :
    wpAny (model X.prog X.w) X.A (setItem (.ref l) (.ref sl) (.ref b)) Q X.xe s := by
  obtain ⟨ta, rfl⟩ := ra
  obtain ⟨z, its, n, r, hl, e⟩ := I.lstM hH
  obtain ⟨z2, its2, n2, r2, hl2, e2⟩ := I.lstM hB
  cases r2
  obtain ⟨a', rfl⟩ := Int.eq_ofNat_of_zero_le h0
  simp only [Int.toNat_natCast] at h
  refine setItem_from (a := a') e e2 hne hs (.int _ _) pu (by rw [List.size_toArray]; omega) (by rw [List.size_toArray, List.size_toArray]; simp; omega) (h _ ?_)
  refine I.lset (its' := its.take a') (t' := s.toks) hH e ?_ (r.take _) ?_
  · have := splice_eq its [] a' its.length
    rw [List.append_nil, List.drop_length, List.append_nil] at this
    rw [← this, List.size_toArray]
  · rw [List.length_take]
    omega
/-- o[i:] = [], by values -/
def rFrom : V → V → V → Hp → (Hp → Prop) → Prop := fun o i v H Q => ∃ a b xs j, o = .ref a ∧ i = .int j ∧ v = .ref b ∧ H a = some (.lst xs) ∧ H b = some (.lst []) ∧ a ≠ b ∧ 0 ≤ j ∧ j ≤ xs.length ∧ xs.length ≤ sizeLine ∧ Q (upd H a (.lst (xs.take j.toNat)))
theorem pg_from {oe ie : Expr} {p2 p : Pos} {to ti : TE} (ho : PE X oe to) (hi : PE X ie ti) : PG X (.Subscript oe (.Slice (some ie) none none p2) p) (gSub to ti rFrom) := by
  refine ⟨fun pins s σ H v u Q I r h => ?_⟩
  have ha : assign (.Subscript oe (.Slice (some ie) none none p2) p) X.env u = (do
      let ov ← holding [u] (eval oe X.env)
      let iv ← holding [u, ov] (eval (.Slice (some ie) none none p2) X.env)
      standAt p
      holding [u, ov, iv] (setItem ov iv u)
      release [iv, u, ov] []) := by rfl
  rw [ha]
  refine wpAny_bind (wpAny_holding (thn (ho.run pins s σ H _ I h) fun ov s1 ⟨x, H1, I1, r1, q1⟩ => ?_))
  refine wpAny_bind (wpAny_holding (wpAny_Slice ?_))
  rw [evalPart_some]
  refine thn (hi.run pins s1 σ H1 _ I1 q1) fun iv s2 ⟨y, H2, I2, r2, q2⟩ => ?_
  rw [evalPart_none]
  refine wpAny_pure (wpAny_pure ?_)
  have I3 : Inv X pins σ H2 { s2 with heap := s2.heap.push { cls := .type "slice", data := .fields #[iv, .none, .none] } } := I2.kept (t' := s2.toks) fun b ob q => Heap.get?_push_of_some _ q
  obtain ⟨a, b, xs, j, rfl, rfl, rfl, hA, hB, hne, h0, hj, hz, q⟩ := q2
  cases r1
  cases r
  refine wpAny_bind (wpAny_standAt (wpAny_bind (wpAny_holding (set_from I3 hA hB hne (Heap.IsSliceOf.new ..) r2 .none h0 hj hz fun s4 I4 => ?_))))
  exact wpAny_release ⟨σ, _, I4, q⟩
end
section
variable {G : GI} {I : CI} {lv : Nat} {Wx : WX} {sc : Scope} {N : List Str} {fnB : Str → Bool} {X : Cx} {pos : Pos} {np : Nat}
theorem truD_ok {W : Wd} {c : Cs} (ok : Ok G W c) {o i v : D} {ov iv vv : V} (d1 : Den G W ov o) (d2 : Den G W iv i) (d3 : Den G W vv v) {K : Cs → Prop} (h : truD c K o i v) {Q : Hp → Prop}
    (q : ∀ W' c', Ext W W' → Ok G W' c' → K c' → Q W'.H) : rFrom ov iv vv W.H Q := by
  unfold truD at h
  split at h
  · rename_i n j
    obtain ⟨xs, hx, ⟨h0, h1, h2⟩, h⟩ := onO_of h
    cases d1 with
    | @cell a n ha =>
      cases d2
      cases d3 with
      | @lst b vs ds hf hd =>
        cases hd
        have hb : b ∉ W.as := ok.fz b hf.1
        obtain ⟨y, hy, ca⟩ := ok.at ha
        unfold getL at hx
        dsimp only at hx
        rw [hy] at hx
        cases y with
        | lst ys =>
          cases hx
          obtain ⟨vs, q1, q2⟩ := ca
          have hne : a ≠ b := fun e => hb (by rw [← e]; exact List.mem_of_getElem? ha)
          refine ⟨a, b, vs, j, rfl, rfl, rfl, q1, hf.2, hne, h0, by rw [q2.length]; exact h1, by rw [q2.length, line_eq]; exact h2, ?_⟩
          have z := ok.setE ha (.lst (vs.take j.toNat))
          have hc : CellAt G (W.setAt a (.lst (vs.take j.toNat))) a (.lst (xs.take j.toNat)) := ⟨vs.take j.toNat, upd_same, DenL.take _ (q2.mono ok z)⟩
          obtain ⟨xe, ok2⟩ := ok.setC ha (.lst (vs.take j.toNat)) hc
          exact q _ _ xe ok2 h
        | _ => cases hx
  · exact h.elim
theorem ss_trunc (o : XOk G I lv Wx sc N fnB X) {ve oe ie : Expr} {p p2 : Pos} {fv fo fi : FE} (hv : PE X ve (lift G Wx (wpE I fv))) (ho : PE X oe (lift G Wx (wpE I fo))) (hi : PE X ie (lift G Wx (wpE I fi))) :
    PS X (.Assign [.Subscript oe (.Slice (some ie) none none p2) p] ve pos) (liftS G Wx np (wpS I (.trunc fo fi fv))) := by
  refine PS.imp (ps_asg hv (pg_from ho hi) (show swapsWith ve (some (.Subscript oe (.Slice (some ie) none none p2) p)) pos.line X.env = pure false from swapsS_of) stores_sub (each_one rfl)) fun D σ H ⟨W, c, env, E, X0, eH, hn, ok, eo, h, o⟩ => ?_
  refine ⟨W, c, env, _, _, eH, ok, eo, h, fun v H' ⟨W1, c1, d, e1, x1, ok1, dn, k⟩ => ?_, o.exE hn ok eo⟩
  obtain ⟨n1, f1⟩ := le_ext hn ok x1 ok1
  refine ⟨W1, c1, env, _, _, e1, ok1, eo.mono ok x1, k, fun v2 H2 ⟨W2, c2, d2, e2, x2, ok2, dn2, k2⟩ => ?_, (o.up f1).exE n1 ok1 (eo.mono ok x1)⟩
  obtain ⟨n2, f2⟩ := le_ext n1 ok1 x2 ok2
  have eo2 := (eo.mono ok x1).mono ok1 x2
  refine ⟨W2, c2, env, _, _, e2, ok2, eo2, k2, fun v3 H3 ⟨W3, c3, d3, e3, x3, ok3, dn3, k3⟩ => ?_, ((o.up f1).up f2).exE n2 ok2 eo2⟩
  obtain ⟨n3, f3⟩ := le_ext n2 ok2 x3 ok3
  subst e3
  refine truD_ok ok3 (dn2.mono ok2 x3) dn3 ((dn.mono ok1 x2).mono ok2 x3) k3 fun W4 c4 x4 ok4 k4 => ?_
  exact (((o.up f1).up f2).up f3).nx _ _ ⟨W4, c4, env, rfl, (le_ext n3 ok3 x4 ok4).2, ok4, (eo2.mono ok2 x3).mono ok3 x4, k4⟩
end
end F

namespace F
open PySem PySem.Spec L2
abbrev XcW : WX := fun _ _ _ _ => False

section
variable {G : GI} {I : CI} {lv : Nat} {Wx : WX} {sc : Scope} {N : List Str} {fnB : Str → Bool} {X : Cx} {e : Expr} {p pos pos' : Pos} {np : Nat}
theorem ss_rais (o : XOk G I lv Wx sc N fnB X) {k g0 : Nat} {x f : Str} {es : FA} (hlv : 1 ≤ lv) (hk : k < I.ne) (hx : I.ename k = x) (hg : glB sc x = true) (hf : I.exf k = [f]) (hn : noStar e = true) (ha : PA X [e] (liftLN G Wx 1 (wpA I es))) :
    PS X (.Raise (some (.Call (.Name x p) [e] [] pos)) none pos') (liftS G Wx np (wpS I (.rais k g0 es))) := by
  obtain ⟨g, hd, _⟩ := gl_of o hg
  have E := o.glob.ex k hk
  have hfG : G.exf k = [f] := by rw [← E.ef]; exact hf
  obtain ⟨T, fI, fd, ps, h1, h2, hb, F1⟩ := E.ini f hfG
  rw [← o.hK] at T h1 h2 hb
  rw [← o.hK, ← o.hmg] at F1
  have hm : X.mg x = some (.ref (G.exc k)) := by rw [o.hmg, ← hx]; exact E.nm
  have mk := pmk_oex (X := X) (p := p) (pos := pos) T h1 h2 F1 (o.room.mono (show 1 + 1 ≤ lv + 1 by omega)) hb .nil (fun _ _ _ _ _ _ _ z => z.elim) g hm ha hd (star_cons hn) (star_any rfl)
  refine PS.imp (ps_raise o.calm o.tk mk) fun D σ H ⟨W, c, env, E', X0, eH, hn', ok, eo, h, oo⟩ => ?_
  refine ⟨W, c, env, _, _, eH, ok, eo, h, fun vs H' ⟨W1, c1, ds, e1, x1, ok1, dn, hlen, q⟩ => ?_, oo.exE hn' ok eo⟩
  subst e1
  obtain ⟨v, rfl⟩ : ∃ v, vs = [v] := by
    have := dn.length
    match vs, this, hlen with
    | [v], _, _ => exact ⟨v, rfl⟩
    | [], h1, h2 => rw [h2] at h1; cases h1
    | _ :: _ :: _, h1, h2 => rw [h2] at h1; simp at h1
  refine ⟨show 1 ≤ 1000 by omega, fun a ha => ⟨a, v, rfl, upd_same, fun dx hdx hne => ⟨rfl, dx, [(f, v)], upd_same, by rw [upd_ne hne, upd_same], ?_, ?_⟩⟩⟩
  · rwa [upd_ne hne] at hdx
  · rw [upd_ne hne] at hdx
    obtain ⟨x2, ok2⟩ := ok1.allocF hdx (.xd [(f, v)])
    have eq : upd (del (upd (upd (upd W1.H a (exo a (G.exc k) none)) dx (exd dx [(f, v)])) a (exo a (G.exc k) (some dx))) a) dx (.xd [(f, v)]) = (W1.fzAt dx (.xd [(f, v)])).H := by
      funext b
      show _ = upd W1.H dx _ b
      by_cases hb : b = dx
      · rw [hb, upd_same, upd_same]
      · rw [upd_ne hb, upd_ne hb]
        by_cases hba : b = a
        · rw [hba, del_same, ha]
        · rw [del_ne hba, upd_ne hba, upd_ne hb, upd_ne hba]
    rw [eq]
    exact oo.ex _ _ _ _ ⟨_, c1, env, k, ds, rfl, (x1.trans x2).frS (by rw [ok.len]; exact hn'), ok2, eo.mono ok (x1.trans x2), rfl, .inr ⟨dx, [(f, v)], rfl, .inl rfl, upd_same, hfG.symm, dn.mono ok1 x2⟩, q⟩
/-- X(), X without an own __init__ -/
theorem pmk_own0 {Y : Cx} {x : Str} {C : Addr} {p pos : Pos} (q : PySem.W.excIn Y.K C bmVE "ValueError.__new__" = true) (gC : Y.mg x = some (.ref C)) (kC : PySem.W.keepIn Y.K (.ref C) = true) (r : Raises Y (.ref C)) (hg : Gl Y x)
    (hdb : (x == ("__debug__" : Str)) = false) : PMk Y (.Call (.Name x p) [] [] pos) (fun _ H Q => Q (.ref C) none H) := by
  intro pins s σ H Q I h
  refine wpAny_Call_Name_kw (ld_glob I hg gC ?_ hdb)
  refine PySem.W.callWith_K0 I.kIn kC ?_
  obtain ⟨bm, N, nm, qn, bs, hdct, sn, sub, ab, col, dd, k0, k1, k2, k3, k5, mN, hC, hN, hni, T⟩ := exc_obj I.kIn q
  obtain ⟨hp1, g1, d1, tk1, os1⟩ := s
  refine wpAny_call_exc_subT PySem.F.excBase_ValueError T hC hN hni (fun h' e hm => ?_) (by show 0 ≤ sizeLine; omega)
  exact mk_of I hm r h (I.hok.gone hm.new)
theorem ss_rais0 (o : XOk G I lv Wx sc N fnB X) {k g0 : Nat} {x : Str} (hk : k < I.ne) (hx : I.ename k = x) (hg : glB sc x = true) (hf : I.exf k = []) :
    PS X (.Raise (some (.Call (.Name x p) [] [] pos)) none pos') (liftS G Wx np (wpS I (.rais k g0 .nil))) := by
  obtain ⟨g, hd, _⟩ := gl_of o hg
  have E := o.glob.ex k hk
  have hfG : G.exf k = [] := by rw [← E.ef]; exact hf
  obtain ⟨q1, q2⟩ := E.e0 hfG
  have ty := E.cl.ty
  have kp := E.cl.kp
  rw [← o.hK] at q1 q2 ty kp
  have hm : X.mg x = some (.ref (G.exc k)) := by rw [o.hmg, ← hx]; exact E.nm
  refine PS.imp (ps_raise o.calm o.tk (pmk_own0 q1 hm kp (raises_own q2 ty) g hd)) fun D σ H ⟨W, c, env, E', X0, eH, hn', ok, eo, h, oo⟩ => ?_
  exact oo.ex _ _ _ _ ⟨W, c, env, k, [], eH, FrS.refl (by rw [ok.len]; exact hn'), ok, eo, rfl, .inl ⟨rfl, hfG, rfl⟩, h⟩
end

section
variable {G : GI} {I : CI} {lv : Nat} {Wx : WX} {sc : Scope} {N : List Str} {fnB : Str → Bool} {X : Cx} {a : Addr} {oe : Obj} {pn : List (Addr × Obj)} {cls : Value} {d : Option Addr} {k i : Nat} {fs : List D} {ev : En} {c0 : Cs}
structure HPre (G : GI) (k : Nat) (fs : List D) (a : Addr) (d : Option Addr) (i : Nat) (ev : En) (c0 : Cs) (W : Wd) (c : Cs) (σ : L2.St) : Prop where
  ok : Ok G W c
  ex : ExcD G W d k fs
  at_ : σ[i]? = some (some (.ref a))
  eo : EnvOk G W σ ev
  hc : c = c0
theorem HPre.up {W W' : Wd} {c : Cs} {σ : L2.St} (h : HPre G k fs a d i ev c0 W c σ) (x : Ext W W') (ok : Ok G W' c) : HPre G k fs a d i ev c0 W' c σ := ⟨ok, h.ex.mono h.ok x, h.at_, h.eo.mono h.ok x, h.hc⟩
def hE (G : GI) (k : Nat) (fs : List D) (a : Addr) (d : Option Addr) (i : Nat) (ev : En) (c0 : Cs) (r : D) : TE := fun σ H Q => ∃ W c, W.H = H ∧ HPre G k fs a d i ev c0 W c σ ∧ ∀ v W', Ext W W' → Ok G W' c → Den G W' v r → Q v W'.H
def hL (G : GI) (k : Nat) (fs : List D) (a : Addr) (d : Option Addr) (i : Nat) (ev : En) (c0 : Cs) (rs : List D) : TA := fun σ H Q => ∃ W c, W.H = H ∧ HPre G k fs a d i ev c0 W c σ ∧ ∀ vs W', Ext W W' → Ok G W' c → DenL G W' vs rs → Q vs W'.H
def hT (G : GI) (k : Nat) (fs : List D) (a : Addr) (d : Option Addr) (i : Nat) (ev : En) (c0 : Cs) (b : Bool) : TT := fun σ H Q => ∃ W c, W.H = H ∧ HPre G k fs a d i ev c0 W c σ ∧ ∀ W', Ext W W' → Ok G W' c → Q b W'.H
def hS (G : GI) (k : Nat) (fs : List D) (a : Addr) (d : Option Addr) (i : Nat) (ev : En) (c0 : Cs) (r : Option D) : TS := fun D σ H => ∃ W c, W.H = H ∧ HPre G k fs a d i ev c0 W c σ ∧ ∀ W', Ext W W' → Ok G W' c → match r with
  | some y => ∀ v, Den G W' v y → D.rt v W'.H
  | none => D.nx σ W'.H
theorem env_none {W : Wd} {σ : L2.St} : EnvOk G W σ (List.replicate σ.length none) := ⟨List.length_replicate, fun j y h => by
  rw [List.getElem?_replicate] at h
  split at h <;> cases h⟩
/-- by a term of F that needs no names -/
theorem hE_of {Y : Cx} {e : Expr} {A : FA1} {r : D} (h : PE Y e (lift G XcW A)) (ha : ∀ env c (Q : QE), Q r c → A env c Q fun _ _ _ => False) : PE Y e (hE G k fs a d i ev c0 r) := by
  refine PE.imp h fun σ H Q ⟨W, c, e, pre, q⟩ => ?_
  refine ⟨W, c, _, fun y c' => y = r ∧ c' = c, fun _ _ _ => False, e, pre.ok, env_none, ha _ _ _ ⟨rfl, rfl⟩, fun v H' ⟨W', c', y, e', x, ok', dn, hy, hc⟩ => ?_, fun _ _ _ ⟨_, _, _, _, _, _, _, _, _, z⟩ => z⟩
  subst hy hc e'
  exact q v W' x ok' dn
theorem hL_nil {Y : Cx} : PA Y [] (hL G k fs a d i ev c0 []) := by
  refine PA.imp pa_nil fun σ H Q ⟨W, c, e, pre, q⟩ => ?_
  subst e
  exact q [] W (Ext.refl W) pre.ok .nil
theorem hL_cons {Y : Cx} {e : Expr} {es : List Expr} {r : D} {rs : List D} (hn : noStar e = true) (h : PE Y e (hE G k fs a d i ev c0 r)) (t : PA Y es (hL G k fs a d i ev c0 rs)) : PA Y (e :: es) (hL G k fs a d i ev c0 (r :: rs)) := by
  refine PA.imp (pa_consN hn h t) fun σ H Q ⟨W, c, e, pre, q⟩ => ?_
  refine ⟨W, c, e, pre, fun v W1 x1 ok1 dn => ⟨W1, c, rfl, pre.up x1 ok1, fun vs W2 x2 ok2 dn2 => ?_⟩⟩
  exact q _ W2 (x1.trans x2) ok2 (.cons (dn.mono ok1 x2) dn2)
theorem hE_tup {Y : Cx} {es : List Expr} {rs : List D} {j : Nat} {pos : Pos} (hl : rs.length ≤ 1000) (t : PA Y es (hL G k fs a d i ev c0 rs)) : PE Y (.Tuple es j pos) (hE G k fs a d i ev c0 (.tup rs)) := by
  refine PE.imp (pe_tup t) fun σ H Q ⟨W, c, e, pre, q⟩ => ?_
  refine ⟨W, c, e, pre, fun vs W1 x1 ok1 dn => ?_⟩
  refine ⟨by rw [line_eq, dn.length]; omega, newT_ok (Q0 := fun y c' => y = .tup rs ∧ c' = c) ok1 dn ⟨rfl, rfl⟩ fun v H' ⟨W2, c2, y, e2, x2, ok2, dn2, hy, hc⟩ => ?_⟩
  subst hy hc e2
  exact q v W2 (x1.trans x2) ok2 dn2
theorem hT_of {Y : Cx} {e : Expr} {b : Bool} (hp : plainT e = true) (h : PE Y e (hE G k fs a d i ev c0 (.bl b))) : PT Y e (hT G k fs a d i ev c0 b) := by
  refine PT.imp (pt_val h (isTrue_of hp)) fun σ H Q ⟨W, c, e, pre, q⟩ => ?_
  refine ⟨W, c, e, pre, fun v W1 x1 ok1 dn => ?_⟩
  cases dn
  exact ⟨b, rfl, q W1 x1 ok1⟩
theorem hT_not {Y : Cx} {e : Expr} {b : Bool} {pos : Pos} (h : PT Y e (hT G k fs a d i ev c0 b)) : PT Y (.UnaryOp .Not e pos) (hT G k fs a d i ev c0 (!b)) :=
  PT.imp (pt_not h) fun σ H Q ⟨W, c, e, pre, q⟩ => ⟨W, c, e, pre, fun W1 x1 ok1 => q W1 x1 ok1⟩
end
end F

namespace F
open PySem PySem.Spec L2 PyProof.Rows
abbrev HTs := Addr → Value → Option Addr → TS
def endsN (D : Ends) : Option Nat → Ends
  | none => D
  | some i => { nx := fun σ' H' => D.nx (σ'.set i none) H', rt := D.rt, bk := fun σ' H' => D.bk (σ'.set i none) H', ct := fun σ' H' => D.ct (σ'.set i none) H' }
def slotN (σ : L2.St) (a : Addr) : Option Nat → L2.St
  | none => σ
  | some i => σ.set i (some (.ref a))
/-- what the clauses wish of an exception of the body -/
def wMix (K : PySem.W.Frag) (Wout : WX) (D : Ends) : List (Value × Option Nat × HTs) → WX
  | [] => Wout
  | (c, nm, ts) :: r => fun cls d σ H => ∃ b, PySem.W.exmOne K cls c = some b ∧ (b = true → ∀ a, H a = none → ts a cls d (endsN D nm) (slotN σ a nm) H) ∧ (b = false → wMix K Wout D r cls d σ H)
inductive HdsX (X : Cx) : List ExceptHandler → List (Value × Option Nat × HTs) → Prop
  | nil : HdsX X [] []
  | un {x : Str} {c : Value} {ts : HTs} {b₀ : Stmt} {suite : List Stmt} {np pos' : Pos} {hds : List ExceptHandler} {l : List (Value × Option Nat × HTs)} (hc : Names X x c)
      (hsu : ∀ (a : Addr) (oe : Obj) (cls : Value) (d : Option Addr) (pn : List (Addr × Obj)), Zc cls d oe → (∃ vs, oe.data = .fields vs) → PSs (X.suite a ((a, oe) :: pn)) (b₀ :: suite) (ts a cls d)) (r : HdsX X hds l) :
      HdsX X (.ExceptHandler (some (.Name x np)) none (b₀ :: suite) pos' :: hds) ((c, none, ts) :: l)
  | as_ {x n : Str} {i : Nat} {c : Value} {ts : HTs} {b₀ : Stmt} {suite : List Stmt} {np pos' : Pos} {hds : List ExceptHandler} {l : List (Value × Option Nat × HTs)} (hc : Names X x c) (hi : X.N[i]? = some n) (hln : X.env.kindOf n = some .local)
      (hsu : ∀ (a : Addr) (oe : Obj) (cls : Value) (d : Option Addr) (pn : List (Addr × Obj)), Zc cls d oe → (∃ vs, oe.data = .fields vs) → PSs (X.suite a ((a, oe) :: pn)) (b₀ :: suite) (ts a cls d)) (r : HdsX X hds l) :
      HdsX X (.ExceptHandler (some (.Name x np)) (some n) (b₀ :: suite) pos' :: hds) ((c, some i, ts) :: l)
section
variable {X : Cx} {body : List Stmt} {h₀ : ExceptHandler} {hds : List ExceptHandler} {l : List (Value × Option Nat × HTs)} {pos : Pos} {tb : WX → TS} {Wout : WX}
theorem ps_try_mix (hs : X.stack = X.env :: X.outer) (hf : X.env.frame = some X.env.locals) (hN : X.N.Nodup) (tk : Takes X Wout)
    (hb : ∀ (W : WX) (pn : List (Addr × Obj)) (xe : Value → Shared → Prop), Takes (X.tr pn xe) W → PassesOwn (model X.prog X.w) X.A X.env xe → PSs (X.tr pn xe) body (tb W))
    (hh : HdsX X (h₀ :: hds) l) : PS X (.Try body (h₀ :: hds) [] [] pos) (fun D σ H => tb (wMix X.K Wout D l) D σ H) := by
  refine ⟨fun pins s σ H D I h => ?_⟩
  have ok := I.ok
  have hfr : X.A.frames = some (X.env :: X.outer) := by rw [ok.frames, hs]
  refine wpAny_Try_except ?_
  refine wpAny_mono ((hb (wMix X.K Wout D l) (X.pn ++ pins) (fun e s₁ => wpAny (model X.prog X.w) X.A (noteFrame e X.env) (fun _ s₂ => wpAny (model X.prog X.w) X.A (setFlight e none) (fun _ s₃ =>
    wpAny (model X.prog X.w) X.A (handleBy e X.env (h₀ :: hds)) (SP X pins D) X.xe s₃) X.xe s₂) X.xe s₁) (fun u s' xx => ?_) PassesOwn.looking).run [] s σ H D (I.toTry _) h) (fun f s1 hsp => ?_) (fun e s1 he => he)
  · obtain ⟨a, B, sI, pins', σ', H', cls, d, rfl, J', nb, up, sky, na, os, ag, w⟩ := xx
    have J : Inv X pins σ' H' sI := J'.ofTry ok
    have sky' : Sky B (X.env :: X.outer) a (Zc cls d) X.env.locals s'.heap := by rw [← hs]; exact sky
    show wpAny (model X.prog X.w) X.A (noteFrame (.ref a) X.env) _ _ _
    refine Sky.land Zc.steady hfr hf sky' fun h3 fl3 up3 => ?_
    have J3 : Inv X pins σ' H' { s' with heap := h3 } := J.landed nb fl3.1 (up.trans up3) os ag
    obtain ⟨oe3, vs3, he3, hz3, hd3⟩ := fl3.there
    have notFr : ∀ {h : Heap} {o : Obj} {vs : Array Value}, h.FunFrames B (X.env :: X.outer) → h.get? a = some o → o.data = .fields vs → a ∉ frs (X.env :: X.outer) := fun {h o vs} ff e dd hm => by
      obtain ⟨_, o', e', hnf⟩ := ff.mem hm
      rw [e] at e'; cases e'
      exact hnf _ dd
    have nfr := notFr fl3.2.2.1 he3 hd3
    have nL : a ≠ X.env.locals := fun z => nfr (List.mem_filterMap.mpr ⟨X.env, List.mem_cons_self, by rw [hf, z]⟩)
    have nF : a ∉ X.fs := fun hm => by
      obtain ⟨e, he, q⟩ := List.mem_filterMap.mp hm
      exact nfr (List.mem_filterMap.mpr ⟨e, List.mem_cons_of_mem _ he, q⟩)
    have S3 := J3.suite he3 hd3 na nL nF
    have go : ∀ {hds' : List ExceptHandler} {l' : List (Value × Option Nat × HTs)}, HdsX X hds' l' → wMix X.K Wout D l' cls d σ' H' →
        wpAny (model X.prog X.w) X.A (handleBy (.ref a) X.env hds') (SP X pins D) X.xe { s' with heap := h3 } := by
      intro hds' l' hk
      induction hk with
      | nil =>
        intro w
        refine wpAny_handleBy_nil ?_
        obtain ⟨k1, k2, k3, oe, vs, T, oT, ts', he, hz, hd, h1, hr⟩ := id fl3
        unfold PySem.passOn
        refine wpAny_bind (wpAny_field he hd h1 ?_)
        rw [if_neg (show ¬ ((Value.ref T == Value.none) = true) from by simp)]
        have fin : wpAny (model X.prog X.w) X.A (setFlight (.ref a) X.env.frame) (fun _ s4 => wpAny (model X.prog X.w) X.A (throw (.ref a) : Sem Flow) (SP X pins D) X.xe s4) X.xe { s' with heap := h3 } := by
          rw [hf]
          refine HandSPX.setFlight_upZ fl3 fun h4 hh4 up4 => wpAny_throw (tk _ _ ?_)
          exact ⟨a, B, sI, pins, σ', H', cls, d, rfl, J, nb, (up.trans up3).trans up4, .inr (.inr (by rw [hs]; exact hh4)), na, os, ag, w⟩
        first
          | exact wpAny_bind (wpAny_pure (wpAny_bind fin))
          | exact wpAny_bind fin
      | @un x c ts b₀ suite np pos' hds2 l2 hc hsu r ih =>
        intro w
        obtain ⟨b, hb1, hyes, hno⟩ := w
        refine wpAny_handleBy_cons (codeAny_handlers_test ?_) (by intro q; cases q)
        have LT : PySem.W.Looks (model X.prog X.w) h3 (typeOf (.ref a)) cls := fun A Q E s k q => wpAny_typeOf_ref (k _ _ he3) (by rw [hz3.1]; exact q)
        have LM := PySem.W.exm_one (M := model X.prog X.w) (J3.kIn) LT hb1
        have test : ∀ {Q : Value → Shared → Prop} {E : Value → Shared → Prop}, Q c { s' with heap := h3 } → wpAny (model X.prog X.w) (X.A.mark (some (.ref a))) (eval (.Name x np) X.env) Q E { s' with heap := h3 } := fun {Q E} q => by
          obtain ⟨hg, hdbg, hm | ⟨hm, hv, hnn⟩⟩ := hc
          · exact ld_glob (X := X.suite a ((a, oe3) :: (X.pn ++ pins))) S3 hg hm q hdbg
          · exact ld_blt (X := X.suite a ((a, oe3) :: (X.pn ++ pins))) S3 hg hm hv q hnn hdbg
        refine test (LM.here ?_)
        cases b with
        | true =>
          refine codeAny_handlers_suite ?_
          refine HandSPX.lands_againZ fl3 fun h4 fl4 up4 => ?_
          have J4 : Inv X pins σ' H' { s' with heap := h4 } := J.landed nb fl4.1 ((up.trans up3).trans up4) os ag
          obtain ⟨oe4, vs4, he4, hz4, hd4⟩ := fl4.there
          have S4 := J4.suite he4 hd4 na nL nF
          refine wpAny_mono ((hsu a oe4 cls d (X.pn ++ pins) hz4 ⟨_, hd4⟩).run [] _ _ H' _ S4 (hyes rfl a na)) (fun f s6 hsp => ?_) (fun _ _ z => False.elim z)
          cases f with
          | next =>
            obtain ⟨σ6, H6, S6, q6⟩ := hsp
            exact ⟨_, _, S6.unsuite ok, q6⟩
          | brk =>
            obtain ⟨σ6, H6, S6, q6⟩ := hsp
            exact ⟨_, _, S6.unsuite ok, q6⟩
          | cont =>
            obtain ⟨σ6, H6, S6, q6⟩ := hsp
            exact ⟨_, _, S6.unsuite ok, q6⟩
          | ret u =>
            obtain ⟨v6, σ6, H6, S6, r6, q6⟩ := hsp
            exact ⟨_, _, _, S6.unsuite ok, r6, q6⟩
        | false =>
          show wpAny _ X.A (handleBy (.ref a) X.env hds2) _ _ _
          exact ih (hno rfl)
      | @as_ x n i c ts b₀ suite np pos' hds2 l2 hc hi hln hsu r ih =>
        intro w
        have hloc : Loc X.env.scope n := .inl hln
        obtain ⟨b, hb1, hyes, hno⟩ := w
        refine wpAny_handleBy_cons (codeAny_handlers_test ?_) (by intro q; cases q)
        have LT : PySem.W.Looks (model X.prog X.w) h3 (typeOf (.ref a)) cls := fun A Q E s k q => wpAny_typeOf_ref (k _ _ he3) (by rw [hz3.1]; exact q)
        have LM := PySem.W.exm_one (M := model X.prog X.w) (J3.kIn) LT hb1
        have test : ∀ {Q : Value → Shared → Prop} {E : Value → Shared → Prop}, Q c { s' with heap := h3 } → wpAny (model X.prog X.w) (X.A.mark (some (.ref a))) (eval (.Name x np) X.env) Q E { s' with heap := h3 } := fun {Q E} q => by
          obtain ⟨hg, hdbg, hm | ⟨hm, hv, hnn⟩⟩ := hc
          · exact ld_glob (X := X.suite a ((a, oe3) :: (X.pn ++ pins))) S3 hg hm q hdbg
          · exact ld_blt (X := X.suite a ((a, oe3) :: (X.pn ++ pins))) S3 hg hm hv q hnn hdbg
        refine test (LM.here ?_)
        cases b with
        | true =>
          refine codeAny_handlers_suite_as ?_
          refine HandSPX.lands_againZ fl3 fun h4 fl4 up4 => ?_
          have J4 : Inv X pins σ' H' { s' with heap := h4 } := J.landed nb fl4.1 ((up.trans up3).trans up4) os ag
          obtain ⟨oe4, vs4, he4, hz4, hd4⟩ := fl4.there
          have S4 := J4.suite he4 hd4 na nL nF
          refine store_ok (X := X.suite a ((a, oe4) :: (X.pn ++ pins))) (v := .ref a) S4 hN hi hloc rfl (fun s5 S5 => ?_) (.inr hln)
          refine wpAny_mono ((hsu a oe4 cls d (X.pn ++ pins) hz4 ⟨_, hd4⟩).run [] s5 _ H' _ S5 (hyes rfl a na)) (fun f s6 hsp => ?_) (fun _ _ z => False.elim z)
          have end_ : ∀ {σ6 : L2.St} {H6 : Hp} {Q : Shared → Prop}, Inv (X.suite a ((a, oe4) :: (X.pn ++ pins))) [] σ6 H6 s6 → (∀ s7, Inv X pins (σ6.set i none) H6 s7 → Q s7) →
              wpAny (model X.prog X.w) X.A (do bindName X.env n .none; unbindBehindTheSuite X.env n pos') (fun _ s7 => Q s7) X.xe s6 := fun {σ6 H6 Q} S6 hq => gone_ok (S6.unsuite ok) hN hi hln hq
          cases f with
          | next =>
            obtain ⟨σ6, H6, S6, q6⟩ := hsp
            exact end_ S6 fun s7 J7 => ⟨_, _, J7, q6⟩
          | brk =>
            obtain ⟨σ6, H6, S6, q6⟩ := hsp
            exact end_ S6 fun s7 J7 => ⟨_, _, J7, q6⟩
          | cont =>
            obtain ⟨σ6, H6, S6, q6⟩ := hsp
            exact end_ S6 fun s7 J7 => ⟨_, _, J7, q6⟩
          | ret u =>
            obtain ⟨v6, σ6, H6, S6, r6, q6⟩ := hsp
            exact end_ S6 fun s7 J7 => ⟨_, _, _, J7, r6, q6⟩
        | false =>
          show wpAny _ X.A (handleBy (.ref a) X.env hds2) _ _ _
          exact ih (hno rfl)
    exact go hh w
  · cases f with
    | next =>
      obtain ⟨σ', H', J', q⟩ := hsp
      exact wpAny_execs_nil ⟨σ', H', J'.ofTry ok, q⟩
    | brk =>
      obtain ⟨σ', H', J', q⟩ := hsp
      exact ⟨σ', H', J'.ofTry ok, q⟩
    | cont =>
      obtain ⟨σ', H', J', q⟩ := hsp
      exact ⟨σ', H', J'.ofTry ok, q⟩
    | ret u =>
      obtain ⟨v, σ', H', J', r, q⟩ := hsp
      exact ⟨v, σ', H', J'.ofTry ok, r, q⟩
end
end F

namespace F
open PySem PySem.Spec L2
section
variable {G : GI} {I : CI} {lv : Nat} {Wx : WX} {sc : Scope} {N : List Str} {fnB : Str → Bool} {X : Cx} {a C : Addr} {oe : Obj} {pn : List (Addr × Obj)} {d : Option Addr} {k i : Nat} {fs : List D} {ev : En} {c0 : Cs} {n x f : Str} {e : Expr} {p q pos : Pos}
theorem h_var (o : XOk G I lv Wx sc N fnB X) (hi : N[i]? = some n) (hl : visB sc n = true) (hdb : dbgB n = true) : PE (X.suite a ((a, oe) :: pn)) (.Name n p) (tVar i) := by
  unfold dbgB at hdb
  simp only [Bool.and_eq_true, Bool.not_eq_true'] at hdb
  exact pe_var (X := X.suite a ((a, oe) :: pn)) (by show X.N[i]? = _; rw [o.hN]; exact hi) (by show Vis X.env.scope n; rw [o.hsc]; exact vis_of hl) hdb.1.1 hdb.1.2
/-- e.f -/
theorem h_fld (o : XOk G I lv Wx sc N fnB X) {r : D} (hk : k < I.ne) (hz : Zc (.ref (G.exc k)) d oe) (hf : ∃ vs, oe.data = .fields vs) (hi : N[i]? = some n) (hl : visB sc n = true) (hdb : dbgB n = true) (hfl : I.exf k = [f]) (hr : fs[0]? = some r) :
    PE (X.suite a ((a, oe) :: pn)) (.Attribute (.Name n p) f pos) (hE G k fs a d i ev c0 r) := by
  have E := o.glob.ex k hk
  have hg : G.exf k = [f] := by rw [← E.ef]; exact hfl
  have hno := E.fl f (by rw [hg]; simp)
  have T := E.cl.xf
  rw [← o.hK] at hno T
  refine PE.imp (pe_xf T hno hz hf (h_var o hi hl hdb)) fun σ H Q ⟨W, c, eH, pre, q⟩ => ?_
  refine ⟨_, pre.at_, rfl, rfl, ?_⟩
  rcases pre.ex with ⟨_, e1, _⟩ | ⟨dd, gs, e1, fz, e3, e4, e5⟩
  · rw [hg] at e1; cases e1
  · rw [hg] at e4
    match gs, e4, e5, e3 with
    | [(g, v)], e4, e5, e3 =>
      have eg : g = f := by simpa using e4
      subst eg
      cases e5 with
      | cons dn t =>
        cases t
        have er : r = _ := (Option.some.inj hr).symm
        subst er
        exact ⟨dd, _, v, e1, by rw [← eH]; exact e3, by simp [List.lookup], by rw [← eH]; exact q v W (Ext.refl W) pre.ok dn⟩
def rIsX (K : PySem.W.Frag) (a C : Addr) (d : Option Addr) : List L2.V → Hp → VK → Prop := fun xs H Q => (d = none ∨ ∃ dd gs, d = some dd ∧ H dd = some (.xd gs)) ∧
  ((∃ c u b, xs = [.ref a, c] ∧ ClsV c u ∧ PySem.W.kitOne K (.ref C) u = some b ∧ Q (.bl b) H) ∨ ∃ tp cs us b, xs = [.ref a, .ref tp] ∧ H tp = some (.tup cs) ∧ Paired ClsV cs us ∧ PySem.W.kitAny K (.ref C) us = some b ∧ Q (.bl b) H)
theorem call_isX (E : ExCls X.K C) (hz : Zc (.ref C) d oe) (hf : ∃ vs, oe.data = .fields vs) : CallR (X.suite a ((a, oe) :: pn)) (.builtin "isinstance") (rIsX X.K a C d) := by
  intro pins s σ H xs us Q I r ⟨hd, h⟩
  have J : ∃ od, PySem.W.InstAt s.heap a oe C od := by
    obtain ⟨hget, _⟩ := I.pin (a, oe) (List.mem_append_left _ List.mem_cons_self)
    obtain ⟨vs, hv⟩ := hf
    have nc : PySem.W.notCls oe = true := by unfold PySem.W.notCls; rw [hv]
    rcases hd with e0 | ⟨dd, gs, e0, e⟩
    · exact ⟨none, hget, hz.1, nc, by rw [hz.2, e0]; trivial⟩
    · obtain ⟨mA, hns, _⟩ := (show ObjOk X.prog X.w H s.heap dd (.xd gs) from I.hok dd _ e)
      obtain ⟨od, ho, _⟩ := lookIn_ns hns
      exact ⟨some od, hget, hz.1, nc, by rw [hz.2, e0]; exact ho⟩
  obtain ⟨od, J⟩ := J
  rcases h with ⟨c, u, b, e, kc, ek, q⟩ | ⟨tp, cs, ws, b, e, hT, kk, ek, q⟩
  · subst e
    obtain ⟨u1, u2, rfl, r1, r2⟩ := vals2 r
    have e2 := kc.eq r2
    subst e2
    cases (show u1 = Value.ref a from r1)
    exact PySem.W.kia_one E.kitx I.kIn J ek (fun z => nomatch z) fun tk => ⟨.bl b, H, I.tok tk, rfl, q⟩
  · subst e
    obtain ⟨u1, u2, rfl, r1, r2⟩ := vals2 r
    cases (show u2 = Value.ref tp from r2)
    cases (show u1 = Value.ref a from r1)
    obtain ⟨_, its, rv, ot, h1, h2, m, h3⟩ := (show ObjOk X.prog X.w H s.heap tp (.tup cs) from I.hok tp _ hT)
    have e3 := ClsV.all kk rv
    subst e3
    obtain ⟨oc, od2, dt, sl⟩ := ot
    simp only at h2 h3
    subst h2 h3
    exact PySem.W.kia_tup E.kitx I.kIn J h1 ek (fun z => nomatch z) fun tk => ⟨.bl b, H, I.tok tk, rfl, q⟩
def xtVal (G : GI) : Option Nat → Value
  | none => .type "ValueError"
  | some j => .ref (G.exc j)
def xtV (G : GI) : Option Nat → L2.V
  | none => .ty "ValueError"
  | some j => .ref (G.exc j)
theorem xt_cls {t : Option Nat} : ClsV (xtV G t) (xtVal G t) := by
  cases t with
  | none => exact .ty _
  | some j => exact .own _
def xtS (I : CI) (k : Nat) : Option Nat → Bool
  | none => true
  | some j => I.esub k j
def xtB (I : CI) (sc : Scope) : Option Nat → Expr → Bool
  | none, .Name y _ => y == ("ValueError" : Str) && glB sc y
  | some j, .Name y _ => decide (j < I.ne) && (decide (I.ename j = y) && glB sc y)
  | _, _ => false
theorem xt_pe (o : XOk G I lv Wx sc N fnB X) {t : Option Nat} (h : xtB I sc t e = true) : noStar e = true ∧ PE (X.suite a ((a, oe) :: pn)) e (tC (xtV G t)) := by
  unfold xtB at h
  split at h
  · rename_i y p
    simp only [Bool.and_eq_true, beq_iff_eq] at h
    obtain ⟨rfl, h2⟩ := h
    obtain ⟨g, hd, hn⟩ := gl_of o h2
    exact ⟨rfl, pe_bltn (X := X.suite a ((a, oe) :: pn)) g (by show X.mg _ = _; rw [o.hmg]; exact o.glob.bl _ (by decide +kernel)) (by decide +kernel) rfl hn hd⟩
  · rename_i j y p
    simp only [Bool.and_eq_true, decide_eq_true_eq] at h
    obtain ⟨h1, h2, h3⟩ := h
    obtain ⟨g, hd, hn⟩ := gl_of o h3
    have hm := (o.glob.ex j h1).nm
    rw [h2] at hm
    exact ⟨rfl, pe_glob (X := X.suite a ((a, oe) :: pn)) g (by show X.mg _ = _; rw [o.hmg]; exact hm) rfl hd⟩
  · cases h
theorem xtB_lt {j : Nat} (h : xtB I sc (some j) e = true) : j < I.ne := by
  cases e <;> first | (simp only [xtB, Bool.and_eq_true, decide_eq_true_eq] at h; exact h.1) | (simp [xtB] at h; done)
theorem xt_kit (o : GOk G I lv P w base) (hk : k < I.ne) {t : Option Nat} (h : xtB I sc t e = true) : PySem.W.kitOne G.K (.ref (G.exc k)) (xtVal G t) = some (xtS I k t) := by
  have E := o.ex k hk
  cases t with
  | none => exact E.kv
  | some j => exact E.kk j (xtB_lt h)
theorem hdd_of {W : Wd} {c : Cs} {σ : L2.St} (pre : HPre G k fs a d i ev c0 W c σ) : d = none ∨ ∃ dd gs, d = some dd ∧ W.H dd = some (.xd gs) := by
  rcases pre.ex with ⟨e, _⟩ | ⟨dd, gs, e1, _, e3, _⟩
  · exact .inl e
  · exact .inr ⟨dd, gs, e1, e3⟩
theorem h_isi1 (o : XOk G I lv Wx sc N fnB X) {t : Option Nat} (hk : k < I.ne) (hz : Zc (.ref (G.exc k)) d oe) (hf : ∃ vs, oe.data = .fields vs) (hi : N[i]? = some n) (hl : visB sc n = true) (hdb : dbgB n = true) (hg : glB sc "isinstance" = true) (ht : xtB I sc t e = true) :
    PE (X.suite a ((a, oe) :: pn)) (.Call (.Name "isinstance" p) [.Name n q, e] [] pos) (hE G k fs a d i ev c0 (.bl (xtS I k t))) := by
  obtain ⟨g, hd, hnn⟩ := gl_of o hg
  obtain ⟨hes, hpe⟩ := xt_pe (a := a) (oe := oe) (pn := pn) o ht
  have E := (o.glob.ex k hk).cl
  rw [← o.hK] at E
  refine PE.imp (pe_callBN (X := X.suite a ((a, oe) :: pn)) (call_isX E hz hf) g (by show X.mg _ = _; rw [o.hmg]; exact o.glob.bl _ (by decide +kernel)) (by decide +kernel) (pa_consN rfl (h_var o hi hl hdb) (pa_consN hes hpe pa_nil)) hnn hd (by rw [List.all_cons, List.all_cons, hes]; rfl)) fun σ H Q ⟨W, c, eH, pre, q⟩ => ?_
  subst eH
  refine ⟨_, pre.at_, hdd_of pre, .inl ⟨xtV G t, xtVal G t, xtS I k t, rfl, xt_cls, ?_, q (.bl _) W (Ext.refl W) pre.ok .bl⟩⟩
  rw [o.hK]; exact xt_kit o.glob hk ht
def xtBs (I : CI) (sc : Scope) : List (Option Nat) → List Expr → Bool
  | [], [] => true
  | t :: ts, e :: es => xtB I sc t e && xtBs I sc ts es
  | _, _ => false
theorem xts_pa (o : XOk G I lv Wx sc N fnB X) : ∀ {ts : List (Option Nat)} {es : List Expr}, xtBs I sc ts es = true → PA (X.suite a ((a, oe) :: pn)) es (fun _ H Q => Q (ts.map (xtV G)) H)
  | [], [], _ => pa_nil
  | t :: ts, e :: es, h => by
    unfold xtBs at h
    rw [Bool.and_eq_true] at h
    obtain ⟨h1, h2⟩ := xt_pe (a := a) (oe := oe) (pn := pn) o h.1
    exact pa_consN h1 h2 (xts_pa o h.2)
  | [], _ :: _, h => by cases h
  | _ :: _, [], h => by cases h
theorem xts_kit (o : GOk G I lv P w base) (hk : k < I.ne) : ∀ {ts : List (Option Nat)} {es : List Expr}, xtBs I sc ts es = true → PySem.W.kitAny G.K (.ref (G.exc k)) (ts.map (xtVal G)) = some (ts.any (xtS I k))
  | [], [], _ => kitAny_nil
  | t :: ts, e :: es, h => by
    unfold xtBs at h
    rw [Bool.and_eq_true] at h
    rw [List.map_cons, List.any_cons]
    refine kitAny_cons (xt_kit o hk h.1) (fun z => ?_) fun z => ?_
    · rw [z, Bool.false_or]; exact xts_kit o hk h.2
    · rw [z, Bool.true_or]
  | [], _ :: _, h => by cases h
  | _ :: _, [], h => by cases h
theorem h_isiT (o : XOk G I lv Wx sc N fnB X) {ts : List (Option Nat)} {es : List Expr} {j : Nat} {q2 : Pos} (hk : k < I.ne) (hz : Zc (.ref (G.exc k)) d oe) (hf : ∃ vs, oe.data = .fields vs) (hi : N[i]? = some n) (hl : visB sc n = true) (hdb : dbgB n = true) (hg : glB sc "isinstance" = true) (ht : xtBs I sc ts es = true) (hlen : ts.length ≤ 1000) :
    PE (X.suite a ((a, oe) :: pn)) (.Call (.Name "isinstance" p) [.Name n q, .Tuple es j q2] [] pos) (hE G k fs a d i ev c0 (.bl (ts.any (xtS I k)))) := by
  obtain ⟨g, hd, hnn⟩ := gl_of o hg
  have hpa := xts_pa (a := a) (oe := oe) (pn := pn) o ht
  have E := (o.glob.ex k hk).cl
  rw [← o.hK] at E
  refine PE.imp (pe_callBN (X := X.suite a ((a, oe) :: pn)) (call_isX E hz hf) g (by show X.mg _ = _; rw [o.hmg]; exact o.glob.bl _ (by decide +kernel)) (by decide +kernel) (pa_consN rfl (h_var o hi hl hdb) (pa_consN rfl (pe_tup hpa) pa_nil)) hnn hd rfl) fun σ H Q ⟨W, c, eH, pre, q⟩ => ?_
  subst eH
  refine ⟨_, pre.at_, by rw [List.length_map, line_eq]; omega, fun tp htp => ?_⟩
  obtain ⟨x2, ok2⟩ := pre.ok.alloc htp (.tup (ts.map (xtV G)))
  have hp : ∀ us : List (Option Nat), Paired ClsV (us.map (xtV G)) (us.map (xtVal G)) := fun us => by
    induction us with
    | nil => exact .nil
    | cons u us ih => exact .cons xt_cls ih
  refine ⟨?_, .inr ⟨tp, ts.map (xtV G), ts.map (xtVal G), ts.any (xtS I k), rfl, upd_same, hp ts, ?_, q (.bl _) _ x2 ok2 .bl⟩⟩
  · rcases hdd_of pre with z | ⟨dd, gs, z1, z2⟩
    · exact .inl z
    · exact .inr ⟨dd, gs, z1, by rw [upd_ne (ne_of_none z2 htp)]; exact z2⟩
  · rw [o.hK]; exact xts_kit o.glob hk ht
/-- e.f == j -/
theorem h_eqI {Y : Cx} {b : Expr} {z j : Int} (hK : Y.K = G.K) (hu : Y.A.units + 64 < cLine) (hb : notSet b = true) (h1 : PE Y e (hE G k fs a d i ev c0 (.int z))) (h2 : PE Y b (hE G k fs a d i ev c0 (.int j))) : PT Y (.Compare e [.Eq] [b] pos) (hT G k fs a d i ev c0 (decide (z = j))) := by
  refine PT.imp (pt_cmpR (opr_eq (m := false) hK hu) h1 h2 (behind_of hb)) fun σ H Q ⟨W, c, eH, pre, q⟩ => ?_
  refine ⟨W, c, eH, pre, fun v W1 x1 ok1 dn => ⟨W1, c, rfl, pre.up x1 ok1, fun v2 W2 x2 ok2 dn2 => ?_⟩⟩
  refine ⟨W2, c, _, _, fun y c' => y = .bl (decide (z = j)) ∧ c' = c, rfl, ok2, dn.mono ok1 x2, dn2, ⟨rfl, rfl⟩, fun v3 H3 ⟨W3, c3, y, e3, x3, ok3, dn3, hy, hc⟩ => ?_⟩
  subst hy hc e3
  cases dn3
  exact ⟨_, rfl, q W3 ((x1.trans x2).trans x3) ok3⟩
end
end F

namespace F
open PySem PySem.Spec L2
section
variable {P : Program} {w : World} {K : PySem.W.Frag} {mg : Str → Option Value} {base : Heap} {N ps : List Str} {qual x : Str} {params : Arguments} {body : List Stmt} {scope : Scope} {f ea : Addr} {fd : FuncData} {A : Around} {outer : List Env} {s : Shared} {H : Hp} {us : List Value} {vs : List L2.V} {Q : VK}
/-- the context of a leaf's body, in a suite -/
abbrev cxL (P : Program) (w : World) (K : PySem.W.Frag) (mg : Str → Option Value) (base : Heap) (N : List Str) (qual : Str) (scope : Scope) (f : Addr) (cd : Value) (A : Around) (ea : Addr) (outer : List Env) (s : Shared) (H : Hp) : Cx :=
  { cxOf CX0 P w K mg base N qual scope f cd (A.mark (some (.ref ea))) outer s H (fun _ _ _ => False) with calm := false }
theorem leaf_run (F : FunD K x qual params body scope [] [] f fd) (S : FnScope N ps scope) (hd : A.handled = none) (hdp : A.depth < recursionLimit)
    (e0 : Env0 P w K mg base (A.mark (some (.ref ea))) outer s H) (hb : BindsTo s fd ⟨us, []⟩ (ps.zip us)) (r : Vals vs us) (hl : vs.length = ps.length)
    (hbody : ∀ cdv, ∃ t, PSs (cxL P w K mg base N qual scope f cdv A ea outer s H) body t ∧ t { nx := fun _ H' => Q .non H', rt := Q } (L2.start N vs) H) :
    codeAny (model P w) (A.mark (some (.ref ea))) (.call (.ref f) ⟨us, []⟩) (CR CX0 outer P w H s Q fun _ _ _ => False) s := by
  obtain ⟨oc, od, dV, kV, doc, pm, an, cdv, ct, osl, rfl, lk, hcd, _, _⟩ := F.ex
  have hKs : K.In s.heap := e0.mod.kin.keeps fun b o z => (e0.bs b o z).1
  have hNo : s.heap.NoLimit := e0.mod.nolimit.keeps fun b o z => (e0.bs b o z).1
  have e1 : Env0 P w K mg base A outer s H := ⟨e0.frames, e0.mod, e0.bs, e0.bsz, e0.funs, e0.frf, e0.hok, e0.bare⟩
  refine codeAny_call_function hdp (hKs _ _ lk) rfl S.co S.gen rfl (PySem.W.codeRec_of hKs hcd) (hb _ _ _ _ ?_)
  refine wpAny_newFunctionEnv_cells S.kind (fun ⟨m, z⟩ hy => ?_) fun env he s1 xc => ?_
  · rcases S.par m (List.of_mem_zip hy).1 with h1 | h1
    · exact .inl h1
    · exact .inr ⟨h1, PySem.W.cellsFrom_some _ _ _ (.inl h1)⟩
  subst he
  refine ⟨hNo.keeps xc.toInCall.keep, codeAny_func ?_⟩
  obtain ⟨t, ht, hq⟩ := hbody cdv
  have J : Inv (cxOf CX0 P w K mg base N qual scope f cdv A outer s H (fun _ _ _ => False)) [] (L2.start N vs) H s1 := inv_start S hd e1 hl r xc
  have ok := J.ok
  have J2 : Inv (cxL P w K mg base N qual scope f cdv A ea outer s H) [] (L2.start N vs) H s1 :=
    ⟨⟨ok.mod, ok.kind, ok.glob, ok.blt, ok.above, ok.inj, ok.has, ok.cab, fun z => absurd (show false = true from z) Bool.false_ne_true, ok.frames, ok.stk, ok.exf, ok.bs, ok.bsz, ok.noex, ok.exfs, ok.funs, ok.frf⟩,
      J.os, J.bare, J.base, J.loc, J.cell, J.free, J.freeC, J.pin, J.hok, J.len⟩
  refine wpAny_mono (ht.run [] s1 (L2.start N vs) H _ J2 hq) (fun fl s2 hs => ?_) fun e s2 hs => hs
  have fin : ∀ {σ' : L2.St} {H' : Hp} {v : L2.V} {u : Value}, Inv (cxL P w K mg base N qual scope f cdv A ea outer s H) [] σ' H' s2 → RelV v u → Q v H' → CE outer P w H s Q u s2 :=
    fun {σ' H' v u} J3 rv q => ⟨v, H', J3.os, J3.bare, J3.base, J3.hok, rv, q⟩
  match fl, hs with
  | .ret u, ⟨v, σ', H', J3, rv, q⟩ => exact fin J3 rv q
  | .next, ⟨σ', H', J3, q⟩ => exact fin (v := L2.V.non) (u := Value.none) J3 rfl q
  | .brk, ⟨_, _, _, q⟩ => exact q.elim
  | .cont, ⟨_, _, _, q⟩ => exact q.elim
end
theorem whB_ok {y : Str} {ss : List Stmt} (h : whB y ss = true) : ∃ p1 p2 p3 p4 p5 p6 p7 p8 p9 p10 p11, ss = [.Return (some (.BoolOp .And [.Call (.Name "isinstance" p1) [.Name y p2, .Name "int" p3] [] p4, .UnaryOp .Not (.Call (.Name "isinstance" p5) [.Name y p6, .Name "bool" p7] [] p8) p9] p10)) p11] := by
  unfold whB at h
  split at h
  · simp only [Bool.and_eq_true, beq_iff_eq] at h
    obtain ⟨rfl, rfl, rfl, rfl, rfl, rfl⟩ := h
    exact ⟨_, _, _, _, _, _, _, _, _, _, _, rfl⟩
  · cases h
section
variable {G : GI} {I : CI} {lv : Nat} {Wx : WX} {sc : Scope} {N : List Str} {fnB : Str → Bool} {X : Cx} {a : Addr} {oe : Obj} {pn : List (Addr × Obj)} {d : Option Addr} {k i : Nat} {fs : List D} {ev : En} {c0 : Cs} {x : Str} {e : Expr} {p pos : Pos}
theorem wh_body {Y : Cx} {y : Str} {K1 : PySem.W.Frag} {p1 p2 p3 p4 p5 p6 p7 p8 p9 p10 p11 : Pos} (hN : Y.N[0]? = some y) (hv : Vis Y.env.scope y) (hy1 : (y == ("__debug__" : Str)) = false) (hy2 : (y == ("__classdict__" : Str)) = false)
    (hgl : ∀ z ∈ (["isinstance", "int", "bool"] : List Str), Gl Y z) (hmg : ∀ z ∈ (["isinstance", "int", "bool"] : List Str), Y.mg z = none) :
    ∃ t, PSs Y [.Return (some (.BoolOp .And [.Call (.Name "isinstance" p1) [.Name y p2, .Name "int" p3] [] p4, .UnaryOp .Not (.Call (.Name "isinstance" p5) [.Name y p6, .Name "bool" p7] [] p8) p9] p10)) p11] t ∧
      ∀ (D : Ends) (σ : L2.St) (H : Hp) (z : Int), σ[0]? = some (some (.int z)) → D.rt (.bl true) H → t D σ H := by
  have v0 : ∀ {p : Pos}, PE Y (.Name y p) (tVar 0) := fun {p} => pe_var hN hv hy1 hy2
  have b1 : ∀ {p : Pos}, PE Y (.Name "int" p) (tC (.ty "int")) := fun {p} => pe_bltn (hgl _ (by simp)) (hmg _ (by simp)) (by decide +kernel) rfl
  have b2 : ∀ {p : Pos}, PE Y (.Name "bool" p) (tC (.ty "bool")) := fun {p} => pe_bltn (hgl _ (by simp)) (hmg _ (by simp)) (by decide +kernel) rfl
  have c1 := pe_callBN (p := p1) (pos := p4) call_isi2 (hgl "isinstance" (by simp)) (hmg _ (by simp)) (by decide +kernel) (pa_consN rfl (v0 (p := p2)) (pa_consN rfl (b1 (p := p3)) pa_nil)) (by decide) (by decide) rfl
  have c2 := pe_callBN (p := p5) (pos := p8) call_isi2 (hgl "isinstance" (by simp)) (hmg _ (by simp)) (by decide +kernel) (pa_consN rfl (v0 (p := p6)) (pa_consN rfl (b2 (p := p7)) pa_nil)) (by decide) (by decide) rfl
  refine ⟨_, pss_cons (ps_ret (pe_and c1 (pe_one (pe_not c2)))) pss_nil, fun D σ H z h0 hq => ?_⟩
  refine ⟨.int z, h0, .int z, .ty "int", .type "int", .type "int", true, rfl, .ty _, .old (.base (.int z)), kit_ty (by decide), true, rfl, ?_⟩
  rw [if_pos rfl]
  exact ⟨.int z, h0, .int z, .ty "bool", .type "int", .type "bool", false, rfl, .ty _, .old (.base (.int z)), kit_ty (by decide), false, rfl, hq⟩
/-- own(e.f) -/
theorem h_wh (o : XOk G I lv Wx sc N fnB X) {z : Int} (hw : WhOk G x) (hg : glB sc x = true) (hn : noStar e = true) (ha : PE (X.suite a ((a, oe) :: pn)) e (hE G k fs a d i ev c0 (.int z))) :
    PE (X.suite a ((a, oe) :: pn)) (.Call (.Name x p) [e] [] pos) (hE G k fs a d i ev c0 (.bl true)) := by
  obtain ⟨fa, fd, y, qual, st, hm, F, S, hb, hB, hgl, hv, hy1, hy2⟩ := hw.ex
  obtain ⟨g, hd, _⟩ := gl_of o hg
  rw [← o.hK] at F hb
  rw [← o.hmg] at hm
  obtain ⟨p1, p2, p3, p4, p5, p6, p7, p8, p9, p10, p11, eB⟩ := whB_ok hB
  rw [eB] at F
  refine ⟨fun pins s σ H Q J ⟨W, c, eH, pre, q⟩ => ?_⟩
  subst eH
  refine wpAny_Call_Name_kw (ld_glob (X := X.suite a ((a, oe) :: pn)) J g hm ?_ hd)
  have pa := pa_consN hn ha pa_nil
  refine PySem.W.callWith_K (h₀ := X.base) J.ok.mod.kin F.kp (thn (pa.run pos pins s σ W.H (fun vs H1 => vs = [.int z] ∧ Q (.bl true) H1) J ⟨W, c, rfl, pre, fun v W1 x1 ok1 dn => ?_⟩) fun us s1 ⟨vs, H1, J1, r, ev, hq⟩ => ⟨J1.kIn, ?_⟩) (star_cons hn) (star_any rfl)
  · cases dn
    exact ⟨rfl, q _ W1 x1 ok1 .bl⟩
  subst ev
  have hus : (us ++ []).length = [y].length := by rw [List.append_nil, ← r.length]; rfl
  have bd := hb s1 us J1.kIn hus
  rw [List.append_nil] at bd
  refine wpAny_call (codeAny_mono (leaf_run (Q := Q) F S o.room.hd o.room.depth J1.env0 bd r rfl fun cdv => ?_) fun rr s2 hr => ?_)
  · obtain ⟨t, ht, hh⟩ := wh_body (Y := cxL X.prog X.w X.K X.mg X.base [y] qual (defScope st) fa cdv X.A a X.stack s1 H1) (K1 := X.K) (p1 := p1) (p2 := p2) (p3 := p3) (p4 := p4) (p5 := p5) (p6 := p6) (p7 := p7) (p8 := p8) (p9 := p9) (p10 := p10) (p11 := p11) rfl hv hy1 hy2 (fun z hz => hgl z hz) (fun z hz => by
      show X.mg z = none
      rw [o.hmg]
      have hs : ∀ z ∈ (["isinstance", "int", "bool"] : List Str), z ∈ blNames := by decide +kernel
      exact o.glob.bl z (hs z hz))
    exact ⟨t, ht, hh _ _ _ z rfl hq⟩
  · match rr, hr with
    | .ok (.ret u), hr => exact J1.after hr
    | .ok .next, hr => exact hr.elim
    | .ok .brk, hr => exact hr.elim
    | .ok .cont, hr => exact hr.elim
    | .error e, hr => exact hr.elim
end
end F

namespace F
open PySem PySem.Spec L2

def kFn (k : FK) (x : Str) : Bool := match k with
  | .fn y => x == y
  | _ => false
def kMth (k : FK) (x : Str) : Bool := match k with
  | .mth _ y => x == y
  | _ => false
def kIni (k : FK) (j : Nat) (x : Str) : Bool := match k with
  | .ini i y => i == j && x == y
  | _ => false
def FA.len : FA → Nat
  | .nil => 0
  | .cons _ es => FA.len es + 1
def bopK : Bool → BoolOp → Bool
  | true, .And => true
  | false, .Or => true
  | _, _ => false
def FE.isBin : FE → Bool
  | .bin _ _ _ _ => true
  | _ => false
def isCmp : Expr → Bool
  | .Compare _ _ _ _ => true
  | _ => false
section
variable (N : List Str)
mutual
def chT (sc : Scope) (fn : Str → Bool) : FT → Expr → Bool
  | .nm i, .Name x _ => decide (N[i]? = some x) && locB sc fn x
  | .tp ts, .Tuple es _ _ => es.all noStar && es.length == ftLen ts && chTs sc fn ts es
  | _, _ => false
def chTs (sc : Scope) (fn : Str → Bool) : FTs → List Expr → Bool
  | .nil, [] => true
  | .cons t ts, e :: es => noStar e && chT sc fn t e && chTs sc fn ts es
  | _, _ => false
end
variable (I : CI) (lv : Nat)
mutual
def chE (sc : Scope) (fn : Str → Bool) : FE → Expr → Bool
  | .dead, _ => true
  | .frz a, e => chE sc fn a e
  | .var i, .Name x _ => decide (N[i]? = some x) && visB sc x && dbgB x
  | .lit l, .Constant k _ _ => ltB l k
  | .con k, .Name x _ => decide (k < I.nc) && decide (I.cname k = x) && glB sc x
  | .un .neg a, .UnaryOp .USub e _ => chE sc fn a e
  | .un .not a, .UnaryOp .Not e _ => chE sc fn a e
  | .bin o _ a b, .BinOp l p r _ => bopB o p && chE sc fn a l && chE sc fn b r
  | .bin o _ a b, .Compare l [p] [r] _ => copB I.nk o p && notSet r && chE sc fn a l && chE sc fn b r
  | .bin o _ a b, .Subscript l r _ => isIdx o && notSlice r && chE sc fn a l && chE sc fn b r
  | .bop k es, .BoolOp p vs _ => bopK k p && chB sc fn es vs
  | .chain o q a b c, .Compare x [p, p'] [y, z] _ => copB I.nk o p && copB I.nk q p' && notSet z && chE sc fn a x && chE sc fn b y && chE sc fn c z
  | .ife t a b, .IfExp e x y _ => chC sc fn t e && chE sc fn a x && chE sc fn b y
  | .tup es, .Tuple vs _ _ => chA sc fn es vs
  | .lst _ es, .List vs _ => chA sc fn es vs
  | .slc _ a lo hi, .Subscript e (.Slice l u none _) _ => chE sc fn a e && chO sc fn lo l && chO sc fn hi u
  | .attr a k j, .Attribute e f _ => notCall e && decide (k < I.nk) && decide ((I.flds k)[j]? = some f) && decide ((I.flds k).Nodup) && chE sc fn a e
  | .call f es, .Call (.Name x _) vs [] _ => decide (2 * f + 2 ≤ lv) && kFn (I.kind f) x && glB sc x && decide (es.len = I.np f) && chA sc fn es vs
  | .meth f a es, .Call (.Attribute o x ap) vs [] pos => decide (2 * f + 2 ≤ lv) && kMth (I.kind f) x && notCall o && decide (vs.length < 30) && (ap.endLine == pos.line) && decide (es.len + 1 = I.np f) && chE sc fn a o && chA sc fn es vs
  | .make k f es, .Call (.Name x _) (v :: vs) [] _ => decide (2 * f + 2 ≤ lv) && kIni (I.kind f) k x && glB sc x && decide (es.len + 1 = I.np f) && chA sc fn es (v :: vs)
  | .bi o _ es, .Call (.Name x _) (v :: vs) [] _ => biOk o && (x == biName o) && glB sc x && chA sc fn es (v :: vs)
  | .mt o a es, .Call (.Attribute e x ap) vs [] pos => (x == mtName o) && notCall e && (ap.endLine == pos.line) && chE sc fn a e && (match vs with
    | [] => mt0Ok o && es.isNil
    | v :: vs => mtOk o && decide ((v :: vs).length < 30) && chA sc fn es (v :: vs))
  | .isi a ts tp, .Call (.Name x _) [e, T] [] _ => (x == ("isinstance" : Str)) && glB sc x && noStar e && chE sc fn a e && (match tp, ts, T with
    | false, [t], T => tyOkE I sc t T
    | true, ts, .Tuple es _ _ => tyOkEs I sc ts es && decide (ts.length ≤ 1000)
    | _, _, _ => false)
  | .comp _ _ t it cond el vs, .ListComp elt gs scope _ => (match gs with
    | [⟨tg, iter, ifs, 0⟩] => blkC N sc scope vs && (ftSl t).all (fun j => decide (j ∈ vs.map (·.2))) && notSet iter && chI sc fn it tg iter && chT N (relS scope sc) (cellB scope) t tg && chCs (relS scope sc) (cellB scope) cond ifs && chE (relS scope sc) (cellB scope) el elt
    | _ => false)
  | .rev _ a, .Subscript e s _ => (match s with
    | .Slice none none (some (.UnaryOp .USub (.Constant (.int i) _ _) _)) _ => i == 1 && chE sc fn a e
    | _ => false)
  | .dct0 _, .Dict [] [] _ => true
  | .dct1 _ _ k v, .Dict [some a] [b] _ => chE sc fn k a && chE sc fn v b
  | .dct2 _ k v k' v', .Dict [some a, some a'] [b, b'] _ => chE sc fn k a && chE sc fn v b && chE sc fn k' a' && chE sc fn v' b'
  | .dget a k x, .Call (.Attribute o m ap) vs [] pos => (m == ("get" : Str)) && notCall o && (ap.endLine == pos.line) && chE sc fn a o && (match x, vs with
    | .nil, [e] => noStar e && chE sc fn k e
    | .cons y .nil, [e, d] => noStar e && noStar d && chE sc fn k e && chE sc fn y d
    | _, _ => false)
  | .srtI _ a, .Call (.Name x _) [.Call (.Attribute o m ap) [] [] pos2] [] _ => (x == ("sorted" : Str)) && glB sc x && (m == ("items" : Str)) && notCall o && (ap.endLine == pos2.line) && chE sc fn a o
  | .minV a, .Call (.Name x _) [.Call (.Attribute o m ap) [] [] pos2] [] _ => (x == ("min" : Str)) && glB sc x && (m == ("values" : Str)) && notCall o && (ap.endLine == pos2.line) && chE sc fn a o
  | .orL a b, .BoolOp .Or [x, y] _ => chE sc fn a x && chE sc fn b y
  | .lenS a, .Call (.Name x _) [.Call (.Name y _) [v] [] _] [] _ => (x == ("len" : Str)) && glB sc x && (y == ("set" : Str)) && glB sc y && noStar v && chE sc fn a v
  | .dupd a b, .Call (.Attribute o m ap) [v] [] pos => (m == ("update" : Str)) && notCall o && (ap.endLine == pos.line) && noStar v && chE sc fn a o && chE sc fn b v
  | .srtS _ a, .Call (.Name x _) [.Call (.Name y _) [v] [] _] [] _ => (x == ("sorted" : Str)) && glB sc x && (y == ("set" : Str)) && glB sc y && noStar v && chE sc fn a v
  | .dctL _ a, .Call (.Name x _) [v] [] _ => (x == ("dict" : Str)) && glB sc x && noStar v && chE sc fn a v
  | .rngE _ a b, .Call (.Name x _) [.Call (.Name y _) [e, g] [] _] [] _ => (x == ("list" : Str)) && (y == ("range" : Str)) && glB sc x && glB sc y && noStar e && noStar g && chE sc fn a e && chE sc fn b g
  | .zipE _ a b d, .Call (.Name x _) [.Call (.Name y _) [e, g, j] [] _] [] _ => (x == ("list" : Str)) && (y == ("zip" : Str)) && glB sc x && glB sc y && noStar e && noStar g && noStar j && chE sc fn a e && chE sc fn b g && chE sc fn d j
  | _, _ => false
def chA (sc : Scope) (fn : Str → Bool) : FA → List Expr → Bool
  | .nil, [] => true
  | .cons e es, v :: vs => noStar v && chE sc fn e v && chA sc fn es vs
  | _, _ => false
def chB (sc : Scope) (fn : Str → Bool) : FA → List Expr → Bool
  | .cons e .nil, [v] => chE sc fn e v
  | .cons e (.cons f es), v :: w :: vs => chE sc fn e v && chB sc fn (.cons f es) (w :: vs)
  | _, _ => false
def chO (sc : Scope) (fn : Str → Bool) : FA → Option Expr → Bool
  | .nil, none => true
  | .cons e .nil, some v => chE sc fn e v
  | _, _ => false
def chC (sc : Scope) (fn : Str → Bool) : FC → Expr → Bool
  | .val f, e => (plainT e || (isCmp e && (match f with | .bin _ _ _ _ => true | .chain _ _ _ _ _ => true | _ => false))) && chE sc fn f e
  | .not c, .UnaryOp .Not e _ => chC sc fn c e
  | .bop k cs, .BoolOp p vs _ => bopK k p && chCb sc fn cs vs
  | _, _ => false
def chCb (sc : Scope) (fn : Str → Bool) : FCs → List Expr → Bool
  | .cons e .nil, [v] => chC sc fn e v
  | .cons e (.cons f es), v :: w :: vs => chC sc fn e v && chCb sc fn (.cons f es) (w :: vs)
  | _, _ => false
def chCs (sc : Scope) (fn : Str → Bool) : FCs → List Expr → Bool
  | .nil, [] => true
  | .cons c .nil, [e] => chC sc fn c e
  | _, _ => false
def chI (sc : Scope) (fn : Str → Bool) : FI → Expr → Expr → Bool
  | .ex f, _, e => chE sc fn f e
  | .rng1 a, _, .Call (.Name x _) [e] [] _ => (x == ("range" : Str)) && glB sc x && noStar e && chE sc fn a e
  | .rng2 a b, _, .Call (.Name x _) [e, g] [] _ => (x == ("range" : Str)) && glB sc x && noStar e && noStar g && chE sc fn a e && chE sc fn b g
  | .enum a, .Tuple _ _ _, .Call (.Name x _) [e] [] _ => (x == ("enumerate" : Str)) && glB sc x && noStar e && chE sc fn a e
  | .rng3 a b c, _, .Call (.Name x _) [e, g, d] [] _ => (x == ("range" : Str)) && glB sc x && noStar e && noStar g && noStar d && chE sc fn a e && chE sc fn b g && chE sc fn c d
  | .zip3 a b c, .Tuple _ _ _, .Call (.Name x _) [e, g, d] [] _ => (x == ("zip" : Str)) && glB sc x && noStar e && noStar g && noStar d && chE sc fn a e && chE sc fn b g && chE sc fn c d
  | .zip a b, .Tuple _ _ _, .Call (.Name x _) [e, g] [] _ => (x == ("zip" : Str)) && glB sc x && noStar e && noStar g && chE sc fn a e && chE sc fn b g
  | _, _, _ => false
end
end
end F

namespace F
open PySem PySem.Spec L2
section
variable (N : List Str) (I : CI) (sc : Scope) (n : Str)
def chHA : HA → Expr → Bool
  | .lit l, .Constant c _ _ => ltB l c
  | .neg i, .UnaryOp .USub (.Constant (.int j) _ _) _ => i == j
  | .fld f, .Attribute (.Name m _) g _ => m == n && g == f
  | _, _ => false
def chHAs : List HA → List Expr → Bool
  | [], [] => true
  | x :: xs, e :: es => noStar e && (chHA n x e && chHAs xs es)
  | _, _ => false
def chIs1 (ts : List (Option Nat)) (T : Expr) : Bool := match ts with
  | [t] => xtB I sc t T
  | _ => false
def chIsT (ts : List (Option Nat)) (T : Expr) : Bool := match T with
  | .Tuple es _ _ => decide (ts.length ≤ 1000) && xtBs I sc ts es
  | _ => false
def chIsi (ts : List (Option Nat)) (tp : Bool) (e : Expr) : Bool := match e with
  | .Call (.Name y _) [.Name m _, T] [] _ => y == ("isinstance" : Str) && (glB sc "isinstance" && (m == n && cond tp (chIsT I sc ts T) (chIs1 I sc ts T)))
  | _ => false
def chHV : HV → Expr → Bool
  | .at x, e => chHA n x e
  | .tup xs, .Tuple es _ _ => decide (xs.length ≤ 1000) && chHAs n xs es
  | .lsts xs, .List es _ => decide (xs.length ≤ 1000) && chHAs n xs es
  | .pic x y ts tp, .Subscript (.List [e1, e2] _) (.Call (.Name z _) [c] [] _) _ =>
    chHA n x e1 && (chHA n y e2 && (z == ("int" : Str) && (glB sc "int" && (chIsi I sc n ts tp c && (noStar c && (noStar e1 && noStar e2))))))
  | .pick x y p s q, .Subscript (.List [e1, e2] _) (.Call (.Name z _) [.Compare (.Name P _) [.NotEq] [.Subscript (.Name S _) (.Constant (.int j) _ _) _] _] [] _) _ =>
    chHA n x e1 && (chHA n y e2 && (z == ("int" : Str) && (glB sc "int" && (decide (N[p]? = some P) && (visB sc P && (dbgB P && (decide (N[s]? = some S) && (visB sc S && (dbgB S && (decide (j = (q : Int)) && (noStar e1 && noStar e2)))))))))))
  | _, _ => false
def chWh (g : Nat) (f : Str) (e : Expr) : Bool := match e with
  | .Call (.Name y _) [.Attribute (.Name m _) f' _] [] _ => I.whole g && (kFn (I.kind g) y && (glB sc y && (m == n && f' == f)))
  | _ => false
def chEq (f : Str) (i : Int) (e : Expr) : Bool := match e with
  | .Compare (.Attribute (.Name m _) f' _) [.Eq] [.Constant (.int j) _ _] _ => m == n && (f' == f && i == j)
  | _ => false
mutual
def chHC : HC → Expr → Bool
  | .isi ts tp, e => chIsi I sc n ts tp e
  | .wh g f, e => chWh I sc n g f e
  | .eqI f i, e => chEq n f i e
  | .not c, e => (match e with
    | .UnaryOp .Not x _ => chHC c x
    | _ => false)
  | .bop k cs, e => (match e with
    | .BoolOp p vs _ => bopK k p && chHCs cs vs
    | _ => false)
def chHCs : HCs → List Expr → Bool
  | .cons c .nil, [v] => chHC c v
  | .cons c (.cons c' cs), v :: w :: vs => chHC c v && chHCs (.cons c' cs) (w :: vs)
  | _, _ => false
end
def chRet (v : HV) (s : Stmt) : Bool := match s with
  | .Return (some e) _ => chHV N I sc n v e
  | _ => false
def chIfr (c : HC) (v : HV) (s : Stmt) : Bool := match s with
  | .If t [.Return (some e) _] [] _ => chHC I sc n c t && chHV N I sc n v e
  | _ => false
def chIsis : List (List (Option Nat) × Bool) → List Expr → Bool
  | [], [] => true
  | t :: ts, e :: es => noStar e && (chIsi I sc n t.1 t.2 e && chIsis ts es)
  | _, _ => false
def chTwo (i j : Nat) (as bs : List (List (Option Nat) × Bool)) (ss : List Stmt) : Bool := match ss with
  | [.Assign [.Name m _] (.List es1 _) _, .Return (some (.BinOp (.Name m' _) .Add (.List es2 _) _)) _] =>
    decide (N[j]? = some m) && (m' == m && (decide (sc.names.lookup m = some .local) && (dbgB m && (decide (j ≠ i) && (decide (as.length ≤ 500) && (decide (bs.length ≤ 500) && (chIsis I sc n as es1 && chIsis I sc n bs es2)))))))
  | _ => false
def chHs (i : Nat) : List HSt → List Stmt → Bool
  | [], ss => ss.isEmpty
  | .ret v :: r, ss => (match r, ss with
    | [], [s] => chRet N I sc n v s
    | _, _ => false)
  | .two j as bs :: r, ss => r.isEmpty && chTwo N I sc n i j as bs ss
  | .ifr c v :: r, ss => (match ss with
    | s :: ss => chIfr N I sc n c v s && chHs i r ss
    | _ => false)
/-- a value without e -/
def chKV : HV → Expr → Bool
  | .at (.lit l), .Constant c _ _ => ltB l c
  | .lsts [], .List [] _ => true
  | _, _ => false
def chK : List HSt → List Stmt → Bool
  | [.ret v], [.Return (some e) _] => chKV v e
  | _, _ => false
end
section
variable {G : GI} {I : CI} {lv : Nat} {Wx : WX} {sc : Scope} {N : List Str} {fnB : Str → Bool} {X : Cx} {a : Addr} {oe : Obj} {pn : List (Addr × Obj)} {d : Option Addr} {k i : Nat} {fs : List D} {ev : En} {c0 : Cs} {n : Str} {e : Expr}
/-- all that the suite's rules lean on -/
structure HX (G : GI) (I : CI) (lv : Nat) (Wx : WX) (sc : Scope) (N : List Str) (fnB : Str → Bool) (X : Cx) (oe : Obj) (d : Option Addr) (k i : Nat) (n : Str) : Prop where
  o : XOk G I lv Wx sc N fnB X
  hk : k < I.ne
  hz : Zc (.ref (G.exc k)) d oe
  hf : ∃ vs, oe.data = .fields vs
  hi : N[i]? = some n
  hl : visB sc n = true
  hd : dbgB n = true
theorem fld_some {f : Str} {r : D} (h : fldV I k fs f = some r) : I.exf k = [f] ∧ fs[0]? = some r := by
  unfold fldV at h
  split at h
  · rename_i z; exact ⟨z, h⟩
  · cases h
theorem HX.fld (x : HX G I lv Wx sc N fnB X oe d k i n) {f : Str} {r : D} {p pos : Pos} (h : fldV I k fs f = some r) : PE (X.suite a ((a, oe) :: pn)) (.Attribute (.Name n p) f pos) (hE G k fs a d i ev c0 r) :=
  h_fld x.o x.hk x.hz x.hf x.hi x.hl x.hd (fld_some h).1 (fld_some h).2
theorem chHA_ok (x : HX G I lv Wx sc N fnB X oe d k i n) {y : HA} {r : D} (h : chHA n y e = true) (hr : haV I k fs y = some r) : PE (X.suite a ((a, oe) :: pn)) e (hE G k fs a d i ev c0 r) := by
  unfold chHA at h
  split at h
  · rename_i l c j p
    have er : r = l.d := (Option.some.inj hr).symm
    subst er
    exact hE_of (se_lit (I := I) h) fun env c Q q => q
  · rename_i j z j2 p2 p
    have ez := eq_of_beq h
    subst ez
    have er : r = .int (-j) := (Option.some.inj hr).symm
    subst er
    exact hE_of (se_neg (se_lit (I := I) (l := .int j) (by exact beq_self_eq_true j))) fun env c Q q => q
  · rename_i f m p2 g p
    simp only [Bool.and_eq_true, beq_iff_eq] at h
    obtain ⟨rfl, rfl⟩ := h
    exact x.fld hr
  · cases h
theorem chHAs_ok (x : HX G I lv Wx sc N fnB X oe d k i n) : ∀ {ys : List HA} {es : List Expr} {rs : List D}, chHAs n ys es = true → haL I k fs ys = some rs → PA (X.suite a ((a, oe) :: pn)) es (hL G k fs a d i ev c0 rs) ∧ rs.length = ys.length
  | [], [], rs, _, hr => by
    have er : rs = [] := (Option.some.inj hr).symm
    subst er
    exact ⟨hL_nil, rfl⟩
  | y :: ys, e :: es, rs, h, hr => by
    unfold chHAs at h
    simp only [Bool.and_eq_true] at h
    unfold haL at hr
    split at hr
    · rename_i r1 rs1 h1 h2
      have er : rs = r1 :: rs1 := (Option.some.inj hr).symm
      subst er
      obtain ⟨t, tl⟩ := chHAs_ok x h.2.2 h2
      exact ⟨hL_cons h.1 (chHA_ok x h.2.1 h1) t, by rw [List.length_cons, List.length_cons, tl]⟩
    · cases hr
  | [], _ :: _, _, h, _ => by cases h
  | _ :: _, [], _, h, _ => by cases h
theorem neV_eqD {c : Cs} {a d : D} {r : Bool} {Q : QE} (h : neV c a d = some r) (q : Q (.bl r) c) : wpB .ne false a d c Q := by
  show eqD c (fun b => !b) Q a d
  unfold neV at h
  split at h
  · rename_i he
    rw [Bool.and_eq_true] at he
    have er := Option.some.inj h
    subst er
    have e0 : ∀ {x : D}, isE0 x = true → x = .dct [] [] := fun {x} hx => by
      unfold isE0 at hx
      split at hx
      · rfl
      · cases hx
    rw [e0 he.1, e0 he.2]
    exact q
  · rename_i he
    unfold neG at h
    split at h
    · rename_i x y hx hy
      split at h
      · rename_i hs
        rw [Bool.and_eq_true] at hs
        have er := Option.some.inj h
        subst er
        unfold eqD
        split
        · rename_i i j
          cases hx; cases hy
          have e : PyData.eqv (.int i) (.int j) = decide (i = j) := by
            show (i == j) = _
            by_cases h : i = j <;> simp [h]
          rw [e] at q
          exact q
        · rename_i i j
          cases hx; cases hy
          have e : PyData.eqv (.bool i) (.bool j) = decide (i = j) := by
            show (i == j) = _
            by_cases h : i = j <;> simp [h]
          rw [e] at q
          exact q
        · rename_i i j
          cases hx; cases hy
          have e : PyData.eqv (.str i) (.str j) = decide (i = j) := by
            show (i == j) = _
            by_cases h : i = j <;> simp [h]
          rw [e] at q
          exact q
        · exact absurd rfl he
        · unfold eqG
          rw [hx, hy]
          exact ⟨hs.1, hs.2, q⟩
      · cases h
    · cases h
theorem h_ev (x : HX G I lv Wx sc N fnB X oe d k i n) {P : Str} {p : Nat} {y : D} {pos : Pos} (hP : N[p]? = some P) (hv : visB sc P = true) (hdb : dbgB P = true) (hev : ev[p]? = some (some y)) : PE (X.suite a ((a, oe) :: pn)) (.Name P pos) (hE G k fs a d i ev c0 y) := by
  refine PE.imp (h_var x.o hP hv hdb) fun σ H Q ⟨W, c, eH, pre, q⟩ => ?_
  obtain ⟨v, hv, dn⟩ := pre.eo.2 p y hev
  exact ⟨v, hv, by rw [← eH]; exact q v W (Ext.refl W) pre.ok dn⟩
theorem hE_two {Y : Cx} {A B : Expr} {op : B2} {m : Bool} {y z r : D} (rule : ∀ ta tb, PE Y A ta → PE Y B tb → PE Y e (tOp (RB G op m) ta tb)) (h1 : PE Y A (hE G k fs a d i ev c0 y)) (h2 : PE Y B (hE G k fs a d i ev c0 z)) (hw : ∀ Q : QE, Q r c0 → wpB op m y z c0 Q) : PE Y e (hE G k fs a d i ev c0 r) := by
  refine PE.imp (rule _ _ h1 h2) fun σ H Q ⟨W, c, eH, pre, q⟩ => ?_
  have hc := pre.hc
  subst hc
  refine ⟨W, c, eH, pre, fun v W1 x1 ok1 dn => ⟨W1, c, rfl, pre.up x1 ok1, fun v2 W2 x2 ok2 dn2 => ?_⟩⟩
  refine ⟨W2, c, _, _, fun y c' => y = r ∧ c' = c, rfl, ok2, dn.mono ok1 x2, dn2, hw _ ⟨rfl, rfl⟩, fun v3 H3 ⟨W3, c3, y, e3, x3, ok3, dn3, hy, hc⟩ => ?_⟩
  subst hy hc e3
  exact q v3 W3 ((x1.trans x2).trans x3) ok3 dn3
theorem hE_int (x : HX G I lv Wx sc N fnB X oe d k i n) {p pos : Pos} {b : Bool} (hn : noStar e = true) (hg : glB sc "int" = true) (h : PE (X.suite a ((a, oe) :: pn)) e (hE G k fs a d i ev c0 (.bl b))) : PE (X.suite a ((a, oe) :: pn)) (.Call (.Name "int" p) [e] [] pos) (hE G k fs a d i ev c0 (.int (if b then 1 else 0))) := by
  obtain ⟨g, hd2, hnn⟩ := gl_of x.o hg
  have t : PA (X.suite a ((a, oe) :: pn)) [e] (hL G k fs a d i ev c0 [.bl b]) := hL_cons hn h hL_nil
  refine PE.imp (pe_callTyN (X := X.suite a ((a, oe) :: pn)) (r := RC G .int false) (callr_int (m := false)) g (by show X.mg _ = _; rw [x.o.hmg]; exact x.o.glob.bl _ (by decide +kernel)) (by decide +kernel) t hnn hd2 (by rw [List.all_cons, hn]; rfl)) fun σ H Q ⟨W, c, eH, pre, q⟩ => ?_
  refine ⟨W, c, eH, pre, fun vs W1 x1 ok1 dn => ?_⟩
  refine ⟨W1, c, _, fun y c' => y = .int (if b then 1 else 0) ∧ c' = c, rfl, ok1, dn, ⟨rfl, rfl⟩, fun v3 H3 ⟨W3, c3, y, e3, x3, ok3, dn3, hy, hc⟩ => ?_⟩
  subst hy hc e3
  exact q v3 W3 (x1.trans x3) ok3 dn3
theorem hE_lst {Y : Cx} {es : List Expr} {rs : List D} {pos : Pos} (hl : rs.length ≤ 1000) (t : PA Y es (hL G k fs a d i ev c0 rs)) : PE Y (.List es pos) (hE G k fs a d i ev c0 (.lst rs)) := by
  refine PE.imp (pe_lst t) fun σ H Q ⟨W, c, e, pre, q⟩ => ?_
  refine ⟨W, c, e, pre, fun vs W1 x1 ok1 dn => ?_⟩
  refine ⟨by rw [line_eq, dn.length]; omega, newL_ok (m := false) (Q0 := fun y c' => y = .lst rs ∧ c' = c) ok1 dn ⟨rfl, rfl⟩ fun v H' ⟨W2, c2, y, e2, x2, ok2, dn2, hy, hc⟩ => ?_⟩
  subst hy hc e2
  exact q v W2 (x1.trans x2) ok2 dn2
theorem chIsi_ok (x : HX G I lv Wx sc N fnB X oe d k i n) {ts : List (Option Nat)} {tp : Bool} (h : chIsi I sc n ts tp e = true) : PE (X.suite a ((a, oe) :: pn)) e (hE G k fs a d i ev c0 (.bl (isiV I k ts))) := by
  have eb : isiV I k ts = ts.any (xtS I k) := rfl
  unfold chIsi at h
  split at h
  · rename_i y p m q T pos
    simp only [Bool.and_eq_true, beq_iff_eq] at h
    obtain ⟨rfl, hgi, rfl, h⟩ := h
    cases tp with
    | false =>
      replace h : chIs1 I sc ts T = true := h
      unfold chIs1 at h
      split at h
      · rename_i t
        rw [eb, List.any_cons, List.any_nil, Bool.or_false]
        exact h_isi1 x.o x.hk x.hz x.hf x.hi x.hl x.hd hgi h
      · cases h
    | true =>
      replace h : chIsT I sc ts T = true := h
      unfold chIsT at h
      split at h
      · rename_i es j p2
        rw [Bool.and_eq_true] at h
        rw [eb]
        exact h_isiT x.o x.hk x.hz x.hf x.hi x.hl x.hd hgi h.2 (of_decide_eq_true h.1)
      · cases h
  · cases h
theorem chIsis_ok (x : HX G I lv Wx sc N fnB X oe d k i n) : ∀ {ts : List (List (Option Nat) × Bool)} {es : List Expr}, chIsis I sc n ts es = true → PA (X.suite a ((a, oe) :: pn)) es (hL G k fs a d i ev c0 (ts.map fun t => .bl (isiV I k t.1)))
  | [], [], _ => hL_nil
  | t :: ts, e :: es, h => by
    unfold chIsis at h
    simp only [Bool.and_eq_true] at h
    exact hL_cons h.1 (chIsi_ok x h.2.1) (chIsis_ok x h.2.2)
  | [], _ :: _, h => by cases h
  | _ :: _, [], h => by cases h
theorem chHV_ok (x : HX G I lv Wx sc N fnB X oe d k i n) {y : HV} {r : D} (h : chHV N I sc n y e = true) (hr : hvV I k fs ev c0 y = some r) : PE (X.suite a ((a, oe) :: pn)) e (hE G k fs a d i ev c0 r) := by
  unfold chHV at h
  split at h
  · exact chHA_ok x h hr
  · rename_i xs es j p
    rw [Bool.and_eq_true] at h
    obtain ⟨rs, h1, h2⟩ := Option.map_eq_some_iff.mp hr
    obtain ⟨t, tl⟩ := chHAs_ok (a := a) (pn := pn) x h.2 h1
    subst h2
    exact hE_tup (by rw [tl]; exact of_decide_eq_true h.1) t
  · rename_i xs es p
    rw [Bool.and_eq_true] at h
    obtain ⟨rs, h1, h2⟩ := Option.map_eq_some_iff.mp hr
    obtain ⟨t, tl⟩ := chHAs_ok (a := a) (pn := pn) x h.2 h1
    subst h2
    exact hE_lst (by rw [tl]; exact of_decide_eq_true h.1) t
  · rename_i u v ts tp e1 e2 pl z pz cc pcall pos
    simp only [Bool.and_eq_true, beq_iff_eq, decide_eq_true_eq] at h
    obtain ⟨h1, h2, rfl, hg, hc, n0, n1, n2⟩ := h
    replace hr : (match haV I k fs u, haV I k fs v with
      | some du, some dv => some (if isiV I k ts then dv else du)
      | _, _ => none) = some r := hr
    split at hr
    · rename_i du dv hdu hdv
      have er := Option.some.inj hr
      have hu := hu_x1 x.o
      have t6 := hE_int (a := a) (pn := pn) (fs := fs) (ev := ev) (c0 := c0) (p := pz) (pos := pcall) x n0 hg (chIsi_ok x hc)
      have t7 : PE (X.suite a ((a, oe) :: pn)) (.List [e1, e2] pl) (hE G k fs a d i ev c0 (.lst [du, dv])) := hE_lst (by simp) (hL_cons n1 (chHA_ok x h1 hdu) (hL_cons n2 (chHA_ok x h2 hdv) hL_nil))
      refine hE_two (op := .idx) (m := false) (fun ta tb ha hb => pe_ix (ixr_idx x.o.hK x.o.glob.hw hu) ha hb (plainIx_of rfl)) t7 t6 fun Q qq => ?_
      rw [← er] at qq
      cases hb : isiV I k ts with
      | true => rw [hb] at qq; exact qq
      | false => rw [hb] at qq; exact qq
    · cases hr
  · rename_i u v p s q e1 e2 pl z pz P pP S pS j kj pj psub pcmp pcall pos
    simp only [Bool.and_eq_true, beq_iff_eq, decide_eq_true_eq] at h
    obtain ⟨h1, h2, rfl, hg, hP, vP, dP, hS, vS, dS, rfl, n1, n2⟩ := h
    replace hr : (match pickB c0 ev p s q, haV I k fs u, haV I k fs v with
      | some b, some du, some dv => some (if b then dv else du)
      | _, _, _ => none) = some r := hr
    split at hr
    · rename_i b du dv hb hdu hdv
      have er := Option.some.inj hr
      unfold pickB at hb
      split at hb
      · rename_i ya yb ea eb
        split at hb
        · rename_i ds hds
          split at hb
          · rename_i dq hdq
            have hu := hu_x1 x.o
            have t1 := h_ev (a := a) (pn := pn) (pos := pP) (fs := fs) (c0 := c0) x hP vP dP ea
            have t2 := h_ev (a := a) (pn := pn) (pos := pS) (fs := fs) (c0 := c0) x hS vS dS eb
            have t3 : PE (X.suite a ((a, oe) :: pn)) (.Constant (.int (q : Int)) kj pj) (hE G k fs a d i ev c0 (.int q)) := hE_of (se_lit (I := I) (l := .int q) (by exact beq_self_eq_true _)) fun env c Q q => q
            have t4 : PE (X.suite a ((a, oe) :: pn)) (.Subscript (.Name S pS) (.Constant (.int (q : Int)) kj pj) psub) (hE G k fs a d i ev c0 dq) := hE_two (op := .idx) (m := false) (fun ta tb ha hb => pe_ix (ixr_idx x.o.hK x.o.glob.hw hu) ha hb (plainIx_of rfl)) t2 t3 fun Q qq => by
              show idxA c0 Q yb (.int q) (getS c0 yb)
              rw [hds]
              show idxS c0 Q q (some ds)
              unfold idxS atI ixN
              have hl := (List.getElem?_eq_some_iff.mp hdq).1
              dsimp only
              rw [if_pos (by omega), if_pos (by omega)]
              show (match ds[q]? with | some d => Q d c0 | none => False)
              rw [hdq]
              exact qq
            have t5 : PE (X.suite a ((a, oe) :: pn)) (.Compare (.Name P pP) [.NotEq] [.Subscript (.Name S pS) (.Constant (.int (q : Int)) kj pj) psub] pcmp) (hE G k fs a d i ev c0 (.bl b)) := hE_two (op := .ne) (m := false) (fun ta tb ha hb => pe_cmpR (opr_ne x.o.hK x.o.room.units) ha hb (behind_of rfl)) t1 t4 fun Q qq => neV_eqD hb qq
            have t6 := hE_int (p := pz) (pos := pcall) x rfl hg t5
            have t7 : PE (X.suite a ((a, oe) :: pn)) (.List [e1, e2] pl) (hE G k fs a d i ev c0 (.lst [du, dv])) := hE_lst (by simp) (hL_cons n1 (chHA_ok x h1 hdu) (hL_cons n2 (chHA_ok x h2 hdv) hL_nil))
            refine hE_two (op := .idx) (m := false) (fun ta tb ha hb => pe_ix (ixr_idx x.o.hK x.o.glob.hw hu) ha hb (plainIx_of rfl)) t7 t6 fun Q qq => ?_
            rw [← er] at qq
            cases b with
            | true => exact qq
            | false => exact qq
          · cases hb
        · cases hb
      · cases hb
    · cases hr
  · cases h
theorem PW.no {Y : Cx} {e : Expr} : PW Y e (fun _ _ _ => False) := ⟨fun _ _ _ _ _ _ _ h => h.elim⟩
theorem PSs.no {Y : Cx} {ss : List Stmt} : PSs Y ss (fun _ _ _ => False) := ⟨fun _ _ _ _ _ _ h => h.elim⟩
mutual
theorem chHC_ok (x : HX G I lv Wx sc N fnB X oe d k i n) : ∀ (c : HC) {e : Expr} {b : Bool}, chHC I sc n c e = true → hcV I k fs c = some b → PT (X.suite a ((a, oe) :: pn)) e (hT G k fs a d i ev c0 b)
  | .isi ts tp, e, b, h, hb => by
    have eb : b = isiV I k ts := (Option.some.inj hb).symm
    replace h : chIsi I sc n ts tp e = true := h
    subst eb
    have hp : plainT e = true := by
      unfold chIsi at h
      split at h
      · rfl
      · cases h
    exact hT_of hp (chIsi_ok x h)
  | .wh g f, e, b, h, hb => by
    replace h : chWh I sc n g f e = true := h
    unfold chWh at h
    split at h
    · rename_i y p m q f' p2 pos
      simp only [Bool.and_eq_true, beq_iff_eq] at h
      obtain ⟨h1, h2, h3, rfl, rfl⟩ := h
      unfold hcV at hb
      split at hb
      · rename_i z hz
        have eb : b = true := (Option.some.inj hb).symm
        subst eb
        have hk : I.kind g = .fn y := by
          unfold kFn at h2
          split at h2
          · rename_i w hw
            rw [hw, eq_of_beq h2]
          · cases h2
        exact hT_of rfl (h_wh x.o (x.o.glob.wh g y h1 hk) h3 rfl (x.fld hz))
      · cases hb
    · cases h
  | .eqI f j, e, b, h, hb => by
    replace h : chEq n f j e = true := h
    unfold chEq at h
    split at h
    · rename_i m q f' p2 j' c2 p3 pos
      simp only [Bool.and_eq_true, beq_iff_eq] at h
      obtain ⟨rfl, rfl, rfl⟩ := h
      unfold hcV at hb
      split at hb
      · rename_i z hz
        have eb : b = decide (z = j) := (Option.some.inj hb).symm
        subst eb
        exact h_eqI x.o.hK x.o.room.units rfl (x.fld hz) (hE_of (se_lit (I := I) (l := .int j) (by exact beq_self_eq_true j)) fun env c Q q => q)
      · cases hb
    · cases h
  | .not c, e, b, h, hb => by
    unfold chHC at h
    split at h
    · rename_i e p
      obtain ⟨b1, h1, h2⟩ := Option.map_eq_some_iff.mp hb
      subst h2
      exact hT_not (chHC_ok x c h h1)
    · cases h
  | .bop k0 cs, e, b, h, hb => by
    unfold chHC at h
    split at h
    · rename_i p vs pos
      rw [Bool.and_eq_true] at h
      have z := chHCs_ok x k0 cs (pos := pos) h.2 hb
      have hk := h.1
      unfold bopK at hk
      split at hk
      · exact z.pt
      · exact z.pt
      · cases hk
    · cases h
theorem chHCs_ok (x : HX G I lv Wx sc N fnB X oe d k i n) (k0 : Bool) : ∀ (cs : HCs) {vs : List Expr} {b : Bool} {pos : Pos}, chHCs I sc n cs vs = true → hcsV I k fs k0 cs = some b → PW (X.suite a ((a, oe) :: pn)) (.BoolOp (if k0 then .And else .Or) vs pos) (hT G k fs a d i ev c0 b)
  | .nil, vs, b, pos, h, hb => by cases hb
  | .cons c .nil, vs, b, pos, h, hb => by
    rcases vs with _ | ⟨v, _ | ⟨w, vs⟩⟩ <;> first | (simp [chHCs] at h; done) | skip
    simp only [chHCs] at h
    have z := chHC_ok x c h hb
    cases k0 with
    | true => exact pw_and1 z
    | false => exact pw_or1 z
  | .cons c (.cons c' cs), vs, b, pos, h, hb => by
    rcases vs with _ | ⟨v, _ | ⟨w, vs⟩⟩ <;> first | (simp [chHCs] at h; done) | skip
    simp only [chHCs, Bool.and_eq_true] at h
    unfold hcsV at hb
    split at hb
    · rename_i r hr
      have z := chHC_ok x c h.1 hr
      cases k0 with
      | true =>
        cases r with
        | true =>
          rw [if_pos rfl] at hb
          refine ⟨fun wh pins s σ H Q J ⟨W, c, e, pre, q⟩ => (pw_and z (chHCs_ok x true (.cons c' cs) (pos := pos) h.2 hb)).run wh pins s σ H Q J ⟨W, c, e, pre, fun W1 x1 ok1 => ?_⟩⟩
          refine (if_pos rfl).mpr ?_
          exact ⟨W1, c, rfl, pre.up x1 ok1, fun W2 x2 ok2 => q W2 (x1.trans x2) ok2⟩
        | false =>
          rw [if_neg Bool.false_ne_true] at hb
          cases hb
          refine ⟨fun wh pins s σ H Q J ⟨W, c, e, pre, q⟩ => (pw_and z (PW.no (e := .BoolOp .And (w :: vs) pos))).run wh pins s σ H Q J ⟨W, c, e, pre, fun W1 x1 ok1 => ?_⟩⟩
          refine (if_neg Bool.false_ne_true).mpr ?_
          exact q W1 x1 ok1
      | false =>
        cases r with
        | true =>
          rw [if_neg (by decide)] at hb
          cases hb
          refine ⟨fun wh pins s σ H Q J ⟨W, c, e, pre, q⟩ => (pw_or z (PW.no (e := .BoolOp .Or (w :: vs) pos))).run wh pins s σ H Q J ⟨W, c, e, pre, fun W1 x1 ok1 => ?_⟩⟩
          refine (if_pos rfl).mpr ?_
          exact q W1 x1 ok1
        | false =>
          rw [if_pos rfl] at hb
          refine ⟨fun wh pins s σ H Q J ⟨W, c, e, pre, q⟩ => (pw_or z (chHCs_ok x false (.cons c' cs) (pos := pos) h.2 hb)).run wh pins s σ H Q J ⟨W, c, e, pre, fun W1 x1 ok1 => ?_⟩⟩
          refine (if_neg Bool.false_ne_true).mpr ?_
          exact ⟨W1, c, rfl, pre.up x1 ok1, fun W2 x2 ok2 => q W2 (x1.trans x2) ok2⟩
    · cases hb
end
theorem hS_ret {Y : Cx} {r : D} {pos : Pos} (h : PE Y e (hE G k fs a d i ev c0 r)) : PSs Y [.Return (some e) pos] (hS G k fs a d i ev c0 (some r)) := by
  refine PSs.imp (pss_cons (ps_ret h) pss_nil) fun D σ H ⟨W, c, eH, pre, q⟩ => ?_
  exact ⟨W, c, eH, pre, fun v W1 x1 ok1 dn => q W1 x1 ok1 v dn⟩
theorem chTwo_ok (x : HX G I lv Wx sc N fnB X oe d k i n) {j : Nat} {as bs : List (List (Option Nat) × Bool)} {ss : List Stmt} (h : chTwo N I sc n i j as bs ss = true) : PSs (X.suite a ((a, oe) :: pn)) ss (hS G k fs a d i ev c0 (some (.lst (as.map (fun t => .bl (isiV I k t.1)) ++ bs.map fun t => .bl (isiV I k t.1))))) := by
  unfold chTwo at h
  split at h
  · rename_i m0 p1 es1 p2 p3 m p4 es2 p5 p6 p7
    simp only [Bool.and_eq_true, beq_iff_eq, decide_eq_true_eq] at h
    obtain ⟨hj, rfl, hl, hd, hji, l1, l2, h1, h2⟩ := h
    have hv : visB sc m = true := by unfold visB; rw [hl]
    have t1 : PE (X.suite a ((a, oe) :: pn)) (.List es1 p2) (hE G k fs a d i ev c0 (.lst (as.map fun t => .bl (isiV I k t.1)))) := hE_lst (by rw [List.length_map]; omega) (chIsis_ok x h1)
    have t2 : ∀ ev2 : En, ev2[j]? = some (some (.lst (as.map fun t => .bl (isiV I k t.1)))) → PE (X.suite a ((a, oe) :: pn)) (.BinOp (.Name m p4) .Add (.List es2 p5) p6) (hE G k fs a d i ev2 c0 (.lst (as.map (fun t => .bl (isiV I k t.1)) ++ bs.map fun t => .bl (isiV I k t.1)))) := fun ev2 he => by
      refine hE_two (op := .add) (m := false) (fun ta tb ha hb => pe_op (opr_add x.o.hK) ha hb) (h_ev x hj hv hd he) (hE_lst (by rw [List.length_map]; omega) (chIsis_ok x h2)) fun Q qq => ?_
      exact ⟨by rw [List.length_map, List.length_map]; omega, qq⟩
    have hN : (X.suite a ((a, oe) :: pn)).N[j]? = some m := by show X.N[j]? = _; rw [x.o.hN]; exact hj
    have hnd : (X.suite a ((a, oe) :: pn)).N.Nodup := by show X.N.Nodup; rw [x.o.hN]; exact x.o.nd
    have hlc : (X.suite a ((a, oe) :: pn)).env.scope.names.lookup m = some .local := by show X.env.scope.names.lookup m = _; rw [x.o.hsc]; exact hl
    have p1 := ps_set (pos' := p1) (pos := p3) hnd hN (.inl hlc) t1 rfl (.inr hlc)
    refine ⟨fun pins s σ H D J ⟨W, c, eH, pre, q⟩ => ?_⟩
    have hlen : j < ev.length := by
      have h1 := pre.eo.1
      have h2 := J.len
      have h3 := (List.getElem?_eq_some_iff.mp hN).1
      omega
    have p2 := t2 (setE ev j (.lst (as.map fun t => .bl (isiV I k t.1)))) (by unfold setE; rw [List.getElem?_set_self hlen])
    refine (pss_cons p1 (pss_cons (ps_ret (pos := p7) p2) pss_nil)).run pins s σ H D J ⟨W, c, eH, pre, fun v W1 x1 ok1 dn => ?_⟩
    refine ⟨W1, c, rfl, ⟨ok1, pre.ex.mono pre.ok x1, ?_, (pre.eo.mono pre.ok x1).set hlen dn, pre.hc⟩, fun v2 W2 x2 ok2 dn2 => q W2 (x1.trans x2) ok2 v2 dn2⟩
    rw [List.getElem?_set_ne hji]
    exact pre.at_
  · cases h
theorem chHs_ok (x : HX G I lv Wx sc N fnB X oe d k i n) : ∀ {hs : List HSt} {ss : List Stmt} {r : Option D}, chHs N I sc n i hs ss = true → hsV I k fs ev c0 hs = some r → PSs (X.suite a ((a, oe) :: pn)) ss (hS G k fs a d i ev c0 r) := by
  intro hs
  induction hs with
  | nil =>
    intro ss r h hr
    cases ss with
    | nil =>
      have er : r = none := (Option.some.inj hr).symm
      subst er
      refine PSs.imp pss_nil fun D σ H ⟨W, c, eH, pre, q⟩ => ?_
      subst eH
      exact q W (Ext.refl W) pre.ok
    | cons _ _ => cases h
  | cons y hs ih =>
    intro ss r h hr
    cases y with
    | ret v =>
      unfold chHs at h
      split at h
      · rename_i s0
        unfold chRet at h
        split at h
        · obtain ⟨y, h1, h2⟩ := Option.map_eq_some_iff.mp hr
          subst h2
          exact hS_ret (chHV_ok x h h1)
        · cases h
      · cases h
    | two j as bs =>
      unfold chHs at h
      rw [Bool.and_eq_true] at h
      have er : r = _ := (Option.some.inj hr).symm
      subst er
      exact chTwo_ok x h.2
    | ifr c v =>
      unfold chHs at h
      split at h
      · rename_i s0 ss0
        rw [Bool.and_eq_true] at h
        obtain ⟨h, h3⟩ := h
        unfold chIfr at h
        split at h
        · rename_i t e' p p'
          rw [Bool.and_eq_true] at h
          unfold hsV at hr
          split at hr
          · rename_i hb
            obtain ⟨y, h1, h2⟩ := Option.map_eq_some_iff.mp hr
            subst h2
            refine PSs.imp (pss_cons (ps_if (chHC_ok (ev := ev) (c0 := c0) x c h.1 hb) (hS_ret (pos := p) (chHV_ok x h.2 h1)) pss_nil) PSs.no) fun D σ H ⟨W, c, eH, pre, q⟩ => ?_
            refine ⟨W, c, eH, pre, fun W1 x1 ok1 => ?_⟩
            refine (if_pos rfl).mpr ?_
            exact ⟨W1, c, rfl, pre.up x1 ok1, fun W2 x2 ok2 => q W2 (x1.trans x2) ok2⟩
          · rename_i hb
            refine PSs.imp (pss_cons (ps_if (chHC_ok (ev := ev) (c0 := c0) x c h.1 hb) PSs.no pss_nil) (ih h3 hr)) fun D σ H ⟨W, c, eH, pre, q⟩ => ?_
            refine ⟨W, c, eH, pre, fun W1 x1 ok1 => ?_⟩
            refine (if_neg Bool.false_ne_true).mpr ?_
            exact ⟨W1, c, rfl, pre.up x1 ok1, fun W2 x2 ok2 => q W2 (x1.trans x2) ok2⟩
          · cases hr
        · cases h
      · cases h
/-- the whole statement -/
def chTry (N : List Str) (I : CI) (sc : Scope) (i k0 : Nat) (hs : List HSt) (hds : List ExceptHandler) : Bool := match hds with
  | [.ExceptHandler (some (.Name y _)) (some n) (b0 :: suite) _] => decide (N[i]? = some n) && (decide (sc.names.lookup n = some .local) && (dbgB n && (decide (k0 < I.ne) && (decide (I.ename k0 = y) && (glB sc y && chHs N I sc n i hs (b0 :: suite))))))
  | _ => false
def chCl (N : List Str) (I : CI) (sc : Scope) (cl : Cl) (nm : Option Str) (ss : List Stmt) : Bool := match cl.nm, nm with
  | some i, some n => decide (N[i]? = some n) && (decide (sc.names.lookup n = some .local) && (dbgB n && chHs N I sc n i cl.hs ss))
  | none, none => chK cl.hs ss
  | _, _ => false
def chCls (N : List Str) (I : CI) (sc : Scope) : List Cl → List ExceptHandler → Bool
  | [], [] => true
  | cl :: cs, .ExceptHandler (some (.Name y _)) nm (b0 :: suite) _ :: hds => decide (cl.k < I.ne) && (decide (I.ename cl.k = y) && (glB sc y && (chCl N I sc cl nm (b0 :: suite) && chCls N I sc cs hds)))
  | _, _ => false
/-- raise X(e) -/
def chRais (lv : Nat) (I : CI) (sc : Scope) (k : Nat) (es : FA) (x : Str) (e : Expr) : Bool := decide (1 ≤ lv) && (decide (k < I.ne) && (decide (I.ename k = x) && (glB sc x && (decide ((I.exf k).length = 1) && (decide (es.len = 1) && noStar e)))))
def tsH (G : GI) (I : CI) (i : Nat) (hs : List HSt) : Addr → Value → Option Addr → TS := fun a cls d D σ H => ∃ k fs r ev c0, (cls = .ref (G.exc k) ∧ k < I.ne ∧ hsV I k fs ev c0 hs = some r) ∧ hS G k fs a d i ev c0 r D σ H
theorem ss_try {np : Nat} {pp np' pos' : Pos} {y : Str} {b : FSs} {k0 : Nat} {hs : List HSt} {body suite : List Stmt} {b0 : Stmt} (o : XOk G I lv Wx sc N fnB X) (hs' : X.stack = X.env :: X.outer) (hfr : X.env.frame = some X.env.locals)
    (hi : N[i]? = some n) (hl : sc.names.lookup n = some .local) (hd : dbgB n = true) (hk0 : k0 < I.ne) (hy : I.ename k0 = y) (hgy : glB sc y = true) (hch : chHs N I sc n i hs (b0 :: suite) = true)
    (hb : ∀ (W : WX) (pn : List (Addr × Obj)) (xe : Value → Shared → Prop), XOk G I lv W sc N fnB (X.tr pn xe) → PassesOwn (model X.prog X.w) X.A X.env xe → PSs (X.tr pn xe) body (liftS G W np (wpSs I b))) :
    PS X (.Try body [.ExceptHandler (some (.Name y np')) (some n) (b0 :: suite) pos'] [] [] pp) (liftS G Wx np (wpS I (.try_ b i k0 hs))) := by
  obtain ⟨g, hdb, _⟩ := gl_of o hgy
  have hm : X.mg y = some (.ref (G.exc k0)) := by rw [o.hmg, ← hy]; exact (o.glob.ex k0 hk0).nm
  have vis : visB sc n = true := by unfold visB; rw [hl]
  refine PS.imp (ps_try_as (i := i) (ts := tsH G I i hs) hs' hfr (by rw [o.hN]; exact o.nd) (by rw [o.hN]; exact hi) (by show X.env.scope.names.lookup n = _; rw [o.hsc]; exact hl) ⟨g, hdb, .inl hm⟩ o.tk
    (fun W pn xe tk po => hb W pn xe ⟨o.hK, o.hmg, o.hN, o.nd, o.hsc, o.calm, o.room, tk, o.fnb, o.glob⟩ po)
    (fun a oe cls d pn hz hf => ⟨fun pins s σ H D J ⟨k, fs, r, ev, c0, ⟨hc, hk, hr⟩, h⟩ => (chHs_ok (a := a) (pn := pn) ⟨o, hk, by rw [← hc]; exact hz, hf, hi, vis, hd⟩ hch hr).run pins s σ H D J h⟩)) fun D σ H ⟨W, c, env, E, X0, eH, hn, ok, eo, h, oo⟩ => ?_
  refine ⟨W, c, env, E, _, eH, hn, ok, eo, h, oo.nx, oo.rt, oo.bk, oo.ct, fun cls dd σ' H' ⟨W1, c1, env1, k, fs, e1, x1, ok1, eo1, ec, ed, ⟨hk, hilt⟩, hx⟩ => ?_⟩
  refine ⟨I.esub k k0, ?_, fun hb1 a ha => ?_, fun hb0 => ?_⟩
  · rw [o.hK, ec]; exact (o.glob.ex k hk).em k0 hk0
  · rw [hb1] at hx
    have hx : hEnd E i (hsV I k fs (env1.set i none) c1 hs) env1 c1 := hx
    have hlt : i < σ'.length := by rw [← eo1.1]; exact hilt
    cases hr : hsV I k fs (env1.set i none) c1 hs with
    | none => rw [hr] at hx; exact hx.elim
    | some r =>
      rw [hr] at hx
      have eo0 : EnvOk G W1 (σ'.set i (some (.ref a))) (env1.set i none) := by
        refine ⟨by simp [eo1.1], fun j y hj => ?_⟩
        by_cases hji : j = i
        · subst hji
          rw [List.getElem?_set_self (by rw [eo1.1]; exact hlt)] at hj
          cases hj
        · rw [List.getElem?_set_ne (Ne.symm hji)] at hj ⊢
          exact eo1.2 j y hj
      refine ⟨k, fs, r, _, _, ⟨ec, hk, hr⟩, W1, c1, e1, ⟨ok1, ed, List.getElem?_set_self hlt, eo0, rfl⟩, fun W2 x2 ok2 => ?_⟩
      have x3 : FrS np W W2 := x1.trans (x2.frS x1.le)
      cases r with
      | some y => exact fun v dn => oo.rt v W2.H ⟨W2, c1, y, rfl, x3, ok2, dn, hx⟩
      | none =>
        refine oo.nx _ _ ⟨W2, c1, env1.set i none, rfl, x3, ok2, ?_, hx⟩
        have eo2 := eo1.mono ok1 x2
        refine ⟨by simp [eo2.1], fun j y hj => ?_⟩
        rw [List.set_set]
        by_cases hji : j = i
        · subst hji
          rw [List.getElem?_set_self (by rw [eo2.1]; exact hlt)] at hj
          cases hj
        · rw [List.getElem?_set_ne (Ne.symm hji)] at hj ⊢
          exact eo2.2 j y hj
  · rw [hb0] at hx
    exact oo.ex _ _ _ _ ⟨W1, c1, env1, k, fs, e1, x1, ok1, eo1, ec, ed, hx⟩
/-- a clause without a name -/
def tsK (G : GI) (y : D) : HTs := fun a cls d D σ H => ∃ W c, W.H = H ∧ Ok G W c ∧ ∀ v W', Ext W W' → Ok G W' c → Den G W' v y → D.rt v W'.H
theorem chK_ok {hs : List HSt} {ss : List Stmt} (h : chK hs ss = true) : ∃ y, (∀ k fs ev c, hsV I k fs ev c hs = some (some y)) ∧ ∀ (Y : Cx) a cls d, PSs Y ss (tsK G y a cls d) := by
  unfold chK at h
  split at h
  · rename_i v e pos
    unfold chKV at h
    split at h
    · rename_i l c j p
      refine ⟨l.d, fun k fs ev c => rfl, fun Y a cls d => ?_⟩
      refine PSs.imp (pss_cons (ps_ret (se_lit (G := G) (Wx := XcW) (I := I) h)) pss_nil) fun D σ H ⟨W, c, eH, ok, q⟩ => ?_
      refine ⟨W, c, List.replicate σ.length none, fun y c' => y = l.d ∧ c' = c, fun _ _ _ => False, eH, ok, env_none, ⟨rfl, rfl⟩, fun v H' ⟨W', c', y, e', x, ok', dn, hy, hc⟩ => ?_, fun _ _ _ ⟨_, _, _, _, _, _, _, _, _, z⟩ => z⟩
      subst hy hc e'
      exact q v W' x ok' dn
    · rename_i p
      refine ⟨.lst [], fun k fs ev c => rfl, fun Y a cls d => ?_⟩
      refine PSs.imp (pss_cons (ps_ret (pe_lst (X := Y) pa_nil)) pss_nil) fun D σ H ⟨W, c, eH, ok, q⟩ => ?_
      subst eH
      refine ⟨by show 0 ≤ sizeLine; omega, newL_ok (m := false) (Q0 := fun y c' => y = .lst [] ∧ c' = c) ok .nil ⟨rfl, rfl⟩ fun v H' ⟨W2, c2, y, e2, x2, ok2, dn2, hy, hc⟩ => ?_⟩
      subst hy hc e2
      exact q v W2 x2 ok2 dn2
    · cases h
  · cases h
/-- one clause -/
def tsC (G : GI) (I : CI) (cl : Cl) : HTs := match cl.nm with
  | some i => tsH G I i cl.hs
  | none => fun a cls d D σ H => ∃ y, (∀ k fs ev c, hsV I k fs ev c cl.hs = some (some y)) ∧ tsK G y a cls d D σ H
theorem cls_hds (o : XOk G I lv Wx sc N fnB X) : ∀ {cs : List Cl} {hds : List ExceptHandler}, chCls N I sc cs hds = true → HdsX X hds (cs.map fun cl => (.ref (G.exc cl.k), cl.nm, tsC G I cl))
  | [], [], _ => .nil
  | [], _ :: _, h => by simp [chCls] at h
  | cl :: cs, hds, h => by
    unfold chCls at h
    split at h
    · rename_i h0; cases h0
    · rename_i cl' cs' y np nm b0 suite p hds' e1
      obtain ⟨rfl, rfl⟩ := List.cons.inj e1
      simp only [Bool.and_eq_true, decide_eq_true_eq] at h
      obtain ⟨hk, hy, hg, hc, hr⟩ := h
      obtain ⟨g, hdb, _⟩ := gl_of o hg
      have hm : X.mg y = some (.ref (G.exc cl.k)) := by rw [o.hmg, ← hy]; exact (o.glob.ex cl.k hk).nm
      have ih := cls_hds o hr
      unfold chCl at hc
      split at hc
      · rename_i i n e2
        simp only [Bool.and_eq_true, decide_eq_true_eq] at hc
        obtain ⟨hi, hl, hd, hch⟩ := hc
        have vis : visB sc n = true := by unfold visB; rw [hl]
        show HdsX X _ ((.ref (G.exc cl.k), cl.nm, tsC G I cl) :: _)
        rw [e2]
        refine .as_ ⟨g, hdb, .inl hm⟩ (by rw [o.hN]; exact hi) (by show X.env.scope.names.lookup n = _; rw [o.hsc]; exact hl) (fun a oe cls d pn hz hf => ?_) ih
        show PSs _ _ (tsC G I cl a cls d)
        unfold tsC
        rw [e2]
        exact ⟨fun pins s σ H D J ⟨k, fs, r, ev, c0, ⟨hc, hk, hr⟩, h⟩ => (chHs_ok (a := a) (pn := pn) ⟨o, hk, by rw [← hc]; exact hz, hf, hi, vis, hd⟩ hch hr).run pins s σ H D J h⟩
      · rename_i e2
        obtain ⟨y0, z1, z2⟩ := chK_ok (G := G) (I := I) hc
        show HdsX X _ ((.ref (G.exc cl.k), cl.nm, tsC G I cl) :: _)
        rw [e2]
        refine .un ⟨g, hdb, .inl hm⟩ (fun a oe cls d pn hz hf => ?_) ih
        show PSs _ _ (tsC G I cl a cls d)
        unfold tsC
        rw [e2]
        refine ⟨fun pins s σ H D J ⟨y, hy, h⟩ => ?_⟩
        have ey : y = y0 := by
          have := hy 0 [] [] []
          rw [z1] at this
          exact ((Option.some.inj (Option.some.inj this))).symm
        subst ey
        exact (z2 _ a cls d).run pins s σ H D J h
      · cases hc
    · cases h
theorem mix_ok (o : XOk G I lv Wx sc N fnB X) {np : Nat} {W : Wd} {E : FEnds} {X0 : EX} {De : Ends} (oo : SOut G Wx np W E X0 De) {W1 : Wd} {c1 : Cs} {env1 : En} {k : Nat} {fs : List D} {dd : Option Addr} {σ' : L2.St} (x1 : FrS np W W1) (ok1 : Ok G W1 c1) (eo1 : EnvOk G W1 σ' env1) (ed : ExcD G W1 dd k fs) (hk : k < I.ne) :
    ∀ {cs : List Cl} {hds : List ExceptHandler}, chCls N I sc cs hds = true → hMany I k fs E X0 env1 c1 cs → wMix X.K Wx De (cs.map fun cl => (.ref (G.exc cl.k), cl.nm, tsC G I cl)) (.ref (G.exc k)) dd σ' W1.H
  | [], _, _, h => oo.ex _ _ _ _ ⟨W1, c1, env1, k, fs, rfl, x1, ok1, eo1, rfl, ed, h⟩
  | cl :: cs, hds, hc, h => by
    unfold chCls at hc
    split at hc
    · rename_i h0; cases h0
    · rename_i cl' cs' y np nm b0 suite p hds' e1
      obtain ⟨rfl, rfl⟩ := List.cons.inj e1
      simp only [Bool.and_eq_true, decide_eq_true_eq] at hc
      obtain ⟨hkc, hy, hg, hcl, hr⟩ := hc
      obtain ⟨hlt, hx⟩ := h
      refine ⟨I.esub k cl.k, ?_, fun hb1 a ha => ?_, fun hb0 => ?_⟩
      · rw [o.hK]; exact (o.glob.ex k hk).em cl.k hkc
      · rw [hb1] at hx
        have hx : hEndO E cl.nm (hsV I k fs (unN env1 cl.nm) c1 cl.hs) env1 c1 := hx
        show tsC G I cl a _ dd (endsN De cl.nm) (slotN σ' a cl.nm) W1.H
        unfold tsC
        cases e2 : cl.nm with
        | some i =>
          rw [e2] at hx
          have hi := hlt i e2
          have hlt : i < σ'.length := by have hl1 : env1.length = σ'.length := eo1.1; omega
          cases hr : hsV I k fs (env1.set i none) c1 cl.hs with
          | none =>
            have hx : hEndO E (some i) (hsV I k fs (env1.set i none) c1 cl.hs) env1 c1 := hx
            rw [hr] at hx; exact hx.elim
          | some r =>
            have hx : hEndO E (some i) (hsV I k fs (env1.set i none) c1 cl.hs) env1 c1 := hx
            rw [hr] at hx
            have eo0 : EnvOk G W1 (σ'.set i (some (.ref a))) (env1.set i none) := by
              refine ⟨by simp [eo1.1], fun j y hj => ?_⟩
              by_cases hji : j = i
              · subst hji
                rw [List.getElem?_set_self hi] at hj
                cases hj
              · rw [List.getElem?_set_ne (Ne.symm hji)] at hj ⊢
                exact eo1.2 j y hj
            refine ⟨k, fs, r, _, _, ⟨rfl, hk, hr⟩, W1, c1, rfl, ⟨ok1, ed, List.getElem?_set_self hlt, eo0, rfl⟩, fun W2 x2 ok2 => ?_⟩
            have x3 : FrS _ W W2 := x1.trans (x2.frS x1.le)
            cases r with
            | some y => exact fun v dn => oo.rt v W2.H ⟨W2, c1, y, rfl, x3, ok2, dn, hx⟩
            | none =>
              refine oo.nx _ _ ⟨W2, c1, env1.set i none, rfl, x3, ok2, ?_, hx⟩
              have eo2 := eo1.mono ok1 x2
              show EnvOk G W2 ((σ'.set i (some (.ref a))).set i none) (env1.set i none)
              refine ⟨by simp [eo2.1], fun j y hj => ?_⟩
              rw [List.set_set]
              by_cases hji : j = i
              · subst hji
                rw [List.getElem?_set_self hi] at hj
                cases hj
              · rw [List.getElem?_set_ne (Ne.symm hji)] at hj ⊢
                exact eo2.2 j y hj
        | none =>
          rw [e2] at hx
          unfold chCl at hcl
          rw [e2] at hcl
          cases nm with
          | some n => cases hcl
          | none =>
            obtain ⟨y0, z1, z2⟩ := chK_ok (G := G) (I := I) hcl
            have hx : hEndO E none (hsV I k fs env1 c1 cl.hs) env1 c1 := hx
            rw [z1] at hx
            refine ⟨y0, z1, W1, c1, rfl, ok1, fun v W2 x2 ok2 dn => ?_⟩
            exact oo.rt v W2.H ⟨W2, c1, y0, rfl, x1.trans (x2.frS x1.le), ok2, dn, hx⟩
      · rw [hb0] at hx
        exact mix_ok o oo x1 ok1 eo1 ed hk hr hx
    · cases hc
theorem ss_tryM {np : Nat} {pp : Pos} {b : FSs} {cs : List Cl} {body : List Stmt} {hds : List ExceptHandler} (o : XOk G I lv Wx sc N fnB X) (hs' : X.stack = X.env :: X.outer) (hfr : X.env.frame = some X.env.locals) (hne : hds ≠ []) (hch : chCls N I sc cs hds = true)
    (hb : ∀ (W : WX) (pn : List (Addr × Obj)) (xe : Value → Shared → Prop), XOk G I lv W sc N fnB (X.tr pn xe) → PassesOwn (model X.prog X.w) X.A X.env xe → PSs (X.tr pn xe) body (liftS G W np (wpSs I b))) :
    PS X (.Try body hds [] [] pp) (liftS G Wx np (wpS I (.tryM b cs))) := by
  match hds, hne, hch with
  | h0 :: hds, _, hch =>
    refine PS.imp (ps_try_mix hs' hfr (by rw [o.hN]; exact o.nd) o.tk (fun W pn xe tk po => hb W pn xe ⟨o.hK, o.hmg, o.hN, o.nd, o.hsc, o.calm, o.room, tk, o.fnb, o.glob⟩ po) (cls_hds o hch)) fun D σ H ⟨W, c, env, E, X0, eH, hn, ok, eo, h, oo⟩ => ?_
    refine ⟨W, c, env, E, _, eH, hn, ok, eo, h, oo.nx, oo.rt, oo.bk, oo.ct, fun cls dd σ' H' ⟨W1, c1, env1, k, fs, e1, x1, ok1, eo1, ec, ed, hk, hx⟩ => ?_⟩
    subst ec e1
    exact mix_ok o oo x1 ok1 eo1 ed hk hch hx
end
end F

namespace F
open PySem PySem.Spec L2
section
variable {G : GI} {I : CI} {lv : Nat} {N : List Str}
theorem kFn_of {k : FK} {x : Str} (h : kFn k x = true) : k = .fn x := by
  unfold kFn at h
  split at h
  · rw [eq_of_beq h]
  · cases h
theorem kMth_of {k : FK} {x : Str} (h : kMth k x = true) : ∃ j, k = .mth j x := by
  unfold kMth at h
  split at h
  · rename_i j y; exact ⟨j, by rw [eq_of_beq h]⟩
  · cases h
theorem kIni_of {k : FK} {j : Nat} {x : Str} (h : kIni k j x = true) : k = .ini j x := by
  unfold kIni at h
  split at h
  · rw [Bool.and_eq_true] at h
    rw [eq_of_beq h.1, eq_of_beq h.2]
  · cases h
mutual
theorem chT_ok {sc : Scope} {fn : Str → Bool} {Wx : WX} {X : Cx} (o : XOk G I lv Wx sc N fn X) : ∀ (t : FT) {e : Expr}, chT N sc fn t e = true → PG X e (liftG G (ftSl t) (wpT t))
  | .nm i, e, h => by
    cases e <;> first | (simp [chT] at h; done) | skip
    rename_i x p
    simp only [chT, Bool.and_eq_true, decide_eq_true_eq] at h
    exact sg_name o h.1 h.2
  | .tp ts, e, h => by
    cases e <;> first | (simp [chT] at h; done) | skip
    rename_i es k p
    simp only [chT, Bool.and_eq_true] at h
    exact sg_tup o h.1.1 (eq_of_beq h.1.2) (chTs_ok o ts h.2)
theorem chTs_ok {sc : Scope} {fn : Str → Bool} {Wx : WX} {X : Cx} (o : XOk G I lv Wx sc N fn X) : ∀ (t : FTs) {e : List Expr}, chTs N sc fn t e = true → PGs X e (liftGs G (ftSls t) (wpTs t))
  | .nil, [], h => sg_nil
  | .nil, _ :: _, h => by simp [chTs] at h
  | .cons t ts, [], h => by simp [chTs] at h
  | .cons t ts, e :: es, h => by
    simp only [chTs, Bool.and_eq_true] at h
    exact sg_cons h.1.1 (chT_ok o t h.1.2) (chTs_ok o ts h.2)
end
theorem chA_star {sc : Scope} {fn : Str → Bool} : ∀ {es : FA} {vs : List Expr}, chA N I lv sc fn es vs = true → vs.all noStar = true
  | .nil, [], _ => rfl
  | .nil, _ :: _, h => by simp [chA] at h
  | .cons _ _, [], h => by simp [chA] at h
  | .cons e es, v :: vs, h => by
    simp only [chA, Bool.and_eq_true] at h
    rw [List.all_cons, h.1.1, chA_star h.2]; rfl
theorem chA_len {sc : Scope} {fn : Str → Bool} : ∀ {es : FA} {vs : List Expr}, chA N I lv sc fn es vs = true → vs.length = es.len
  | .nil, [], _ => rfl
  | .nil, _ :: _, h => by simp [chA] at h
  | .cons _ _, [], h => by simp [chA] at h
  | .cons e es, v :: vs, h => by
    simp only [chA, Bool.and_eq_true] at h
    rw [List.length_cons, chA_len h.2]; rfl
theorem isNil_of {es : FA} (h : es.isNil = true) : es = .nil := by
  cases es
  · rfl
  · cases h
mutual
theorem chE_ok : ∀ (f : FE) {sc : Scope} {fn : Str → Bool} {Wx : WX} {X : Cx} {e : Expr}, XOk G I lv Wx sc N fn X → chE N I lv sc fn f e = true → PE X e (lift G Wx (wpE I f))
  | .dead, sc, fn, Wx, X, e, o, h => se_dead
  | .frz a, sc, fn, Wx, X, e, o, h => by
    simp only [chE] at h
    exact se_frz o (chE_ok a o h)
  | .var i, sc, fn, Wx, X, e, o, h => by
    cases e <;> first | (simp [chE] at h; done) | skip
    simp only [chE, Bool.and_eq_true, decide_eq_true_eq] at h
    exact se_var o h.1.1 h.1.2 h.2
  | .lit l, sc, fn, Wx, X, e, o, h => by
    cases e <;> first | (simp [chE] at h; done) | skip
    exact se_lit (by simpa only [chE] using h)
  | .con k, sc, fn, Wx, X, e, o, h => by
    cases e <;> first | (simp [chE] at h; done) | skip
    simp only [chE, Bool.and_eq_true, decide_eq_true_eq] at h
    exact se_con o h.1.1 h.1.2 h.2
  | .un .neg a, sc, fn, Wx, X, e, o, h => by
    cases e with
    | UnaryOp op x p =>
      cases op <;> first | (simp [chE] at h; done) | skip
      simp only [chE] at h
      exact se_neg (chE_ok a o h)
    | _ => simp [chE] at h
  | .un .not a, sc, fn, Wx, X, e, o, h => by
    cases e with
    | UnaryOp op x p =>
      cases op <;> first | (simp [chE] at h; done) | skip
      simp only [chE] at h
      exact se_not (chE_ok a o h)
    | _ => simp [chE] at h
  | .bin op m a b, sc, fn, Wx, X, e, o, h => by
    cases e with
    | BinOp l p r pos =>
      simp only [chE, Bool.and_eq_true] at h
      exact se_bin o h.1.1 (chE_ok a o h.1.2) (chE_ok b o h.2)
    | Compare l ps rs pos =>
      rcases ps with _ | ⟨p, _ | ⟨p', ps⟩⟩ <;> first | (simp [chE] at h; done) | skip
      rcases rs with _ | ⟨r, _ | ⟨r', rs⟩⟩ <;> first | (simp [chE] at h; done) | skip
      simp only [chE, Bool.and_eq_true] at h
      exact se_cmp o h.1.1.1 h.1.1.2 (chE_ok a o h.1.2) (chE_ok b o h.2)
    | Subscript l r pos =>
      simp only [chE, Bool.and_eq_true] at h
      have e : op = .idx := by
        have z := h.1.1.1
        unfold isIdx at z
        split at z
        · rfl
        · cases z
      subst e
      exact se_idx o h.1.1.2 (chE_ok a o h.1.2) (chE_ok b o h.2)
    | _ => simp [chE] at h
  | .bop k es, sc, fn, Wx, X, e, o, h => by
    cases e with
    | BoolOp p vs pos =>
      simp only [chE, Bool.and_eq_true] at h
      have z := chB_ok k es (pos := pos) o h.2
      have hk := h.1
      unfold bopK at hk
      split at hk
      · exact z
      · exact z
      · cases hk
    | _ => simp [chE] at h
  | .chain op q a b c, sc, fn, Wx, X, e, o, h => by
    cases e with
    | Compare l ps rs pos =>
      rcases ps with _ | ⟨p, _ | ⟨p', _ | ⟨p'', ps⟩⟩⟩ <;> first | (simp [chE] at h; done) | skip
      rcases rs with _ | ⟨r, _ | ⟨r', _ | ⟨r'', rs⟩⟩⟩ <;> first | (simp [chE] at h; done) | skip
      simp only [chE, Bool.and_eq_true] at h
      exact se_chain o h.1.1.1.1.1 h.1.1.1.1.2 h.1.1.1.2 (chE_ok a o h.1.1.2) (chE_ok b o h.1.2) (chE_ok c o h.2)
    | _ => simp [chE] at h
  | .ife t a b, sc, fn, Wx, X, e, o, h => by
    cases e <;> first | (simp [chE] at h; done) | skip
    simp only [chE, Bool.and_eq_true] at h
    exact se_ife (chC_ok t o h.1.1) (chE_ok a o h.1.2) (chE_ok b o h.2)
  | .tup es, sc, fn, Wx, X, e, o, h => by
    cases e <;> first | (simp [chE] at h; done) | skip
    simp only [chE] at h
    exact se_tup (pa_ofN (chA_ok es o h))
  | .lst m es, sc, fn, Wx, X, e, o, h => by
    cases e <;> first | (simp [chE] at h; done) | skip
    simp only [chE] at h
    exact se_lst (pa_ofN (chA_ok es o h))
  | .slc m a lo hi, sc, fn, Wx, X, e, o, h => by
    cases e with
    | Subscript x s pos =>
      cases s with
      | Slice l u st p2 =>
        cases st with
        | none =>
          simp only [chE, Bool.and_eq_true] at h
          exact se_slc o (chE_ok a o h.1.1) (chO_ok lo o h.1.2) (chO_ok hi o h.2)
        | some _ => simp [chE] at h
      | _ => simp [chE] at h
    | _ => simp [chE] at h
  | .attr a k j, sc, fn, Wx, X, e, o, h => by
    cases e <;> first | (simp [chE] at h; done) | skip
    simp only [chE, Bool.and_eq_true, decide_eq_true_eq] at h
    exact se_attr o h.1.1.1.1 h.1.1.1.2 h.1.1.2 h.1.2 (chE_ok a o h.2)
  | .call f es, sc, fn, Wx, X, e, o, h => by
    cases e with
    | Call g vs kws pos =>
      cases g with
      | Name x p =>
        rcases kws with _ | ⟨_, _⟩
        · simp only [chE, Bool.and_eq_true, decide_eq_true_eq] at h
          obtain ⟨⟨⟨⟨h1, h2⟩, h3⟩, h4⟩, h5⟩ := h
          have hk := kFn_of h2
          cases vs with
          | nil =>
            cases es with
            | nil => exact se_call0 o h1 hk h3 h4.symm
            | cons _ _ => simp [chA] at h5
          | cons v vs =>
            refine se_call o h1 hk h3 (chA_star h5) ?_
            rw [← h4]
            exact chA_ok es o h5
        · simp [chE] at h
      | _ => simp [chE] at h
    | _ => simp [chE] at h
  | .meth f a es, sc, fn, Wx, X, e, o, h => by
    cases e with
    | Call g vs kws pos =>
      cases g with
      | Attribute x m ap =>
        rcases kws with _ | ⟨_, _⟩
        · simp only [chE, Bool.and_eq_true, decide_eq_true_eq] at h
          obtain ⟨⟨⟨⟨⟨⟨⟨h1, h2⟩, h3⟩, h4⟩, h5⟩, h6⟩, h7⟩, h8⟩ := h
          obtain ⟨j, hk⟩ := kMth_of h2
          cases vs with
          | nil =>
            cases es with
            | nil => exact se_meth0 o h1 hk h3 h5 (by rw [← h6]; rfl) (chE_ok a o h7)
            | cons _ _ => simp [chA] at h8
          | cons v vs => exact se_meth o h1 hk (chA_star h8) h3 h4 h5 h6 (chE_ok a o h7) (chA_ok es o h8)
        · simp [chE] at h
      | _ => simp [chE] at h
    | _ => simp [chE] at h
  | .make k f es, sc, fn, Wx, X, e, o, h => by
    cases e with
    | Call g vs kws pos =>
      cases g with
      | Name x p =>
        rcases vs with _ | ⟨v, vs⟩
        · simp [chE] at h
        rcases kws with _ | ⟨_, _⟩
        · simp only [chE, Bool.and_eq_true, decide_eq_true_eq] at h
          obtain ⟨⟨⟨⟨h1, h2⟩, h3⟩, h4⟩, h5⟩ := h
          exact se_make o h1 (kIni_of h2) h3 (chA_star h5) h4 (chA_ok es o h5)
        · simp [chE] at h
      | _ => simp [chE] at h
    | _ => simp [chE] at h
  | .bi op m es, sc, fn, Wx, X, e, o, h => by
    cases e with
    | Call g vs kws pos =>
      cases g with
      | Name x p =>
        rcases vs with _ | ⟨v, vs⟩
        · simp [chE] at h
        rcases kws with _ | ⟨_, _⟩
        · simp only [chE, Bool.and_eq_true] at h
          obtain ⟨⟨⟨h1, h2⟩, h3⟩, h5⟩ := h
          have e := eq_of_beq h2
          subst e
          exact se_bi o h1 h3 (chA_star h5) (pa_ofN (chA_ok es o h5))
        · simp [chE] at h
      | _ => simp [chE] at h
    | _ => simp [chE] at h
  | .mt op a es, sc, fn, Wx, X, e, o, h => by
    cases e with
    | Call g vs kws pos =>
      cases g with
      | Attribute x m ap =>
        rcases kws with _ | ⟨_, _⟩
        · simp only [chE, Bool.and_eq_true] at h
          obtain ⟨⟨⟨⟨h1, h2⟩, h3⟩, h4⟩, h5⟩ := h
          have e := eq_of_beq h1
          subst e
          cases vs with
          | nil =>
            simp only [Bool.and_eq_true] at h5
            have e2 := isNil_of h5.2
            subst e2
            exact se_mt0 o h5.1 h2 h3 (chE_ok a o h4)
          | cons v vs =>
            simp only [Bool.and_eq_true, decide_eq_true_eq] at h5
            exact se_mt o h5.1.1 h2 (chA_star h5.2) h5.1.2 h3 (chE_ok a o h4) (pa_ofN (chA_ok es o h5.2))
        · simp [chE] at h
      | _ => simp [chE] at h
    | _ => simp [chE] at h
  | .isi a ts tp, sc, fn, Wx, X, e, o, h => by
    cases e with
    | Call g vs kws pos =>
      cases g with
      | Name x p =>
        rcases kws with _ | ⟨_, _⟩
        · rcases vs with _ | ⟨e1, _ | ⟨T, _ | ⟨_, _⟩⟩⟩ <;> first | (simp [chE] at h; done) | skip
          simp only [chE, Bool.and_eq_true] at h
          obtain ⟨⟨⟨⟨h1, h2⟩, h3⟩, h4⟩, h5⟩ := h
          have e := eq_of_beq h1
          subst e
          split at h5
          · exact se_isi1 o h2 h3 h5 (chE_ok a o h4)
          · simp only [Bool.and_eq_true, decide_eq_true_eq] at h5
            exact se_isiT o h2 h3 h5.1 h5.2 (chE_ok a o h4)
          · cases h5
        · rcases vs with _ | ⟨e1, _ | ⟨T, _ | ⟨_, _⟩⟩⟩ <;> simp [chE] at h
      | _ => simp [chE] at h
    | _ => simp [chE] at h
  | .comp m keep t it cond el vs, sc, fn, Wx, X, e, o, h => by
    cases e with
    | ListComp elt gs scope pos =>
      simp only [chE] at h
      split at h
      · rename_i tg iter ifs
        simp only [Bool.and_eq_true] at h
        obtain ⟨⟨⟨⟨⟨⟨h1, h2⟩, h3⟩, h4⟩, h5⟩, h6⟩, h7⟩ := h
        exact se_comp o h1 (fun j hj => of_decide_eq_true (List.all_eq_true.mp h2 j hj)) h3 (chI_ok it o h4) (fun X' o' => chT_ok o' t h5) (fun X' o' => chCs_ok cond o' h6) (fun X' o' => chE_ok el o' h7)
      · cases h
    | _ => simp [chE] at h
  | .rev m a, sc, fn, Wx, X, e, o, h => by
    cases e with
    | Subscript x s pos =>
      simp only [chE] at h
      split at h
      · simp only [Bool.and_eq_true] at h
        have e := eq_of_beq h.1
        subst e
        exact se_rev o (chE_ok a o h.2)
      · cases h
    | _ => simp [chE] at h
  | .dct0 m, sc, fn, Wx, X, e, o, h => by
    cases e with
    | Dict ks vs pos =>
      rcases ks with _ | ⟨_, _⟩ <;> rcases vs with _ | ⟨_, _⟩ <;> first | exact se_dct0 | (simp [chE] at h; done)
    | _ => simp [chE] at h
  | .dct1 m tk k v, sc, fn, Wx, X, e, o, h => by
    cases e with
    | Dict ks vs pos =>
      rcases ks with _ | ⟨_ | a, _ | ⟨_, _⟩⟩ <;> first | (simp [chE] at h; done) | skip
      rcases vs with _ | ⟨b, _ | ⟨_, _⟩⟩ <;> first | (simp [chE] at h; done) | skip
      simp only [chE, Bool.and_eq_true] at h
      cases tk with
      | true => exact se_dct1N o (chE_ok k o h.1) (chE_ok v o h.2)
      | false => exact se_dct1K o (chE_ok k o h.1) (chE_ok v o h.2)
    | _ => simp [chE] at h
  | .dct2 m k v k' v', sc, fn, Wx, X, e, o, h => by
    cases e with
    | Dict ks vs pos =>
      rcases ks with _ | ⟨_ | a, _ | ⟨_ | a', _ | ⟨_, _⟩⟩⟩ <;> first | (simp [chE] at h; done) | skip
      rcases vs with _ | ⟨b, _ | ⟨b', _ | ⟨_, _⟩⟩⟩ <;> first | (simp [chE] at h; done) | skip
      simp only [chE, Bool.and_eq_true] at h
      exact se_dct2 o (chE_ok k o h.1.1.1) (chE_ok v o h.1.1.2) (chE_ok k' o h.1.2) (chE_ok v' o h.2)
    | _ => simp [chE] at h
  | .dget a k x, sc, fn, Wx, X, e, o, h => by
    cases e with
    | Call g vs kws pos =>
      cases g with
      | Attribute oe m ap =>
        rcases kws with _ | ⟨_, _⟩ <;> first | (simp [chE] at h; done) | skip
        rcases x with _ | ⟨y, _ | ⟨_, _⟩⟩ <;> rcases vs with _ | ⟨v, _ | ⟨w, _ | ⟨_, _⟩⟩⟩ <;> first | (simp [chE] at h; done) | skip
        · simp only [chE, Bool.and_eq_true] at h
          obtain ⟨⟨⟨⟨h1, h2⟩, h3⟩, h4⟩, h5⟩ := h
          have e1 := eq_of_beq h1
          subst e1
          exact se_dget1 o h2 h5.1 h3 (chE_ok a o h4) (chE_ok k o h5.2)
        · simp only [chE, Bool.and_eq_true] at h
          obtain ⟨⟨⟨⟨h1, h2⟩, h3⟩, h4⟩, h5⟩ := h
          have e1 := eq_of_beq h1
          subst e1
          exact se_dget2 o h2 h5.1.1.1 h5.1.1.2 h3 (chE_ok a o h4) (chE_ok k o h5.1.2) (chE_ok y o h5.2)
      | _ => simp [chE] at h
    | _ => simp [chE] at h
  | .srtI m a, sc, fn, Wx, X, e, o, h => by
    cases e with
    | Call g vs kws pos =>
      cases g with
      | Name x p =>
        rcases kws with _ | ⟨_, _⟩ <;> rcases vs with _ | ⟨v, _ | ⟨_, _⟩⟩ <;> first | (simp [chE] at h; done) | skip
        cases v with
        | Call g2 vs2 kws2 pos2 =>
          cases g2 with
          | Attribute oe m2 ap =>
            rcases kws2 with _ | ⟨_, _⟩ <;> rcases vs2 with _ | ⟨_, _⟩ <;> first | (simp [chE] at h; done) | skip
            simp only [chE, Bool.and_eq_true] at h
            obtain ⟨⟨⟨⟨⟨h1, h2⟩, h3⟩, h4⟩, h5⟩, h6⟩ := h
            have e1 := eq_of_beq h1
            have e2 := eq_of_beq h3
            subst e1 e2
            exact se_srtI o h2 h4 h5 (chE_ok a o h6)
          | _ => simp [chE] at h
        | _ => simp [chE] at h
      | _ => simp [chE] at h
    | _ => simp [chE] at h
  | .rngE m a b, sc, fn, Wx, X, e, o, h => by
    cases e with
    | Call g vs kws pos =>
      cases g with
      | Name x p =>
        rcases kws with _ | ⟨_, _⟩ <;> rcases vs with _ | ⟨v, _ | ⟨_, _⟩⟩ <;> first | (simp [chE] at h; done) | skip
        cases v with
        | Call g2 vs2 kws2 pos2 =>
          cases g2 with
          | Name y p2 =>
            rcases kws2 with _ | ⟨_, _⟩ <;> rcases vs2 with _ | ⟨v1, _ | ⟨v2, _ | ⟨_, _⟩⟩⟩ <;> first | (simp [chE] at h; done) | skip
            simp only [chE, Bool.and_eq_true] at h
            obtain ⟨⟨⟨⟨⟨⟨⟨h1, h2⟩, h3⟩, h4⟩, h5⟩, h6⟩, h7⟩, h8⟩ := h
            have e1 := eq_of_beq h1
            have e2 := eq_of_beq h2
            subst e1 e2
            exact se_rngE o h3 h4 h5 h6 (chE_ok a o h7) (chE_ok b o h8)
          | _ => simp [chE] at h
        | _ => simp [chE] at h
      | _ => simp [chE] at h
    | _ => simp [chE] at h
  | .minV a, sc, fn, Wx, X, e, o, h => by
    cases e with
    | Call g vs kws pos =>
      cases g with
      | Name x p =>
        rcases kws with _ | ⟨_, _⟩ <;> rcases vs with _ | ⟨v, _ | ⟨_, _⟩⟩ <;> first | (simp [chE] at h; done) | skip
        cases v with
        | Call g2 vs2 kws2 pos2 =>
          cases g2 with
          | Attribute oe m2 ap =>
            rcases kws2 with _ | ⟨_, _⟩ <;> rcases vs2 with _ | ⟨_, _⟩ <;> first | (simp [chE] at h; done) | skip
            simp only [chE, Bool.and_eq_true] at h
            obtain ⟨⟨⟨⟨⟨h1, h2⟩, h3⟩, h4⟩, h5⟩, h6⟩ := h
            have e1 := eq_of_beq h1
            have e2 := eq_of_beq h3
            subst e1 e2
            exact se_minV o h2 h4 h5 (chE_ok a o h6)
          | _ => simp [chE] at h
        | _ => simp [chE] at h
      | _ => simp [chE] at h
    | _ => simp [chE] at h
  | .orL a b, sc, fn, Wx, X, e, o, h => by
    cases e with
    | BoolOp p vs pos =>
      rcases vs with _ | ⟨x, _ | ⟨y, _ | ⟨_, _⟩⟩⟩ <;> first | (cases p <;> simp [chE] at h; done) | skip
      cases p with
      | Or =>
        simp only [chE, Bool.and_eq_true] at h
        exact se_orL o (chE_ok a o h.1) (chE_ok b o h.2)
      | _ => simp [chE] at h
    | _ => simp [chE] at h
  | .lenS a, sc, fn, Wx, X, e, o, h => by
    cases e with
    | Call g vs kws pos =>
      cases g with
      | Name x p =>
        rcases kws with _ | ⟨_, _⟩ <;> rcases vs with _ | ⟨v, _ | ⟨_, _⟩⟩ <;> first | (simp [chE] at h; done) | skip
        cases v with
        | Call g2 vs2 kws2 pos2 =>
          cases g2 with
          | Name y p2 =>
            rcases kws2 with _ | ⟨_, _⟩ <;> rcases vs2 with _ | ⟨v2, _ | ⟨_, _⟩⟩ <;> first | (simp [chE] at h; done) | skip
            simp only [chE, Bool.and_eq_true] at h
            obtain ⟨⟨⟨⟨⟨h1, h2⟩, h3⟩, h4⟩, h5⟩, h6⟩ := h
            have e1 := eq_of_beq h1
            subst e1
            have e2 := eq_of_beq h3
            subst e2
            exact se_lenS o h2 h4 h5 (chE_ok a o h6)
          | _ => simp [chE] at h
        | _ => simp [chE] at h
      | _ => simp [chE] at h
    | _ => simp [chE] at h
  | .dupd a b, sc, fn, Wx, X, e, o, h => by
    cases e with
    | Call g vs kws pos =>
      cases g with
      | Attribute oe m ap =>
        rcases kws with _ | ⟨_, _⟩ <;> rcases vs with _ | ⟨v, _ | ⟨_, _⟩⟩ <;> first | (simp [chE] at h; done) | skip
        simp only [chE, Bool.and_eq_true] at h
        obtain ⟨⟨⟨⟨⟨h1, h2⟩, h3⟩, h4⟩, h5⟩, h6⟩ := h
        have e1 := eq_of_beq h1
        subst e1
        exact se_dupd o h2 h4 h3 (chE_ok a o h5) (chE_ok b o h6)
      | _ => simp [chE] at h
    | _ => simp [chE] at h
  | .srtS m a, sc, fn, Wx, X, e, o, h => by
    cases e with
    | Call g vs kws pos =>
      cases g with
      | Name x p =>
        rcases kws with _ | ⟨_, _⟩ <;> rcases vs with _ | ⟨v, _ | ⟨_, _⟩⟩ <;> first | (simp [chE] at h; done) | skip
        cases v with
        | Call g2 vs2 kws2 pos2 =>
          cases g2 with
          | Name y p2 =>
            rcases kws2 with _ | ⟨_, _⟩ <;> rcases vs2 with _ | ⟨v2, _ | ⟨_, _⟩⟩ <;> first | (simp [chE] at h; done) | skip
            simp only [chE, Bool.and_eq_true] at h
            obtain ⟨⟨⟨⟨⟨h1, h2⟩, h3⟩, h4⟩, h5⟩, h6⟩ := h
            have e1 := eq_of_beq h1
            subst e1
            have e2 := eq_of_beq h3
            subst e2
            exact se_srtS o h2 h4 h5 (chE_ok a o h6)
          | _ => simp [chE] at h
        | _ => simp [chE] at h
      | _ => simp [chE] at h
    | _ => simp [chE] at h
  | .dctL m a, sc, fn, Wx, X, e, o, h => by
    cases e with
    | Call g vs kws pos =>
      cases g with
      | Name x p =>
        rcases kws with _ | ⟨_, _⟩ <;> rcases vs with _ | ⟨v, _ | ⟨_, _⟩⟩ <;> first | (simp [chE] at h; done) | skip
        simp only [chE, Bool.and_eq_true] at h
        obtain ⟨⟨⟨h1, h2⟩, h3⟩, h4⟩ := h
        have e1 := eq_of_beq h1
        subst e1
        exact se_dctL o h2 h3 (chE_ok a o h4)
      | _ => simp [chE] at h
    | _ => simp [chE] at h
  | .zipE m a b d, sc, fn, Wx, X, e, o, h => by
    cases e with
    | Call g vs kws pos =>
      cases g with
      | Name x p =>
        rcases kws with _ | ⟨_, _⟩ <;> rcases vs with _ | ⟨v, _ | ⟨_, _⟩⟩ <;> first | (simp [chE] at h; done) | skip
        cases v with
        | Call g2 vs2 kws2 pos2 =>
          cases g2 with
          | Name y p2 =>
            rcases kws2 with _ | ⟨_, _⟩ <;> rcases vs2 with _ | ⟨v1, _ | ⟨v2, _ | ⟨v3, _ | ⟨_, _⟩⟩⟩⟩ <;> first | (simp [chE] at h; done) | skip
            simp only [chE, Bool.and_eq_true] at h
            obtain ⟨⟨⟨⟨⟨⟨⟨⟨⟨h1, h2⟩, h3⟩, h4⟩, h5⟩, h6⟩, h66⟩, h7⟩, h8⟩, h9⟩ := h
            have e1 := eq_of_beq h1
            have e2 := eq_of_beq h2
            subst e1 e2
            exact se_zipE o h3 h4 h5 h6 h66 (chE_ok a o h7) (chE_ok b o h8) (chE_ok d o h9)
          | _ => simp [chE] at h
        | _ => simp [chE] at h
      | _ => simp [chE] at h
    | _ => simp [chE] at h
theorem chA_ok : ∀ (es : FA) {sc : Scope} {fn : Str → Bool} {Wx : WX} {X : Cx} {vs : List Expr}, XOk G I lv Wx sc N fn X → chA N I lv sc fn es vs = true → PA X vs (liftLN G Wx es.len (wpA I es))
  | .nil, sc, fn, Wx, X, [], o, h => sa_nilN
  | .nil, sc, fn, Wx, X, _ :: _, o, h => by simp [chA] at h
  | .cons _ _, sc, fn, Wx, X, [], o, h => by simp [chA] at h
  | .cons e es, sc, fn, Wx, X, v :: vs, o, h => by
    simp only [chA, Bool.and_eq_true] at h
    exact sa_consN h.1.1 (chE_ok e o h.1.2) (chA_ok es o h.2)
theorem chB_ok : ∀ (k : Bool) (es : FA) {sc : Scope} {fn : Str → Bool} {Wx : WX} {X : Cx} {vs : List Expr} {pos : Pos}, XOk G I lv Wx sc N fn X → chB N I lv sc fn es vs = true → PE X (.BoolOp (if k then .And else .Or) vs pos) (lift G Wx (wpBop I k es))
  | k, .nil, sc, fn, Wx, X, vs, pos, o, h => by simp [chB] at h
  | k, .cons e .nil, sc, fn, Wx, X, vs, pos, o, h => by
    rcases vs with _ | ⟨v, _ | ⟨w, vs⟩⟩ <;> first | (simp [chB] at h; done) | skip
    simp only [chB] at h
    exact se_bop1 (chE_ok e o h)
  | k, .cons e (.cons f es), sc, fn, Wx, X, vs, pos, o, h => by
    rcases vs with _ | ⟨v, _ | ⟨w, vs⟩⟩ <;> first | (simp [chB] at h; done) | skip
    simp only [chB, Bool.and_eq_true] at h
    have h1 := chE_ok e o h.1
    have h2 := chB_ok k (.cons f es) (pos := pos) o h.2
    cases k with
    | true => exact se_and h1 h2
    | false => exact se_or h1 h2
theorem chO_ok : ∀ (es : FA) {sc : Scope} {fn : Str → Bool} {Wx : WX} {X : Cx} {v : Option Expr}, XOk G I lv Wx sc N fn X → chO N I lv sc fn es v = true → SO G Wx X v (wpA I es)
  | .nil, sc, fn, Wx, X, none, o, h => so0
  | .nil, sc, fn, Wx, X, some _, o, h => by simp [chO] at h
  | .cons e .nil, sc, fn, Wx, X, none, o, h => by simp [chO] at h
  | .cons e .nil, sc, fn, Wx, X, some v, o, h => by
    simp only [chO] at h
    exact so1 (chE_ok e o h)
  | .cons e (.cons _ _), sc, fn, Wx, X, v, o, h => by cases v <;> simp [chO] at h
theorem chC_ok : ∀ (c : FC) {sc : Scope} {fn : Str → Bool} {Wx : WX} {X : Cx} {e : Expr}, XOk G I lv Wx sc N fn X → chC N I lv sc fn c e = true → PT X e (liftB G Wx (wpC I c))
  | .val f, sc, fn, Wx, X, e, o, h => by
    simp only [chC, Bool.and_eq_true, Bool.or_eq_true] at h
    obtain ⟨h1, h2⟩ := h
    rcases h1 with h1 | ⟨h1, h3⟩
    · exact sc_val h1 (chE_ok f o h2)
    · cases f <;> first | (cases h3; done) | skip
      · rename_i op m a b
        cases e <;> first | (cases h1; done) | skip
        rename_i l ps rs pos
        rcases ps with _ | ⟨p, _ | ⟨p', ps⟩⟩ <;> first | (simp [chE] at h2; done) | skip
        rcases rs with _ | ⟨r, _ | ⟨r', rs⟩⟩ <;> first | (simp [chE] at h2; done) | skip
        simp only [chE, Bool.and_eq_true] at h2
        exact sc_cmp o h2.1.1.1 h2.1.1.2 (chE_ok a o h2.1.2) (chE_ok b o h2.2)
      · rename_i op q a b c
        cases e <;> first | (cases h1; done) | skip
        rename_i l ps rs pos
        rcases ps with _ | ⟨p, _ | ⟨p', _ | ⟨p'', ps⟩⟩⟩ <;> first | (simp [chE] at h2; done) | skip
        rcases rs with _ | ⟨r, _ | ⟨r', _ | ⟨r'', rs⟩⟩⟩ <;> first | (simp [chE] at h2; done) | skip
        simp only [chE, Bool.and_eq_true] at h2
        exact sc_chain o h2.1.1.1.1.1 h2.1.1.1.1.2 h2.1.1.1.2 (chE_ok a o h2.1.1.2) (chE_ok b o h2.1.2) (chE_ok c o h2.2)
  | .not c, sc, fn, Wx, X, e, o, h => by
    cases e with
    | UnaryOp op x p =>
      cases op <;> first | (simp [chC] at h; done) | skip
      simp only [chC] at h
      exact sc_not (chC_ok c o h)
    | _ => simp [chC] at h
  | .bop k cs, sc, fn, Wx, X, e, o, h => by
    cases e with
    | BoolOp p vs pos =>
      simp only [chC, Bool.and_eq_true] at h
      have z := (chCb_ok k cs (pos := pos) o h.2).pt
      have hk := h.1
      unfold bopK at hk
      split at hk
      · exact z
      · exact z
      · cases hk
    | _ => simp [chC] at h
theorem chCb_ok : ∀ (k : Bool) (es : FCs) {sc : Scope} {fn : Str → Bool} {Wx : WX} {X : Cx} {vs : List Expr} {pos : Pos}, XOk G I lv Wx sc N fn X → chCb N I lv sc fn es vs = true → PW X (.BoolOp (if k then .And else .Or) vs pos) (liftB G Wx (wpCb I k es))
  | k, .nil, sc, fn, Wx, X, vs, pos, o, h => by simp [chCb] at h
  | k, .cons e .nil, sc, fn, Wx, X, vs, pos, o, h => by
    rcases vs with _ | ⟨v, _ | ⟨w, vs⟩⟩ <;> first | (simp [chCb] at h; done) | skip
    simp only [chCb] at h
    have h1 := chC_ok e o h
    cases k with
    | true => exact sc_and1 h1
    | false => exact sc_or1 h1
  | k, .cons e (.cons f es), sc, fn, Wx, X, vs, pos, o, h => by
    rcases vs with _ | ⟨v, _ | ⟨w, vs⟩⟩ <;> first | (simp [chCb] at h; done) | skip
    simp only [chCb, Bool.and_eq_true] at h
    have h1 := chC_ok e o h.1
    have h2 := chCb_ok k (.cons f es) (pos := pos) o h.2
    cases k with
    | true => exact sc_and h1 h2
    | false => exact sc_or h1 h2
theorem chCs_ok : ∀ (es : FCs) {sc : Scope} {fn : Str → Bool} {Wx : WX} {X : Cx} {vs : List Expr}, XOk G I lv Wx sc N fn X → chCs N I lv sc fn es vs = true → PTs X vs (liftB G Wx (wpCs I es))
  | .nil, sc, fn, Wx, X, [], o, h => pts0
  | .nil, sc, fn, Wx, X, _ :: _, o, h => by simp [chCs] at h
  | .cons c .nil, sc, fn, Wx, X, vs, o, h => by
    rcases vs with _ | ⟨v, _ | ⟨w, vs⟩⟩ <;> first | (simp [chCs] at h; done) | skip
    simp only [chCs] at h
    exact pts1 (chC_ok c o h)
  | .cons _ (.cons _ _), sc, fn, Wx, X, vs, o, h => by
    rcases vs with _ | ⟨v, _ | ⟨w, vs⟩⟩ <;> simp [chCs] at h
theorem chI_ok : ∀ (it : FI) {sc : Scope} {fn : Str → Bool} {Wx : WX} {X : Cx} {tg e : Expr}, XOk G I lv Wx sc N fn X → chI N I lv sc fn it tg e = true → PI X tg e (liftI G Wx (wpI I it))
  | .ex f, sc, fn, Wx, X, tg, e, o, h => by
    simp only [chI] at h
    exact si_ex o (chE_ok f o h)
  | .rng1 a, sc, fn, Wx, X, tg, e, o, h => by
    cases e with
    | Call g vs kws pos =>
      cases g with
      | Name x p =>
        rcases kws with _ | ⟨_, _⟩ <;> rcases vs with _ | ⟨v, _ | ⟨w, vs⟩⟩ <;> first | (simp [chI] at h; done) | skip
        simp only [chI, Bool.and_eq_true] at h
        have e := eq_of_beq h.1.1.1
        subst e
        exact si_rng1 o h.1.1.2 h.1.2 (chE_ok a o h.2)
      | _ => simp [chI] at h
    | _ => simp [chI] at h
  | .rng2 a b, sc, fn, Wx, X, tg, e, o, h => by
    cases e with
    | Call g vs kws pos =>
      cases g with
      | Name x p =>
        rcases kws with _ | ⟨_, _⟩ <;> rcases vs with _ | ⟨v, _ | ⟨w, _ | ⟨u, vs⟩⟩⟩ <;> first | (simp [chI] at h; done) | skip
        simp only [chI, Bool.and_eq_true] at h
        have e := eq_of_beq h.1.1.1.1.1
        subst e
        exact si_rng2 o h.1.1.1.1.2 h.1.1.1.2 h.1.1.2 (chE_ok a o h.1.2) (chE_ok b o h.2)
      | _ => simp [chI] at h
    | _ => simp [chI] at h
  | .rng3 a b c, sc, fn, Wx, X, tg, e, o, h => by
    cases e with
    | Call g vs kws pos =>
      cases g with
      | Name x p =>
        rcases kws with _ | ⟨_, _⟩ <;> rcases vs with _ | ⟨v, _ | ⟨w, _ | ⟨u, _ | ⟨_, _⟩⟩⟩⟩ <;> first | (simp [chI] at h; done) | skip
        simp only [chI, Bool.and_eq_true] at h
        obtain ⟨⟨⟨⟨⟨⟨⟨h1, h2⟩, h3⟩, h4⟩, h5⟩, h6⟩, h7⟩, h8⟩ := h
        have e := eq_of_beq h1
        subst e
        exact si_rng3 o h2 h3 h4 h5 (chE_ok a o h6) (chE_ok b o h7) (chE_ok c o h8)
      | _ => simp [chI] at h
    | _ => simp [chI] at h
  | .items _, sc, fn, Wx, X, tg, e, o, h => by simp [chI] at h
  | .zip3 a b c, sc, fn, Wx, X, tg, e, o, h => by
    cases tg with
    | Tuple ts k tp =>
      cases e with
      | Call g vs kws pos =>
        cases g with
        | Name x p =>
          rcases kws with _ | ⟨_, _⟩ <;> rcases vs with _ | ⟨v, _ | ⟨w, _ | ⟨u, _ | ⟨_, _⟩⟩⟩⟩ <;> first | (simp [chI] at h; done) | skip
          simp only [chI, Bool.and_eq_true] at h
          obtain ⟨⟨⟨⟨⟨⟨⟨h1, h2⟩, h3⟩, h4⟩, h5⟩, h6⟩, h7⟩, h8⟩ := h
          have e := eq_of_beq h1
          subst e
          exact si_zip3 o h2 h3 h4 h5 (chE_ok a o h6) (chE_ok b o h7) (chE_ok c o h8)
        | _ => simp [chI] at h
      | _ => simp [chI] at h
    | _ => simp [chI] at h
  | .enum a, sc, fn, Wx, X, tg, e, o, h => by
    cases tg with
    | Tuple ts k tp =>
      cases e with
      | Call g vs kws pos =>
        cases g with
        | Name x p =>
          rcases kws with _ | ⟨_, _⟩ <;> rcases vs with _ | ⟨v, _ | ⟨w, vs⟩⟩ <;> first | (simp [chI] at h; done) | skip
          simp only [chI, Bool.and_eq_true] at h
          have e := eq_of_beq h.1.1.1
          subst e
          exact si_enum o h.1.1.2 h.1.2 (chE_ok a o h.2)
        | _ => simp [chI] at h
      | _ => simp [chI] at h
    | _ => simp [chI] at h
  | .zip a b, sc, fn, Wx, X, tg, e, o, h => by
    cases tg with
    | Tuple ts k tp =>
      cases e with
      | Call g vs kws pos =>
        cases g with
        | Name x p =>
          rcases kws with _ | ⟨_, _⟩ <;> rcases vs with _ | ⟨v, _ | ⟨w, _ | ⟨u, vs⟩⟩⟩ <;> first | (simp [chI] at h; done) | skip
          simp only [chI, Bool.and_eq_true] at h
          have e := eq_of_beq h.1.1.1.1.1
          subst e
          exact si_zip o h.1.1.1.1.2 h.1.1.1.2 h.1.1.2 (chE_ok a o h.1.2) (chE_ok b o h.2)
        | _ => simp [chI] at h
      | _ => simp [chI] at h
    | _ => simp [chI] at h
end
end
end F

namespace F
open PySem PySem.Spec L2
section
variable (N : List Str) (I : CI) (lv : Nat)
def noArgs : FA → Bool
  | .nil => true
  | _ => false
mutual
def chS (sc : Scope) (fn : Str → Bool) : FS → Stmt → Bool
  | .dead, _ => true
  | .expr f, .Expr e _ => notComp e && chE N I lv sc fn f e
  | .set t f, .Assign tgs e _ => (match t, tgs with
    | .nm i, [.Name x _] => decide (N[i]? = some x) && locB sc fn x && (notComp e || cellV sc x)
    | .tp ts, [.Tuple es k p] => chT N sc fn (.tp ts) (.Tuple es k p) && tupOk e
    | _, _ => false) && chE N I lv sc fn f e
  | .setC i f, .Assign tgs e _ => (match tgs, f, e with
    | [.Name y py], .comp m keep t it cond el vs, .ListComp elt [⟨tg, iter, ifs, 0⟩] scope lp => decide (N[i]? = some y) && swC N sc scope y py.line lp.line && blkC N sc scope vs && (ftSl t).all (fun j => decide (j ∈ vs.map (·.2))) && notSet iter && chI N I lv sc fn it tg iter &&
        chT N (relS scope sc) (cellB scope) t tg && chCs N I lv (relS scope sc) (cellB scope) cond ifs && chE N I lv (relS scope sc) (cellB scope) el elt
    | _, _, _ => false)
  | .par i j a b, .Assign tgs e _ => (match tgs, e with
    | [.Tuple ts _ _], .Tuple [x, y] _ _ => parB sc N i j ts [x, y] && chE N I lv sc fn a x && chE N I lv sc fn b y
    | _, _ => false)
  | .aug i op m f, .AugAssign (.Name x _) pp e _ => decide (N[i]? = some x) && locB sc fn x && augT op pp && chE N I lv sc fn f e
  | .setI o i v, .Assign tgs ve _ => match tgs with
    | [.Subscript oe ie _] => notSlice ie && chE N I lv sc fn v ve && chE N I lv sc fn o oe && chE N I lv sc fn i ie
    | _ => false
  | .trunc o i v, .Assign tgs ve _ => match tgs with
    | [.Subscript oe (.Slice (some ie) none none _) _] => chE N I lv sc fn v ve && chE N I lv sc fn o oe && chE N I lv sc fn i ie
    | _ => false
  | .augI op o i v, .AugAssign (.Subscript oe ie _) pp ve _ => notSlice ie && augT op pp && chE N I lv sc fn v ve && chE N I lv sc fn o oe && chE N I lv sc fn i ie
  | .setA a k j v, .Assign tgs ve _ => match tgs with
    | [.Attribute oe f _] => decide (k < I.nk) && decide ((I.flds k)[j]? = some f) && decide ((I.flds k).Nodup) && decide ((I.flds k).length ≤ 999) && chE N I lv sc fn v ve && chE N I lv sc fn a oe
    | _ => false
  | .ifs t a b, .If e p q _ => chC N I lv sc fn t e && chSs sc fn a p && chSs sc fn b q
  | .for_ _ t it b, .For tg iter body [] _ => notSet iter && chI N I lv sc fn it tg iter && chT N sc fn t tg && chSs sc fn b body
  | .while_ t b, .While e body [] _ => chC N I lv sc fn t e && chSs sc fn b body
  | .ret f, .Return (some e) _ => chE N I lv sc fn f e
  | .retN, .Return none _ => true
  | .rais k _ es, .Raise r none _ => (match r with
    | some (.Call (.Name x _) [e] [] _) => chRais lv I sc k es x e && chA N I lv sc fn es [e]
    | some (.Call (.Name x _) [] [] _) => decide (k < I.ne) && (decide (I.ename k = x) && (glB sc x && (decide ((I.exf k).length = 0) && noArgs es)))
    | _ => false)
  | .tryM b cs, .Try body hds [] [] _ => !hds.isEmpty && (chCls N I sc cs hds && chSs sc fn b body)
  | .try_ b i k0 hs, .Try body hds [] [] _ => chTry N I sc i k0 hs hds && chSs sc fn b body
  | .brk, .Break _ => true
  | .cnt, .Continue _ => true
  | .pass, .Pass _ => true
  | _, _ => false
def chSs (sc : Scope) (fn : Str → Bool) : FSs → List Stmt → Bool
  | .nil, [] => true
  | .cons (.frz _) fs, ss => chSs sc fn fs ss
  | .cons (.forget _) fs, ss => chSs sc fn fs ss
  | .cons (.cln _) fs, ss => chSs sc fn fs ss
  | .cons .clnA fs, ss => chSs sc fn fs ss
  | .cons s fs, t :: ss => chS sc fn s t && chSs sc fn fs ss
  | _, _ => false
end
end

section
variable {G : GI} {I : CI} {lv : Nat} {N : List Str} {np : Nat}
theorem pget_list {X : Cx} : PGet X (getV X.K) := by
  intro pins s σ H x y v u Q I rx ry h
  obtain ⟨p, xs, i, z, rfl, rfl, hH, he, q⟩ := h
  cases rx
  obtain ⟨t, rfl⟩ := ry
  obtain ⟨its, r, pl, hz⟩ := I.list (SqL.of hH)
  obtain ⟨j, h1, h2, h3, h4, h5⟩ := atI_get he
  obtain ⟨w, ew, rw'⟩ := r.get h2
  have hl := r.length
  have hn := line63
  have fin : EP X pins σ Q w s := ⟨z, H, I, rw', q⟩
  by_cases h0 : 0 ≤ i
  · have hj : i.toNat = j := by
      rw [seqIndex_of h0 h5] at h1
      exact Option.some.inj h1
    exact wpAny_getItem_list pl.isList h0 (by omega) (by rw [hj]; simpa using ew) fin
  · have hj : (i + (its.toArray.size : Int)).toNat = j := by
      rw [seqIndex_neg (by omega) h4] at h1
      rw [List.size_toArray, ← hl]
      exact Option.some.inj h1
    exact wpAny_getItem_list_neg (Q := fun r s' => EP X pins σ Q r s') pl.isList (by omega) (by rw [List.size_toArray] <;> omega) (by omega) (by rw [hj]; simpa using ew) fin
mutual
theorem chS_ok {sc : Scope} {fn : Str → Bool} {Wx : WX} {X : Cx} (o : XOk G I lv Wx sc N fn X) (po : PassesOwn (model X.prog X.w) X.A X.env X.xe) (st : X.stack = X.env :: X.outer ∧ X.env.frame = some X.env.locals) : ∀ (f : FS) {np : Nat} {s : Stmt}, chS N I lv sc fn f s = true → PS X s (liftS G Wx np (wpS I f))
  | .dead, np, s, h => ss_dead
  | .expr f, np, s, h => by
    cases s <;> first | (simp [chS] at h; done) | skip
    simp only [chS, Bool.and_eq_true] at h
    exact ss_expr h.1 (chE_ok f o h.2)
  | .set t f, np, s, h => by
    cases s <;> first | (simp [chS] at h; done) | skip
    simp only [chS, Bool.and_eq_true] at h
    obtain ⟨h1, h2⟩ := h
    split at h1
    · simp only [Bool.and_eq_true, decide_eq_true_eq] at h1
      exact ss_setN o h1.1.1 h1.1.2 h1.2 (chE_ok f o h2)
    · rw [Bool.and_eq_true] at h1
      exact ss_setT o (chT_ok o _ h1.1) h1.2 (chE_ok f o h2)
    · cases h1
  | .setC i f, np, s, h => by
    cases s <;> first | (simp [chS] at h; done) | skip
    simp only [chS] at h
    split at h
    · simp only [Bool.and_eq_true, decide_eq_true_eq] at h
      obtain ⟨⟨⟨⟨⟨⟨⟨⟨h0, h8⟩, h1⟩, h2⟩, h3⟩, h4⟩, h5⟩, h6⟩, h7⟩ := h
      exact ss_setCo (ss_setC o h0 h8 h1 (fun j hj => of_decide_eq_true (List.all_eq_true.mp h2 j hj)) h3 (chI_ok _ o h4) (fun X' o' => chT_ok o' _ h5) (fun X' o' => chCs_ok _ o' h6) (fun X' o' => chE_ok _ o' h7))
    · cases h
  | .par i j a b, np, s, h => by
    cases s <;> first | (simp [chS] at h; done) | skip
    simp only [chS] at h
    split at h
    · simp only [Bool.and_eq_true] at h
      exact ss_par o h.1.1 (fun z hz => by simp at hz; subst hz; exact chE_ok a o h.1.2) (fun z hz => by simp at hz; subst hz; exact chE_ok b o h.2)
    · cases h
  | .aug i op m f, np, s, h => by
    cases s <;> first | (simp [chS] at h; done) | skip
    rename_i tg pp e pos
    cases tg <;> first | (simp [chS] at h; done) | skip
    simp only [chS, Bool.and_eq_true, decide_eq_true_eq] at h
    exact ss_aug o h.1.1.1 h.1.1.2 h.1.2 (chE_ok f o h.2)
  | .setI oo i v, np, s, h => by
    cases s <;> first | (simp [chS] at h; done) | skip
    simp only [chS] at h
    split at h
    · simp only [Bool.and_eq_true] at h
      exact ss_setI o (chE_ok v o h.1.1.2) (chE_ok oo o h.1.2) (chE_ok i o h.2) h.1.1.1
    · cases h
  | .trunc oo i v, np, s, h => by
    cases s <;> first | (simp [chS] at h; done) | skip
    simp only [chS] at h
    split at h
    · simp only [Bool.and_eq_true] at h
      exact ss_trunc o (chE_ok v o h.1.1) (chE_ok oo o h.1.2) (chE_ok i o h.2)
    · cases h
  | .augI op oo i v, np, s, h => by
    cases s <;> first | (simp [chS] at h; done) | skip
    rename_i tg pp e pos
    cases tg <;> first | (simp [chS] at h; done) | skip
    simp only [chS, Bool.and_eq_true] at h
    exact ss_augI o pget_list h.1.1.1.2 (chE_ok oo o h.1.2) (chE_ok i o h.2) (chE_ok v o h.1.1.2) h.1.1.1.1
  | .setA a k j v, np, s, h => by
    cases s <;> first | (simp [chS] at h; done) | skip
    simp only [chS] at h
    split at h
    · simp only [Bool.and_eq_true, decide_eq_true_eq] at h
      exact ss_setA o h.1.1.1.1.1 h.1.1.1.1.2 h.1.1.1.2 h.1.1.2 (chE_ok v o h.1.2) (chE_ok a o h.2)
    · cases h
  | .augA _ _ _ _ _, np, s, h => by simp [chS] at h
  | .ifs t a b, np, s, h => by
    cases s <;> first | (simp [chS] at h; done) | skip
    simp only [chS, Bool.and_eq_true] at h
    exact ss_if (chC_ok t o h.1.1) (chSs_ok o po st a h.1.2) (chSs_ok o po st b h.2)
  | .for_ keep t it b, np, s, h => by
    cases s <;> first | (simp [chS] at h; done) | skip
    rename_i tg iter body orelse pos
    rcases orelse with _ | ⟨_, _⟩ <;> first | (simp [chS] at h; done) | skip
    simp only [chS, Bool.and_eq_true] at h
    exact ss_for o po h.1.1.1 (chI_ok it o h.1.1.2) (chT_ok o t h.1.2) (fun n => chSs_ok o po st b h.2)
  | .while_ t b, np, s, h => by
    cases s <;> first | (simp [chS] at h; done) | skip
    rename_i e body orelse pos
    rcases orelse with _ | ⟨_, _⟩ <;> first | (simp [chS] at h; done) | skip
    simp only [chS, Bool.and_eq_true] at h
    exact ss_while o po (chC_ok t o h.1) (chSs_ok o po st b h.2)
  | .rais k g es, np, s, h => by
    cases s <;> first | (simp [chS] at h; done) | skip
    rename_i r cause pos
    cases cause <;> first | (simp [chS] at h; done) | skip
    simp only [chS] at h
    split at h
    · rename_i x p e pos2
      unfold chRais at h
      simp only [Bool.and_eq_true, decide_eq_true_eq] at h
      obtain ⟨⟨h1, h2, h3, h4, h5, h6, h7⟩, h8⟩ := h
      obtain ⟨f, hf⟩ : ∃ f, I.exf k = [f] := List.length_eq_one_iff.mp h5
      have z := chA_ok es o h8
      rw [h6] at z
      exact ss_rais o h1 h2 h3 h4 hf h7 z
    · rename_i x p pos2
      simp only [Bool.and_eq_true, decide_eq_true_eq] at h
      obtain ⟨h1, h2, h3, h4, h5⟩ := h
      have ee : es = .nil := by
        cases es with
        | nil => rfl
        | _ => cases h5
      subst ee
      exact ss_rais0 o h1 h2 h3 (List.length_eq_zero_iff.mp h4)
    · cases h
  | .tryM b cs, np, s, h => by
    cases s <;> first | (simp [chS] at h; done) | skip
    rename_i body hds orelse fin pos
    rcases orelse with _ | ⟨_, _⟩ <;> first | (simp [chS] at h; done) | skip
    rcases fin with _ | ⟨_, _⟩ <;> first | (simp [chS] at h; done) | skip
    simp only [chS, Bool.and_eq_true] at h
    obtain ⟨h1, h2, hb⟩ := h
    exact ss_tryM o st.1 st.2 (by
      intro z
      rw [z] at h1
      cases h1) h2 fun W pn xe o' po' => chSs_ok (X := X.tr pn xe) o' po' st b hb
  | .try_ b i k0 hs, np, s, h => by
    cases s <;> first | (simp [chS] at h; done) | skip
    rename_i body hds orelse fin pos
    rcases orelse with _ | ⟨_, _⟩ <;> first | (simp [chS] at h; done) | skip
    rcases fin with _ | ⟨_, _⟩ <;> first | (simp [chS] at h; done) | skip
    simp only [chS, Bool.and_eq_true] at h
    obtain ⟨h, hb⟩ := h
    unfold chTry at h
    split at h
    · rename_i y p n b0 suite p2
      simp only [Bool.and_eq_true, decide_eq_true_eq] at h
      obtain ⟨h1, h2, h3, h5, h6, h7, h8⟩ := h
      exact ss_try o st.1 st.2 h1 h2 h3 h5 h6 h7 h8 fun W pn xe o' po' => chSs_ok (X := X.tr pn xe) o' po' st b hb
    · cases h
  | .ret f, np, s, h => by
    cases s <;> first | (simp [chS] at h; done) | skip
    rename_i v pos
    cases v <;> first | (simp [chS] at h; done) | skip
    simp only [chS] at h
    exact ss_ret (chE_ok f o h)
  | .retN, np, s, h => by
    cases s <;> first | (simp [chS] at h; done) | skip
    rename_i v pos
    cases v <;> first | (simp [chS] at h; done) | skip
    exact ss_retN
  | .brk, np, s, h => by
    cases s <;> first | (simp [chS] at h; done) | skip
    exact ss_brk
  | .cnt, np, s, h => by
    cases s <;> first | (simp [chS] at h; done) | skip
    exact ss_cnt
  | .pass, np, s, h => by
    cases s <;> first | (simp [chS] at h; done) | skip
    exact ss_pass
  | .frz _, np, s, h => by simp [chS] at h
  | .forget _, np, s, h => by simp [chS] at h
  | .cln _, np, s, h => by simp [chS] at h
  | .clnA, np, s, h => by simp [chS] at h
theorem chSs_ok {sc : Scope} {fn : Str → Bool} {Wx : WX} {X : Cx} (o : XOk G I lv Wx sc N fn X) (po : PassesOwn (model X.prog X.w) X.A X.env X.xe) (st : X.stack = X.env :: X.outer ∧ X.env.frame = some X.env.locals) : ∀ (f : FSs) {np : Nat} {ss : List Stmt}, chSs N I lv sc fn f ss = true → PSs X ss (liftS G Wx np (wpSs I f))
  | .nil, np, [], h => ss_nil
  | .nil, np, _ :: _, h => by simp [chSs] at h
  | .cons s fs, np, ss, h => by
    cases s with
    | frz i =>
      simp only [chSs] at h
      exact ss_frz o (chSs_ok o po st fs h)
    | cln i =>
      simp only [chSs] at h
      exact ss_cln o (chSs_ok o po st fs h)
    | clnA =>
      simp only [chSs] at h
      exact ss_clnA o (chSs_ok o po st fs h)
    | forget i =>
      simp only [chSs] at h
      exact ss_forget (chSs_ok o po st fs h)
    | _ =>
      cases ss with
      | nil => simp [chSs] at h
      | cons t ss =>
        simp only [chSs, Bool.and_eq_true] at h
        exact ss_cons (chS_ok o po st _ h.1) (chSs_ok o po st fs h.2)
end
end
end F

namespace F
open PySem PySem.Spec L2
section
variable {G : GI} {I : CI} {lv : Nat} {N ps : List Str} {P : Program} {w : World} {base : Heap}
theorem DenL.mapF {W W' : Wd} {f : D → D} (h : ∀ {v : V} {d : D}, Den G W v d → Den G W' v (f d)) : ∀ {vs : List V} {ds : List D}, DenL G W vs ds → DenL G W' vs (ds.map f)
  | _, _, .nil => .nil
  | _, _, .cons r t => .cons (h r) (DenL.mapF h t)
theorem envOk_start {W : Wd} {vs : List V} {ds : List D} (h : DenL G W vs ds) (hl : vs.length ≤ N.length) : EnvOk G W (L2.start N vs) (ds.map some ++ List.replicate (N.length - ds.length) none) := by
  have e := h.length
  refine ⟨by simp [L2.start, e], fun i d hd => ?_⟩
  by_cases hi : i < ds.length
  · rw [List.getElem?_append_left (by rw [List.length_map]; exact hi), List.getElem?_map] at hd
    obtain ⟨d0, h1, h2⟩ := Option.map_eq_some_iff.mp hd
    cases h2
    obtain ⟨v, hv, dv⟩ := h.get h1
    refine ⟨v, ?_, dv⟩
    unfold L2.start
    rw [List.getElem?_append_left (by rw [List.length_map, e]; exact hi), List.getElem?_map, hv]
    rfl
  · rw [List.getElem?_append_right (by rw [List.length_map]; omega), List.getElem?_replicate] at hd
    split at hd <;> cases hd
mutual
theorem den_lt {W : Wd} : ∀ {v : V} {d : D}, Den G W v d → d.all (fun j => decide (j < W.as.length)) = true
  | _, _, .non => rfl
  | _, _, .bl => rfl
  | _, _, .int => rfl
  | _, _, .str => rfl
  | _, _, .ty => rfl
  | _, _, .ref => rfl
  | _, _, .tup _ t => by simp only [D.all]; exact denL_lt t
  | _, _, .lst _ t => by simp only [D.all]; exact denL_lt t
  | _, _, .scr _ t => by simp only [D.all]; exact denL_lt t
  | _, _, .dctK _ _ _ t u => by simp only [D.all, Bool.and_eq_true]; exact ⟨denL_lt t, denL_lt u⟩
  | _, _, .obj _ _ _ t => by simp only [D.all]; exact denL_lt t
  | _, _, .cell h => by simp only [D.all]; exact decide_eq_true (List.getElem?_eq_some_iff.mp h).1
theorem denL_lt {W : Wd} : ∀ {v : List V} {d : List D}, DenL G W v d → D.allL (fun j => decide (j < W.as.length)) d = true
  | _, _, .nil => rfl
  | _, _, .cons r t => by simp only [D.allL, Bool.and_eq_true]; exact ⟨den_lt r, denL_lt t⟩
end
/-- no cell names one that is not there -/
def Wfc (c : Cs) : Prop := ∀ x ∈ c, x.all (fun j => decide (j < c.length)) = true
theorem ok_wfc {W : Wd} {c : Cs} (ok : Ok G W c) : Wfc c := by
  intro x hx
  obtain ⟨n, hn⟩ := List.mem_iff_getElem?.mp hx
  obtain ⟨a, ha, ca⟩ := ok.atC hn
  rw [← ok.len]
  cases x with
  | lst ds => obtain ⟨vs, _, q⟩ := ca; exact denL_lt q
  | dct ks ds => obtain ⟨kvs, _, _, q1, q2⟩ := ca; simp only [Cont.all, Bool.and_eq_true]; exact ⟨denL_lt q1, denL_lt q2⟩
  | obj k fs => obtain ⟨dx, gs, _, _, q⟩ := ca; exact denL_lt q
theorem fn_okF {x qual : Str} {st : Stmt} {f : Addr} {fd : FuncData} (F : FunD G.K x qual (defArgs st) (defBody st) (defScope st) [] [] f fd) (S : FnScope N ps (defScope st)) (hg : GOk G I lv P w base) {body : FSs} (hc : chSs N I lv (defScope st) (fun _ => true) body (defBody st) = true)
    {phi : Phi} (hphi : ∀ ds c Q X, ds.length = ps.length → Wfc c → phi ds c Q X → wpDef I N.length body ds c Q X) : FnOk P w G.K G.mg base (L2.CX P w) (lv + 2) f fd ps (spF G ps.length phi) := by
  have hpl : ps.length ≤ N.length := by have := congrArg List.length S.pre; rw [List.length_take] at this; omega
  refine F.ok S (fun vs H Q E h => ?_) fun cdv A outer s H vs Q E hr h => ?_
  · obtain ⟨W, c, ds, Q0, X0, e, ok, dn, hl, _⟩ := h
    rw [dn.length, hl]
  · obtain ⟨W, c, ds, Q0, X0, rfl, ok, dn, hl, hp, q, xq⟩ := h
    let X : Cx := cxOf (L2.CX P w) P w G.K G.mg base N qual (defScope st) f cdv A outer s W.H E
    have o : XOk G I lv (fun cls d _ H => E cls d H) (defScope st) N (fun _ => true) X := ⟨rfl, rfl, rfl, S.nd, rfl, rfl, hr, takes_of rfl rfl rfl rfl, fun _ _ => rfl, hg⟩
    have po : PassesOwn (model X.prog X.w) X.A X.env X.xe := passes_of rfl
    refine ⟨liftS G (fun cls d _ H => E cls d H) c.length (wpSs I body), chSs_ok o po ⟨rfl, rfl⟩ body hc, ?_⟩
    have hw := hphi ds c Q0 X0 hl (ok_wfc ok) hp
    refine ⟨W, c, _, _, _, rfl, Nat.le_refl _, ok, envOk_start dn (by rw [dn.length, hl]; exact hpl), hw, ⟨fun σ' H' ⟨W1, c1, env1, e1, x1, ok1, eo1, is, k1⟩ => ?_, fun v H' ⟨W1, c1, d1, e1, x1, ok1, dn1, is, k1⟩ => ?_, fun σ' H' ⟨_, _, _, _, _, _, _, k⟩ => k.elim, fun σ' H' ⟨_, _, _, _, _, _, _, k⟩ => k.elim, fun cls dd σ' H' ⟨W1, c1, env1, k, fs, e1, x1, ok1, eo1, ec, ed, k1⟩ => ?_⟩⟩
    · obtain ⟨W2, c2, d2, e2, x2, ok2, dn2, h2⟩ := retF_ok (np := c.length) hg.flds is ok1 (by rw [← ok1.len]; exact x1.le) (.non (G := G) (W := W1)) k1
      exact q _ _ ⟨W2, c2, d2, e2.trans e1, FrS.ext (by rw [ok.len]; exact x1.trans x2), ok2, dn2, h2⟩
    · obtain ⟨W2, c2, d2, e2, x2, ok2, dn2, h2⟩ := retF_ok (np := c.length) hg.flds is ok1 (by rw [← ok1.len]; exact x1.le) dn1 k1
      exact q _ _ ⟨W2, c2, d2, e2.trans e1, FrS.ext (by rw [ok.len]; exact x1.trans x2), ok2, dn2, h2⟩
    · obtain ⟨W2, g, c2, e2, x2, ok2, l2, d2, h2⟩ := clean_ok (np := c.length) hg.flds ok1 (by rw [← ok1.len]; exact x1.le) k1
      refine xq _ _ _ ⟨W2, c2, k, _, e2.trans e1, FrS.ext (by rw [ok.len]; exact x1.trans x2), ok2, ec, ?_, h2⟩
      rcases ed with ed | ⟨d, gs, e3, f3, e4, e5, e6⟩
      · exact .inl ⟨ed.1, ed.2.1, by rw [ed.2.2]; rfl⟩
      · exact .inr ⟨d, gs, e3, x2.fz d f3, x2.keep d _ e4 (ok1.fz d f3), e5, DenL.mapF d2 e6⟩
end
end F

namespace F
open PySem PySem.Spec L2

structure DefT where
  kind : FK
  st : Stmt
  qual : Str
  N : List Str
  ps : List Str
  body : FSs
/-- an exception's class: its name, its fields (none or one), the classes it is one of, its __init__ -/
structure ExT where
  name : Str
  flds : List Str
  sup : List Nat
  qual : Str
  y : Str
  st : Stmt
structure TabT where
  defs : List DefT
  consts : List (Str × Int)
  classes : List (Str × List Str)
  excs : List ExT
def TabT.ename (T : TabT) (k : Nat) : Str := ((T.excs[k]?).map (·.name)).getD ""
def TabT.exf (T : TabT) (k : Nat) : List Str := ((T.excs[k]?).map (·.flds)).getD []
def TabT.esub (T : TabT) (k j : Nat) : Bool := ((T.excs[k]?).map fun e => decide (j ∈ e.sup)).getD false
def ExT.has (e : ExT) : Bool := e.flds.length == 1
def ExT.dd (e : ExT) : He.DefD := ⟨(e.name, some "__init__"), "__init__", e.qual, defArgs e.st, defBody e.st, defScope e.st, [], []⟩
def TabT.inits (T : TabT) : List He.DefD := (T.excs.filter ExT.has).map ExT.dd
/-- a def that tells whole numbers -/
def DefT.whole (d : DefT) : Bool := match d.N with
  | [y] => decide (d.ps = [y]) && (whB y (defBody d.st) && ((["isinstance", "int", "bool"] : List Str).all (fun z => decide ((defScope d.st).names.lookup z = some .globalImplicit)) && (visB (defScope d.st) y && dbgB y)))
  | _ => false
def TabT.kname (T : TabT) (k : Nat) : Str := ((T.classes[k]?).map (·.1)).getD ""
def TabT.flds (T : TabT) (k : Nat) : List Str := ((T.classes[k]?).map (·.2)).getD []
def TabT.ci (T : TabT) (phi : Nat → Phi) : CI where
  kind := fun f => ((T.defs[f]?).map (·.kind)).getD (.fn "")
  np := fun f => ((T.defs[f]?).map fun d => d.ps.length).getD 0
  phi := phi
  nc := T.consts.length
  cname := fun k => ((T.consts[k]?).map (·.1)).getD ""
  cval := fun k => ((T.consts[k]?).map (·.2)).getD 0
  nk := T.classes.length
  kname := T.kname
  flds := T.flds
  ne := T.excs.length
  ename := T.ename
  exf := T.exf
  esub := T.esub
  whole := fun f => ((T.defs[f]?).map DefT.whole).getD false
def FK.nm : FK → Str
  | .fn x => x
  | .mth _ x => x
  | .ini _ _ => "__init__"
def DefT.at_ (T : TabT) (d : DefT) : Str × Option Str := match d.kind with
  | .fn x => (x, none)
  | .mth k x => (T.kname k, some x)
  | .ini k _ => (T.kname k, some "__init__")
def DefT.dd (T : TabT) (d : DefT) : He.DefD := ⟨d.at_ T, d.kind.nm, d.qual, defArgs d.st, defBody d.st, defScope d.st, [], []⟩
def DefT.fa (T : TabT) (d : DefT) : List He.Fa := match d.kind with
  | .fn x => [.glo x]
  | .mth k x => [.meth (T.kname k) x]
  | .ini k x => [.mkr (T.kname k)]
def TabT.fa (T : TabT) : List He.Fa := blNames.map He.Fa.free ++ T.consts.map (fun p => He.Fa.int p.1 p.2) ++ T.classes.flatMap (fun p => He.Fa.glo p.1 :: He.Fa.cls p.1 :: p.2.map (He.Fa.noat p.1)) ++ T.defs.flatMap (DefT.fa T)
def kisB (K : PySem.W.Frag) (x : Str) : Bool := He.eqO (PySem.W.findIn K (.ref (He.ga K x)) "__eq__") (some (some (.builtin "object.__eq__"))) && (He.eqO (PySem.W.findIn K (.ref (He.ga K x)) "__class__") (some (some (.builtin "object.__class__"))) && (He.eqO (PySem.W.specialIn K (.builtin "object.__class__") "__get__") (some (some (.builtin "getset_descriptor.__get__"))) &&
  (decide (PySem.W.takesIn K (.builtin "object.__class__") = some true) && decide (PySem.W.mroIn K (He.ga K x) (.type "object") = some true))))
def TabT.kit0 (T : TabT) (K : PySem.W.Frag) : Bool := (List.range T.classes.length).all fun k => kisB K (T.kname k) &&
  ((List.range T.classes.length).all (fun j => decide (PySem.W.kitOne K (.ref (He.ga K (T.kname k))) (.ref (He.ga K (T.kname j))) = some (k == j))) &&
   tyNames.all fun x => decide (PySem.W.kitOne K (.ref (He.ga K (T.kname k))) (.type x) = some false) && decide (PySem.W.kitOne K (.type x) (.ref (He.ga K (T.kname k))) = some false))
def TabT.ex0 (T : TabT) (K : PySem.W.Frag) (k : Nat) : Bool := (T.exf k).length != 0 || (PySem.W.excIn K (He.ga K (T.ename k)) bmVE "ValueError.__new__" && decide (PySem.W.subIn K (.ref (He.ga K (T.ename k))) (.type "BaseException") = some true))
/-- what the k-th exception's class says -/
def TabT.ex1 (T : TabT) (K : PySem.W.Frag) (k : Nat) : Bool :=
  (He.Fa.glo (T.ename k)).ok K && (exClsB K (He.ga K (T.ename k)) && ((List.range T.excs.length).all (fun j => decide (PySem.W.kitOne K (.ref (He.ga K (T.ename k))) (.ref (He.ga K (T.ename j))) = some (T.esub k j)) && decide (PySem.W.exmOne K (.ref (He.ga K (T.ename k))) (.ref (He.ga K (T.ename j))) = some (T.esub k j))) &&
    (decide (PySem.W.kitOne K (.ref (He.ga K (T.ename k))) (.type "ValueError") = some true) && ((T.exf k).all (fun f => (He.Fa.noat (T.ename k) f).ok K) && T.ex0 K k))))
def TabT.ex2 (T : TabT) (K : PySem.W.Frag) (e : ExT) : Bool :=
  oexB K (He.ga K e.name) && (veClsB K (He.ga K "StintError") && ((He.Fa.glo "StintError").ok K && (He.eqO (PySem.W.findIn K (.ref (He.ga K e.name)) "__init__") (some (some (.ref (He.ma K (He.ga K e.name) "__init__")))) && decide (PySem.W.typeIn K (.ref (He.ma K (He.ga K e.name) "__init__")) = some (.type "function")))))
def TabT.kit (T : TabT) (K : PySem.W.Frag) : Bool := T.kit0 K && ((List.range T.excs.length).all (T.ex1 K) && ((T.excs.filter ExT.has).all (T.ex2 K) && T.inits.all fun d => d.ok K))
def obsT (T : TabT) (K : PySem.W.Frag) : He.AlD := ((T.fa.all fun f => f.ok K) && (T.kit K && T.defs.all fun d => (d.dd T).ok K), T.defs.map (fun d => He.fnW K (d.at_ T)) ++ T.inits.map fun d => He.fnW K d.at_)
def valT (T : TabT) : He.AlD := (true, T.defs.map (fun d => (d.dd T).val) ++ T.inits.map fun d => d.val)
def SaysT (T : TabT) (K : PySem.W.Frag) : Prop := obsT T K = valT T
/-- what the names reach, step by step; each step looks only at what the step ahead has found -/
def asF (g : Addr → Option Obj) : Nat → List Addr → List Addr
  | 0, as => as
  | n + 1, as => as ++ asF g n (as.flatMap fun a => match g a with
    | some o => He.refsD o
    | none => [])
def obsTG (n : Nat) (T : TabT) (g : Addr → Option Obj) : He.AlD := obsT T (He.frG g (PySem.cStatics :: asF g n [mainGlobals]))
def hookT (n : Nat) (T : TabT) : PySem.W.Hook where
  α := He.AlD
  obs := fun s => obsTG n T s.heap.get?
  val := fun _ => valT T
  says := fun _ h => ∃ K : PySem.W.Frag, K.In h ∧ SaysT T K
  of := fun _ _ e => ⟨_, He.frG_in, e⟩
  keeps := fun _ _ _ ⟨K, hK, c⟩ k => ⟨K, PySem.W.Frag.In.keeps hK k, c⟩
def obT (n : Nat) (T : TabT) (s : PySem.W.SharedT) : He.AlD := obsTG n T (HandSHeadRun.getT s)
theorem obT_eq (n : Nat) (T : TabT) (s : PySem.W.SharedT) : obT n T s = (hookT n T).obs s.abs := by
  have e : HandSHeadRun.getT s = s.abs.heap.get? := funext (HandSHeadRun.getT_eq s)
  show obsTG n T (HandSHeadRun.getT s) = obsTG n T s.abs.heap.get?
  rw [e]

section
open PySem.W PySem.Calls PyProof.Rows HandSHeadRun
/-- the run in three parts -/
theorem run_of {r : OpenRow} {q : Program} {n M : Nat} {T : TabT} {loose : List Str} {w : World}
    (h1 : ∀ os : OsState, (endF (stepQ (denQ tabQ) r.prog w) M r.prog w os).map (fun s => (looksF r.prog (boot_heap w.params) s.abs, seenQ q loose (importedModules r.prog.main.body) (fun s => xlAt q [] s && recOk r.toRowW.records s) s.abs)) = some (true, openGood q loose))
    (h2 : ∀ os : OsState, (endF (stepQ (denQ tabQ) r.prog w) M r.prog w os).map (fun s => (obT n T s).1) = some true)
    (h3 : ∀ os : OsState, (endF (stepQ (denQ tabQ) r.prog w) M r.prog w os).map (fun s => (obT n T s).2) = some (valT T).2) :
    RunEq r q (hookT n T) (obT n T) M loose w := fun os => by
  have a := h1 os
  have b := h2 os
  have c := h3 os
  cases e : endF (stepQ (denQ tabQ) r.prog w) M r.prog w os with
  | none => rw [e] at a; cases a
  | some s =>
    rw [e] at a b c
    have a2 := Prod.mk.inj (Option.some.inj a)
    refine congrArg some (Prod.ext a2.1 (Prod.ext a2.2 (Prod.ext (Option.some.inj b) (Option.some.inj c))))
end

section
variable {T : TabT} {K : PySem.W.Frag} {h : Heap} {mg : Str → Option Value} {P : Program} {w : World} {base : Heap} {phi : Nat → Phi}
theorem SaysT.fact (c : SaysT T K) {f : He.Fa} (hf : f ∈ T.fa) : f.ok K = true := by
  have c1 := (He.ba (show ((T.fa.all fun f => f.ok K) && (T.kit K && T.defs.all fun d => (d.dd T).ok K)) = true from congrArg (fun z : He.AlD => z.1) c)).1
  exact List.all_eq_true.mp c1 f hf
theorem SaysT.kit_ (c : SaysT T K) : T.kit K = true := by
  have c1 := (He.ba (show ((T.fa.all fun f => f.ok K) && (T.kit K && T.defs.all fun d => (d.dd T).ok K)) = true from congrArg (fun z : He.AlD => z.1) c)).2
  exact (He.ba c1).1
theorem SaysT.def_ (c : SaysT T K) {d : DefT} (hd : d ∈ T.defs) : ∃ fd, FunD K d.kind.nm d.qual (defArgs d.st) (defBody d.st) (defScope d.st) [] [] (He.fAd K (d.at_ T)) fd := by
  have c1 := (He.ba (show ((T.fa.all fun f => f.ok K) && (T.kit K && T.defs.all fun d => (d.dd T).ok K)) = true from congrArg (fun z : He.AlD => z.1) c)).2
  have c2 := (He.ba c1).2
  have e : T.defs.map (fun d => He.fnW K (d.at_ T)) = T.defs.map (fun d => (d.dd T).val) := (List.append_inj (show T.defs.map (fun d => He.fnW K (d.at_ T)) ++ T.inits.map (fun d => He.fnW K d.at_) = T.defs.map (fun d => (d.dd T).val) ++ T.inits.map (fun d => d.val) from congrArg (fun z : He.AlD => z.2) c) (by simp)).1
  have e2 : He.fnW K (d.at_ T) = (d.dd T).val := by
    obtain ⟨i, hi⟩ := List.mem_iff_getElem?.mp hd
    have e3 : (T.defs.map (fun d => He.fnW K (d.at_ T)))[i]? = (T.defs.map (fun d => (d.dd T).val))[i]? := by rw [e]
    rw [List.getElem?_map, List.getElem?_map, hi] at e3
    exact Option.some.inj e3
  exact He.DefD.funD (d := d.dd T) e2 (List.all_eq_true.mp c2 d hd)

theorem SaysT.ini_ (c : SaysT T K) {e : ExT} (he : e ∈ T.excs) (hh : e.has = true) : (∃ fd, FunD K "__init__" e.qual (defArgs e.st) (defBody e.st) (defScope e.st) [] [] (He.ma K (He.ga K e.name) "__init__") fd) ∧ T.ex2 K e = true := by
  obtain ⟨_, k2⟩ := He.ba c.kit_
  obtain ⟨_, k3⟩ := He.ba k2
  obtain ⟨k4, k5⟩ := He.ba k3
  have hm : e ∈ T.excs.filter ExT.has := List.mem_filter.mpr ⟨he, hh⟩
  have hd : e.dd ∈ T.inits := List.mem_map.mpr ⟨e, hm, rfl⟩
  have z : T.inits.map (fun d => He.fnW K d.at_) = T.inits.map (fun d => d.val) := (List.append_inj (show T.defs.map (fun d => He.fnW K (d.at_ T)) ++ T.inits.map (fun d => He.fnW K d.at_) = T.defs.map (fun d => (d.dd T).val) ++ T.inits.map (fun d => d.val) from congrArg (fun z : He.AlD => z.2) c) (by simp)).2
  obtain ⟨i, hi⟩ := List.mem_iff_getElem?.mp hd
  have z2 : (T.inits.map fun d => He.fnW K d.at_)[i]? = (T.inits.map fun d => d.val)[i]? := by rw [z]
  rw [List.getElem?_map, List.getElem?_map, hi] at z2
  exact ⟨He.DefD.funD (d := e.dd) (Option.some.inj z2) (List.all_eq_true.mp k5 _ hd), List.all_eq_true.mp k4 e hm⟩
/-- an exception's part: the text of its __init__ -/
structure ExIni (e : ExT) : Prop where
  sc : FnScope ["self", e.y] ["self", e.y] (defScope e.st)
  bd : ∀ (kV doc pm : Value) (an : Option Addr) (cdv ct : Value) (us : List Value), us.length = (["self", e.y] : List Str).length → bindArgs (PySem.W.fnOf "__init__" e.qual (defArgs e.st) (defBody e.st) (defScope e.st) .none kV doc pm an cdv ct) ⟨us, []⟩ = pure ((["self", e.y] : List Str).zip us)
  ib : ∀ f, e.flds = [f] → iniB f e.y (defBody e.st) = true
  gl : (defScope e.st).names.lookup ("StintError" : Str) = some .globalImplicit
  dy : (e.y == ("__debug__" : Str)) = false ∧ (e.y == ("__classdict__" : Str)) = false
  v : Vis (defScope e.st) "self" ∧ Vis (defScope e.st) e.y
def TabT.wf (T : TabT) : Bool := T.classes.all (fun p => decide (p.2.Nodup)) && T.defs.all fun d => match d.kind with
  | .fn _ => true
  | .mth k x => decide (k < T.classes.length) && decide (x ∉ T.flds k)
  | .ini k x => decide (k < T.classes.length) && decide (T.kname k = x)
def T_gi (T : TabT) (K : PySem.W.Frag) (mg : Str → Option Value) (w : World) : GI where
  K := K
  w := w
  mg := mg
  cls := fun k => He.ga K (T.kname k)
  flds := T.flds
  exc := fun k => He.ga K (T.ename k)
  exf := T.exf
/-- a def's part: its text, and what it does -/
structure DefOk (T : TabT) (phi : Nat → Phi) (i : Nat) (d : DefT) : Prop where
  sc : FnScope d.N d.ps (defScope d.st)
  ch : chSs d.N (T.ci phi) (2 * i) (defScope d.st) (fun _ => true) d.body (defBody d.st) = true
  bd : ∀ (kV doc pm : Value) (an : Option Addr) (cdv ct : Value) (us : List Value), us.length = d.ps.length → bindArgs (PySem.W.fnOf d.kind.nm d.qual (defArgs d.st) (defBody d.st) (defScope d.st) .none kV doc pm an cdv ct) ⟨us, []⟩ = pure (d.ps.zip us)
  ok : ∀ ds c Q X, ds.length = d.ps.length → Wfc c → phi i ds c Q X → wpDef (T.ci phi) d.N.length d.body ds c Q X
theorem kn_at {k : Nat} {p : Str × List Str} (h : T.classes[k]? = some p) : T.kname k = p.1 ∧ T.flds k = p.2 := by
  unfold TabT.kname TabT.flds
  rw [h]
  exact ⟨rfl, rfl⟩
theorem cls_fa (c : SaysT T K) {k : Nat} (hk : k < T.classes.length) : (He.Fa.glo (T.kname k)).ok K = true ∧ (He.Fa.cls (T.kname k)).ok K = true ∧ ∀ f ∈ T.flds k, (He.Fa.noat (T.kname k) f).ok K = true := by
  have e : T.classes[k]? = some T.classes[k] := List.getElem?_eq_getElem hk
  obtain ⟨e1, e2⟩ := kn_at e
  have hm : T.classes[k] ∈ T.classes := List.getElem_mem hk
  have z : ∀ f, f ∈ He.Fa.glo T.classes[k].1 :: He.Fa.cls T.classes[k].1 :: T.classes[k].2.map (He.Fa.noat T.classes[k].1) → f.ok K = true := fun f hf =>
    c.fact (by
      unfold TabT.fa
      rw [List.mem_append, List.mem_append]
      exact .inl (.inr (List.mem_flatMap.mpr ⟨_, hm, hf⟩)))
  rw [e1, e2]
  exact ⟨z _ (by simp), z _ (by simp), fun f hf => z _ (by simp [hf])⟩
theorem def_fa (c : SaysT T K) {d : DefT} (hd : d ∈ T.defs) {f : He.Fa} (hf : f ∈ d.fa T) : f.ok K = true := c.fact (by
  unfold TabT.fa
  rw [List.mem_append]
  exact .inr (List.mem_flatMap.mpr ⟨_, hd, hf⟩))
theorem ex_at {k : Nat} {e : ExT} (h : T.excs[k]? = some e) : T.ename k = e.name ∧ T.exf k = e.flds := by
  unfold TabT.ename TabT.exf
  rw [h]
  exact ⟨rfl, rfl⟩
theorem ex_ok (KX : K.In h) (Gn : h.Ns mainGlobals mg) (c : SaysT T K) (hx : ∀ e ∈ T.excs, e.has = true → ExIni e) {k : Nat} (hk : k < T.excs.length) : ExOk (T_gi T K mg w) (T.ci phi) P w base k := by
  obtain ⟨_, k2⟩ := He.ba c.kit_
  obtain ⟨k1, _⟩ := He.ba k2
  have z := List.all_eq_true.mp k1 k (List.mem_range.mpr hk)
  unfold TabT.ex1 at z
  obtain ⟨z1, z⟩ := He.ba z
  obtain ⟨z2, z⟩ := He.ba z
  obtain ⟨z3, z⟩ := He.ba z
  obtain ⟨z4, z5⟩ := He.ba z
  obtain ⟨z5, z6⟩ := He.ba z5
  have E := exClsB_ok z2
  have hj : ∀ j, j < T.excs.length → _ := fun j hj => He.ba (List.all_eq_true.mp z3 j (List.mem_range.mpr hj))
  have hno : ∀ f ∈ T.exf k, PySem.W.findIn K (.ref (He.ga K (T.ename k))) f = some none := fun f hf => He.eqO_ok (List.all_eq_true.mp z5 f hf)
  refine ⟨He.glo_ok KX Gn z1, E, fun j h => of_decide_eq_true (hj j h).1, of_decide_eq_true z4, fun j h => of_decide_eq_true (hj j h).2, rfl, hno, fun f hf => ?_, fun h0 => ?_⟩
  rotate_left
  · have h0 : T.exf k = [] := h0
    unfold TabT.ex0 at z6
    rw [h0] at z6
    simp only [List.length_nil, bne_self_eq_false, Bool.false_or] at z6
    obtain ⟨y1, y2⟩ := He.ba z6
    exact ⟨y1, of_decide_eq_true y2⟩
  have e : T.excs[k]? = some T.excs[k] := List.getElem?_eq_getElem hk
  obtain ⟨e1, e2⟩ := ex_at e
  have hf : T.exf k = [f] := hf
  have hfl : (T.excs[k]).flds = [f] := by rw [← e2]; exact hf
  have hh : (T.excs[k]).has = true := by unfold ExT.has; rw [hfl]; rfl
  have hm : T.excs[k] ∈ T.excs := List.getElem_mem hk
  obtain ⟨⟨fd, F⟩, y2⟩ := c.ini_ hm hh
  have D := hx _ hm hh
  unfold TabT.ex2 at y2
  obtain ⟨y1, y2⟩ := He.ba y2
  obtain ⟨y3, y2⟩ := He.ba y2
  obtain ⟨y4, y2⟩ := He.ba y2
  obtain ⟨y5, y6⟩ := He.ba y2
  rw [← e1] at F y1 y5 y6
  have T1 := oexB_ok E y1
  exact ⟨T1, _, fd, ["self", (T.excs[k]).y], He.eqO_ok y5, of_decide_eq_true y6, F.bindsN D.bd, ini_ok F D.sc (D.ib f hfl) D.gl D.dy D.v (He.glo_ok KX Gn y4) (veClsB_ok y3) T1 (hno f (by rw [hf]; simp))⟩
theorem wh_ok (KX : K.In h) (Gn : h.Ns mainGlobals mg) (c : SaysT T K) (hs : ∀ i d, T.defs[i]? = some d → DefOk T phi i d) {f : Nat} {x : Str} (hw : (T.ci phi).whole f = true) (hk : (T.ci phi).kind f = .fn x) : WhOk (T_gi T K mg w) x := by
  have hw : ((T.defs[f]?).map DefT.whole).getD false = true := hw
  have hk : ((T.defs[f]?).map (·.kind)).getD (.fn "") = .fn x := hk
  cases e : T.defs[f]? with
  | none => rw [e] at hw; cases hw
  | some d =>
    rw [e] at hw hk
    have hw : d.whole = true := hw
    have hk : d.kind = .fn x := hk
    have hd : d ∈ T.defs := List.mem_of_getElem? e
    have D := hs f d e
    unfold DefT.whole at hw
    split at hw
    · rename_i y hN
      simp only [Bool.and_eq_true, decide_eq_true_eq] at hw
      obtain ⟨h1, h2, h3, h4, h5⟩ := hw
      obtain ⟨fd, F⟩ := c.def_ hd
      have ea : d.at_ T = (x, none) := by unfold DefT.at_; rw [hk]
      have bd : Binds K fd d.ps [] := F.bindsN D.bd
      rw [ea, hk] at F
      have sc := D.sc
      rw [hN, h1] at sc
      rw [h1] at bd
      unfold dbgB at h5
      simp only [Bool.and_eq_true, Bool.not_eq_true'] at h5
      exact ⟨_, fd, y, d.qual, d.st, He.glo_ok KX Gn (def_fa c hd (f := .glo x) (by unfold DefT.fa; rw [hk]; exact List.mem_singleton.mpr rfl)), F, sc, bd, h2, fun z hz => of_decide_eq_true (List.all_eq_true.mp h3 z hz), vis_of h4, h5.1.1, h5.1.2⟩
    · cases hw
theorem all_ok (KX : K.In h) (Gn : h.Ns mainGlobals mg) (c : SaysT T K) (wf : T.wf = true) (hs : ∀ i d, T.defs[i]? = some d → DefOk T phi i d) (hx : ∀ e ∈ T.excs, e.has = true → ExIni e) : ∀ n, n ≤ T.defs.length → GOk (T_gi T K mg w) (T.ci phi) (2 * n) P w base := by
  unfold TabT.wf at wf
  rw [Bool.and_eq_true] at wf
  have kit := (He.ba c.kit_).1
  have kitk : ∀ k, k < T.classes.length → kisB K (T.kname k) = true ∧ (∀ j, j < T.classes.length → PySem.W.kitOne K (.ref (He.ga K (T.kname k))) (.ref (He.ga K (T.kname j))) = some (k == j)) ∧
      ∀ x ∈ tyNames, PySem.W.kitOne K (.ref (He.ga K (T.kname k))) (.type x) = some false ∧ PySem.W.kitOne K (.type x) (.ref (He.ga K (T.kname k))) = some false := fun k hk => by
    have z := List.all_eq_true.mp kit k (List.mem_range.mpr hk)
    obtain ⟨z1, z2⟩ := He.ba z
    obtain ⟨z3, z4⟩ := He.ba z2
    refine ⟨z1, fun j hj => of_decide_eq_true (List.all_eq_true.mp z3 j (List.mem_range.mpr hj)), fun x hx => ?_⟩
    obtain ⟨z5, z6⟩ := He.ba (List.all_eq_true.mp z4 x hx)
    exact ⟨of_decide_eq_true z5, of_decide_eq_true z6⟩
  have clsk : ∀ k, k < T.classes.length → Cls K (He.ga K (T.kname k)) := fun k hk => He.cls_ok (cls_fa c hk).2.1
  have core : ∀ n, n ≤ T.defs.length → (∀ f, f < n → FnR (T_gi T K mg w) (T.ci phi) (2 * n) P w base f (He.fAd K (((T.defs[f]?).map fun d => d.at_ T).getD (("" : Str), none)))) → GOk (T_gi T K mg w) (T.ci phi) (2 * n) P w base := fun n hn hf => by
    have kd : ∀ f k0, f < n → (T.ci phi).kind f = k0 → ∃ d, d ∈ T.defs ∧ d.kind = k0 ∧ (((T.defs[f]?).map fun d => d.at_ T).getD (("" : Str), none)) = d.at_ T := fun f k0 hfn hk => by
      have e : T.defs[f]? = some T.defs[f] := List.getElem?_eq_getElem (by omega)
      refine ⟨T.defs[f], List.getElem_mem _, ?_, by rw [e]; rfl⟩
      have z : ((T.defs[f]?).map (·.kind)).getD (.fn "") = k0 := hk
      rw [e] at z
      exact z
    refine ⟨rfl, rfl, fun x hx => ?_, fun k hk => ?_, fun f x hl hk => ?_, fun f k x hl hk => ?_, fun f k x hl hk => ?_, fun k hk => ?_, fun k hk => ?_, fun k hk => ?_, fun k j hk hj => (kitk k hk).2.1 j hj, fun k hk x hx => ((kitk k hk).2.2 x hx).1, fun k hk x hx => ((kitk k hk).2.2 x hx).2, fun k hk => ex_ok KX Gn c hx hk, fun f x hw hk => wh_ok KX Gn c hs hw hk⟩
    · exact He.free_ok KX Gn (c.fact (by
        unfold TabT.fa
        rw [List.mem_append, List.mem_append, List.mem_append]
        exact .inl (.inl (.inl (List.mem_map.mpr ⟨x, hx, rfl⟩)))))
    · have hk' : k < T.consts.length := hk
      have e : T.consts[k]? = some T.consts[k] := List.getElem?_eq_getElem hk'
      have z := He.int_ok KX Gn (c.fact (f := He.Fa.int T.consts[k].1 T.consts[k].2) (by
        unfold TabT.fa
        rw [List.mem_append, List.mem_append, List.mem_append]
        exact .inl (.inl (.inr (List.mem_map.mpr ⟨_, List.getElem_mem hk', rfl⟩)))))
      show ∃ t, mg (((T.consts[k]?).map (·.1)).getD "") = some (.int (((T.consts[k]?).map (·.2)).getD 0) t)
      rw [e]
      exact z
    · have hfn : f < n := by omega
      obtain ⟨d, hd, hk2, ha⟩ := kd f _ hfn hk
      have fr := hf f hfn
      rw [ha] at fr
      have ea : d.at_ T = (x, none) := by unfold DefT.at_; rw [hk2]
      rw [ea] at fr
      obtain ⟨fd, F⟩ := c.def_ hd
      rw [ea] at F
      exact ⟨_, He.glo_ok KX Gn (def_fa c hd (by unfold DefT.fa; rw [hk2]; exact List.mem_singleton.mpr rfl)), F.kp, fr⟩
    · have hfn : f < n := by omega
      obtain ⟨d, hd, hk2, ha⟩ := kd f _ hfn hk
      have fr := hf f hfn
      rw [ha] at fr
      have ea : d.at_ T = (T.kname k, some x) := by unfold DefT.at_; rw [hk2]
      rw [ea] at fr
      have w1 := List.all_eq_true.mp wf.2 d hd
      rw [hk2] at w1
      obtain ⟨w2, w3⟩ := He.ba w1
      exact ⟨_, clsk k (of_decide_eq_true w2), He.meth_ok (def_fa c hd (f := .meth (T.kname k) x) (by unfold DefT.fa; rw [hk2]; exact List.mem_singleton.mpr rfl)), of_decide_eq_true w3, fr⟩
    · have hfn : f < n := by omega
      obtain ⟨d, hd, hk2, ha⟩ := kd f _ hfn hk
      have fr := hf f hfn
      rw [ha] at fr
      have ea : d.at_ T = (T.kname k, some ("__init__" : Str)) := by unfold DefT.at_; rw [hk2]
      rw [ea] at fr
      have w1 := List.all_eq_true.mp wf.2 d hd
      rw [hk2] at w1
      obtain ⟨w2, w3⟩ := He.ba w1
      have e3 : T.kname k = x := of_decide_eq_true w3
      refine ⟨_, He.mkr_ok (def_fa c hd (f := .mkr (T.kname k)) (by unfold DefT.fa; rw [hk2]; exact List.mem_singleton.mpr rfl)), ?_, fr⟩
      have z := He.glo_ok KX Gn (cls_fa c (of_decide_eq_true w2)).1
      show mg x = some (.ref (He.ga K (T.kname k)))
      rw [← e3]; exact z
    · exact ⟨clsk k hk, fun f hf => He.noat_ok ((cls_fa c hk).2.2 f hf)⟩
    · exact He.glo_ok KX Gn (cls_fa c hk).1
    · obtain ⟨z0, z⟩ := He.ba (kitk k hk).1
      obtain ⟨z1, z2⟩ := He.ba z
      obtain ⟨z3, z4⟩ := He.ba z2
      obtain ⟨z5, z6⟩ := He.ba z4
      exact ⟨clsk k hk, He.eqO_ok z1, He.eqO_ok z3, of_decide_eq_true z5, of_decide_eq_true z6, He.eqO_ok z0⟩
  intro n
  induction n with
  | zero => exact fun hn => core 0 hn fun f hf => absurd hf (Nat.not_lt_zero _)
  | succ n ih =>
    intro hn
    have g := ih (by omega)
    -- the n-th def
    have e : T.defs[n]? = some T.defs[n] := List.getElem?_eq_getElem (by omega)
    have D := hs n _ e
    obtain ⟨fd, F⟩ := c.def_ (List.getElem_mem (show n < T.defs.length by omega))
    have ok := fn_okF (lv := 2 * n) (phi := phi n) F D.sc g D.ch D.ok
    have bd : Binds K fd (T.defs[n]).ps [] := F.bindsN D.bd
    have new : FnR (T_gi T K mg w) (T.ci phi) (2 * (n + 1)) P w base n (He.fAd K (((T.defs[n]?).map fun d => d.at_ T).getD (("" : Str), none))) := by
      rw [e]
      have enp : (T.ci phi).np n = (T.defs[n]).ps.length := by
        show ((T.defs[n]?).map fun d => d.ps.length).getD 0 = _
        rw [e]; rfl
      refine ⟨fd, (T.defs[n]).ps, enp.symm, bd, ?_⟩
      rw [enp]
      exact ok
    refine core (n + 1) hn fun f hf => ?_
    by_cases hfn : f = n
    · subst hfn; exact new
    · -- the earlier ones, one level higher
      have hf' : f < n := by omega
      have ef : T.defs[f]? = some T.defs[f] := List.getElem?_eq_getElem (by omega)
      have old : FnR (T_gi T K mg w) (T.ci phi) (2 * n) P w base f (He.fAd K (((T.defs[f]?).map fun d => d.at_ T).getD (("" : Str), none))) := by
        rw [ef]
        have hkf : (T.ci phi).kind f = (T.defs[f]).kind := by
          show ((T.defs[f]?).map (·.kind)).getD (.fn "") = _
          rw [ef]; rfl
        cases hk : (T.defs[f]).kind with
        | fn x =>
          obtain ⟨fa, m, _, r⟩ := g.fn f x (by omega) (by rw [hkf, hk])
          have z := He.glo_ok KX Gn (def_fa c (List.getElem_mem (show f < T.defs.length by omega)) (f := .glo x) (by unfold DefT.fa; rw [hk]; exact List.mem_singleton.mpr rfl))
          have m' : mg x = some (.ref fa) := m
          rw [z] at m'; cases m'
          show FnR _ _ _ _ _ _ _ (He.fAd K ((T.defs[f]).at_ T))
          unfold DefT.at_; rw [hk]; exact r
        | mth k x =>
          obtain ⟨fa, _, m, _, r⟩ := g.mth f k x (by omega) (by rw [hkf, hk])
          have z := He.meth_ok (def_fa c (List.getElem_mem (show f < T.defs.length by omega)) (f := .meth (T.kname k) x) (by unfold DefT.fa; rw [hk]; exact List.mem_singleton.mpr rfl))
          have e1 : PySem.W.findIn K (.ref (He.ga K (T.kname k))) x = some (some (.ref fa)) := m.at_
          have e2 := z.at_
          rw [e1] at e2
          have e3 : fa = He.ma K (He.ga K (T.kname k)) x := by simpa using e2
          subst e3
          show FnR _ _ _ _ _ _ _ (He.fAd K ((T.defs[f]).at_ T))
          unfold DefT.at_; rw [hk]; exact r
        | ini k x =>
          obtain ⟨fa, m, _, r⟩ := g.ini f k x (by omega) (by rw [hkf, hk])
          have z := He.mkr_ok (def_fa c (List.getElem_mem (show f < T.defs.length by omega)) (f := .mkr (T.kname k)) (by unfold DefT.fa; rw [hk]; exact List.mem_singleton.mpr rfl))
          have e1 : PySem.W.findIn K (.ref (He.ga K (T.kname k))) "__init__" = some (some (.ref fa)) := m.init
          have e2 := z.init
          rw [e1] at e2
          have e3 : fa = He.ma K (He.ga K (T.kname k)) "__init__" := by simpa using e2
          subst e3
          show FnR _ _ _ _ _ _ _ (He.fAd K ((T.defs[f]).at_ T))
          unfold DefT.at_; rw [hk]; exact r
      obtain ⟨fd2, ps2, h1, h2, h3⟩ := old
      exact ⟨fd2, ps2, h1, h2, h3.mono (by omega)⟩

/-- the law's end -/
theorem law_end {l : PySem.W.OpenLaw} {n k : Nat} {q : Program} {loose : List Str} {XP : (Str → Option Value) → Heap → Prop} {YP : World → Heap → Prop} {d : DefRec} {x : Str}
    (most : l.most = some n) (small : n ≤ sizeLine) (nodefault : d.params.defaults = []) (room : Room k callerA)
    (all : ∀ (w : World) (mg : Str → Option Value) (fa : Addr) (h : Heap), YP w h → h.Ns mainGlobals mg → mg d.name = some (.ref fa) → ∃ (K : PySem.W.Frag) (fd : FuncData) (sp : Sp),
      (K.In h ∧ (∀ (s : Shared) (u : Value), BindsTo s fd ⟨[u], []⟩ [(x, u)])) ∧
      ((∀ (H : Hp) (a : Addr) (ns : List Int), ns.length ≤ n → Only H → SqL K H a (ns.map V.int) → sp [.ref a] H (fun v _ => v = .bl true) fun _ _ _ => False) ∧
        ∀ base : Heap, FnOk l.prog w K mg base (L2.CX l.prog w) k fa fd [x] sp)) :
    PySem.W.WalkO q loose XP YP l.row.toRowW d [] (fun f vs => PySem.call f vs) := by
  refine Att.attach_call most nodefault ?_
  intro w s0 s1 mg mb fa o pm cd doc a vs ns Gd Y ho hd hcd hm hobj hi hl hgen
  obtain ⟨K, fd, sp, ⟨inK, binds⟩, says, keeps⟩ := all w mg fa _ Y Gd.T.g hm
  refine law_call (CX := L2.CX l.prog w) inK Gd.T.g Gd.T.b Gd.T.builtins Gd.T.nolimit hgen hobj hi (Nat.le_trans hl small) room (fun base _ _ => keeps base) binds (fun H only sq => says H a ns hl only sq) ?_
  intro H e s' ⟨_, _, _, _, _, _, _, _, _, _, _, _, no⟩
  exact no
theorem script_ok {K : PySem.W.Frag} {mg : Str → Option Value} {H : Hp} {a : Addr} {ns : List Int} (only : Only H) (sq : SqL K H a (ns.map V.int)) {f : Nat} (hp : phi f [.scr (ns.map D.int)] [] (fun d _ => d = .bl true) (fun _ _ _ => False)) :
    spF (T_gi T K mg w) 1 (phi f) [.ref a] H (fun v _ => v = .bl true) (fun _ _ _ => False) := by
  refine ⟨{ H := H, as := [], Fz := fun b => ∃ o xs, H b = some (.frz o (.lst xs)) }, [], _, _, _, rfl, ?_, .cons (.scr ?_ DenL.of_ints) .nil, rfl, hp, fun v H' ⟨W', c', d, e1, x, ok, dn, q⟩ => ?_, fun cls dd H' ⟨_, _, _, _, _, _, _, _, _, f⟩ => f⟩
  · exact ⟨rfl, List.nodup_nil, fun b _ hm => by simp at hm, fun b ⟨o, xs, e⟩ => ⟨_, e⟩, fun n b x e => by simp at e⟩
  · rcases sq with (sq | ⟨o, sq⟩) | sq
    · rcases only a with z | ⟨o, xs, z⟩
      · rw [z] at sq; cases sq
      · rw [z] at sq; cases sq
    · exact .inl ⟨⟨o, _, sq⟩, o, sq⟩
    · exact .inr sq
  · subst q
    cases dn
    rfl
theorem law_fd {f : Nat} {x : Str} {d : DefT} {fa : Addr} (KX : K.In h) (Gn : h.Ns mainGlobals mg) (c : SaysT T K) (wf : T.wf = true) (hs : ∀ i d, T.defs[i]? = some d → DefOk T phi i d) (hx : ∀ e ∈ T.excs, e.has = true → ExIni e)
    (hd : T.defs[f]? = some d) (hk : d.kind = .fn "law") (hps : d.ps = [x]) (hm : mg "law" = some (.ref fa)) :
    ∃ fd : FuncData, (∀ (s : Shared) (u : Value), BindsTo s fd ⟨[u], []⟩ [(x, u)]) ∧ ∀ (P : Program) (base : Heap), FnOk P w K mg base (L2.CX P w) (2 * f + 2) fa fd [x] (spF (T_gi T K mg w) 1 (phi f)) := by
  have hmem : d ∈ T.defs := List.mem_of_getElem? hd
  have D := hs f d hd
  obtain ⟨fd, F⟩ := c.def_ hmem
  have ea : d.at_ T = (("law" : Str), none) := by unfold DefT.at_; rw [hk]
  rw [ea] at F
  have z := He.glo_ok KX Gn (def_fa c hmem (f := .glo "law") (by unfold DefT.fa; rw [hk]; exact List.mem_singleton.mpr rfl))
  rw [hm] at z
  have e : fa = He.ga K "law" := by simpa using z
  subst e
  have b := FunD.bindsA (ps := d.ps) F D.bd
  rw [hps] at b
  refine ⟨fd, fun s u => b s [u] rfl, fun P base => ?_⟩
  have g := all_ok (P := P) (w := w) (base := base) KX Gn c wf hs hx f (by have := (List.getElem?_eq_some_iff.mp hd).1; omega)
  have o := fn_okF (lv := 2 * f) (phi := phi f) F D.sc g D.ch D.ok
  rw [hps] at o
  exact o
end
end F

namespace F
open PySem PySem.Spec L2
section
variable {I : CI} {env : En} {c : Cs} {Q : QE} {X : QX} {m : Bool}
theorem e_var {i : Nat} {d : D} (h : env[i]? = some (some d)) : wpE I (.var i) env c Q X = Q d c := by
  unfold wpE; rw [h]
theorem e_lit {l : Lt} : wpE I (.lit l) env c Q X = Q l.d c := rfl
theorem e_con {k : Nat} : wpE I (.con k) env c Q X = Q (.int (I.cval k)) c := rfl
def negK (Q : QE) : D → Cs → Prop := fun d c1 => match d with
    | .int i => Q (.int (-i)) c1
    | _ => False
def notK (Q : QE) : D → Cs → Prop := fun d c1 => match d with
    | .bl b => Q (.bl (!b)) c1
    | _ => False
theorem e_neg {a : FE} : wpE I (.un .neg a) env c Q X = wpE I a env c (negK Q) X := rfl
theorem e_not {a : FE} : wpE I (.un .not a) env c Q X = wpE I a env c (notK Q) X := rfl
@[simp] theorem negK_int {i : Int} : negK Q (.int i) c = Q (.int (-i)) c := rfl
@[simp] theorem notK_bl {b : Bool} : notK Q (.bl b) c = Q (.bl (!b)) c := rfl
theorem e_bin {o : B2} {a b : FE} : wpE I (.bin o m a b) env c Q X = wpE I a env c (fun x c1 => wpE I b env c1 (fun y c2 => wpB o m x y c2 Q) X) X := rfl
theorem e_bop {k : Bool} {es : FA} : wpE I (.bop k es) env c Q X = wpBop I k es env c Q X := rfl
def chK2 (p : B2) (Ez : QE → Cs → Prop) (y : D) (Q : QE) : D → Cs → Prop := fun r c3 => match r with
    | .bl k => sIf k (Ez (fun z c4 => wpB p false y z c4 Q) c3) (Q (.bl false) c3)
    | _ => False
theorem e_chain {o p : B2} {a b e : FE} : wpE I (.chain o p a b e) env c Q X = wpE I a env c (fun x c1 => wpE I b env c1 (fun y c2 => wpB o false x y c2 (chK2 p (fun K c3 => wpE I e env c3 K X) y Q)) X) X := rfl
@[simp] theorem chK2_bl {p : B2} {Ez : QE → Cs → Prop} {y : D} {b : Bool} : chK2 p Ez y Q (.bl b) c = sIf b (Ez (fun z c4 => wpB p false y z c4 Q) c) (Q (.bl false) c) := rfl
theorem e_ife {t : FC} {a b : FE} : wpE I (.ife t a b) env c Q X = wpC I t env c (fun k c1 => sIf k (wpE I a env c1 Q X) (wpE I b env c1 Q X)) X := rfl
theorem e_tup {es : FA} : wpE I (.tup es) env c Q X = wpA I es env c (fun ds c1 => ds.length ≤ 16777216 ∧ Q (.tup ds) c1) X := rfl
theorem e_lst {es : FA} : wpE I (.lst m es) env c Q X = wpA I es env c (fun ds c1 => ds.length ≤ 16777216 ∧ newL m ds c1 Q) X := rfl
theorem e_slc {a : FE} {lo hi : FA} : wpE I (.slc m a lo hi) env c Q X = wpE I a env c (fun x c1 => wpA I lo env c1 (fun l c2 => onO (partOf l) fun lo' => wpA I hi env c2 (fun h c3 => onO (partOf h) fun hi' => slcO m c3 Q x lo' hi') X) X) X := rfl
def attK (k j : Nat) (Q : QE) : D → Cs → Prop := fun d c1 => match d with
    | .obj k' fs => k = k' ∧ onO fs[j]? fun v => Q v c1
    | .cell n => match c1[n]? with
      | some (.obj k' fs) => k = k' ∧ onO fs[j]? fun v => Q v c1
      | _ => False
    | _ => False
theorem e_attr {a : FE} {k j : Nat} : wpE I (.attr a k j) env c Q X = wpE I a env c (attK k j Q) X := rfl
theorem attK_obj {k j k' : Nat} {fs : List D} : attK k j Q (.obj k' fs) c = (k = k' ∧ onO fs[j]? fun v => Q v c) := rfl
theorem attK_cell {k j k' n : Nat} {fs : List D} (h : c[n]? = some (.obj k' fs)) : attK k j Q (.cell n) c = (k = k' ∧ onO fs[j]? fun v => Q v c) := by
  unfold attK; dsimp only; rw [h]
theorem e_call {f : Nat} {es : FA} : wpE I (.call f es) env c Q X = wpA I es env c (fun ds c1 => I.phi f ds c1 Q X) X := rfl
theorem e_meth {f : Nat} {a : FE} {es : FA} : wpE I (.meth f a es) env c Q X = wpE I a env c (fun d c0 => objIs c0 (I.kind f) d = true ∧ wpA I es env c0 (fun ds c1 => I.phi f (d :: ds) c1 Q X) X) X := rfl
def makK (n : Nat) (Q : QE) : D → Cs → Prop := fun d c2 => match d with
    | .non => Q (.cell n) c2
    | _ => False
theorem e_make {k f : Nat} {es : FA} : wpE I (.make k f es) env c Q X = wpA I es env c (fun ds c1 => I.phi f (.cell c1.length :: ds) (c1 ++ [.obj k []]) (makK c1.length Q) X) X := rfl
@[simp] theorem makK_non {n : Nat} : makK n Q .non c = Q (.cell n) c := rfl
theorem e_bi {o : Bi} {es : FA} : wpE I (.bi o m es) env c Q X = wpA I es env c (fun ds c1 => wpBi o m ds c1 Q) X := rfl
theorem e_mt {o : Mt} {a : FE} {es : FA} : wpE I (.mt o a es) env c Q X = wpE I a env c (fun d c1 => onO (getL c1 d) fun _ => wpA I es env c1 (fun ds c2 => wpMt o d ds c2 Q) X) X := rfl
theorem e_isi {a : FE} {ts : List Ty} {t : Bool} : wpE I (.isi a ts t) env c Q X = wpE I a env c (fun d c1 => onO (tyD c1 d) fun t => tyIn I t = true ∧ Q (.bl (ts.any (tySub t))) c1) X := rfl
theorem e_comp {keep : Bool} {t : FT} {it : FI} {cond : FCs} {e : FE} {vs : List (Str × Nat)} : wpE I (.comp m keep t it cond e vs) env c Q X = wpI I it env c (fun xs gd c1 => compL I.flds keep c1.length gd (fun x K c2 => wpT t x (wipeE env (vs.map (·.2))) c2 fun env' =>
      wpCs I cond env' c2 (fun k c3 => sIf k (wpE I e env' c3 (fun d c4 => K (some d) c4) fun _ _ _ => False) (K none c3)) fun _ _ _ => False)
      (fun ds c2 => newL m ds c2 Q) xs [] c1) X := rfl
theorem e_frz {a : FE} : wpE I (.frz a) env c Q X = wpE I a env c (fun d c1 => clean I.flds c.length c1 fun f c2 => Q (f d) c2) X := rfl
theorem e_dct0 : wpE I (.dct0 m) env c Q X = newD m [] [] c Q := rfl
theorem e_dct1 {tk : Bool} {k v : FE} : wpE I (.dct1 m tk k v) env c Q X = wpE I k env c (fun x c1 => wpE I v env c1 (fun y c2 => (cond tk (isTupD x) (isKey x)) = true ∧ newD m [x] [y] c2 Q) X) X := rfl
theorem e_dct2 {k v k' v' : FE} : wpE I (.dct2 m k v k' v') env c Q X = wpE I k env c (fun x c1 => wpE I v env c1 (fun y c2 => wpE I k' env c2 (fun x' c3 => wpE I v' env c3 (fun y' c4 => isKey x = true ∧ isKey x' = true ∧ newD m (dPutK [x] x') (dPutV [x] [y] x' y') c4 Q) X) X) X) X := rfl
theorem e_dget {a k : FE} {x : FA} : wpE I (.dget a k x) env c Q X = wpE I a env c (fun d c1 => isSomeO (getC c1 d) = true ∧ wpE I k env c1 (fun y c2 => wpA I x env c2 (fun z c3 => onO (dfltOf z) fun w => onO (getC c3 d) fun kv => kOk kv.1 y = true ∧ Q ((dGet kv.1 kv.2 y).getD w) c3) X) X) X := rfl
theorem e_srtI {a : FE} : wpE I (.srtI m a) env c Q X = wpE I a env c (fun d c1 => onO (getC c1 d) fun kv => onO (toPL (zipL kv.1 kv.2)) fun ps => srtOk ps ∧ noLsts ps = true ∧ ∀ ms : List D, ms.Perm (zipL kv.1 kv.2) → ms.Pairwise (fun a b => ltD b a = false) → newL m ms c1 Q) X := rfl
theorem e_rngE {a b : FE} : wpE I (.rngE m a b) env c Q X = wpE I a env c (fun x c1 => wpE I b env c1 (fun y c2 => int2 (fun i j => small i ∧ small j ∧ j - i ≤ 16777216 ∧ newL m (rngL i (j - i).toNat) c2 Q) x y) X) X := rfl
theorem a_nil {Q : List D → Cs → Prop} : wpA I .nil env c Q X = Q [] c := rfl
theorem a_cons {e : FE} {es : FA} {Q : List D → Cs → Prop} : wpA I (.cons e es) env c Q X = wpE I e env c (fun d c1 => wpA I es env c1 (fun ds c2 => Q (d :: ds) c2) X) X := rfl
theorem bop_one {k : Bool} {e : FE} : wpBop I k (.cons e .nil) env c Q X = wpE I e env c Q X := rfl
def bopK' (A B : Cs → Prop) : D → Cs → Prop := fun d c1 => match d with
    | .bl b => sIf b (A c1) (B c1)
    | _ => False
@[simp] theorem bopK_bl {A B : Cs → Prop} {b : Bool} : bopK' A B (.bl b) c = sIf b (A c) (B c) := rfl
theorem bop_and {e e' : FE} {es : FA} : wpBop I true (.cons e (.cons e' es)) env c Q X = wpE I e env c (bopK' (fun c1 => wpBop I true (.cons e' es) env c1 Q X) (fun c1 => Q (.bl false) c1)) X := rfl
theorem bop_or {e e' : FE} {es : FA} : wpBop I false (.cons e (.cons e' es)) env c Q X = wpE I e env c (bopK' (fun c1 => Q (.bl true) c1) (fun c1 => wpBop I false (.cons e' es) env c1 Q X)) X := rfl
def valK (Q : Bool → Cs → Prop) : D → Cs → Prop := fun d c1 => match d with
    | .bl b => Q b c1
    | _ => False
@[simp] theorem valK_bl {Q : Bool → Cs → Prop} {b : Bool} : valK Q (.bl b) c = Q b c := rfl
theorem c_val {e : FE} {Q : Bool → Cs → Prop} : wpC I (.val e) env c Q X = wpE I e env c (valK Q) X := rfl
theorem c_not {t : FC} {Q : Bool → Cs → Prop} : wpC I (.not t) env c Q X = wpC I t env c (fun b c1 => Q (!b) c1) X := rfl
theorem c_bop {k : Bool} {cs : FCs} {Q : Bool → Cs → Prop} : wpC I (.bop k cs) env c Q X = wpCb I k cs env c Q X := rfl
theorem cb_one {k : Bool} {e : FC} {Q : Bool → Cs → Prop} : wpCb I k (.cons e .nil) env c Q X = wpC I e env c Q X := rfl
theorem cb_and {e e' : FC} {es : FCs} {Q : Bool → Cs → Prop} : wpCb I true (.cons e (.cons e' es)) env c Q X = wpC I e env c (fun b c1 => sIf b (wpCb I true (.cons e' es) env c1 Q X) (Q false c1)) X := rfl
theorem cb_or {e e' : FC} {es : FCs} {Q : Bool → Cs → Prop} : wpCb I false (.cons e (.cons e' es)) env c Q X = wpC I e env c (fun b c1 => sIf b (Q true c1) (wpCb I false (.cons e' es) env c1 Q X)) X := rfl
theorem cs_nil {Q : Bool → Cs → Prop} : wpCs I .nil env c Q X = Q true c := rfl
theorem cs_one {t : FC} {Q : Bool → Cs → Prop} : wpCs I (.cons t .nil) env c Q X = wpC I t env c Q X := rfl
section
variable {QI : List D → List (Nat × Cont) → Cs → Prop}
theorem i_ex {e : FE} : wpI I (.ex e) env c QI X = wpE I e env c (fun d c1 => exA c1 QI d (getS c1 d)) X := rfl
theorem exA_s {d : D} {xs : List D} : exA c QI d (some xs) = QI xs (gdOf c d) c := rfl
theorem exA_d {ks vs : List D} : exA c QI (.dct ks vs) none = QI ks [] c := by simp [exA, isDct, getC, onO]
def rngK (QI : List D → List (Nat × Cont) → Cs → Prop) : D → Cs → Prop := fun d c1 => match d with
    | .int n => small n ∧ QI (rngL 0 n.toNat) [] c1
    | _ => False
@[simp] theorem rngK_int {n : Int} : rngK QI (.int n) c = (small n ∧ QI (rngL 0 n.toNat) [] c) := rfl
theorem i_rng1 {a : FE} : wpI I (.rng1 a) env c QI X = wpE I a env c (rngK QI) X := rfl
theorem i_rng2 {a b : FE} : wpI I (.rng2 a b) env c QI X = wpE I a env c (fun x c1 => wpE I b env c1 (fun y c2 => int2 (fun i j => small i ∧ small j ∧ QI (rngL i (j - i).toNat) [] c2) x y) X) X := rfl
theorem i_enum {a : FE} : wpI I (.enum a) env c QI X = wpE I a env c (fun d c1 => onO (getS c1 d) fun xs => QI (enumL xs 0) (gdOf c1 d) c1) X := rfl
theorem i_zip {a b : FE} : wpI I (.zip a b) env c QI X = wpE I a env c (fun x c1 => wpE I b env c1 (fun y c2 => onO (getS c2 x) fun xs => onO (getS c2 y) fun ys => QI (zipL xs ys) (gdOf c2 x ++ gdOf c2 y) c2) X) X := rfl
theorem i_zip3 {a b e : FE} : wpI I (.zip3 a b e) env c QI X = wpE I a env c (fun x c1 => wpE I b env c1 (fun y c2 => wpE I e env c2 (fun z c3 => onO (getS c3 x) fun xs => onO (getS c3 y) fun ys => onO (getS c3 z) fun zs => QI (zip3L xs ys zs) (gdOf c3 x ++ (gdOf c3 y ++ gdOf c3 z)) c3) X) X) X := rfl
theorem i_rng3 {a b e : FE} : wpI I (.rng3 a b e) env c QI X = wpE I a env c (fun x c1 => wpE I b env c1 (fun y c2 => wpE I e env c2 (fun z c3 => isM1 z = true ∧ int2 (fun i j => small i ∧ small j ∧ QI (rngD i (i - j).toNat) [] c3) x y) X) X) X := rfl
end
section
variable {np : Nat} {E : FEnds} {Y : EX}
theorem s_nil : wpSs I .nil np E Y env c = E.nx env c := rfl
/-- what follows a statement, not looked into -/
@[irreducible] def KS (I : CI) (ss : FSs) (np : Nat) (E : FEnds) (Y : EX) : En → Cs → Prop := wpSs I ss np E Y
theorem s_cons {s : FS} {ss : FSs} : wpSs I (.cons s ss) np E Y env c = wpS I s np { E with nx := KS I ss np E Y } Y env c := by
  unfold KS; rfl
theorem ks_nil : KS I .nil np E Y env c = E.nx env c := by
  unfold KS; rfl
theorem ks_run {ss : FSs} : KS I ss np E Y env c = wpSs I ss np E Y env c := by
  unfold KS; rfl
theorem s_expr {e : FE} : wpS I (.expr e) np E Y env c = wpE I e env c (fun _ c1 => E.nx env c1) (atE Y env) := rfl
theorem s_set {t : FT} {e : FE} : wpS I (.set t e) np E Y env c = wpE I e env c (fun d c1 => wpT t d env c1 fun env' => E.nx env' c1) (atE Y env) := rfl
theorem s_setC {i : Nat} {e : FE} : wpS I (.setC i e) np E Y env c = wpE I e env c (fun d c1 => i < env.length ∧ E.nx (setE env i d) c1) (atE Y env) := rfl
theorem s_par {i j : Nat} {a b : FE} : wpS I (.par i j a b) np E Y env c = wpE I a env c (fun x c1 => wpE I b env c1 (fun y c2 => i < env.length ∧ j < env.length ∧ E.nx (setE (setE env i x) j y) c2) (atE Y env)) (atE Y env) := rfl
theorem s_aug {i : Nat} {o : B2} {e : FE} {k : Int} (h : env[i]? = some (some (.int k))) : wpS I (.aug i o m e) np E Y env c = wpE I e env c (fun y c1 => augI o k (fun z => E.nx (setE env i (.int z)) c1) y) (atE Y env) := by
  show (match env[i]? with
    | some (some (.int k)) => wpE I e env c (fun y c1 => augI o k (fun z => E.nx (setE env i (.int z)) c1) y) (atE Y env)
    | _ => False) = _
  rw [h]
theorem s_trunc {o i v : FE} : wpS I (.trunc o i v) np E Y env c = wpE I v env c (fun z c1 => wpE I o env c1 (fun x c2 => wpE I i env c2 (fun y c3 => truD c3 (E.nx env) x y z) (atE Y env)) (atE Y env)) (atE Y env) := rfl
theorem truD_c {n : Nat} {j : Int} {K : Cs → Prop} {c : Cs} : truD c K (.cell n) (.int j) (.lst []) = onO (getL c (.cell n)) fun xs => (0 ≤ j ∧ j ≤ xs.length ∧ xs.length ≤ 16777216) ∧ K (c.set n (.lst (xs.take j.toNat))) := rfl
theorem s_setI {o i v : FE} : wpS I (.setI o i v) np E Y env c = wpE I v env c (fun z c1 => wpE I o env c1 (fun x c2 => wpE I i env c2 (fun y c3 => setD x y z c3 (E.nx env)) (atE Y env)) (atE Y env)) (atE Y env) := rfl
def agK (Ev : QE → Cs → Prop) (o : B2) (x : D) (K : Cs → Prop) : D → Cs → Prop := fun y c2 => match y with
    | .int q => idxS c2 (fun old c2' => Ev (fun z c3 => onI (fun p => augI o p (fun r => setD x y (.int r) c3 K) z) old) c2') q (getL c2 x)
    | _ => False
theorem s_augI {o : B2} {a i v : FE} : wpS I (.augI o a i v) np E Y env c = wpE I a env c (fun x c1 => wpE I i env c1 (agK (fun K c3 => wpE I v env c3 K (atE Y env)) o x (E.nx env)) (atE Y env)) (atE Y env) := rfl
@[simp] theorem agK_int {Ev : QE → Cs → Prop} {o : B2} {x : D} {K : Cs → Prop} {q : Int} : agK Ev o x K (.int q) c = idxS c (fun old c2' => Ev (fun z c3 => onI (fun p => augI o p (fun r => setD x (.int q) (.int r) c3 K) z) old) c2') q (getL c x) := rfl
theorem s_setA {a v : FE} {k j : Nat} : wpS I (.setA a k j v) np E Y env c = wpE I v env c (fun z c1 => wpE I a env c1 (fun x c2 => setF I.flds x k j z c2 (E.nx env)) (atE Y env)) (atE Y env) := rfl
theorem s_ifs {t : FC} {a b : FSs} : wpS I (.ifs t a b) np E Y env c = wpC I t env c (fun k c1 => sIf k (wpSs I a np E Y env c1) (wpSs I b np E Y env c1)) (atE Y env) := rfl
theorem s_for {keep : Bool} {t : FT} {it : FI} {b : FSs} : wpS I (.for_ keep t it b) np E Y env c = wpI I it env c (fun xs gd c1 => forL I.flds keep c1.length gd (fun x E' env' c' => wpT t x env' c' fun env2 => wpSs I b c1.length E' Y env2 c') E xs env c1) (atE Y env) := rfl
theorem s_ret {e : FE} : wpS I (.ret e) np E Y env c = wpE I e env c E.rt (atE Y env) := rfl
theorem s_retN : wpS I .retN np E Y env c = E.rt .non c := rfl
theorem s_brk : wpS I .brk np E Y env c = E.bk env c := rfl
theorem s_cnt : wpS I .cnt np E Y env c = E.ct env c := rfl
theorem s_rais {k f : Nat} {es : FA} : wpS I (.rais k f es) np E Y env c = wpA I es env c (fun ds c1 => Y k ds env c1) (atE Y env) := rfl
theorem s_try {b : FSs} {i k0 : Nat} {hs : List HSt} : wpS I (.try_ b i k0 hs) np E Y env c = wpSs I b np E (fun k fs env' c' => (k < I.ne ∧ i < env'.length) ∧ sIf (I.esub k k0) (hEnd E i (hsV I k fs (env'.set i none) c' hs) env' c') (Y k fs env' c')) env c := rfl
theorem s_tryM {b : FSs} {cs : List Cl} : wpS I (.tryM b cs) np E Y env c = wpSs I b np E (fun k fs env' c' => k < I.ne ∧ hMany I k fs E Y env' c' cs) env c := rfl
theorem s_pass : wpS I .pass np E Y env c = E.nx env c := rfl
theorem s_frz {i : Nat} : wpS I (.frz i) np E Y env c = onO (cellAtI env i) fun n => np ≤ n ∧ frz1 I.flds n c fun ρ c' => E.nx (env.map (Option.map (D.sub ρ))) c' := rfl
theorem s_forget {i : Nat} : wpS I (.forget i) np E Y env c = E.nx (env.set i none) c := rfl
end
theorem t_nm {i : Nat} {d : D} {K : En → Prop} : wpT (.nm i) d env c K = (i < env.length ∧ K (setE env i d)) := rfl
theorem t_tp {ts : FTs} {d : D} {K : En → Prop} : wpT (.tp ts) d env c K = onO (getS c d) fun xs => xs.length = ftLen ts ∧ wpTs ts xs env c K := rfl
theorem ts_nil {K : En → Prop} : wpTs .nil [] env c K = K env := rfl
theorem ts_cons {t : FT} {ts : FTs} {d : D} {ds : List D} {K : En → Prop} : wpTs (.cons t ts) (d :: ds) env c K = wpT t d env c fun env' => wpTs ts ds env' c K := rfl
theorem b_add {i j : Int} : wpB .add m (.int i) (.int j) c Q = Q (.int (i + j)) c := rfl
theorem b_sub {i j : Int} : wpB .sub m (.int i) (.int j) c Q = Q (.int (i - j)) c := rfl
theorem b_mul {i j : Int} : wpB .mul m (.int i) (.int j) c Q = (mulOk i j ∧ Q (.int (i * j)) c) := rfl
theorem b_fdiv {i j : Int} : wpB .fdiv m (.int i) (.int j) c Q = ((0 < j ∧ j.natAbs < 2 ^ 9000) ∧ Q (.int (i / j)) c) := rfl
theorem b_mod {i j : Int} : wpB .mod m (.int i) (.int j) c Q = (0 < j ∧ Q (.int (i % j)) c) := rfl
theorem b_pow {i j : Int} : wpB .pow m (.int i) (.int j) c Q = ((0 ≤ j ∧ j ≤ 1000000 ∧ i.natAbs < 2 ^ 64) ∧ Q (.int (i ^ j.toNat)) c) := rfl
theorem b_lt {i j : Int} : wpB .lt m (.int i) (.int j) c Q = Q (.bl (decide (i < j))) c := rfl
theorem b_le {i j : Int} : wpB .le m (.int i) (.int j) c Q = Q (.bl (decide (i ≤ j))) c := rfl
theorem b_gt {i j : Int} : wpB .gt m (.int i) (.int j) c Q = Q (.bl (decide (j < i))) c := rfl
theorem b_ge {i j : Int} : wpB .ge m (.int i) (.int j) c Q = Q (.bl (decide (j ≤ i))) c := rfl
theorem b_eq {i j : Int} : wpB .eq m (.int i) (.int j) c Q = Q (.bl (decide (i = j))) c := rfl
theorem b_ne {i j : Int} : wpB .ne m (.int i) (.int j) c Q = Q (.bl (!decide (i = j))) c := rfl
theorem b_eqb {i j : Bool} : wpB .eq m (.bl i) (.bl j) c Q = Q (.bl (decide (i = j))) c := rfl
theorem b_neb {i j : Bool} : wpB .ne m (.bl i) (.bl j) c Q = Q (.bl (!decide (i = j))) c := rfl
theorem b_is {a : D} : wpB .is m a .non c Q = Q (.bl (isNon a)) c := by
  cases a <;> rfl
theorem b_isn {a : D} : wpB .isn m a .non c Q = Q (.bl (!isNon a)) c := by
  cases a <;> rfl
theorem b_isb {i j : Bool} : wpB .is m (.bl i) (.bl j) c Q = Q (.bl (decide (i = j))) c := rfl
theorem b_isnb {i j : Bool} : wpB .isn m (.bl i) (.bl j) c Q = Q (.bl (!decide (i = j))) c := rfl
theorem e_rev {a : FE} : wpE I (.rev m a) env c Q X = wpE I a env c (fun d c1 => onO (getR c1 d) fun xs => newL m xs.reverse c1 Q) X := rfl
theorem bi_sorted {a : D} : wpBi .sorted m [a] c Q = srtA m c Q a (getR c a) := rfl
theorem srtA_s {a : D} {xs : List D} : srtA m c Q a (some xs) = srtD m c Q xs := rfl
theorem srtA_n {a : D} : srtA m c Q a none = onO (getC c a) fun kv => srtK m c Q kv.1 (allI kv.1) := rfl
theorem srtK_i {xs : List D} {ns : List Int} : srtK m c Q xs (some ns) = ∀ ms : List Int, ms.Perm ns → ms.Pairwise (· ≤ ·) → newL m (ms.map D.int) c Q := rfl
theorem srtK_n {xs : List D} : srtK m c Q xs none = srtG m c Q xs := rfl
theorem b_idx {a b : D} : wpB .idx m a b c Q = idxA c Q a b (getS c a) := rfl
theorem idxA_i {a : D} {i : Int} {xs : List D} : idxA c Q a (.int i) (some xs) = idxS c Q i (some xs) := rfl
theorem idxA_n {a b : D} : idxA c Q a b none = dgetD c Q b (getC c a) := rfl
theorem dget_s {ks vs : List D} {k : D} : dgetD c Q k (some (ks, vs)) = (kOk ks k = true ∧ onO (dGet ks vs k) fun d => Q d c) := by
  show (kOk ks k = true ∧ match dGet ks vs k with
    | some d => Q d c
    | none => False) = _
  cases dGet ks vs k <;> rfl
theorem getC_dct {ks vs : List D} : getC c (.dct ks vs) = some (ks, vs) := rfl
theorem getS_dct {ks vs : List D} : getS c (.dct ks vs) = none := rfl
theorem getR_dct {ks vs : List D} : getR c (.dct ks vs) = none := rfl
theorem getL_dct {ks vs : List D} : getL c (.dct ks vs) = none := rfl
def dctC : Option Cont → Option (List D × List D)
  | some (.dct ks vs) => some (ks, vs)
  | _ => none
theorem getC_c {n : Nat} : getC c (.cell n) = dctC c[n]? := by
  show (match c[n]? with
    | some (.dct ks vs) => some (ks, vs)
    | _ => none) = _
  cases c[n]? with
  | none => rfl
  | some x => cases x <;> rfl
theorem dctC_dct {ks vs : List D} : dctC (some (.dct ks vs)) = some (ks, vs) := rfl
theorem dctC_lst {xs : List D} : dctC (some (.lst xs)) = none := rfl
theorem idx_some {xs : List D} {i : Int} {d : D} (h : atI xs i = some d) : idxS c Q i (some xs) = Q d c := by
  unfold idxS; dsimp only; rw [h]
theorem atI_pos {α : Type} {xs : List α} {i : Int} {d : α} (h0 : 0 ≤ i) (h : xs[i.toNat]? = some d) : atI xs i = some d := by
  unfold atI ixN
  have hl := (List.getElem?_eq_some_iff.mp h).1
  rw [if_pos h0, if_pos (by omega)]
  exact h
theorem getL_lst {xs : List D} : getL c (.lst xs) = some xs := rfl
theorem getR_lst {xs : List D} : getR c (.lst xs) = some xs := rfl
theorem getR_scr {xs : List D} : getR c (.scr xs) = some xs := rfl
theorem getS_lst {xs : List D} : getS c (.lst xs) = some xs := rfl
theorem getS_scr {xs : List D} : getS c (.scr xs) = some xs := rfl
theorem getS_tup {xs : List D} : getS c (.tup xs) = some xs := rfl
theorem getL_cell {n : Nat} {xs : List D} (h : c[n]? = some (.lst xs)) : getL c (.cell n) = some xs := by
  unfold getL; dsimp only; rw [h]
theorem getR_cell {n : Nat} {xs : List D} (h : c[n]? = some (.lst xs)) : getR c (.cell n) = some xs := getL_cell h
theorem getS_cell {n : Nat} {xs : List D} (h : c[n]? = some (.lst xs)) : getS c (.cell n) = some xs := getL_cell h
theorem gdOf_lst {xs : List D} : gdOf c (.lst xs) = [] := rfl
theorem gdOf_scr {xs : List D} : gdOf c (.scr xs) = [] := rfl
theorem gdOf_tup {xs : List D} : gdOf c (.tup xs) = [] := rfl
theorem gdOf_cell {n : Nat} {xs : List D} (h : c[n]? = some (.lst xs)) : gdOf c (.cell n) = [(n, .lst xs)] := by
  unfold gdOf; dsimp only; rw [h]
theorem onO_some {α : Type} {x : α} {P : α → Prop} : onO (some x) P = P x := rfl
theorem sIf_true {A B : Prop} : sIf true A B = A := rfl
theorem sIf_false {A B : Prop} : sIf false A B = B := rfl
theorem sIf_dec {p : Prop} [Decidable p] {A B : Prop} : sIf (decide p) A B = if p then A else B := by
  by_cases h : p <;> simp [h, sIf]
theorem sIf_not {b : Bool} {A B : Prop} : sIf (!b) A B = sIf b B A := by cases b <;> rfl
theorem sIf_if {b : Bool} {A B : Prop} : sIf b A B = if b = true then A else B := by cases b <;> simp [sIf]
theorem newL_f {xs : List D} : newL false xs c Q = Q (.lst xs) c := rfl
theorem newL_t {xs : List D} : newL true xs c Q = Q (.cell c.length) (c ++ [.lst xs]) := rfl
theorem newD_f {ks vs : List D} : newD false ks vs c Q = Q (.dct ks vs) c := rfl
theorem newD_t {ks vs : List D} : newD true ks vs c Q = Q (.cell c.length) (c ++ [.dct ks vs]) := rfl
theorem setD_ok1 {n : Nat} {j : Int} {k : Nat} {xs : List D} {v : D} {K : Cs → Prop} (h : c[n]? = some (.lst xs)) (hk : ixN xs.length j = some k) : setD (.cell n) (.int j) v c K = K (c.set n (.lst (xs.set k v))) := by
  unfold setD; dsimp only; rw [h]; show onO _ _ = _; rw [hk, onO_some]
theorem ixN_pos {n : Nat} {i : Int} (h0 : 0 ≤ i) (h : i < n) : ixN n i = some i.toNat := by
  unfold ixN
  rw [if_pos h0, if_pos (by omega)]
theorem onI_int {P : Int → Prop} {i : Int} : onI P (.int i) = P i := rfl
theorem aug_add {i j : Int} {K : Int → Prop} : augI .add i K (.int j) = K (i + j) := rfl
theorem aug_sub {i j : Int} {K : Int → Prop} : augI .sub i K (.int j) = K (i - j) := rfl
theorem bi_len {a : D} : wpBi .len m [a] c Q = lenA c Q a (getS c a) := rfl
theorem lenA_s {a : D} {xs : List D} : lenA c Q a (some xs) = Q (.int xs.length) c := rfl
theorem lenA_n {a : D} : lenA c Q a none = onO (getC c a) fun kv => Q (.int kv.1.length) c := rfl
theorem bi_min1 {a : D} : wpBi .min m [a] c Q = onO (getR c a) fun xs => minA c Q xs (allI xs) := by cases a <;> rfl
theorem bi_max1 {a : D} : wpBi .max m [a] c Q = onO (getR c a) fun xs => maxA c Q (allI xs) := by cases a <;> rfl
theorem bi_abs {i : Int} : wpBi .abs m [.int i] c Q = Q (.int (if i < 0 then -i else i)) c := rfl
theorem bi_max {i j : Int} : wpBi .max m [.int i, .int j] c Q = Q (.int (if j > i then j else i)) c := rfl
theorem bi_min {i j : Int} : wpBi .min m [.int i, .int j] c Q = Q (.int (if j < i then j else i)) c := rfl
theorem bi_sum {a : D} : wpBi .sum m [a] c Q = onO (getS c a) fun xs => onO (allI xs) fun ns => Q (.int ns.sum) c := rfl
theorem bi_all {a : D} : wpBi .all m [a] c Q = onO (getR c a) fun xs => onO (allB xs) fun bs => Q (.bl (bs.all id)) c := rfl
theorem bi_any {a : D} : wpBi .any m [a] c Q = onO (getR c a) fun xs => onO (allB xs) fun bs => Q (.bl (bs.any id)) c := rfl
theorem bi_int {i : Int} : wpBi .int m [.int i] c Q = Q (.int i) c := rfl
theorem bi_intb {b : Bool} : wpBi .int m [.bl b] c Q = Q (.int (if b then 1 else 0)) c := rfl
theorem bi_list {a : D} : wpBi .list m [a] c Q = onO (getS c a) fun xs => newL m xs c Q := rfl
theorem bi_tuple {a : D} : wpBi .tuple m [a] c Q = onO (getS c a) fun xs => Q (.tup xs) c := rfl
theorem mt_app {n : Nat} {x : D} : wpMt .append (.cell n) [x] c Q = onO (getL c (.cell n)) fun xs => xs.length < 16777216 ∧ Q .non (c.set n (.lst (xs ++ [x]))) := rfl
theorem mt_pop {n : Nat} : wpMt .pop (.cell n) [] c Q = onO (getL c (.cell n)) fun xs => onO xs.getLast? fun x => Q x (c.set n (.lst xs.dropLast)) := rfl
theorem mt_clear {n : Nat} : wpMt .clear (.cell n) [] c Q = onO (getL c (.cell n)) fun _ => Q .non (c.set n (.lst [])) := rfl
theorem allI_map {ns : List Int} : allI (ns.map D.int) = some ns := by
  induction ns with
  | nil => rfl
  | cons n r ih => simp only [List.map_cons, allI, ih, Option.map_some]
theorem allB_map {ns : List Bool} : allB (ns.map D.bl) = some ns := by
  induction ns with
  | nil => rfl
  | cons n r ih => simp only [List.map_cons, allB, ih, Option.map_some]
theorem slc_tup {xs : List D} {lo hi : Option Int} : slcO m c Q (.tup xs) lo hi = Q (.tup (cutD xs lo hi)) c := rfl
theorem slc_any {d : D} {xs : List D} {lo hi : Option Int} (h : getR c d = some xs) : slcO m c Q d lo hi = newL m (cutD xs lo hi) c Q := by
  have nt : ∀ ys, d ≠ .tup ys := fun ys e => by subst e; simp [getR, getL] at h
  unfold slcO
  split
  · exact absurd rfl (nt _)
  · rw [h, onO_some]
theorem part0 : partOf [] = some none := rfl
theorem partN : partOf [.non] = some none := rfl
theorem part1 {i : Int} : partOf [.int i] = some (some i) := rfl
theorem cut_take {xs : List D} {n : Nat} : cutD xs none (some (n : Int)) = xs.take n := by
  unfold cutD
  simp only [HT.sIx]
  have e : ¬ ((n : Int) < 0) := by omega
  simp only [e, if_false, Nat.sub_zero, List.drop_zero, Int.toNat_natCast]
  by_cases h : xs.length ≤ n
  · rw [Nat.min_eq_right h, List.take_length, List.take_of_length_le h]
  · rw [Nat.min_eq_left (by omega)]
theorem cut_drop {xs : List D} {n : Nat} : cutD xs (some (n : Int)) none = xs.drop n := by
  unfold cutD
  simp only [HT.sIx]
  have e : ¬ ((n : Int) < 0) := by omega
  simp only [e, if_false, Int.toNat_natCast]
  rw [List.take_of_length_le (by rw [List.length_drop]; omega)]
  by_cases h : xs.length ≤ n
  · rw [Nat.min_eq_right h, List.drop_length, List.drop_eq_nil_of_le h]
  · rw [Nat.min_eq_left (by omega)]
theorem clean_no {flds : Nat → List Str} {np : Nat} {K : (D → D) → Cs → Prop} (h : c.length = np) : clean flds np c K = K id c := by
  unfold clean; rw [h, Nat.sub_self]; rfl
theorem frz1_mono {flds : Nat → List Str} {i : Nat} {K K' : (Nat → D) → Cs → Prop} (h : frz1 flds i c K) (k : ∀ ρ c', K ρ c' → K' ρ c') : frz1 flds i c K' := by
  unfold frz1 at h ⊢
  cases hx : c[i]? with
  | none => rw [hx] at h; exact h.elim
  | some x =>
    rw [hx] at h
    refine ⟨h.1, ?_⟩
    have h2 := h.2
    cases hu : (x.sub (sig i .non)).fz flds with
    | none => rw [hu] at h2; exact h2.elim
    | some u => rw [hu] at h2; exact k _ _ h2
theorem cleanK_mono {flds : Nat → List Str} : ∀ {n : Nat} {c : Cs} {K K' : (D → D) → Cs → Prop}, cleanK flds n c K → (∀ f c', K f c' → K' f c') → cleanK flds n c K'
  | 0, c, K, K', h, k => k _ _ h
  | n + 1, c, K, K', h, k => frz1_mono h fun ρ c' h' => cleanK_mono h' fun f c'' h'' => k _ _ h''
theorem clean_mono {flds : Nat → List Str} {np : Nat} {K K' : (D → D) → Cs → Prop} (h : clean flds np c K) (k : ∀ f c', K f c' → K' f c') : clean flds np c K' := cleanK_mono h k
theorem frz1_last {flds : Nat → List Str} {x : Cont} {u : D} {K : (Nat → D) → Cs → Prop} (hx : x.all (fun j => decide (j ≠ c.length)) = true) (hu : (x.sub (sig c.length .non)).fz flds = some u) :
    frz1 flds c.length (c ++ [x]) K = K (sig c.length u) (c.map (Cont.sub (sig c.length u))) := by
  unfold frz1
  rw [List.getElem?_append_right (Nat.le_refl _), Nat.sub_self]
  show (x.all _ = true ∧ onO _ _) = _
  rw [hu, hx, List.eraseIdx_append_of_length_le (Nat.le_refl _), Nat.sub_self]
  simp [onO]
theorem v0 {d : D} {r : En} : wpE I (.var 0) (some d :: r) c Q X = Q d c := rfl
theorem vS {i : Nat} {x : Option D} {r : En} : wpE I (.var (i + 1)) (x :: r) c Q X = wpE I (.var i) r c Q X := by
  unfold wpE; rw [List.getElem?_cons_succ]
theorem idx0 {d : D} {r : List D} : idxS c Q 0 (some (d :: r)) = Q d c := idx_some (atI_pos (by decide) rfl)
theorem idx1 {d d0 : D} {r : List D} : idxS c Q 1 (some (d0 :: d :: r)) = Q d c := idx_some (atI_pos (by decide) rfl)
theorem idx2 {d d0 d1 : D} {r : List D} : idxS c Q 2 (some (d0 :: d1 :: d :: r)) = Q d c := idx_some (atI_pos (by decide) rfl)
theorem idx3 {d d0 d1 d2 : D} {r : List D} : idxS c Q 3 (some (d0 :: d1 :: d2 :: d :: r)) = Q d c := idx_some (atI_pos (by decide) rfl)
theorem idx4 {d d0 d1 d2 d3 : D} {r : List D} : idxS c Q 4 (some (d0 :: d1 :: d2 :: d3 :: d :: r)) = Q d c := idx_some (atI_pos (by decide) rfl)
theorem idx5 {d d0 d1 d2 d3 d4 : D} {r : List D} : idxS c Q 5 (some (d0 :: d1 :: d2 :: d3 :: d4 :: d :: r)) = Q d c := idx_some (atI_pos (by decide) rfl)
theorem idx6 {d d0 d1 d2 d3 d4 d5 : D} {r : List D} : idxS c Q 6 (some (d0 :: d1 :: d2 :: d3 :: d4 :: d5 :: d :: r)) = Q d c := idx_some (atI_pos (by decide) rfl)
theorem set_get {n : Nat} {x : Cont} (hn : n < c.length) : (c.set n x)[n]? = some x := List.getElem?_set_self hn
theorem getS_set {n : Nat} {xs : List D} (hn : n < c.length) : getS (c.set n (.lst xs)) (.cell n) = some xs := getS_cell (set_get hn)
theorem getL_set {n : Nat} {xs : List D} (hn : n < c.length) : getL (c.set n (.lst xs)) (.cell n) = some xs := getL_cell (set_get hn)
theorem setD_set {n : Nat} {j : Int} {k : Nat} {xs : List D} {v : D} {K : Cs → Prop} (h : n < c.length) (hk : ixN xs.length j = some k) : setD (.cell n) (.int j) v (c.set n (.lst xs)) K = K (c.set n (.lst (xs.set k v))) := by
  rw [setD_ok1 (set_get h) hk, List.set_set]
theorem set_self {n : Nat} {x : Cont} (h : c[n]? = some x) : c.set n x = c := by
  refine List.ext_getElem? fun j => ?_
  by_cases hj : j = n
  · subst hj; rw [List.getElem?_set_self (List.getElem?_eq_some_iff.mp h).1, h]
  · rw [List.getElem?_set_ne (Ne.symm hj)]
theorem lt_of_get {n : Nat} {x : Cont} (h : c[n]? = some x) : n < c.length := (List.getElem?_eq_some_iff.mp h).1
theorem ix0 {n : Nat} : ixN (n + 1) 0 = some 0 := by
  unfold ixN; rw [if_pos (by decide), if_pos (by omega)]; rfl
theorem ix1 {n : Nat} : ixN (n + 2) 1 = some 1 := by
  unfold ixN; rw [if_pos (by decide), if_pos (by omega)]; rfl
theorem ret_same {flds : Nat → List Str} {np : Nat} {d : D} (h : Q d c) : Ret flds np Q d c := ⟨[], h⟩
def lstC : Option Cont → Option (List D)
  | some (.lst xs) => some xs
  | _ => none
theorem getL_c {n : Nat} : getL c (.cell n) = lstC c[n]? := by
  show (match c[n]? with
    | some (.lst xs) => some xs
    | _ => none) = _
  cases c[n]? with
  | none => rfl
  | some x => cases x <;> rfl
theorem getR_c {n : Nat} : getR c (.cell n) = lstC c[n]? := getL_c
theorem getS_c {n : Nat} : getS c (.cell n) = lstC c[n]? := getL_c
theorem lstC_lst {xs : List D} : lstC (some (.lst xs)) = some xs := rfl
theorem lstC_dct {ks vs : List D} : lstC (some (.dct ks vs)) = none := rfl
theorem setD_c {n : Nat} {i v : D} {K : Cs → Prop} : setD (.cell n) i v c K = setDC n i v c K c[n]? := rfl
theorem setDC_l {n : Nat} {j : Int} {v : D} {K : Cs → Prop} {xs : List D} : setDC n (.int j) v c K (some (.lst xs)) = onO (ixN xs.length j) fun k => K (c.set n (.lst (xs.set k v))) := rfl
theorem setDC_d {n : Nat} {i v : D} {K : Cs → Prop} {ks ds : List D} : setDC n i v c K (some (.dct ks ds)) = (kOk ks i = true ∧ ks.length < 16777216 ∧ K (c.set n (.dct (dPutK ks i) (dPutV ks ds i v)))) := rfl
def gdC (n : Nat) : Option Cont → List (Nat × Cont)
  | some (.lst xs) => [(n, Cont.lst xs)]
  | _ => []
theorem gdOf_c {n : Nat} : gdOf c (.cell n) = gdC n c[n]? := by
  show (match c[n]? with
    | some (.lst xs) => [(n, Cont.lst xs)]
    | _ => []) = _
  cases c[n]? with
  | none => rfl
  | some x => cases x <;> rfl
theorem gdC_lst {n : Nat} {xs : List D} : gdC n (some (.lst xs)) = [(n, Cont.lst xs)] := rfl
def attC (k j : Nat) (Q : QE) (c : Cs) : Option Cont → Prop
  | some (.obj k' fs) => k = k' ∧ onO fs[j]? fun v => Q v c
  | _ => False
theorem attK_c {k j n : Nat} : attK k j Q (.cell n) c = attC k j Q c c[n]? := by
  show (match c[n]? with
      | some (.obj k' fs) => k = k' ∧ onO fs[j]? fun v => Q v c
      | _ => False) = _
  cases c[n]? with
  | none => rfl
  | some x => cases x <;> rfl
theorem attC_obj {k j k' : Nat} {fs : List D} : attC k j Q c (some (.obj k' fs)) = (k = k' ∧ onO fs[j]? fun v => Q v c) := rfl
theorem app_get0 {x : Cont} {r : Cs} : (c ++ x :: r)[c.length]? = some x := by
  rw [List.getElem?_append_right (Nat.le_refl _), Nat.sub_self]; rfl
theorem app_get1 {x y : Cont} {r : Cs} : (c ++ x :: y :: r)[c.length + 1]? = some y := by
  rw [List.getElem?_append_right (Nat.le_add_right _ 1), Nat.add_sub_cancel_left]; rfl
theorem app_get2 {x y z : Cont} {r : Cs} : (c ++ x :: y :: z :: r)[c.length + 2]? = some z := by
  rw [List.getElem?_append_right (Nat.le_add_right _ _), Nat.add_sub_cancel_left]; rfl
theorem app_getL {n : Nat} {r : Cs} (h : n < c.length) : (c ++ r)[n]? = c[n]? := List.getElem?_append_left h
theorem app_set0 {x y : Cont} {r : Cs} : (c ++ x :: r).set c.length y = c ++ y :: r := by
  rw [List.set_append_right _ _ (Nat.le_refl _), Nat.sub_self]; rfl
theorem app_set1 {x y z : Cont} {r : Cs} : (c ++ x :: y :: r).set (c.length + 1) z = c ++ x :: z :: r := by
  rw [List.set_append_right _ _ (Nat.le_add_right _ 1), Nat.add_sub_cancel_left]; rfl
theorem app_set2 {x y z w : Cont} {r : Cs} : (c ++ x :: y :: z :: r).set (c.length + 2) w = c ++ x :: y :: w :: r := by
  rw [List.set_append_right _ _ (Nat.le_add_right _ _), Nat.add_sub_cancel_left]; rfl
theorem app_setL {n : Nat} {y : Cont} {r : Cs} (h : n < c.length) : (c ++ r).set n y = c.set n y ++ r := List.set_append_left _ _ h
theorem app_len0 {x : Cont} : (c ++ [x]).length = c.length + 1 := by simp
theorem app_len1 {x y : Cont} : (c ++ [x, y]).length = c.length + 2 := by simp
theorem app_app {r r' : Cs} : (c ++ r) ++ r' = c ++ (r ++ r') := List.append_assoc _ _ _
theorem mulOk_r {i j : Int} (h1 : -(2 ^ 64) < j) (h2 : j < 2 ^ 64) : mulOk i j := .inr (.inl ⟨h1, h2⟩)
theorem mulOk_l {i j : Int} (h1 : -(2 ^ 64) < i) (h2 : i < 2 ^ 64) : mulOk i j := .inl ⟨h1, h2⟩
theorem idx_ints {xs : List Int} {i : Int} (h0 : 0 ≤ i) (h : i < xs.length) (k : ∀ z, xs[i.toNat]? = some z → Q (.int z) c) : idxS c Q i (some (xs.map D.int)) := by
  have e : xs[i.toNat]? = some (xs[i.toNat]'(by omega)) := List.getElem?_eq_getElem (by omega)
  rw [idx_some (d := .int (xs[i.toNat]'(by omega))) (atI_pos h0 (by rw [List.getElem?_map, e]; rfl))]
  exact k _ e
section
variable {flds : Nat → List Str} {np : Nat} {gd : List (Nat × Cont)} {turn : D → FEnds → En → Cs → Prop} {E : FEnds}
/-- a loop by what holds ahead of each turn -/
theorem for_inv (J : List D → En → Cs → Prop) {xs : List D} (h0 : J xs env c) (hgd : ∀ r e c', J r e c' → gdOk c' gd)
    (step : ∀ x r e c', J (x :: r) e c' → ∀ E' : FEnds, (∀ e2 c2, clean flds np c2 (fun f c3 => J r (e2.map (Option.map f)) c3) → E'.nx e2 c2) → (∀ e2 c2, clean flds np c2 (fun f c3 => J r (e2.map (Option.map f)) c3) → E'.ct e2 c2) →
      (∀ d c2, E.rt d c2 → E'.rt d c2) → (∀ e2 c2, clean flds np c2 (fun f c3 => E.nx (e2.map (Option.map f)) c3) → E'.bk e2 c2) → turn x E' e c')
    (fin : ∀ e c', J [] e c' → E.nx e c') : forL flds false np gd turn E xs env c := by
  induction xs generalizing env c with
  | nil => exact ⟨hgd _ _ _ h0, fin _ _ h0⟩
  | cons x r ih =>
    refine ⟨hgd _ _ _ h0, step x r env c h0 _ (fun e2 c2 h2 => ?_) (fun e2 c2 h2 => ?_) (fun d c2 h => h) (fun e2 c2 h => h)⟩
    · exact clean_mono h2 fun f c3 h3 => ih h3
    · exact clean_mono h2 fun f c3 h3 => ih h3
end
theorem rngL_succ {lo : Int} {n : Nat} : rngL lo (n + 1) = .int lo :: rngL (lo + 1) n := by
  unfold rngL
  rw [List.range_succ_eq_map, List.map_cons, List.map_map]
  simp only [Int.ofNat_eq_natCast, Int.natCast_zero, Int.add_zero]
  congr 1
  apply List.map_congr_left
  intro i _
  show D.int (lo + ((i + 1 : Nat) : Int)) = _
  congr 1
  omega
theorem rngL_zero {lo : Int} : rngL lo 0 = [] := rfl
/-- a loop over a range -/
theorem for_rng {flds : Nat → List Str} {np : Nat} {turn : D → FEnds → En → Cs → Prop} {E : FEnds} (J : Nat → En → Cs → Prop) {lo : Int} {n : Nat} (h0 : J 0 env c)
    (step : ∀ i e c', i < n → J i e c' → ∀ E' : FEnds, (∀ e2 c2, clean flds np c2 (fun f c3 => J (i + 1) (e2.map (Option.map f)) c3) → E'.nx e2 c2) → (∀ e2 c2, clean flds np c2 (fun f c3 => J (i + 1) (e2.map (Option.map f)) c3) → E'.ct e2 c2) →
      (∀ d c2, E.rt d c2 → E'.rt d c2) → (∀ e2 c2, clean flds np c2 (fun f c3 => E.nx (e2.map (Option.map f)) c3) → E'.bk e2 c2) → turn (.int (lo + i)) E' e c')
    (fin : ∀ e c', J n e c' → E.nx e c') : forL flds false np [] turn E (rngL lo n) env c := by
  have main : ∀ (k i : Nat) (env : En) (c : Cs), i + k = n → J i env c → forL flds false np [] turn E (rngL (lo + i) k) env c := by
    intro k
    induction k with
    | zero =>
      intro i env c hk h
      have e : i = n := by omega
      subst e
      exact ⟨trivial, fin _ _ h⟩
    | succ k ih =>
      intro i env c hk h
      rw [rngL_succ]
      have nxt : ∀ (e2 : En) (c2 : Cs), clean flds np c2 (fun f c3 => J (i + 1) (e2.map (Option.map f)) c3) → clean flds np c2 fun f c'' => forL flds false np [] turn E (rngL (lo + i + 1) k) (e2.map (Option.map f)) c'' := fun (e2 : En) (c2 : Cs) h2 => by
        refine clean_mono h2 fun f c3 h3 => ?_
        have z := ih (i + 1) _ c3 (by omega) h3
        rwa [show lo + ((i + 1 : Nat) : Int) = lo + i + 1 by omega] at z
      exact ⟨trivial, step i env c (by omega) h _ nxt nxt (fun d c2 h => h) (fun e2 c2 h => h)⟩
  have z := main n 0 env c (by omega) h0
  simpa using z
mutual
theorem sub_lt {n : Nat} {u : D} : ∀ {d : D}, d.all (fun j => decide (j < n)) = true → d.sub (sig n u) = d
  | .non, _ | .bl _, _ | .int _, _ | .str _, _ | .ty _, _ | .ref _, _ => rfl
  | .tup _, h => by simp only [D.sub]; rw [subL_lt (by simpa only [D.all] using h)]
  | .lst _, h => by simp only [D.sub]; rw [subL_lt (by simpa only [D.all] using h)]
  | .scr _, h => by simp only [D.sub]; rw [subL_lt (by simpa only [D.all] using h)]
  | .dct ks vs, h => by
    simp only [D.all, Bool.and_eq_true] at h
    simp only [D.sub]; rw [subL_lt h.1, subL_lt h.2]
  | .obj _ _, h => by simp only [D.sub]; rw [subL_lt (by simpa only [D.all] using h)]
  | .cell j, h => by
    have h' : j < n := of_decide_eq_true (by simpa only [D.all] using h)
    simp only [D.sub, sig]
    rw [if_neg (by omega), if_pos h']
theorem subL_lt {n : Nat} {u : D} : ∀ {ds : List D}, D.allL (fun j => decide (j < n)) ds = true → D.subL (sig n u) ds = ds
  | [], _ => rfl
  | d :: ds, h => by
    simp only [D.allL, Bool.and_eq_true] at h
    simp only [D.subL]; rw [sub_lt h.1, subL_lt h.2]
end
theorem Cont.sub_lt {n : Nat} {u : D} {x : Cont} (h : x.all (fun j => decide (j < n)) = true) : x.sub (sig n u) = x := by
  cases x with
  | lst xs => simp only [Cont.sub]; rw [subL_lt h]
  | dct ks vs =>
    simp only [Cont.all, Bool.and_eq_true] at h
    simp only [Cont.sub]; rw [subL_lt h.1, subL_lt h.2]
  | obj k fs => simp only [Cont.sub]; rw [subL_lt h]
theorem Wfc.sub {u : D} (w : Wfc c) : c.map (Cont.sub (sig c.length u)) = c := by
  have e : ∀ x ∈ c, Cont.sub (sig c.length u) x = id x := fun x hx => Cont.sub_lt (w x hx)
  rw [List.map_congr_left e, List.map_id]
theorem Cont.all_of_nc {x : Cont} {p : Nat → Bool} (h : x.nc = true) : x.all p = true := by
  cases x with
  | lst xs => exact D.allL_of_nc h
  | dct ks vs =>
    simp only [Cont.nc, Bool.and_eq_true] at h
    simp only [Cont.all, Bool.and_eq_true]
    exact ⟨D.allL_of_nc h.1, D.allL_of_nc h.2⟩
  | obj k fs => exact D.allL_of_nc h
theorem Cont.sub_nc {x : Cont} {ρ : Nat → D} (h : x.nc = true) : x.sub ρ = x := by
  cases x with
  | lst xs => simp only [Cont.sub]; rw [D.subL_nc h]
  | dct ks vs =>
    simp only [Cont.nc, Bool.and_eq_true] at h
    simp only [Cont.sub]; rw [D.subL_nc h.1, D.subL_nc h.2]
  | obj k fs => simp only [Cont.sub]; rw [D.subL_nc h]
theorem Wfc.set {n : Nat} {x : Cont} (w : Wfc c) (h : x.nc = true) : Wfc (c.set n x) := by
  intro y hy
  rw [List.length_set]
  rcases List.mem_or_eq_of_mem_set hy with hy | rfl
  · exact w y hy
  · exact Cont.all_of_nc h
theorem Wfc.app {x : Cont} (w : Wfc c) (h : x.nc = true) : Wfc (c ++ [x]) := by
  intro y hy
  rcases List.mem_append.mp hy with hy | hy
  · have := w y hy
    have mono : ∀ {d : Cont} {m n : Nat}, m ≤ n → d.all (fun j => decide (j < m)) = true → d.all (fun j => decide (j < n)) = true := by
      intro d m n hmn
      have hd : (∀ {d : D}, d.all (fun j => decide (j < m)) = true → d.all (fun j => decide (j < n)) = true) ∧ (∀ {d : List D}, D.allL (fun j => decide (j < m)) d = true → D.allL (fun j => decide (j < n)) d = true) :=
        ⟨fun h => D.all_imp (fun j hj => decide_eq_true (by have := of_decide_eq_true hj; omega)) h, fun h => D.allL_imp (fun j hj => decide_eq_true (by have := of_decide_eq_true hj; omega)) h⟩
      cases d with
      | lst xs => exact hd.2
      | dct ks vs => simp only [Cont.all, Bool.and_eq_true]; exact fun z => ⟨hd.2 z.1, hd.2 z.2⟩
      | obj k fs => exact hd.2
    exact mono (by simp) this
  · have e : y = x := by simpa using hy
    subst e
    exact Cont.all_of_nc h
/-- one cell more, without cells within -/
theorem clean_1 {flds : Nat → List Str} {x : Cont} {u : D} {K : (D → D) → Cs → Prop} (w : Wfc c) (hx : x.nc = true) (hu : x.fz flds = some u) (k : K (D.sub (sig c.length u)) c) : clean flds c.length (c ++ [x]) K := by
  unfold clean
  rw [show (c ++ [x]).length - c.length = 1 by simp]
  show frz1 flds ((c ++ [x]).length - 1) (c ++ [x]) _
  rw [show (c ++ [x]).length - 1 = c.length by simp, frz1_last (Cont.all_of_nc hx) (by rw [Cont.sub_nc hx]; exact hu), w.sub]
  exact k
theorem clean_0 {flds : Nat → List Str} {np : Nat} {K : (D → D) → Cs → Prop} (h : c.length = np) (k : K id c) : clean flds np c K := by
  rw [clean_no h]; exact k
end
end F

namespace F
open PySem PySem.Spec L2
mutual
/-- ints, None, texts, and tuples and lists of such, to a depth -/
def D.ip : Nat → D → Bool
  | _, .non => true
  | _, .int _ => true
  | _, .str x => PyData.canLay0 (.str x)
  | n + 1, .tup xs => D.ipL n xs
  | n + 1, .lst xs => D.ipL n xs
  | _, _ => false
def D.ipL : Nat → List D → Bool
  | _, [] => true
  | n, d :: ds => D.ip n d && D.ipL n ds
end
theorem D.ipL_map {α : Type} {n : Nat} {f : α → D} : ∀ {xs : List α}, (∀ x ∈ xs, D.ip n (f x) = true) → D.ipL n (xs.map f) = true
  | [], _ => rfl
  | x :: xs, h => by
    simp only [List.map_cons, D.ipL, h x (by simp), Bool.true_and]
    exact D.ipL_map fun y hy => h y (by simp [hy])
theorem D.ipL_ints {n : Nat} {xs : List Int} : D.ipL n (xs.map D.int) = true := D.ipL_map fun _ _ => by cases n <;> rfl
mutual
theorem ip_toP : ∀ {n : Nat} {d : D}, D.ip n d = true → ∃ p, toP d = some p ∧ p.canLay0 = true ∧ p.depth ≤ n
  | _, .non, _ => ⟨_, rfl, rfl, by simp [PyData.depth]⟩
  | _, .int _, _ => ⟨_, rfl, rfl, by simp [PyData.depth]⟩
  | _, .str x, h => ⟨_, rfl, by simpa [D.ip] using h, by simp [PyData.depth]⟩
  | n + 1, .tup xs, h => by
    obtain ⟨ps, e, h1, h2⟩ := ipL_toP (n := n) (ds := xs) (by simpa [D.ip] using h)
    exact ⟨.tuple ps, by simp [toP, e], by simpa [PyData.canLay0] using h1, by simp only [PyData.depth]; omega⟩
  | n + 1, .lst xs, h => by
    obtain ⟨ps, e, h1, h2⟩ := ipL_toP (n := n) (ds := xs) (by simpa [D.ip] using h)
    exact ⟨.list ps, by simp [toP, e], by simpa [PyData.canLay0] using h1, by simp only [PyData.depth]; omega⟩
  | 0, .tup _, h => by simp [D.ip] at h
  | 0, .lst _, h => by simp [D.ip] at h
  | n, .bl _, h => by cases n <;> simp [D.ip] at h
  | n, .ty _, h => by cases n <;> simp [D.ip] at h
  | n, .ref _, h => by cases n <;> simp [D.ip] at h
  | n, .scr _, h => by cases n <;> simp [D.ip] at h
  | n, .dct _ _, h => by cases n <;> simp [D.ip] at h
  | n, .obj _ _, h => by cases n <;> simp [D.ip] at h
  | n, .cell _, h => by cases n <;> simp [D.ip] at h
theorem ipL_toP : ∀ {n : Nat} {ds : List D}, D.ipL n ds = true → ∃ ps, toPL ds = some ps ∧ PyData.canLayAll0 ps = true ∧ PyData.depthAll ps ≤ n
  | _, [], _ => ⟨[], rfl, rfl, by simp [PyData.depthAll]⟩
  | n, d :: ds, h => by
    simp only [D.ipL, Bool.and_eq_true] at h
    obtain ⟨p, e, h1, h2⟩ := ip_toP h.1
    obtain ⟨ps, e', h1', h2'⟩ := ipL_toP h.2
    exact ⟨p :: ps, by simp [toPL, e, e'], by simp [PyData.canLayAll0, h1, h1'], by simp only [PyData.depthAll]; omega⟩
end
mutual
theorem ip_eqv : ∀ {n k : Nat} {a b : D} {p q : PyData}, D.ip n a = true → D.ip k b = true → toP a = some p → toP b = some q → (PyData.eqv p q = true ↔ a = b)
  | n, k, .non, b, p, q, ha, hb, ea, eb => by
    cases ea
    cases b <;> first | (simp [D.ip] at hb; done) | (cases k <;> simp [D.ip] at hb; done) | skip
    all_goals (simp only [toP, Option.map_eq_some_iff] at eb; first | (cases eb; simp [PyData.eqv]; done) | (obtain ⟨ps, _, rfl⟩ := eb; simp [PyData.eqv]))
  | n, k, .int i, b, p, q, ha, hb, ea, eb => by
    cases ea
    cases b <;> first | (simp [D.ip] at hb; done) | (cases k <;> simp [D.ip] at hb; done) | skip
    all_goals (simp only [toP, Option.map_eq_some_iff] at eb; first | (cases eb; simp [PyData.eqv]; done) | (obtain ⟨ps, _, rfl⟩ := eb; simp [PyData.eqv]))
  | n, k, .str x, b, p, q, ha, hb, ea, eb => by
    cases ea
    cases b <;> first | (simp [D.ip] at hb; done) | (cases k <;> simp [D.ip] at hb; done) | skip
    all_goals (simp only [toP, Option.map_eq_some_iff] at eb; first | (cases eb; simp [PyData.eqv]; done) | (obtain ⟨ps, _, rfl⟩ := eb; simp [PyData.eqv]))
  | n + 1, k, .tup xs, b, p, q, ha, hb, ea, eb => by
    simp only [toP, Option.map_eq_some_iff] at ea
    obtain ⟨ps, e1, rfl⟩ := ea
    cases b <;> first | (simp [D.ip] at hb; done) | (cases k <;> simp [D.ip] at hb; done) | skip
    case tup ys =>
      cases k with
      | zero => simp [D.ip] at hb
      | succ k =>
        simp only [toP, Option.map_eq_some_iff] at eb
        obtain ⟨qs, e2, rfl⟩ := eb
        have z := ipL_eqv (n := n) (k := k) (by simpa [D.ip] using ha) (by simpa [D.ip] using hb) e1 e2
        simp only [PyData.eqv, z, D.tup.injEq]
    all_goals (simp only [toP, Option.map_eq_some_iff] at eb; first | (cases eb; simp [PyData.eqv]; done) | (obtain ⟨ps, _, rfl⟩ := eb; simp [PyData.eqv]))
  | n + 1, k, .lst xs, b, p, q, ha, hb, ea, eb => by
    simp only [toP, Option.map_eq_some_iff] at ea
    obtain ⟨ps, e1, rfl⟩ := ea
    cases b <;> first | (simp [D.ip] at hb; done) | (cases k <;> simp [D.ip] at hb; done) | skip
    case lst ys =>
      cases k with
      | zero => simp [D.ip] at hb
      | succ k =>
        simp only [toP, Option.map_eq_some_iff] at eb
        obtain ⟨qs, e2, rfl⟩ := eb
        have z := ipL_eqv (n := n) (k := k) (by simpa [D.ip] using ha) (by simpa [D.ip] using hb) e1 e2
        simp only [PyData.eqv, z, D.lst.injEq]
    all_goals (simp only [toP, Option.map_eq_some_iff] at eb; first | (cases eb; simp [PyData.eqv]; done) | (obtain ⟨ps, _, rfl⟩ := eb; simp [PyData.eqv]))
  | 0, _, .tup _, _, _, _, h, _, _, _ => by simp [D.ip] at h
  | 0, _, .lst _, _, _, _, h, _, _, _ => by simp [D.ip] at h
  | n, _, .bl _, _, _, _, h, _, _, _ => by cases n <;> simp [D.ip] at h
  | n, _, .ty _, _, _, _, h, _, _, _ => by cases n <;> simp [D.ip] at h
  | n, _, .ref _, _, _, _, h, _, _, _ => by cases n <;> simp [D.ip] at h
  | n, _, .scr _, _, _, _, h, _, _, _ => by cases n <;> simp [D.ip] at h
  | n, _, .dct _ _, _, _, _, h, _, _, _ => by cases n <;> simp [D.ip] at h
  | n, _, .obj _ _, _, _, _, h, _, _, _ => by cases n <;> simp [D.ip] at h
  | n, _, .cell _, _, _, _, h, _, _, _ => by cases n <;> simp [D.ip] at h
theorem ipL_eqv : ∀ {n k : Nat} {a b : List D} {p q : List PyData}, D.ipL n a = true → D.ipL k b = true → toPL a = some p → toPL b = some q → (PyData.eqvAll p q = true ↔ a = b)
  | n, k, [], [], p, q, ha, hb, ea, eb => by cases ea; cases eb; simp [PyData.eqvAll]
  | n, k, [], b :: bs, p, q, ha, hb, ea, eb => by
    cases ea
    simp only [toPL] at eb
    split at eb
    · cases eb; simp [PyData.eqvAll]
    · cases eb
  | n, k, a :: as, [], p, q, ha, hb, ea, eb => by
    cases eb
    simp only [toPL] at ea
    split at ea
    · cases ea; simp [PyData.eqvAll]
    · cases ea
  | n, k, a :: as, b :: bs, p, q, ha, hb, ea, eb => by
    simp only [D.ipL, Bool.and_eq_true] at ha hb
    simp only [toPL] at ea eb
    split at ea
    · rename_i p1 ps1 h1 h2
      cases ea
      split at eb
      · rename_i q1 qs1 h3 h4
        cases eb
        have z1 := ip_eqv ha.1 hb.1 h1 h3
        have z2 := ipL_eqv ha.2 hb.2 h2 h4
        simp only [PyData.eqvAll, Bool.and_eq_true, z1, z2, List.cons.injEq]
      · cases eb
    · cases ea
end
section
variable {I : CI} {env : En} {c : Cs} {Q : QE} {X : QX} {m : Bool}
/-- what stands for d: a cell's list -/
def view (c : Cs) : D → Option D
  | .cell n => (lstC c[n]?).map .lst
  | d => some d
/-- cells looked into, k deep -/
def viewK (c : Cs) : Nat → D → Option D
  | k + 1, .cell n => match c[n]? with
    | some (.lst xs) => (mapO (viewK c k) xs).map .lst
    | _ => none
  | k + 1, .lst xs => (mapO (viewK c k) xs).map .lst
  | k + 1, .tup xs => (mapO (viewK c k) xs).map .tup
  | _, d => some d
theorem toPk_view : ∀ {k : Nat} {d e : D} {p : PyData}, viewK c k d = some e → toP e = some p → toPk c k d = some p
  | 0, d, e, p, h, hp => by unfold viewK at h; cases h; unfold toPk; exact hp
  | k + 1, d, e, p, h, hp => by
    have lst : ∀ {ds es : List D} {ps : List PyData}, mapO (viewK c k) ds = some es → toPL es = some ps → mapO (toPk c k) ds = some ps := by
      intro ds
      induction ds with
      | nil => intro es ps h e; cases h; exact e
      | cons d ds ih =>
        intro es ps h e
        simp only [mapO] at h ⊢
        cases e1 : viewK c k d with
        | none => rw [e1] at h; cases h
        | some d' =>
          cases e2 : mapO (viewK c k) ds with
          | none => rw [e1, e2] at h; cases h
          | some ds' =>
            rw [e1, e2] at h; cases h
            simp only [toPL] at e
            cases e3 : toP d' with
            | none => rw [e3] at e; cases e
            | some p' =>
              cases e4 : toPL ds' with
              | none => rw [e3, e4] at e; cases e
              | some ps' =>
                rw [e3, e4] at e; cases e
                rw [toPk_view e1 e3, ih e2 e4]
    cases d with
    | cell n =>
      simp only [viewK, toPk] at h ⊢
      cases hc : c[n]? with
      | none => rw [hc] at h; cases h
      | some x =>
        rw [hc] at h
        cases x with
        | lst xs =>
          obtain ⟨ys, h1, rfl⟩ := Option.map_eq_some_iff.mp h
          simp only [toP] at hp
          obtain ⟨ps, h2, rfl⟩ := Option.map_eq_some_iff.mp hp
          dsimp only
          rw [lst h1 h2]; rfl
        | _ => cases h
    | lst xs =>
      simp only [viewK, toPk] at h ⊢
      obtain ⟨ys, h1, rfl⟩ := Option.map_eq_some_iff.mp h
      simp only [toP] at hp
      obtain ⟨ps, h2, rfl⟩ := Option.map_eq_some_iff.mp hp
      rw [lst h1 h2]; rfl
    | tup xs =>
      simp only [viewK, toPk] at h ⊢
      obtain ⟨ys, h1, rfl⟩ := Option.map_eq_some_iff.mp h
      simp only [toP] at hp
      obtain ⟨ps, h2, rfl⟩ := Option.map_eq_some_iff.mp hp
      rw [lst h1 h2]; rfl
    | _ => cases h; exact hp
theorem toPk_ge : ∀ {k : Nat} {d : D} {p : PyData}, toP d = some p → toPk c k d = some p
  | 0, d, p, hp => by unfold toPk; exact hp
  | k + 1, d, p, hp => by
    have lst : ∀ {ds : List D} {ps : List PyData}, toPL ds = some ps → mapO (toPk c k) ds = some ps := by
      intro ds
      induction ds with
      | nil => intro ps e; exact e
      | cons d ds ih =>
        intro ps e
        simp only [mapO]
        simp only [toPL] at e
        cases e3 : toP d with
        | none => rw [e3] at e; cases e
        | some p' =>
          cases e4 : toPL ds with
          | none => rw [e3, e4] at e; cases e
          | some ps' =>
            rw [e3, e4] at e; cases e
            rw [toPk_ge e3, ih e4]
    cases d with
    | cell n => cases hp
    | lst xs =>
      simp only [toPk]
      simp only [toP] at hp
      obtain ⟨ps, h2, rfl⟩ := Option.map_eq_some_iff.mp hp
      rw [lst h2]; rfl
    | tup xs =>
      simp only [toPk]
      simp only [toP] at hp
      obtain ⟨ps, h2, rfl⟩ := Option.map_eq_some_iff.mp hp
      rw [lst h2]; rfl
    | _ => exact hp
theorem toPc_view {d e : D} {p : PyData} (h : view c d = some e) (hp : toP e = some p) : toPc c d = some p := by
  cases d with
  | cell n =>
    simp only [view, Option.map_eq_some_iff] at h
    obtain ⟨xs, h1, rfl⟩ := h
    simp only [toP] at hp
    obtain ⟨ps, h2, rfl⟩ := Option.map_eq_some_iff.mp hp
    have e3 : toPk c 4 (.lst xs) = some (.list ps) := toPk_ge (by simp only [toP, h2]; rfl)
    unfold toPc
    simp only [toPk] at e3 ⊢
    cases hc : c[n]? with
    | none => rw [hc] at h1; cases h1
    | some x =>
      rw [hc] at h1
      cases x with
      | lst ys => cases h1; exact e3
      | _ => cases h1
  | _ => cases h; exact toPk_ge hp
theorem eqG_vk {f : Bool → Bool} {a b a' b' : D} (ha : viewK c 4 a = some a') (hb : viewK c 4 b = some b') (ia : D.ip 64 a' = true) (ib : D.ip 64 b' = true) (k : ∀ r : Bool, (r = true ↔ a' = b') → Q (.bl (f r)) c) : eqG c f Q (toPc c a) (toPc c b) := by
  obtain ⟨p, e1, c1, d1⟩ := ip_toP ia
  obtain ⟨q, e2, c2, d2⟩ := ip_toP ib
  unfold toPc
  rw [toPk_view ha e1, toPk_view hb e2]
  exact ⟨by unfold SeqAt.shaped; rw [c1, decide_eq_true d1]; rfl, by unfold SeqAt.shaped; rw [c2, decide_eq_true d2]; rfl, k _ (ip_eqv ia ib e1 e2)⟩
theorem eqD_vk {f : Bool → Bool} {a b a' b' : D} (ha : viewK c 4 a = some a') (hb : viewK c 4 b = some b') (ia : D.ip 64 a' = true) (ib : D.ip 64 b' = true) (k : ∀ r : Bool, (r = true ↔ a' = b') → Q (.bl (f r)) c) : eqD c f Q a b := by
  unfold eqD
  split
  · cases ha; cases hb; exact k _ (by simp)
  · cases ha; cases ia
  · cases ha; cases hb; exact k _ (by simp)
  · cases ha; cases hb; exact k _ (by simp)
  · exact eqG_vk ha hb ia ib k
theorem b_eq_vk {a b : D} (a' b' : D) (ha : viewK c 4 a = some a') (hb : viewK c 4 b = some b') (ia : D.ip 64 a' = true) (ib : D.ip 64 b' = true) (k : ∀ r : Bool, (r = true ↔ a' = b') → Q (.bl r) c) : wpB .eq m a b c Q := eqD_vk (f := fun b => b) ha hb ia ib k
theorem b_ne_vk {a b : D} (a' b' : D) (ha : viewK c 4 a = some a') (hb : viewK c 4 b = some b') (ia : D.ip 64 a' = true) (ib : D.ip 64 b' = true) (k : ∀ r : Bool, (r = true ↔ a' = b') → Q (.bl (!r)) c) : wpB .ne m a b c Q := eqD_vk (f := fun b => !b) ha hb ia ib k
theorem viewK_nc : ∀ {k : Nat} {d : D}, d.nc = true → viewK c k d = some d
  | 0, d, _ => by unfold viewK; rfl
  | k + 1, d, h => by
    have lst : ∀ {ds : List D}, D.ncL ds = true → mapO (viewK c k) ds = some ds := by
      intro ds
      induction ds with
      | nil => intro _; rfl
      | cons d ds ih =>
        intro h
        simp only [D.ncL, Bool.and_eq_true] at h
        simp only [mapO]
        rw [viewK_nc h.1, ih h.2]
    cases d with
    | cell n => cases h
    | lst xs => simp only [viewK]; rw [lst h]; rfl
    | tup xs => simp only [viewK]; rw [lst h]; rfl
    | _ => rfl
theorem viewK_c {k n : Nat} {xs ys : List D} (h : c[n]? = some (.lst xs)) (e : mapO (viewK c k) xs = some ys) : viewK c (k + 1) (.cell n) = some (.lst ys) := by
  simp only [viewK, h, e]; rfl
theorem viewK_l {k : Nat} {xs ys : List D} (e : mapO (viewK c k) xs = some ys) : viewK c (k + 1) (.lst xs) = some (.lst ys) := by
  simp only [viewK, e]; rfl
theorem mapO_nil {α : Type} {f : D → Option α} : mapO f [] = some [] := rfl
theorem mapO_cons {α : Type} {f : D → Option α} {d : D} {ds : List D} {a : α} {as : List α} (h : f d = some a) (hs : mapO f ds = some as) : mapO f (d :: ds) = some (a :: as) := by
  simp only [mapO, h, hs]
theorem mapO_nc {k : Nat} {ds : List D} (h : D.ncL ds = true) : mapO (viewK c k) ds = some ds := by
  induction ds with
  | nil => rfl
  | cons d ds ih =>
    simp only [D.ncL, Bool.and_eq_true] at h
    exact mapO_cons (viewK_nc h.1) (ih h.2)
theorem eqG_ip {f : Bool → Bool} {a b a' b' : D} (ha : view c a = some a') (hb : view c b = some b') (ia : D.ip 64 a' = true) (ib : D.ip 64 b' = true) (k : ∀ r : Bool, (r = true ↔ a' = b') → Q (.bl (f r)) c) : eqG c f Q (toPc c a) (toPc c b) := by
  obtain ⟨p, e1, c1, d1⟩ := ip_toP ia
  obtain ⟨q, e2, c2, d2⟩ := ip_toP ib
  rw [toPc_view ha e1, toPc_view hb e2]
  exact ⟨by unfold SeqAt.shaped; rw [c1, decide_eq_true d1]; rfl, by unfold SeqAt.shaped; rw [c2, decide_eq_true d2]; rfl, k _ (ip_eqv ia ib e1 e2)⟩
theorem eqD_ip {f : Bool → Bool} {a b a' b' : D} (ha : view c a = some a') (hb : view c b = some b') (ia : D.ip 64 a' = true) (ib : D.ip 64 b' = true) (k : ∀ r : Bool, (r = true ↔ a' = b') → Q (.bl (f r)) c) : eqD c f Q a b := by
  unfold eqD
  split
  · cases ha; cases hb; exact k _ (by simp)
  · cases ha; cases ia
  · cases ha; cases hb; exact k _ (by simp)
  · cases ha; cases hb; exact k _ (by simp)
  · exact eqG_ip ha hb ia ib k
theorem b_eq_ip {a b : D} (a' b' : D) (ha : view c a = some a') (hb : view c b = some b') (ia : D.ip 64 a' = true) (ib : D.ip 64 b' = true) (k : ∀ r : Bool, (r = true ↔ a' = b') → Q (.bl r) c) : wpB .eq m a b c Q := eqD_ip (f := fun b => b) ha hb ia ib k
theorem b_ne_ip {a b : D} (a' b' : D) (ha : view c a = some a') (hb : view c b = some b') (ia : D.ip 64 a' = true) (ib : D.ip 64 b' = true) (k : ∀ r : Bool, (r = true ↔ a' = b') → Q (.bl (!r)) c) : wpB .ne m a b c Q := eqD_ip (f := fun b => !b) ha hb ia ib k
theorem in_ip {f : Bool → Bool} {x : D} {ys : List D} (hx : D.ip 63 x = true) (hy : D.ipL 63 ys = true) (k : ∀ r : Bool, (r = true ↔ x ∈ ys) → Q (.bl (f r)) c) : inD c f Q x (some ys) := by
  obtain ⟨p, e1, c1, d1⟩ := ip_toP hx
  obtain ⟨q, e2, c2, d2⟩ := ipL_toP hy
  unfold inD
  dsimp only
  rw [e1, e2]
  refine ⟨by unfold SeqAt.shaped; rw [c1, decide_eq_true (show p.depth ≤ 64 by omega)]; rfl, by unfold SeqAt.shaped; simp only [PyData.canLay0, c2, PyData.depth, Bool.true_and]; exact decide_eq_true (by omega), k _ ?_⟩
  have main : ∀ {ys : List D} {q : List PyData}, D.ipL 63 ys = true → toPL ys = some q → ((q.any fun z => PyData.eqv z p) = true ↔ x ∈ ys) := by
    intro ys
    induction ys with
    | nil => intro q _ e; cases e; simp
    | cons y ys ih =>
      intro q h e
      simp only [D.ipL, Bool.and_eq_true] at h
      simp only [toPL] at e
      split at e
      · rename_i p1 ps1 h1 h2
        cases e
        have z := ip_eqv h.1 hx h1 e1
        simp only [List.any_cons, Bool.or_eq_true, z, ih h.2 h2, List.mem_cons]
        constructor
        · rintro (h | h)
          · exact .inl h.symm
          · exact .inr h
        · rintro (h | h)
          · exact .inl h.symm
          · exact .inr h
      · cases e
  exact main hy e2
theorem b_in {a b : D} : wpB .inn m a b c Q = inA c (fun b => b) Q a b (getS c b) := rfl
theorem b_nin {a b : D} : wpB .nin m a b c Q = inA c (fun b => !b) Q a b (getS c b) := rfl
theorem inA_s {f : Bool → Bool} {a b : D} {xs : List D} : inA c f Q a b (some xs) = inD c f Q a (some xs) := rfl
theorem inA_n {f : Bool → Bool} {a b : D} : inA c f Q a b none = inK c f Q a (getC c b) := rfl
theorem inK_s {f : Bool → Bool} {a : D} {ks vs : List D} : inK c f Q a (some (ks, vs)) = (kOk ks a = true ∧ Q (.bl (f (dHas ks a))) c) := rfl
theorem slc_lst {xs : List D} {lo hi : Option Int} : slcO m c Q (.lst xs) lo hi = newL m (cutD xs lo hi) c Q := slc_any rfl
theorem slc_scr {xs : List D} {lo hi : Option Int} : slcO m c Q (.scr xs) lo hi = newL m (cutD xs lo hi) c Q := slc_any rfl
theorem slc_c {n : Nat} {lo hi : Option Int} : slcO m c Q (.cell n) lo hi = onO (lstC c[n]?) fun xs => newL m (cutD xs lo hi) c Q := by
  rw [← getR_c]; rfl
theorem cutT {xs : List D} {i : Int} (h : 0 ≤ i) : cutD xs none (some i) = xs.take i.toNat := by
  obtain ⟨n, rfl⟩ := Int.eq_ofNat_of_zero_le h
  exact cut_take
theorem cutDr {xs : List D} {i : Int} (h : 0 ≤ i) : cutD xs (some i) none = xs.drop i.toNat := by
  obtain ⟨n, rfl⟩ := Int.eq_ofNat_of_zero_le h
  exact cut_drop
theorem cut_neg1 {xs : List D} : cutD xs none (some (-1)) = xs.dropLast := by
  unfold cutD
  simp only [HT.sIx, show ((-1 : Int) < 0) from by decide, if_true]
  rw [List.dropLast_eq_take]
  have e : (-1 + (xs.length : Int)).toNat = xs.length - 1 := by omega
  simp [e]
  try omega
theorem b_addl {xs ys : List D} : wpB .add m (.lst xs) (.lst ys) c Q = (xs.length + ys.length ≤ 16777216 ∧ newL m (xs ++ ys) c Q) := rfl
theorem b_addt {xs ys : List D} : wpB .add m (.tup xs) (.tup ys) c Q = (xs.length + ys.length ≤ 16777216 ∧ Q (.tup (xs ++ ys)) c) := rfl
theorem b_rep {xs : List D} {k : Int} : wpB .mul m (.lst xs) (.int k) c Q = ((-(2 ^ 63) ≤ k ∧ k < 2 ^ 63 ∧ xs.length * k.toNat ≤ 16777216) ∧ newL m (List.replicate k.toNat xs).flatten c Q) := rfl
theorem comp_pure {flds : Nat → List Str} {gd : List (Nat × Cont)} {turn : D → (Option D → Cs → Prop) → Cs → Prop} {R : List D → Cs → Prop} {α : Type} (enc : α → D) (g : α → Option D) {xs : List α} (hg : gdOk c gd) (hl : xs.length ≤ 16777216)
    (h : ∀ x ∈ xs, ∀ K : Option D → Cs → Prop, K (g x) c → turn (enc x) K c) (k : R (xs.filterMap g) c) : compL flds false c.length gd turn R (xs.map enc) [] c := by
  have main : ∀ (xs : List α) (acc : List D), acc.length + xs.length ≤ 16777216 → (∀ x ∈ xs, ∀ K : Option D → Cs → Prop, K (g x) c → turn (enc x) K c) → R (acc ++ xs.filterMap g) c → compL flds false c.length gd turn R (xs.map enc) acc c := by
    intro xs
    induction xs with
    | nil => intro acc _ _ k; exact ⟨hg, by simpa using k⟩
    | cons x xs ih =>
      intro acc hl h k
      simp only [List.length_cons] at hl
      refine ⟨hg, by omega, h x (by simp) _ ?_⟩
      show clean flds c.length c _
      rw [clean_no rfl]
      cases e : g x with
      | none =>
        refine ih acc (by omega) (fun y hy => h y (by simp [hy])) ?_
        rw [List.filterMap_cons, e] at k
        exact k
      | some d =>
        refine ih (acc ++ [id d]) (by simp; omega) (fun y hy => h y (by simp [hy])) ?_
        rw [List.filterMap_cons, e] at k
        simpa using k
  exact main xs [] (by simpa using hl) h (by simpa using k)
theorem comp_map {flds : Nat → List Str} {gd : List (Nat × Cont)} {turn : D → (Option D → Cs → Prop) → Cs → Prop} {R : List D → Cs → Prop} {α : Type} (enc g : α → D) {xs : List α} (hg : gdOk c gd) (hl : xs.length ≤ 16777216)
    (h : ∀ x ∈ xs, ∀ K : Option D → Cs → Prop, K (some (g x)) c → turn (enc x) K c) (k : R (xs.map g) c) : compL flds false c.length gd turn R (xs.map enc) [] c := by
  refine comp_pure enc (fun x => some (g x)) hg hl h ?_
  rwa [List.filterMap_eq_map']
/-- a comprehension whose turns change the store: what holds ahead of each turn -/
theorem comp_inv {flds : Nat → List Str} {np : Nat} {gd : List (Nat × Cont)} {turn : D → (Option D → Cs → Prop) → Cs → Prop} {R : List D → Cs → Prop} (J : List D → List D → Cs → Prop) {xs acc : List D}
    (h0 : J xs acc c) (hlen : ∀ r a c', J r a c' → c'.length = np) (hgd : ∀ r a c', J r a c' → gdOk c' gd) (hac : ∀ x r a c', J (x :: r) a c' → a.length < 16777216)
    (step : ∀ x r a c', J (x :: r) a c' → ∀ K : Option D → Cs → Prop, (∀ d c2, J r (a ++ [d]) c2 → K (some d) c2) → (∀ c2, J r a c2 → K none c2) → turn x K c')
    (fin : ∀ a c', J [] a c' → R a c') : compL flds false np gd turn R xs acc c := by
  induction xs generalizing acc c with
  | nil => exact ⟨hgd _ _ _ h0, fin _ _ h0⟩
  | cons x r ih =>
    refine ⟨hgd _ _ _ h0, hac _ _ _ _ h0, step x r acc c h0 _ (fun d c2 h2 => ?_) (fun c2 h2 => ?_)⟩
    · show clean flds np c2 _
      rw [clean_no (hlen _ _ _ h2)]
      exact ih h2
    · show clean flds np c2 _
      rw [clean_no (hlen _ _ _ h2)]
      exact ih h2
theorem ty_non : tyD c .non = some (.bt "NoneType") := rfl
theorem ty_bl {b : Bool} : tyD c (.bl b) = some (.bt "bool") := rfl
theorem ty_int {i : Int} : tyD c (.int i) = some (.bt "int") := rfl
theorem ty_str {i : Str} : tyD c (.str i) = some (.bt "str") := rfl
theorem ty_tup {i : List D} : tyD c (.tup i) = some (.bt "tuple") := rfl
theorem ty_lst {i : List D} : tyD c (.lst i) = some (.bt "list") := rfl
theorem ty_dct {i j : List D} : tyD c (.dct i j) = some (.bt "dict") := rfl
theorem ty_obj {k : Nat} {j : List D} : tyD c (.obj k j) = some (.cls k) := rfl
def tyC : Option Cont → Option Ty
  | some (.lst _) => some (.bt "list")
  | some (.dct _ _) => some (.bt "dict")
  | some (.obj k _) => some (.cls k)
  | none => none
theorem ty_c {n : Nat} : tyD c (.cell n) = tyC c[n]? := by
  show (match c[n]? with
    | some (.lst _) => some (Ty.bt "list")
    | some (.dct _ _) => some (Ty.bt "dict")
    | some (.obj k _) => some (Ty.cls k)
    | none => none) = _
  cases c[n]? with
  | none => rfl
  | some x => cases x <;> rfl
theorem tyC_dct {ks vs : List D} : tyC (some (.dct ks vs)) = some (.bt "dict") := rfl
theorem tyC_lst {xs : List D} : tyC (some (.lst xs)) = some (.bt "list") := rfl
theorem tyC_obj {k : Nat} {xs : List D} : tyC (some (.obj k xs)) = some (.cls k) := rfl
theorem tyIn_bt {x : String} (h : x ∈ tyNames) : tyIn I (.bt x) = true := decide_eq_true h
theorem sIf_join {α : Type} {r : Bool} {K : α → Prop} {a b : α} (h : K (if r = true then a else b)) : sIf r (K a) (K b) := by cases r <;> simpa [sIf] using h
theorem sIf_both {r : Bool} {A B : Prop} (ha : r = true → A) (hb : r = false → B) : sIf r A B := by cases r with | true => exact ha rfl | false => exact hb rfl
theorem view_lst {xs : List D} : view c (.lst xs) = some (.lst xs) := rfl
theorem view_tup {xs : List D} : view c (.tup xs) = some (.tup xs) := rfl
theorem view_int {i : Int} : view c (.int i) = some (.int i) := rfl
theorem view_c {n : Nat} {xs : List D} (h : c[n]? = some (.lst xs)) : view c (.cell n) = some (.lst xs) := by
  show (lstC c[n]?).map D.lst = _
  rw [h]; rfl
theorem map_int_nil {xs : List Int} : (D.lst (xs.map D.int) = D.lst []) ↔ xs = [] := by simp
theorem map_int_inj {xs ys : List Int} : (D.lst (xs.map D.int) = D.lst (ys.map D.int)) ↔ xs = ys := by
  constructor
  · intro h
    injection h with h
    induction xs generalizing ys with
    | nil => cases ys <;> first | rfl | simp at h
    | cons x xs ih =>
      cases ys with
      | nil => simp at h
      | cons y ys =>
        simp only [List.map_cons, List.cons.injEq, D.int.injEq] at h
        rw [h.1, ih h.2]
  · rintro rfl; rfl
theorem ret_last {flds : Nat → List Str} {d : D} (h : Q d c) : Ret flds c.length Q d c := ⟨[], h⟩
theorem ts_bt {x y : String} : tySub (.bt x) (.bt y) = (if x = y then true else if x = "bool" then decide (y = "int") else false) := rfl
theorem ts_cb {k : Nat} {y : String} : tySub (.cls k) (.bt y) = false := rfl
theorem ts_bc {k : Nat} {y : String} : tySub (.bt y) (.cls k) = false := rfl
theorem ts_cc {k j : Nat} : tySub (.cls k) (.cls j) = (k == j) := rfl
theorem ti_non : tyIn I (.bt "NoneType") = true := tyIn_bt (by decide)
theorem ti_bool : tyIn I (.bt "bool") = true := tyIn_bt (by decide)
theorem ti_int : tyIn I (.bt "int") = true := tyIn_bt (by decide)
theorem ti_str : tyIn I (.bt "str") = true := tyIn_bt (by decide)
theorem ti_tuple : tyIn I (.bt "tuple") = true := tyIn_bt (by decide)
theorem ti_list : tyIn I (.bt "list") = true := tyIn_bt (by decide)
theorem ti_dict : tyIn I (.bt "dict") = true := tyIn_bt (by decide)
theorem small_bd {m : Int} {k : Nat} (h0 : 0 ≤ m) (hb : m < 2 ^ k) (hk : k ≤ 9000) : m.natAbs < 2 ^ 9000 := by
  have e : m.natAbs < 2 ^ k := by
    have : ((m.natAbs : Nat) : Int) < ((2 ^ k : Nat) : Int) := by
      rw [Int.natAbs_of_nonneg h0]
      simpa using hb
    exact Int.ofNat_lt.mp this
  exact Nat.lt_of_lt_of_le e (Nat.pow_le_pow_right (by decide) hk)
theorem sub_ints {ρ : Nat → D} {xs : List Int} : D.subL ρ (xs.map D.int) = xs.map D.int := D.subL_nc (D.ncL_map fun _ => rfl)
theorem sub_scr {ρ : Nat → D} {xs : List Int} : D.sub ρ (.scr (xs.map D.int)) = .scr (xs.map D.int) := by simp only [D.sub, sub_ints]
theorem sub_lst {ρ : Nat → D} {xs : List Int} : D.sub ρ (.lst (xs.map D.int)) = .lst (xs.map D.int) := by simp only [D.sub, sub_ints]
end
end F

namespace F
open PySem PySem.Spec L2
section
variable {flds : Nat → List Str} {np : Nat} {gd : List (Nat × Cont)} {turn : D → FEnds → En → Cs → Prop} {E : FEnds} {env : En} {c : Cs}
theorem for_nth (J : Nat → En → Cs → Prop) {xs : List D} (h0 : J 0 env c) (hgd : ∀ i e c', J i e c' → gdOk c' gd)
    (step : ∀ i x e c', xs[i]? = some x → J i e c' → ∀ E' : FEnds, (∀ e2 c2, clean flds np c2 (fun f c3 => J (i + 1) (e2.map (Option.map f)) c3) → E'.nx e2 c2) → (∀ e2 c2, clean flds np c2 (fun f c3 => J (i + 1) (e2.map (Option.map f)) c3) → E'.ct e2 c2) →
      (∀ d c2, E.rt d c2 → E'.rt d c2) → (∀ e2 c2, clean flds np c2 (fun f c3 => E.nx (e2.map (Option.map f)) c3) → E'.bk e2 c2) → turn x E' e c')
    (fin : ∀ e c', J xs.length e c' → E.nx e c') : forL flds false np gd turn E xs env c := by
  refine for_inv (fun r e c' => ∃ i, r = xs.drop i ∧ i ≤ xs.length ∧ J i e c') ⟨0, rfl, Nat.zero_le _, h0⟩ (fun r e c' ⟨i, _, _, h⟩ => hgd _ _ _ h) ?_ ?_
  · rintro x r e c' ⟨i, h, hi, hj⟩ E' h1 h2 h3 h4
    have hlt : i < xs.length := by
      rcases Nat.lt_or_ge i xs.length with h' | h'
      · exact h'
      · rw [List.drop_eq_nil_of_le h'] at h; cases h
    rw [List.drop_eq_getElem_cons hlt] at h
    injection h with ha hb
    refine step i x e c' (by rw [List.getElem?_eq_getElem hlt, ha]) hj E' (fun e2 c2 h => h1 _ _ (clean_mono h fun f c3 h => ⟨i + 1, hb, hlt, h⟩)) (fun e2 c2 h => h2 _ _ (clean_mono h fun f c3 h => ⟨i + 1, hb, hlt, h⟩)) h3 h4
  · rintro e c' ⟨i, h, hi, hj⟩
    have : i = xs.length := by
      rcases Nat.lt_or_ge i xs.length with h' | h'
      · rw [List.drop_eq_getElem_cons h'] at h; cases h
      · omega
    subst this
    exact fin _ _ hj
theorem for_list {α : Type} (enc : α → D) (J : Nat → En → Cs → Prop) {xs : List α} (h0 : J 0 env c) (hgd : ∀ i e c', J i e c' → gdOk c' gd)
    (step : ∀ i x e c', xs[i]? = some x → J i e c' → ∀ E' : FEnds, (∀ e2 c2, clean flds np c2 (fun f c3 => J (i + 1) (e2.map (Option.map f)) c3) → E'.nx e2 c2) → (∀ e2 c2, clean flds np c2 (fun f c3 => J (i + 1) (e2.map (Option.map f)) c3) → E'.ct e2 c2) →
      (∀ d c2, E.rt d c2 → E'.rt d c2) → (∀ e2 c2, clean flds np c2 (fun f c3 => E.nx (e2.map (Option.map f)) c3) → E'.bk e2 c2) → turn (enc x) E' e c')
    (fin : ∀ e c', J xs.length e c' → E.nx e c') : forL flds false np gd turn E (xs.map enc) env c := by
  refine for_nth J h0 hgd (fun i x e c' hx => ?_) (fun e c' h => fin _ _ (by rwa [List.length_map] at h))
  rw [List.getElem?_map, Option.map_eq_some_iff] at hx
  obtain ⟨y, hy, rfl⟩ := hx
  exact step i y e c' hy
theorem for_enum {α : Type} (enc : α → D) (J : Nat → En → Cs → Prop) {xs : List α} (h0 : J 0 env c) (hgd : ∀ i e c', J i e c' → gdOk c' gd)
    (step : ∀ i x e c', xs[i]? = some x → J i e c' → ∀ E' : FEnds, (∀ e2 c2, clean flds np c2 (fun f c3 => J (i + 1) (e2.map (Option.map f)) c3) → E'.nx e2 c2) → (∀ e2 c2, clean flds np c2 (fun f c3 => J (i + 1) (e2.map (Option.map f)) c3) → E'.ct e2 c2) →
      (∀ d c2, E.rt d c2 → E'.rt d c2) → (∀ e2 c2, clean flds np c2 (fun f c3 => E.nx (e2.map (Option.map f)) c3) → E'.bk e2 c2) → turn (.tup [.int i, enc x]) E' e c')
    (fin : ∀ e c', J xs.length e c' → E.nx e c') : forL flds false np gd turn E (enumL (xs.map enc) 0) env c := by
  refine for_nth J h0 hgd (fun i x e c' hx => ?_) (fun e c' h => fin _ _ (by rwa [enumL_len, List.length_map] at h))
  obtain ⟨y, hy, rfl⟩ := enumL_get hx
  rw [List.getElem?_map, Option.map_eq_some_iff] at hy
  obtain ⟨z, hz, rfl⟩ := hy
  rw [Nat.zero_add]
  exact step i z e c' hz
theorem for_zip {α β : Type} (ea : α → D) (eb : β → D) (J : Nat → En → Cs → Prop) {xs : List α} {ys : List β} (h0 : J 0 env c) (hgd : ∀ i e c', J i e c' → gdOk c' gd)
    (step : ∀ i x y e c', xs[i]? = some x → ys[i]? = some y → J i e c' → ∀ E' : FEnds, (∀ e2 c2, clean flds np c2 (fun f c3 => J (i + 1) (e2.map (Option.map f)) c3) → E'.nx e2 c2) → (∀ e2 c2, clean flds np c2 (fun f c3 => J (i + 1) (e2.map (Option.map f)) c3) → E'.ct e2 c2) →
      (∀ d c2, E.rt d c2 → E'.rt d c2) → (∀ e2 c2, clean flds np c2 (fun f c3 => E.nx (e2.map (Option.map f)) c3) → E'.bk e2 c2) → turn (.tup [ea x, eb y]) E' e c')
    (fin : ∀ e c', J (min xs.length ys.length) e c' → E.nx e c') : forL flds false np gd turn E (zipL (xs.map ea) (ys.map eb)) env c := by
  refine for_nth J h0 hgd (fun i x e c' hx => ?_) (fun e c' h => fin _ _ (by rwa [zipL_len, List.length_map, List.length_map] at h))
  obtain ⟨y, z, hy, hz, rfl⟩ := zipL_get hx
  rw [List.getElem?_map, Option.map_eq_some_iff] at hy hz
  obtain ⟨u, hu, rfl⟩ := hy
  obtain ⟨v, hv, rfl⟩ := hz
  exact step i u v e c' hu hv
theorem comp_pureN {turn : D → (Option D → Cs → Prop) → Cs → Prop} {R : List D → Cs → Prop} {α : Type} (enc : α → D) (g : α → Option D) {xs : List α} (hg : gdOk c gd) (hnp : c.length = np) (hl : xs.length ≤ 16777216)
    (h : ∀ x ∈ xs, ∀ K : Option D → Cs → Prop, K (g x) c → turn (enc x) K c) (k : R (xs.filterMap g) c) : compL flds false np gd turn R (xs.map enc) [] c := by
  subst hnp; exact comp_pure enc g hg hl h k
theorem comp_mapN {turn : D → (Option D → Cs → Prop) → Cs → Prop} {R : List D → Cs → Prop} {α : Type} (enc g : α → D) {xs : List α} (hg : gdOk c gd) (hnp : c.length = np) (hl : xs.length ≤ 16777216)
    (h : ∀ x ∈ xs, ∀ K : Option D → Cs → Prop, K (some (g x)) c → turn (enc x) K c) (k : R (xs.map g) c) : compL flds false np gd turn R (xs.map enc) [] c := by
  subst hnp; exact F.comp_map enc g hg hl h k
mutual
theorem D.sub_sub {ρ τ : Nat → D} : ∀ {d : D}, (d.sub ρ).sub τ = d.sub fun j => (ρ j).sub τ
  | .non | .bl _ | .int _ | .str _ | .ty _ | .ref _ => rfl
  | .tup _ => by simp only [D.sub]; rw [D.subL_subL]
  | .lst _ => by simp only [D.sub]; rw [D.subL_subL]
  | .scr _ => by simp only [D.sub]; rw [D.subL_subL]
  | .dct ks vs => by simp only [D.sub]; rw [D.subL_subL, D.subL_subL]
  | .obj _ _ => by simp only [D.sub]; rw [D.subL_subL]
  | .cell _ => rfl
theorem D.subL_subL {ρ τ : Nat → D} : ∀ {ds : List D}, D.subL τ (D.subL ρ ds) = D.subL (fun j => (ρ j).sub τ) ds
  | [] => rfl
  | d :: ds => by simp only [D.subL]; rw [D.sub_sub, D.subL_subL]
end
mutual
theorem D.sub_id : ∀ {d : D}, d.sub D.cell = d
  | .non | .bl _ | .int _ | .str _ | .ty _ | .ref _ => rfl
  | .tup _ => by simp only [D.sub]; rw [D.subL_id]
  | .lst _ => by simp only [D.sub]; rw [D.subL_id]
  | .scr _ => by simp only [D.sub]; rw [D.subL_id]
  | .dct ks vs => by simp only [D.sub]; rw [D.subL_id, D.subL_id]
  | .obj _ _ => by simp only [D.sub]; rw [D.subL_id]
  | .cell _ => rfl
theorem D.subL_id : ∀ {ds : List D}, D.subL D.cell ds = ds
  | [] => rfl
  | d :: ds => by simp only [D.subL]; rw [D.sub_id, D.subL_id]
end
def cleanR (flds : Nat → List Str) (np : Nat) (ys : Cs) (j : Nat) : D := if j < np then .cell j else (((ys[j - np]?).bind (Cont.fz flds)).getD (.cell (j - ys.length)))
theorem cleanR_lt {j : Nat} {ys : Cs} (h : j < np) : cleanR flds np ys j = .cell j := if_pos h
theorem cleanR_ge {j : Nat} {ys : Cs} {y : Cont} {u : D} (h : ys[j]? = some y) (hu : y.fz flds = some u) : cleanR flds np ys (np + j) = u := by
  unfold cleanR
  rw [if_neg (by omega), show np + j - np = j by omega, h]
  simp [hu]
theorem Wfc.apps (w : Wfc c) : ∀ {ys : Cs}, (∀ y ∈ ys, y.nc = true) → Wfc (c ++ ys) := by
  intro ys
  induction ys generalizing c with
  | nil => intro _; simpa using w
  | cons y ys ih =>
    intro h
    have z := ih (w.app (h y (by simp))) (fun z hz => h z (by simp [hz]))
    simpa using z
theorem fz_nc {y : Cont} {u : D} (h : y.nc = true) (hu : y.fz flds = some u) : u.nc = true := by
  cases y with
  | lst xs => cases hu; exact h
  | dct ks vs => cases hu; exact h
  | obj k fs =>
    simp only [Cont.fz] at hu
    cases hu
    exact h
theorem clean_ncs (w : Wfc c) {ys : Cs} {K : (D → D) → Cs → Prop} (hy : ∀ y ∈ ys, y.nc = true ∧ (y.fz flds).isSome = true) (k : K (D.sub (cleanR flds c.length ys)) c) : clean flds c.length (c ++ ys) K := by
  unfold clean
  rw [List.length_append, Nat.add_sub_cancel_left]
  have main : ∀ (n : Nat) (ys : Cs) (K : (D → D) → Cs → Prop), ys.length = n → (∀ y ∈ ys, y.nc = true ∧ (y.fz flds).isSome = true) → K (D.sub (cleanR flds c.length ys)) c → cleanK flds n (c ++ ys) K := by
    intro n
    induction n with
    | zero =>
      intro ys K hl _ k
      have : ys = [] := List.length_eq_zero_iff.mp hl
      subst this
      show K id (c ++ [])
      rw [List.append_nil]
      have e : D.sub (cleanR flds c.length []) = id := by
        funext d
        have z : cleanR flds c.length [] = D.cell := by
          funext j
          unfold cleanR
          split
          · rfl
          · simp
        rw [z]; exact D.sub_id
      rwa [e] at k
    | succ n ih =>
      intro ys K hl hy k
      rcases List.eq_nil_or_concat ys with rfl | ⟨ys', y, rfl⟩
      · cases hl
      rw [List.concat_eq_append] at *
      have hl' : ys'.length = n := by simpa using hl
      obtain ⟨hn, hf⟩ := hy y (by simp)
      obtain ⟨u, hu⟩ := Option.isSome_iff_exists.mp hf
      have wf : Wfc (c ++ ys') := w.apps fun z hz => (hy z (by simp [hz])).1
      show frz1 flds ((c ++ (ys' ++ [y])).length - 1) (c ++ (ys' ++ [y])) _
      rw [← List.append_assoc, show ((c ++ ys') ++ [y]).length - 1 = (c ++ ys').length by simp, frz1_last (Cont.all_of_nc hn) (by rw [Cont.sub_nc hn]; exact hu), wf.sub]
      refine ih ys' _ hl' (fun z hz => hy z (by simp [hz])) ?_
      have e : (fun d => D.sub (cleanR flds c.length ys') (D.sub (sig (c ++ ys').length u) d)) = D.sub (cleanR flds c.length (ys' ++ [y])) := by
        funext d
        rw [D.sub_sub]
        congr 1
        funext j
        rw [List.length_append]
        unfold sig
        rcases Nat.lt_trichotomy j (c.length + ys'.length) with h | h | h
        · rw [if_neg (by omega), if_pos h]
          show cleanR flds c.length ys' j = _
          unfold cleanR
          split
          · rfl
          · rw [List.getElem?_append_left (by omega)]
            have hj : j - c.length < ys'.length := by omega
            have hz := hy ys'[j - c.length] (by simp)
            obtain ⟨u', hu'⟩ := Option.isSome_iff_exists.mp hz.2
            rw [List.getElem?_eq_getElem hj]
            simp [hu']
        · rw [if_pos h]
          rw [D.sub_nc (fz_nc hn hu)]
          unfold cleanR
          rw [if_neg (by omega), List.getElem?_append_right (by omega), show j - c.length - ys'.length = 0 by omega]
          simp [hu]
        · rw [if_neg (by omega), if_neg (by omega)]
          show cleanR flds c.length ys' (j - 1) = _
          unfold cleanR
          rw [if_neg (by omega), if_neg (by omega), List.getElem?_eq_none (by omega), List.getElem?_eq_none (by simp; omega)]
          simp; omega
      rw [e]
      exact k
  exact main ys.length ys K rfl hy k
theorem ret_ncs {Q : QE} {d : D} (w : Wfc c) {ys : Cs} (hy : ∀ y ∈ ys, y.nc = true ∧ (y.fz flds).isSome = true) (k : Q (D.sub (cleanR flds c.length ys) d) c) : Ret flds c.length Q d (c ++ ys) := by
  have main : ∀ {n : Nat} {d : D} {c : Cs} {np : Nat} {Q : QE}, np + n ≤ c.length → cleanK flds n c (fun f c' => Q (f d) c') → Ret flds np Q d c := by
    intro n
    induction n with
    | zero => intro d c np Q _ h; exact ⟨[], h⟩
    | succ n ih =>
      intro d c np Q hn h
      unfold cleanK frz1 at h
      cases hx : c[c.length - 1]? with
      | none => rw [hx] at h; exact h.elim
      | some x =>
        rw [hx] at h
        obtain ⟨h1, h2⟩ := h
        cases hu : (x.sub (sig (c.length - 1) .non)).fz flds with
        | none => rw [hu] at h2; exact h2.elim
        | some u =>
          rw [hu] at h2
          have hl : ((c.eraseIdx (c.length - 1)).map (Cont.sub (sig (c.length - 1) u))).length = c.length - 1 := by rw [List.length_map, List.length_eraseIdx_of_lt (show c.length - 1 < c.length by omega)]
          obtain ⟨is, hi⟩ := ih (np := np) (Q := Q) (c := (c.eraseIdx (c.length - 1)).map (Cont.sub (sig (c.length - 1) u))) (d := D.sub (sig (c.length - 1) u) d) (by rw [hl]; omega) h2
          refine ⟨(c.length - 1) :: is, by omega, ?_⟩
          unfold frz1
          rw [hx]
          refine ⟨h1, ?_⟩
          rw [hu]
          exact hi
  exact main (n := (c ++ ys).length - c.length) (by simp) (clean_ncs w hy k)
theorem ret_ncsN {Q : QE} {d : D} (hnp : c.length = np) (w : Wfc c) {ys : Cs} (hy : ∀ y ∈ ys, y.nc = true ∧ (y.fz flds).isSome = true) (k : Q (D.sub (cleanR flds np ys) d) c) : Ret flds np Q d (c ++ ys) := by
  subst hnp; exact ret_ncs w hy k
theorem clean_ncsN (hnp : c.length = np) (w : Wfc c) {ys : Cs} {K : (D → D) → Cs → Prop} (hy : ∀ y ∈ ys, y.nc = true ∧ (y.fz flds).isSome = true) (k : K (D.sub (cleanR flds np ys)) c) : clean flds np (c ++ ys) K := by
  subst hnp; exact clean_ncs w hy k
theorem cleanR0 {xs : List D} {r : Cs} : cleanR flds np (.lst xs :: r) np = .lst xs := by
  unfold cleanR
  rw [if_neg (by omega), Nat.sub_self]; rfl
theorem cleanR1 {y : Cont} {xs : List D} {r : Cs} : cleanR flds np (y :: .lst xs :: r) (np + 1) = .lst xs := by
  unfold cleanR
  rw [if_neg (by omega), Nat.add_sub_cancel_left]; rfl
theorem app_get0e {k : Nat} {x : Cont} {r : Cs} (h : c.length = k) : (c ++ x :: r)[k]? = some x := by subst h; exact app_get0
theorem app_set0e {k : Nat} {x y : Cont} {r : Cs} (h : c.length = k) : (c ++ x :: r).set k y = c ++ y :: r := by subst h; exact app_set0
theorem app_get1e {k : Nat} {x y : Cont} {r : Cs} (h : c.length = k) : (c ++ x :: y :: r)[k + 1]? = some y := by subst h; exact app_get1
theorem app_set1e {k : Nat} {x y z : Cont} {r : Cs} (h : c.length = k) : (c ++ x :: y :: r).set (k + 1) z = c ++ x :: z :: r := by subst h; exact app_set1
theorem get_app {n : Nat} {x : Cont} {ys : Cs} (hn : n < c.length) : (c.set n x ++ ys)[n]? = some x := by
  rw [app_getL (by simpa using hn)]; exact set_get hn
theorem mul_bd {a b A B : Int} (ha : 0 ≤ a ∧ a ≤ A) (hb : 0 ≤ b ∧ b ≤ B) : 0 ≤ a * b ∧ a * b ≤ A * B :=
  ⟨Int.mul_nonneg ha.1 hb.1, Int.mul_le_mul ha.2 hb.2 hb.1 (Int.le_trans ha.1 ha.2)⟩
def augM (I : CI) (o : B2) (e : FE) (i : Nat) (E : FEnds) (Y : EX) (env : En) (c : Cs) : Option (Option D) → Prop
  | some (some (.int k)) => wpE I e env c (fun y c1 => augI o k (fun z => E.nx (setE env i (.int z)) c1) y) (atE Y env)
  | _ => False
theorem s_augm {I : CI} {i : Nat} {o : B2} {m : Bool} {e : FE} {Y : EX} : wpS I (.aug i o m e) np E Y env c = augM I o e i E Y env c env[i]? := by
  unfold wpS augM
  rfl
theorem augM_int {I : CI} {i : Nat} {o : B2} {e : FE} {Y : EX} {k : Int} : augM I o e i E Y env c (some (some (.int k))) = wpE I e env c (fun y c1 => augI o k (fun z => E.nx (setE env i (.int z)) c1) y) (atE Y env) := rfl
theorem b_eqs {m : Bool} {i j : Str} {Q : QE} : wpB .eq m (.str i) (.str j) c Q = Q (.bl (decide (i = j))) c := rfl
theorem b_nes {m : Bool} {i j : Str} {Q : QE} : wpB .ne m (.str i) (.str j) c Q = Q (.bl (!decide (i = j))) c := rfl
theorem isN_non : isNon .non = true := rfl
theorem isN_int {i : Int} : isNon (.int i) = false := rfl
theorem isN_bl {i : Bool} : isNon (.bl i) = false := rfl
theorem isN_str {i : Str} : isNon (.str i) = false := rfl
theorem isN_tup {i : List D} : isNon (.tup i) = false := rfl
theorem isN_lst {i : List D} : isNon (.lst i) = false := rfl
theorem isN_obj {k : Nat} {i : List D} : isNon (.obj k i) = false := rfl
theorem isN_cell {k : Nat} : isNon (.cell k) = false := rfl
theorem int2_int {P : Int → Int → Prop} {i j : Int} : int2 P (.int i) (.int j) = P i j := rfl
theorem while_inv {I : CI} {t : FC} {b : FSs} {Y : EX} (J : Nat → En → Cs → Prop) (n : Nat) (h0 : J n env c) (step : ∀ n env c, np ≤ c.length → J n env c → wpC I t env c (fun k c1 => sIf k
      (wpSs I b np { E with nx := fun env' c' => ∃ m, m < n ∧ J m env' c', ct := fun env' c' => ∃ m, m < n ∧ J m env' c', bk := E.nx } Y env c1) (E.nx env c1)) (atE Y env)) : wpS I (.while_ t b) np E Y env c := by
  unfold wpS
  exact ⟨J, n, h0, step⟩
theorem srtD_ints {m : Bool} {Q : QE} {ns : List Int} : srtD m c Q (ns.map D.int) = ∀ ms : List Int, ms.Perm ns → ms.Pairwise (· ≤ ·) → newL m (ms.map D.int) c Q := by
  unfold srtD; rw [allI_map]
theorem allT_map : ∀ {ts : List (List Int)}, (∀ t ∈ ts, t ≠ []) → allT (ts.map tupI) = some ts
  | [], _ => rfl
  | [] :: _, h => absurd rfl (h [] (by simp))
  | (x :: xs) :: r, h => by
    have ih := allT_map (ts := r) fun t ht => h t (by simp [ht])
    have e : allI (D.int x :: xs.map D.int) = some (x :: xs) := by
      have := allI_map (ns := x :: xs)
      simpa using this
    simp only [List.map_cons, tupI, allT]
    rw [e]
    show (match some (x :: xs), allT (r.map tupI) with
      | some ns, some rs => some (ns :: rs)
      | _, _ => none) = _
    rw [ih]
theorem srt_tups {m : Bool} {Q : QE} {ts : List (List Int)} (h : ∀ t ∈ ts, t ≠ []) (k : ∀ ms : List (List Int), ms.Perm ts → ms.Pairwise (fun a b => lexL b a = false) → newL m (ms.map tupI) c Q) : srtD m c Q (ts.map tupI) := by
  cases ts with
  | nil =>
    show ∀ ms : List Int, ms.Perm [] → _
    intro ms hp _
    have : ms = [] := by simpa using hp
    subst this
    exact k [] (.refl _) .nil
  | cons t r =>
    have e : allI ((t :: r).map tupI) = none := rfl
    unfold srtD
    rw [e]
    dsimp only
    rw [allT_map h]
    exact k
theorem map_id_en {e : En} : e.map (Option.map id) = e := by simp
theorem for_rngK (J : Nat → En → Cs → Prop) {lo : Int} {n : Nat} (h0 : J 0 env c)
    (step : ∀ i e c', i < n → J i e c' → ∀ E' : FEnds, (∀ e2 c2, J (i + 1) e2 c2 → E'.nx e2 c2) → (∀ e2 c2, J (i + 1) e2 c2 → E'.ct e2 c2) →
      (∀ d c2, E.rt d c2 → E'.rt d c2) → (∀ e2 c2, E.nx e2 c2 → E'.bk e2 c2) → turn (.int (lo + i)) E' e c')
    (fin : ∀ e c', J n e c' → E.nx e c') : forL flds true np [] turn E (rngL lo n) env c := by
  have main : ∀ (k i : Nat) (env : En) (c : Cs), i + k = n → J i env c → forL flds true np [] turn E (rngL (lo + i) k) env c := by
    intro k
    induction k with
    | zero =>
      intro i env c hk h
      have e : i = n := by omega
      subst e
      exact ⟨trivial, fin _ _ h⟩
    | succ k ih =>
      intro i env c hk h
      rw [rngL_succ]
      have nxt : ∀ (e2 : En) (c2 : Cs), J (i + 1) e2 c2 → cl flds true np c2 fun f c'' => forL flds true np [] turn E (rngL (lo + i + 1) k) (e2.map (Option.map f)) c'' := fun (e2 : En) (c2 : Cs) h2 => by
        show forL flds true np [] turn E (rngL (lo + i + 1) k) (e2.map (Option.map id)) c2
        rw [map_id_en]
        have z := ih (i + 1) _ c2 (by omega) h2
        rwa [show lo + ((i + 1 : Nat) : Int) = lo + i + 1 by omega] at z
      exact ⟨trivial, step i env c (by omega) h _ nxt nxt (fun d c2 h => h) (fun e2 c2 h => by
        show E.nx (e2.map (Option.map id)) c2
        rwa [map_id_en])⟩
  have z := main n 0 env c (by omega) h0
  simpa using z
theorem allB_nil : allB [] = some [] := rfl
theorem allB_cons {b : Bool} {r : List D} : allB (.bl b :: r) = (allB r).map (b :: ·) := rfl
theorem allI_nil : allI [] = some [] := rfl
theorem allI_cons {b : Int} {r : List D} : allI (.int b :: r) = (allI r).map (b :: ·) := rfl
def setFC (flds : Nat → List Str) (k j n : Nat) (v : D) (c : Cs) (K : Cs → Prop) : Option Cont → Prop
  | some (.obj k' fs) => k = k' ∧ j < (flds k).length ∧ fs.length ≤ (flds k).length ∧ (if j < fs.length then K (c.set n (.obj k (fs.set j v))) else j = fs.length ∧ K (c.set n (.obj k (fs ++ [v]))))
  | _ => False
theorem setF_c {k j n : Nat} {v : D} {K : Cs → Prop} : setF flds (.cell n) k j v c K = setFC flds k j n v c K c[n]? := by
  show (match c[n]? with
    | some (.obj k' fs) => k = k' ∧ j < (flds k).length ∧ fs.length ≤ (flds k).length ∧ (if j < fs.length then K (c.set n (.obj k (fs.set j v))) else j = fs.length ∧ K (c.set n (.obj k (fs ++ [v]))))
    | _ => False) = _
  cases c[n]? with
  | none => rfl
  | some x => cases x <;> rfl
theorem setFC_obj {k k' j n : Nat} {fs : List D} {v : D} {K : Cs → Prop} : setFC flds k j n v c K (some (.obj k' fs)) = (k = k' ∧ j < (flds k).length ∧ fs.length ≤ (flds k).length ∧ (if j < fs.length then K (c.set n (.obj k (fs.set j v))) else j = fs.length ∧ K (c.set n (.obj k (fs ++ [v]))))) := rfl
/-- the end of a def: all new cells are frozen -/
theorem ret_cleanK {flds : Nat → List Str} {np : Nat} {Q : QE} : ∀ {n : Nat} {d : D} {c : Cs}, np + n ≤ c.length → cleanK flds n c (fun f c' => Q (f d) c') → Ret flds np Q d c
  | 0, d, c, _, h => ⟨[], h⟩
  | n + 1, d, c, hn, h => by
    unfold cleanK frz1 at h
    cases hx : c[c.length - 1]? with
    | none => rw [hx] at h; exact h.elim
    | some x =>
      rw [hx] at h
      obtain ⟨h1, h2⟩ := h
      cases hu : (x.sub (sig (c.length - 1) .non)).fz flds with
      | none => rw [hu] at h2; exact h2.elim
      | some u =>
        rw [hu] at h2
        have hl : ((c.eraseIdx (c.length - 1)).map (Cont.sub (sig (c.length - 1) u))).length = c.length - 1 := by rw [List.length_map, List.length_eraseIdx_of_lt (show c.length - 1 < c.length by omega)]
        obtain ⟨is, hi⟩ := ret_cleanK (np := np) (Q := Q) (c := (c.eraseIdx (c.length - 1)).map (Cont.sub (sig (c.length - 1) u))) (d := D.sub (sig (c.length - 1) u) d) (n := n) (by rw [hl]; omega) h2
        refine ⟨(c.length - 1) :: is, by omega, ?_⟩
        unfold frz1
        rw [hx]
        refine ⟨h1, ?_⟩
        rw [hu]
        exact hi
theorem ret_clean {flds : Nat → List Str} {np : Nat} {Q : QE} {d : D} {c : Cs} (hn : np ≤ c.length) (h : clean flds np c (fun f c' => Q (f d) c')) : Ret flds np Q d c := ret_cleanK (by omega) h
theorem ret_1 {flds : Nat → List Str} {Q : QE} {d : D} {c : Cs} {x : Cont} {u : D} (w : Wfc c) (hx : x.nc = true) (hu : x.fz flds = some u) (k : Q (D.sub (sig c.length u) d) c) : Ret flds c.length Q d (c ++ [x]) :=
  ret_clean (by simp) (clean_1 w hx hu k)
end
end F

namespace F
open PySem PySem.Spec L2
section
variable {α : Type} [DecidableEq α]
def asGet {β : Type} (m : List (α × β)) (k : α) : Option β := match m with
  | [] => none
  | p :: r => if p.1 = k then some p.2 else asGet r k
def asPut {β : Type} (m : List (α × β)) (k : α) (v : β) : List (α × β) := match m with
  | [] => [(k, v)]
  | p :: r => if p.1 = k then (k, v) :: r else p :: asPut r k v
theorem asGet_put {β : Type} {m : List (α × β)} {k j : α} {v : β} : asGet (asPut m k v) j = if k = j then some v else asGet m j := by
  induction m with
  | nil => simp [asPut, asGet]
  | cons p r ih =>
    unfold asPut
    by_cases h : p.1 = k
    · rw [if_pos h]
      simp only [asGet]
      by_cases e : k = j
      · simp [e]
      · rw [if_neg e, if_neg e, if_neg (by rw [h]; exact e)]
    · rw [if_neg h]
      simp only [asGet]
      by_cases e : p.1 = j
      · rw [if_pos e, if_pos e, if_neg (by rintro rfl; exact h e)]
      · rw [if_neg e, if_neg e, ih]
theorem asPut_keys {β : Type} {m : List (α × β)} {k : α} {v : β} : ∀ j, j ∈ (asPut m k v).map (·.1) ↔ j = k ∨ j ∈ m.map (·.1) := by
  induction m with
  | nil => intro j; simp [asPut]
  | cons p r ih =>
    intro j
    unfold asPut
    by_cases h : p.1 = k
    · rw [if_pos h]; simp [h]
    · rw [if_neg h]; simp only [List.map_cons, List.mem_cons, ih]
      constructor
      · rintro (h | h | h) <;> simp [h]
      · rintro (h | h | h) <;> simp [h]
theorem asPut_nodup {β : Type} {m : List (α × β)} {k : α} {v : β} (h : (m.map (·.1)).Nodup) : ((asPut m k v).map (·.1)).Nodup := by
  induction m with
  | nil => simp [asPut]
  | cons p r ih =>
    unfold asPut
    simp only [List.map_cons, List.nodup_cons] at h
    by_cases e : p.1 = k
    · rw [if_pos e]; simp only [List.map_cons, List.nodup_cons]; rw [← e]; exact h
    · rw [if_neg e]
      simp only [List.map_cons, List.nodup_cons]
      refine ⟨fun hm => ?_, ih h.2⟩
      rcases (asPut_keys _).mp hm with z | z
      · exact e z
      · exact h.1 z
theorem asPut_len {β : Type} {m : List (α × β)} {k : α} {v : β} : (asPut m k v).length ≤ m.length + 1 := by
  induction m with
  | nil => simp [asPut]
  | cons p r ih =>
    unfold asPut
    split
    · simp
    · simp only [List.length_cons]; omega
theorem asGet_mem {β : Type} {m : List (α × β)} {k : α} {v : β} (h : asGet m k = some v) : (k, v) ∈ m := by
  induction m with
  | nil => cases h
  | cons p r ih =>
    simp only [asGet] at h
    split at h
    · rename_i e
      cases h
      subst e
      exact List.mem_cons_self ..
    · exact List.mem_cons_of_mem _ (ih h)
theorem asGet_of_mem {β : Type} {m : List (α × β)} (hn : (m.map (·.1)).Nodup) {k : α} {v : β} (h : (k, v) ∈ m) : asGet m k = some v := by
  induction m with
  | nil => cases h
  | cons p r ih =>
    simp only [List.map_cons, List.nodup_cons] at hn
    simp only [asGet]
    rcases List.mem_cons.mp h with rfl | h
    · rw [if_pos rfl]
    · rw [if_neg (fun e => hn.1 (by rw [e]; exact List.mem_map_of_mem (f := (·.1)) h))]
      exact ih hn.2 h
theorem asGet_isSome {β : Type} {m : List (α × β)} {k : α} : (asGet m k).isSome = decide (k ∈ m.map (·.1)) := by
  induction m with
  | nil => rfl
  | cons p r ih =>
    simp only [asGet, List.map_cons, List.mem_cons]
    by_cases h : p.1 = k
    · rw [if_pos h]; simp [h]
    · rw [if_neg h, ih]
      have : ¬ k = p.1 := fun e => h e.symm
      simp [this]
/-- keys of one sort, told apart -/
structure KEnc (α : Type) where
  enc : α → D
  nk : α → NestedKey
  key : ∀ x, keyN (enc x) = some (nk x)
  inj : ∀ x y, nk x = nk y → x = y
  tup : Bool
  kind : ∀ x, cond tup (isTupD (enc x)) (isKey (enc x)) = true
variable (E : KEnc α)
theorem KEnc.eq_iff {x y : α} : keyN (E.enc x) = keyN (E.enc y) ↔ x = y := by
  rw [E.key, E.key]
  exact ⟨fun h => E.inj _ _ (Option.some.inj h), fun h => by rw [h]⟩
end
end F
namespace F
open PySem PySem.Spec L2
section
variable {α : Type} [DecidableEq α] (E : KEnc α) {β : Type} (ev : β → D)
theorem KEnc.kok {xs : List α} {x : α} : kOk (xs.map E.enc) (E.enc x) = true := by
  unfold kOk
  have h := E.kind
  cases ht : E.tup with
  | true =>
    rw [ht] at h
    have h' : ∀ x, isTupD (E.enc x) = true := h
    have h2 : (xs.map E.enc).all isTupD = true := List.all_eq_true.mpr fun d hd => by obtain ⟨y, _, rfl⟩ := List.mem_map.mp hd; exact h' y
    rw [h' x, h2]; simp
  | false =>
    rw [ht] at h
    have h' : ∀ x, isKey (E.enc x) = true := h
    have h2 : (xs.map E.enc).all isKey = true := List.all_eq_true.mpr fun d hd => by obtain ⟨y, _, rfl⟩ := List.mem_map.mp hd; exact h' y
    rw [h' x, h2]; simp
/-- a dict of these keys -/
def dctM (m : List (α × β)) : List D × List D := (m.map fun p => E.enc p.1, m.map fun p => ev p.2)
theorem KEnc.kokM {m : List (α × β)} {x : α} : kOk (m.map fun p => E.enc p.1) (E.enc x) = true := by
  have := E.kok (xs := m.map (·.1)) (x := x)
  rwa [List.map_map] at this
theorem KEnc.get {m : List (α × β)} {x : α} : dGet (m.map fun p => E.enc p.1) (m.map fun p => ev p.2) (E.enc x) = (asGet m x).map ev := by
  induction m with
  | nil => rfl
  | cons p r ih =>
    simp only [List.map_cons, dGet, asGet]
    by_cases h : p.1 = x
    · rw [if_pos (by rw [h]), if_pos h]; rfl
    · rw [if_neg (fun z => h (E.eq_iff.mp z)), if_neg h, ih]
theorem KEnc.has {m : List (α × β)} {x : α} : dHas (m.map fun p => E.enc p.1) (E.enc x) = (asGet m x).isSome := by
  induction m with
  | nil => rfl
  | cons p r ih =>
    unfold dHas at ih ⊢
    simp only [List.map_cons, List.any_cons, asGet, ih]
    by_cases h : p.1 = x
    · rw [if_pos h, h]; simp
    · rw [if_neg h, decide_eq_false (fun z => h (E.eq_iff.mp z)), Bool.false_or]
theorem asGet_pos {p : α × β} {r : List (α × β)} {x : α} (h : p.1 = x) : asGet (p :: r) x = some p.2 := if_pos h
theorem asGet_neg {p : α × β} {r : List (α × β)} {x : α} (h : ¬ p.1 = x) : asGet (p :: r) x = asGet r x := if_neg h
theorem asPut_pos {p : α × β} {r : List (α × β)} {x : α} {v : β} (h : p.1 = x) : asPut (p :: r) x v = (x, v) :: r := if_pos h
theorem asPut_neg {p : α × β} {r : List (α × β)} {x : α} {v : β} (h : ¬ p.1 = x) : asPut (p :: r) x v = p :: asPut r x v := if_neg h
theorem KEnc.putK {m : List (α × β)} {x : α} {v : β} : dPutK (m.map fun p => E.enc p.1) (E.enc x) = (asPut m x v).map fun p => E.enc p.1 := by
  unfold dPutK
  rw [E.has]
  induction m with
  | nil => rfl
  | cons p r ih =>
    by_cases h : p.1 = x
    · rw [asGet_pos h, asPut_pos h]; simp [h]
    · rw [asGet_neg h, asPut_neg h]
      split at ih
      · rename_i e; rw [if_pos e, List.map_cons, List.map_cons, ← ih]
      · rename_i e; rw [if_neg e, List.map_cons, List.map_cons, ← ih]; rfl
theorem KEnc.rep_none {m : List (α × β)} {x : α} {v : D} (h : ∀ p ∈ m, p.1 ≠ x) : dRep (E.enc x) v (m.map fun p => E.enc p.1) (m.map fun p => ev p.2) = m.map fun p => ev p.2 := by
  induction m with
  | nil => rfl
  | cons p r ih =>
    simp only [List.map_cons, dRep]
    rw [if_neg (fun z => h p (by simp) (E.eq_iff.mp z)), ih fun q hq => h q (by simp [hq])]
theorem KEnc.putV {m : List (α × β)} (hn : (m.map (·.1)).Nodup) {x : α} {v : β} : dPutV (m.map fun p => E.enc p.1) (m.map fun p => ev p.2) (E.enc x) (ev v) = (asPut m x v).map fun p => ev p.2 := by
  unfold dPutV
  rw [E.has]
  induction m with
  | nil => rfl
  | cons p r ih =>
    simp only [List.map_cons, List.nodup_cons] at hn
    by_cases h : p.1 = x
    · rw [asGet_pos h, asPut_pos h]
      simp only [Option.isSome_some, if_true, List.map_cons, dRep]
      rw [if_pos (by rw [h]), E.rep_none ev fun q hq e => hn.1 (by rw [h, ← e]; exact List.mem_map_of_mem (f := (·.1)) hq)]
    · rw [asGet_neg h, asPut_neg h]
      have ih := ih hn.2
      split at ih
      · rename_i e
        rw [if_pos e]
        simp only [List.map_cons, dRep]
        rw [if_neg (fun z => h (E.eq_iff.mp z)), ih]
      · rename_i e; rw [if_neg e, List.map_cons, List.map_cons, ← ih]; rfl
/-- ints as keys; states as keys -/
def kInt : KEnc Int := ⟨D.int, .num, fun _ => rfl, fun x y h => by injection h, false, fun _ => rfl⟩
def encSt (s : Int × Int) : D := .tup [.int s.1, .int s.2]
def kSt : KEnc (Int × Int) := ⟨encSt, fun s => .tup [.num s.1, .num s.2], fun _ => rfl, fun x y h => by
  injection h with h
  simp only [List.cons.injEq, NestedKey.num.injEq, and_true] at h
  exact Prod.ext h.1 h.2, true, fun s => by
  show isTupD (encSt s) = true
  rfl⟩
/-- one state ahead of another -/
def ltSt (a b : Int × Int) : Bool := decide (a.1 < b.1 ∨ (a.1 = b.1 ∧ a.2 < b.2))
theorem ltD_st {a b : Int × Int} : ltD (encSt a) (encSt b) = ltSt a b := PySem.W.dataLt_ii _ _ _ _
theorem toP_st {a : Int × Int} : toP (encSt a) = some (.tuple [.int a.1, .int a.2]) := rfl
theorem toPL_map {γ : Type} {f : γ → D} {p : γ → PyData} (h : ∀ x, toP (f x) = some (p x)) : ∀ {xs : List γ}, toPL (xs.map f) = some (xs.map p)
  | [] => rfl
  | x :: xs => by simp only [List.map_cons, toPL, h x, toPL_map h]
theorem srtOk_map {γ : Type} {p : γ → PyData} (al : ∀ x y, PySem.W.alike (p x) (p y) = true) (so : (∀ x, ∃ a r, p x = .tuple (a :: r)) ∨ ∀ x, p x ≠ .none ∧ ∀ ys, p x ≠ .tuple ys) (dp : ∀ x, (p x).depth ≤ 60) {xs : List γ} : srtOk (xs.map p) := by
  refine ⟨PySem.W.AllAlike.of al, ?_, fun d hd => ?_⟩
  · rcases so with so | so
    · exact PySem.W.Sortable.tuples so
    · exact PySem.W.Sortable.others so
  · obtain ⟨x, _, rfl⟩ := List.mem_map.mp hd
    exact dp x
theorem perm_enc {γ : Type} {f : γ → D} {ms : List D} {xs : List γ} (h : ms.Perm (xs.map f)) : ∃ ys : List γ, ms = ys.map f ∧ ys.Perm xs := by
  obtain ⟨ks, h1, h2⟩ := perm_lift f h xs rfl
  exact ⟨ks, h2.symm, h1⟩
/-- sorted(..) of encoded things -/
theorem srtG_enc {γ : Type} {f : γ → D} {p : γ → PyData} {lt : γ → γ → Bool} {m : Bool} {c : Cs} {Q : QE} {xs : List γ} (h : ∀ x, toP (f x) = some (p x)) (ok : srtOk (xs.map p)) (hl : ∀ x y, ltD (f x) (f y) = lt x y) (k : ∀ ys : List γ, ys.Perm xs → ys.Pairwise (fun a b => lt b a = false) → newL m (ys.map f) c Q) : srtG m c Q (xs.map f) := by
  unfold srtG
  rw [toPL_map h]
  refine ⟨ok, fun ms hp hs => ?_⟩
  obtain ⟨ys, rfl, hy⟩ := perm_enc hp
  refine k ys hy ?_
  rw [List.pairwise_map] at hs
  exact hs.imp fun {a b} z => by rw [hl] at z; exact z
theorem srtOk_st {xs : List (Int × Int)} : srtOk (xs.map fun a => PyData.tuple [.int a.1, .int a.2]) :=
  srtOk_map (fun _ _ => by simp [PySem.W.alike, PySem.W.alikeAll]) (.inl fun x => ⟨_, _, rfl⟩) fun x => by simp [PyData.depth, PyData.depthAll]
theorem allI_st {s : Int × Int} {xs : List (Int × Int)} : allI ((s :: xs).map encSt) = none := rfl
end
end F
namespace F
open PySem PySem.Spec L2
theorem isSomeO_some {α : Type} {x : α} : (isSomeO (some x) = true) = True := eq_self _
theorem isM1_m1 : (isM1 (.int (-1)) = true) = True := eq_self _
theorem dflt_0 : dfltOf [] = some .non := rfl
theorem dflt_1 {d : D} : dfltOf [d] = some d := rfl
theorem gdC_dct {n : Nat} {ks vs : List D} : gdC n (some (.dct ks vs)) = [] := rfl
end F
namespace F
open PySem PySem.Spec L2
section
variable {c : Cs} {Q : QE} {m : Bool}
def addO (m : Bool) (c : Cs) (Q : QE) : Option (List D) → Option (List D) → Prop
  | some xs, some ys => xs.length + ys.length ≤ 16777216 ∧ newL m (xs ++ ys) c Q
  | _, _ => False
theorem addO_some {xs ys : List D} : addO m c Q (some xs) (some ys) = (xs.length + ys.length ≤ 16777216 ∧ newL m (xs ++ ys) c Q) := rfl
theorem b_addcl {n : Nat} {ys : List D} : wpB .add m (.cell n) (.lst ys) c Q = addO m c Q (lstC c[n]?) (some ys) := by
  rw [← getL_c]
  show F.addD m c Q (.cell n) (.lst ys) = _
  unfold F.addD; dsimp only
  cases getL c (.cell n) <;> rfl
theorem b_addlc {n : Nat} {ys : List D} : wpB .add m (.lst ys) (.cell n) c Q = addO m c Q (some ys) (lstC c[n]?) := by
  rw [← getL_c]
  show F.addD m c Q (.lst ys) (.cell n) = _
  unfold F.addD; dsimp only
  cases getL c (.cell n) <;> rfl
theorem b_addcc {n k : Nat} : wpB .add m (.cell n) (.cell k) c Q = addO m c Q (lstC c[n]?) (lstC c[k]?) := by
  rw [← getL_c, ← getL_c]
  show F.addD m c Q (.cell n) (.cell k) = _
  unfold F.addD; dsimp only
  cases getL c (.cell n) <;> first | rfl | (cases getL c (.cell k) <;> rfl)
end
end F
namespace F
open PySem PySem.Spec L2
theorem nodup_len {α : Type} [DecidableEq α] : ∀ {xs ys : List α}, xs.Nodup → (∀ a ∈ xs, a ∈ ys) → xs.length ≤ ys.length
  | [], _, _, _ => Nat.zero_le _
  | x :: xs, ys, hn, h => by
    rw [List.nodup_cons] at hn
    have hx := h x (by simp)
    have := nodup_len (ys := ys.erase x) hn.2 fun a ha => (List.mem_erase_of_ne (a := a) (b := x) (fun e : a = x => hn.1 (by rw [← e]; exact ha))).mpr (h a (by simp [ha]))
    have e := List.length_erase_of_mem hx
    have := List.length_pos_of_mem hx
    simp only [List.length_cons]
    omega
theorem set_dict {α β : Type} [DecidableEq α] (E : KEnc α) (ev : β → D) {m : List (α × β)} {x : α} {v : β} {n : Nat} {c : Cs} {K : Cs → Prop} (hn : (m.map (·.1)).Nodup) (hl : m.length < 16777216) (k : K (c.set n (.dct ((asPut m x v).map fun p => E.enc p.1) ((asPut m x v).map fun p => ev p.2)))) : setDC n (E.enc x) (ev v) c K (some (.dct (m.map fun p => E.enc p.1) (m.map fun p => ev p.2))) := by
  rw [setDC_d, E.putK, E.putV ev hn]
  exact ⟨E.kokM, by rw [List.length_map]; exact hl, k⟩
theorem dI_nc {α β : Type} {ek : α → D} {ev : β → D} {m : List (α × β)} (hk : ∀ a, (ek a).nc = true) (hv : ∀ b, (ev b).nc = true) : (Cont.dct (m.map fun p => ek p.1) (m.map fun p => ev p.2)).nc = true := by
  show (D.ncL _ && D.ncL _) = true
  rw [D.ncL_map (fun _ => hk _), D.ncL_map (fun _ => hv _)]; rfl
theorem idx_pick {α : Type} {c : Cs} {Q : QE} (enc : α → D) {a b : α} {k : Int} (hk : k = 0 ∨ k = 1) : idxS c Q k (some [enc a, enc b]) = Q (enc (if k = 0 then a else b)) c := by
  rcases hk with rfl | rfl
  · rw [idx0]; rfl
  · rw [idx1]; rfl
end F
namespace F
open PySem PySem.Spec L2
theorem sig_self {n : Nat} {u : D} : D.sub (sig n u) (.cell n) = u := if_pos rfl
theorem clean_one {flds : Nat → List Str} {c : Cs} {h x : Cont} {u : D} {K : (D → D) → Cs → Prop} (w : Wfc c) (hh : h.nc = true) (hx : x.nc = true) (hu : x.fz flds = some u) (k : K (D.sub (sig (c.length + 1) u)) (c ++ [h])) : clean flds (c.length + 1) (c ++ [h, x]) K := by
  have z := clean_1 (flds := flds) (K := K) (w.app hh) hx hu (by rwa [app_len0])
  rwa [app_app, app_len0] at z
end F
namespace F
open PySem PySem.Spec L2
theorem clean_tl {flds : Nat → List Str} {c ys : Cs} {h : Cont} {K : (D → D) → Cs → Prop} (w : Wfc c) (hh : h.nc = true) (hy : ∀ y ∈ ys, y.nc = true ∧ (y.fz flds).isSome = true) (k : K (D.sub (cleanR flds (c.length + 1) ys)) (c ++ [h])) : clean flds (c.length + 1) (c ++ h :: ys) K := by
  rw [show c ++ h :: ys = (c ++ [h]) ++ ys by simp]
  exact clean_ncsN (by simp) (w.app hh) hy k
theorem subR_lt {flds : Nat → List Str} {np j : Nat} {ys : Cs} (h : j < np) : D.sub (cleanR flds np ys) (.cell j) = .cell j := cleanR_lt h
end F
namespace F
open PySem PySem.Spec L2
theorem ixN_m1 {n : Nat} : ixN (n + 1) (-1) = some n := by
  unfold ixN
  rw [if_neg (by decide), if_pos (by omega)]
  congr 1
  omega
theorem atI_m1 {α : Type} {xs : List α} {d : α} : atI (xs ++ [d]) (-1) = some d := by
  unfold atI
  rw [List.length_append, List.length_singleton, ixN_m1]
  simp
end F
namespace F
open PySem PySem.Spec L2
theorem idx_any {c : Cs} {Q : QE} {xs : List D} {i : Int} (h0 : 0 ≤ i) (h : i < xs.length) (k : ∀ d, xs[i.toNat]? = some d → Q d c) : idxS c Q i (some xs) := by
  have e : xs[i.toNat]? = some (xs[i.toNat]'(by omega)) := List.getElem?_eq_getElem (by omega)
  rw [idx_some (atI_pos h0 e)]
  exact k _ e
end F

namespace F
open PySem PySem.Spec L2
abbrev D.lt (n : Nat) (d : D) : Prop := d.all (fun j => decide (j < n)) = true
abbrev Cont.lt (n : Nat) (x : Cont) : Prop := x.all (fun j => decide (j < n)) = true
mutual
theorem D.sub_congr {p : Nat → Bool} {ρ τ : Nat → D} (h : ∀ j, p j = true → ρ j = τ j) : ∀ {d : D}, d.all p = true → d.sub ρ = d.sub τ
  | .non, _ | .bl _, _ | .int _, _ | .str _, _ | .ty _, _ | .ref _, _ => rfl
  | .tup _, hd => by simp only [D.sub]; rw [D.subL_congr h (by simpa [D.all] using hd)]
  | .lst _, hd => by simp only [D.sub]; rw [D.subL_congr h (by simpa [D.all] using hd)]
  | .scr _, hd => by simp only [D.sub]; rw [D.subL_congr h (by simpa [D.all] using hd)]
  | .dct ks vs, hd => by
    simp only [D.all, Bool.and_eq_true] at hd
    simp only [D.sub]; rw [D.subL_congr h hd.1, D.subL_congr h hd.2]
  | .obj _ _, hd => by simp only [D.sub]; rw [D.subL_congr h (by simpa [D.all] using hd)]
  | .cell n, hd => by
    simp only [D.sub]
    exact h n hd
theorem D.subL_congr {p : Nat → Bool} {ρ τ : Nat → D} (h : ∀ j, p j = true → ρ j = τ j) : ∀ {ds : List D}, D.allL p ds = true → D.subL ρ ds = D.subL τ ds
  | [], _ => rfl
  | d :: ds, hd => by
    simp only [D.allL, Bool.and_eq_true] at hd
    simp only [D.subL]; rw [D.sub_congr h hd.1, D.subL_congr h hd.2]
end
theorem Cont.sub_congr {p : Nat → Bool} {ρ τ : Nat → D} (h : ∀ j, p j = true → ρ j = τ j) {x : Cont} (hx : x.all p = true) : x.sub ρ = x.sub τ := by
  cases x with
  | lst xs => simp only [Cont.sub]; rw [D.subL_congr h hx]
  | dct ks vs =>
    simp only [Cont.all, Bool.and_eq_true] at hx
    simp only [Cont.sub]; rw [D.subL_congr h hx.1, D.subL_congr h hx.2]
  | obj k fs => simp only [Cont.sub]; rw [D.subL_congr h hx]
/-- what a cell is, frozen -/
def Cont.d : Cont → D
  | .lst xs => .lst xs
  | .dct ks vs => .dct ks vs
  | .obj k fs => .obj k fs
theorem Cont.fz_d {flds : Nat → List Str} {x : Cont} : x.fz flds = some x.d := by cases x <;> rfl
theorem Cont.sub_d {ρ : Nat → D} {x : Cont} : (x.sub ρ).d = x.d.sub ρ := by cases x <;> rfl
theorem Cont.sub_cell {x : Cont} : x.sub D.cell = x := by
  cases x with
  | lst xs => simp only [Cont.sub]; rw [D.subL_id]
  | dct ks vs => simp only [Cont.sub]; rw [D.subL_id, D.subL_id]
  | obj k fs => simp only [Cont.sub]; rw [D.subL_id]
theorem D.sub_fix {n : Nat} {ρ : Nat → D} (h : ∀ j, j < n → ρ j = .cell j) {d : D} (hd : d.lt n) : d.sub ρ = d := by
  rw [D.sub_congr (τ := D.cell) (fun j hj => h j (by simpa using hj)) hd]
  exact D.sub_id
/-- all cells from np on, frozen: ρ tells what becomes of each -/
structure Frz (np : Nat) (ys : Cs) (ρ : Nat → D) : Prop where
  lo : ∀ j, j < np → ρ j = .cell j
  at_ : ∀ (i : Nat) (y : Cont), ys[i]? = some y → ρ (np + i) = y.d.sub ρ
/-- new cells lead only to earlier ones -/
def Wfy (np : Nat) (ys : Cs) : Prop := ∀ (i : Nat) (y : Cont), ys[i]? = some y → y.lt (np + i)
theorem Wfc.apy {c ys : Cs} {np : Nat} (hnp : c.length = np) (w : Wfc c) (h : Wfy np ys) : ∀ x ∈ c ++ ys, x.lt (np + ys.length) := by
  intro x hx
  have mono : ∀ {x : Cont} {m n : Nat}, m ≤ n → x.lt m → x.lt n := fun {x m n} hmn hx => by
    cases x with
    | lst xs => exact D.allL_imp (fun j hj => by simp at hj ⊢; omega) hx
    | dct ks vs =>
      simp only [Cont.lt, Cont.all, Bool.and_eq_true] at hx ⊢
      exact ⟨D.allL_imp (fun j hj => by simp at hj ⊢; omega) hx.1, D.allL_imp (fun j hj => by simp at hj ⊢; omega) hx.2⟩
    | obj k fs => exact D.allL_imp (fun j hj => by simp at hj ⊢; omega) hx
  rcases List.mem_append.mp hx with hx | hx
  · exact mono (by omega) (w x hx)
  · obtain ⟨i, hi⟩ := List.mem_iff_getElem?.mp hx
    have := (List.getElem?_eq_some_iff.mp hi).1
    exact mono (by omega) (h i x hi)
theorem clean_gc {flds : Nat → List Str} {np : Nat} {c ys : Cs} {K : (D → D) → Cs → Prop} (hnp : c.length = np) (w : Wfc c) (hy : Wfy np ys) (k : ∀ ρ, Frz np ys ρ → K (D.sub ρ) c) : clean flds np (c ++ ys) K := by
  subst hnp
  unfold clean
  rw [List.length_append, Nat.add_sub_cancel_left]
  have main : ∀ (n : Nat) (ys : Cs) (K : (D → D) → Cs → Prop), ys.length = n → Wfy c.length ys → (∀ ρ, Frz c.length ys ρ → K (D.sub ρ) c) → cleanK flds n (c ++ ys) K := by
    intro n
    induction n with
    | zero =>
      intro ys K hl _ k
      have : ys = [] := List.length_eq_zero_iff.mp hl
      subst this
      show K id (c ++ [])
      rw [List.append_nil]
      have e : D.sub D.cell = id := funext fun d => D.sub_id
      rw [← e]
      exact k _ ⟨fun _ _ => rfl, fun i y h => by simp at h⟩
    | succ n ih =>
      intro ys K hl hy k
      rcases List.eq_nil_or_concat ys with rfl | ⟨ys', y, rfl⟩
      · cases hl
      rw [List.concat_eq_append] at *
      have hl' : ys'.length = n := by simpa using hl
      have hyy : y.lt (c.length + ys'.length) := hy _ y (by simp)
      have hy' : Wfy c.length ys' := fun i z hz => hy i z (by rw [List.getElem?_append_left (List.getElem?_eq_some_iff.mp hz).1]; exact hz)
      have fix : ∀ (u : D) {x : Cont}, x.lt (c.length + ys'.length) → x.sub (sig (c.length + ys'.length) u) = x := fun u x hx => by
        rw [Cont.sub_congr (τ := D.cell) (fun j hj => ?_) hx, Cont.sub_cell]
        have : j < c.length + ys'.length := by simpa using hj
        unfold sig
        rw [if_neg (by omega), if_pos this]
      show frz1 flds ((c ++ (ys' ++ [y])).length - 1) (c ++ (ys' ++ [y])) _
      rw [← List.append_assoc, show ((c ++ ys') ++ [y]).length - 1 = (c ++ ys').length by simp]
      rw [frz1_last (u := y.d)]
      · rw [List.length_append]
        have em : (c ++ ys').map (Cont.sub (sig (c.length + ys'.length) y.d)) = c ++ ys' := by
          have e : ∀ x ∈ c ++ ys', Cont.sub (sig (c.length + ys'.length) y.d) x = id x := fun x hx => fix _ (w.apy rfl hy' x hx)
          rw [List.map_congr_left e, List.map_id]
        rw [em]
        refine ih ys' _ hl' hy' fun ρ hρ => ?_
        have e : (fun d => D.sub ρ (D.sub (sig (c.length + ys'.length) y.d) d)) = D.sub (fun j => (sig (c.length + ys'.length) y.d j).sub ρ) := by
          funext d; rw [D.sub_sub]
        show K (fun d => D.sub ρ (D.sub (sig (c.length + ys'.length) y.d) d)) c
        rw [e]
        have low : ∀ j, j < c.length + ys'.length → (sig (c.length + ys'.length) y.d j).sub ρ = ρ j := fun j hj => by
          unfold sig
          rw [if_neg (by omega), if_pos hj]
          rfl
        have cong : ∀ {x : Cont}, x.lt (c.length + ys'.length) → x.d.sub ρ = x.d.sub (fun j => (sig (c.length + ys'.length) y.d j).sub ρ) := fun {x} hx => by
          rw [← Cont.sub_d, ← Cont.sub_d, Cont.sub_congr (fun j hj => (low j (by simpa using hj)).symm) hx]
        refine k _ ⟨fun j hj => ?_, fun i z hz => ?_⟩
        · rw [low j (by omega)]; exact hρ.lo j hj
        · rcases Nat.lt_or_ge i ys'.length with hi | hi
          · rw [List.getElem?_append_left hi] at hz
            rw [low _ (by omega), hρ.at_ i z hz]
            refine cong ?_
            exact w.apy rfl hy' z (List.mem_append_right _ (List.mem_of_getElem? hz))
          · have : i = ys'.length := by
              have := (List.getElem?_eq_some_iff.mp hz).1
              simp at this; omega
            subst this
            rw [List.getElem?_append_right (Nat.le_refl _), Nat.sub_self] at hz
            cases hz
            rw [← cong hyy]
            unfold sig
            rw [if_pos rfl]
      · rw [List.length_append]
        have : ∀ {x : Cont}, x.lt (c.length + ys'.length) → x.all (fun j => decide (j ≠ c.length + ys'.length)) = true := fun {x} hx => by
          cases x with
          | lst xs => exact D.allL_imp (fun j hj => by simp at hj ⊢; omega) hx
          | dct ks vs =>
            simp only [Cont.lt, Cont.all, Bool.and_eq_true] at hx ⊢
            exact ⟨D.allL_imp (fun j hj => by simp at hj ⊢; omega) hx.1, D.allL_imp (fun j hj => by simp at hj ⊢; omega) hx.2⟩
          | obj k fs => exact D.allL_imp (fun j hj => by simp at hj ⊢; omega) hx
        exact this hyy
      · rw [List.length_append, fix _ hyy, Cont.fz_d]
  exact main ys.length ys K rfl hy k
theorem ret_gc {flds : Nat → List Str} {np : Nat} {c ys : Cs} {Q : QE} {d : D} (hnp : c.length = np) (w : Wfc c) (hy : Wfy np ys) (k : ∀ ρ, Frz np ys ρ → Q (D.sub ρ d) c) : Ret flds np Q d (c ++ ys) :=
  ret_clean (by simp; omega) (clean_gc hnp w hy k)
theorem Wfy.nil {np : Nat} : Wfy np [] := fun i y h => by simp at h
theorem Wfy.cons {np : Nat} {y : Cont} {ys : Cs} (h : y.lt np) (hs : Wfy (np + 1) ys) : Wfy np (y :: ys) := fun i z hz => by
  cases i with
  | zero => cases hz; exact h
  | succ i => have := hs i z hz; rwa [show np + 1 + i = np + (i + 1) by omega] at this
theorem Wfy.ncs {np : Nat} {ys : Cs} (h : ∀ y ∈ ys, y.nc = true) : Wfy np ys := fun i y hy => Cont.all_of_nc (h y (List.mem_of_getElem? hy))
theorem Wfy.app {np : Nat} {ys : Cs} {y : Cont} (h : Wfy np ys) (hy : y.lt (np + ys.length)) : Wfy np (ys ++ [y]) := fun i z hz => by
  rcases Nat.lt_or_ge i ys.length with hi | hi
  · rw [List.getElem?_append_left hi] at hz; exact h i z hz
  · have : i = ys.length := by
      have := (List.getElem?_eq_some_iff.mp hz).1
      simp at this; omega
    subst this
    rw [List.getElem?_append_right (Nat.le_refl _), Nat.sub_self] at hz
    cases hz
    exact hy
theorem Wfy.set {np i : Nat} {ys : Cs} {y : Cont} (h : Wfy np ys) (hy : y.lt (np + i)) : Wfy np (ys.set i y) := fun j z hz => by
  by_cases e : i = j
  · subst e
    have hl := (List.getElem?_eq_some_iff.mp hz).1
    rw [List.getElem?_set_self (by simpa using hl)] at hz
    cases hz
    exact hy
  · rw [List.getElem?_set_ne e] at hz
    exact h j z hz
theorem D.lt_mono {m n : Nat} (h : m ≤ n) {d : D} (hd : d.lt m) : d.lt n := D.all_imp (fun j hj => by simp at hj ⊢; omega) hd
theorem Cont.lt_mono {m n : Nat} (h : m ≤ n) {x : Cont} (hx : x.lt m) : x.lt n := by
  cases x with
  | lst xs => exact D.allL_imp (fun j hj => by simp at hj ⊢; omega) hx
  | dct ks vs =>
    simp only [Cont.lt, Cont.all, Bool.and_eq_true] at hx ⊢
    exact ⟨D.allL_imp (fun j hj => by simp at hj ⊢; omega) hx.1, D.allL_imp (fun j hj => by simp at hj ⊢; omega) hx.2⟩
  | obj k fs => exact D.allL_imp (fun j hj => by simp at hj ⊢; omega) hx
theorem Frz.nc {np : Nat} {ys : Cs} {ρ : Nat → D} (h : Frz np ys ρ) {i : Nat} {y : Cont} (hy : ys[i]? = some y) (hn : y.nc = true) : ρ (np + i) = y.d := by
  rw [h.at_ i y hy]
  refine D.sub_nc ?_
  cases y <;> exact hn
theorem Frz.cell {np j : Nat} {ys : Cs} {ρ : Nat → D} (h : Frz np ys ρ) (hj : j < np) : D.sub ρ (.cell j) = .cell j := h.lo j hj
theorem e_zipE {I : CI} {env : En} {c : Cs} {Q : QE} {X : QX} {m : Bool} {a b e : FE} : wpE I (.zipE m a b e) env c Q X = wpE I a env c (fun x c1 => wpE I b env c1 (fun y c2 => wpE I e env c2 (fun z c3 => onO (getS c3 x) fun xs => onO (getS c3 y) fun ys => onO (getS c3 z) fun zs => (xs.length = ys.length ∧ ys.length = zs.length) ∧ newL m (zip3L xs ys zs) c3 Q) X) X) X := rfl
theorem e_minV {I : CI} {env : En} {c : Cs} {Q : QE} {X : QX} {a : FE} : wpE I (.minV a) env c Q X = wpE I a env c (fun d c1 => onO (getC c1 d) fun kv => minI c1 Q (allI kv.2)) X := rfl
theorem e_lenS {I : CI} {env : En} {c : Cs} {Q : QE} {X : QX} {a : FE} : wpE I (.lenS a) env c Q X = wpE I a env c (fun d c1 => onO (getR c1 d) fun xs => lenSW xs c1 Q) X := rfl
theorem e_dupd {I : CI} {env : En} {c : Cs} {Q : QE} {X : QX} {a b : FE} : wpE I (.dupd a b) env c Q X = wpE I a env c (fun d c1 => isSomeO (getC c1 d) = true ∧ wpE I b env c1 (fun y c2 => updW d y c2 Q) X) X := rfl
theorem updW_c {n : Nat} {c : Cs} {Q : QE} {ks2 ds2 : List D} : updW (.cell n) (.dct ks2 ds2) c Q = updC n c Q ks2 ds2 c[n]? := rfl
theorem updC_d {n : Nat} {c : Cs} {Q : QE} {ks ds ks2 ds2 : List D} : updC n c Q ks2 ds2 (some (.dct ks ds)) = (ks.all isTupD = true ∧ ks2.all isTupD = true ∧ ks ≠ [] ∧ ks.length + ks2.length < 16777216 ∧ Q .non (c.set n (.dct (dMrg ks ds ks2 ds2).1 (dMrg ks ds ks2 ds2).2))) := rfl
theorem e_srtS {I : CI} {env : En} {c : Cs} {Q : QE} {X : QX} {m : Bool} {a : FE} : wpE I (.srtS m a) env c Q X = wpE I a env c (fun d c1 => onO (getR c1 d) fun xs => srtSW m xs c1 Q) X := rfl
theorem e_dctL {I : CI} {env : En} {c : Cs} {Q : QE} {X : QX} {m : Bool} {a : FE} : wpE I (.dctL m a) env c Q X = wpE I a env c (fun d c1 => onO (getR c1 d) fun xs => dictA m c1 Q (pairsD xs)) X := rfl
theorem i_items {I : CI} {env : En} {c : Cs} {X : QX} {QI : List D → List (Nat × Cont) → Cs → Prop} {a : FE} : wpI I (.items a) env c QI X = wpE I a env c (fun d c1 => isDct d = true ∧ onO (getC c1 d) fun kv => QI (zipL kv.1 kv.2) [] c1) X := rfl
theorem zip3L_at : ∀ {xs ys zs : List D} {k : Nat} {x y z : D}, xs[k]? = some x → ys[k]? = some y → zs[k]? = some z → (zip3L xs ys zs)[k]? = some (.tup [x, y, z])
  | a :: xs, b :: ys, d :: zs, 0, _, _, _, h1, h2, h3 => by cases h1; cases h2; cases h3; rfl
  | a :: xs, b :: ys, d :: zs, k + 1, _, _, _, h1, h2, h3 => by
    simp only [List.getElem?_cons_succ] at h1 h2 h3
    exact zip3L_at (xs := xs) (ys := ys) (zs := zs) h1 h2 h3
  | [], _, _, _, _, _, _, h1, _, _ => by simp at h1
  | _ :: _, [], _, _, _, _, _, _, h2, _ => by simp at h2
  | _ :: _, _ :: _, [], _, _, _, _, _, _, h3 => by simp at h3
/-- a comprehension, item by item -/
theorem comp_pw {flds : Nat → List Str} {np : Nat} {c : Cs} {gd : List (Nat × Cont)} {turn : D → (Option D → Cs → Prop) → Cs → Prop} {R : List D → Cs → Prop} (ys : List D) {xs : List D} (hg : gdOk c gd) (hnp : c.length = np) (hl : ys.length = xs.length) (hn : ys.length ≤ 16777216)
    (h : ∀ (k : Nat) (x y : D), xs[k]? = some x → ys[k]? = some y → ∀ K : Option D → Cs → Prop, K (some y) c → turn x K c) (k : R ys c) : compL flds false np gd turn R xs [] c := by
  subst hnp
  have main : ∀ (xs ys acc : List D), ys.length = xs.length → acc.length + ys.length ≤ 16777216 → (∀ (k : Nat) (x y : D), xs[k]? = some x → ys[k]? = some y → ∀ K : Option D → Cs → Prop, K (some y) c → turn x K c) → R (acc ++ ys) c → compL flds false c.length gd turn R xs acc c := by
    intro xs
    induction xs with
    | nil =>
      intro ys acc hl _ _ k
      have : ys = [] := List.length_eq_zero_iff.mp hl
      subst this
      exact ⟨hg, by simpa using k⟩
    | cons x xs ih =>
      intro ys acc hl hn h k
      cases ys with
      | nil => simp at hl
      | cons y ys =>
        simp only [List.length_cons] at hl hn
        refine ⟨hg, by omega, h 0 x y rfl rfl _ ?_⟩
        show clean flds c.length c _
        rw [clean_no rfl]
        refine ih ys (acc ++ [id y]) (by omega) (by simp; omega) (fun k a b ha hb => h (k + 1) a b (by simpa using ha) (by simpa using hb)) ?_
        simpa using k
  exact main xs ys [] hl (by simpa using hn) h (by simpa using k)
theorem s_clnA {I : CI} {np : Nat} {E : FEnds} {Y : EX} {env : En} {c : Cs} : wpS I .clnA np E Y env c = clean I.flds np c fun f c' => E.nx (env.map (Option.map f)) c' := rfl
theorem s_cln {I : CI} {np i : Nat} {E : FEnds} {Y : EX} {env : En} {c : Cs} : wpS I (.cln i) np E Y env c = onO (cellAtI env i) fun n => (np ≤ n + 1 ∧ n < c.length) ∧ clean I.flds (n + 1) c fun f c' => E.nx (env.map (Option.map f)) c' := rfl
theorem b_innN {m : Bool} {b : D} {Q : QE} {c : Cs} : wpB .innN m .non b c Q = onO (getL c b) fun ys => ys.all nonD = true ∧ Q (.bl (ys.any isNon)) c := rfl
theorem b_innO {m : Bool} {k : Nat} {b : D} {Q : QE} {c : Cs} : wpB (.innO k) m .non b c Q = onO (getL c b) fun ys => ys.all (nonO k) = true ∧ Q (.bl (ys.any isNon)) c := rfl
theorem b_neC {m : Bool} {a b : D} {Q : QE} {c : Cs} : wpB .neC m a b c Q = neCD c Q a b := rfl
theorem b_eqO {k : Nat} {m : Bool} {a b : D} {Q : QE} {c : Cs} : wpB (.eqO k) m a b c Q = eqOD k c Q a b := rfl
theorem b_ltL {m : Bool} {a b : D} {Q : QE} {c : Cs} : wpB .ltL m a b c Q = ltLD c Q a b := rfl
theorem b_ne0 {m : Bool} {a b : D} {Q : QE} {c : Cs} : wpB .ne0 m a b c Q = onO (getL c a) fun xs => onO (getL c b) fun ys => ys = [] ∧ Q (.bl (!xs.isEmpty)) c := rfl
theorem mt_insI {n : Nat} {i : Int} {x : D} {Q : QE} {c : Cs} : wpMt .insert (.cell n) [.int i, x] c Q = onO (getL c (.cell n)) fun xs => (0 ≤ i ∧ i < 2 ^ 62) ∧ xs.length < 16777216 ∧ Q .non (c.set n (.lst (xs.take i.toNat ++ [x] ++ xs.drop i.toNat))) := rfl
theorem mt_popI {n : Nat} {i : Int} {Q : QE} {c : Cs} : wpMt .popAt (.cell n) [.int i] c Q = onO (getL c (.cell n)) fun xs => (0 ≤ i ∧ i < 2 ^ 62) ∧ onO xs[i.toNat]? fun x => Q x (c.set n (.lst (xs.eraseIdx i.toNat))) := rfl
theorem e_orL {I : CI} {env : En} {c : Cs} {Q : QE} {X : QX} {a b : FE} : wpE I (.orL a b) env c Q X = wpE I a env c (fun d c1 => onO (getL c1 d) fun xs => sIf (!xs.isEmpty) (Q d c1) (wpE I b env c1 Q X)) X := rfl
end F

namespace Lw
open PySem F
abbrev prog : Program := PySem.Challenge.pw_stintwise_k19_refusals_apart
def top (i : Nat) : Stmt := prog.main.body.getD i (.Pass ⟨0, 0, 0, 0⟩)
def sub (s : Stmt) (j : Nat) : Stmt := match s with
  | .ClassDef _ _ _ b _ _ _ _ _ _ _ => b.getD j (.Pass ⟨0, 0, 0, 0⟩)
  | _ => .Pass ⟨0, 0, 0, 0⟩
def x_StintError : Nat := 0
def x_Wrong : Nat := 1
def x_NotNow : Nat := 2
def x_TooMany : Nat := 3
def x_NoHour : Nat := 4
def x_NoDeed : Nat := 5
def x_NoText : Nat := 6
def ex_StintError : ExT := ⟨"StintError", [], [0], "StintError.__init__", "", (top 1)⟩
def ex_Wrong : ExT := ⟨"Wrong", ["at"], [1, 0], "Wrong.__init__", "at", (sub (top 2) 0)⟩
def ex_NotNow : ExT := ⟨"NotNow", ["at"], [2, 0], "NotNow.__init__", "at", (sub (top 3) 0)⟩
def ex_TooMany : ExT := ⟨"TooMany", ["limit"], [3, 0], "TooMany.__init__", "limit", (sub (top 4) 0)⟩
def ex_NoHour : ExT := ⟨"NoHour", [], [4, 0], "NoHour.__init__", "", (top 5)⟩
def ex_NoDeed : ExT := ⟨"NoDeed", [], [5, 0], "NoDeed.__init__", "", (top 6)⟩
def ex_NoText : ExT := ⟨"NoText", [], [6, 0], "NoText.__init__", "", (top 7)⟩
def i_l_open : Nat := 0
def i_l_raised : Nat := 1
def i_l_number : Nat := 2
def i_l_draw : Nat := 3
def i_l_kinds : Nat := 4
def i_l_far : Nat := 5
def i_law : Nat := 6
/- l_open: 0:script 1:place 2:cells 3:at 4:digits 5:cell -/
def r_l_open_0 : FSs := (.cons (.set (.nm 2) (.lst false (.cons (.lit (.int 0)) .nil))) .nil)
theorem q_l_open_0 {I : CI} {np : Nat} {E : FEnds} {Y : EX} {env : En} {c : Cs} : wpSs I r_l_open_0 np E Y env c = wpS I (.set (.nm 2) (.lst false (.cons (.lit (.int 0)) .nil))) np { E with nx := KS I .nil np E Y } Y env c := s_cons
def r_l_open_1 : FSs := (.cons (.set (.nm 4) (.bin .idx false (.var 2) (.var 3))) .nil)
theorem q_l_open_1 {I : CI} {np : Nat} {E : FEnds} {Y : EX} {env : En} {c : Cs} : wpSs I r_l_open_1 np E Y env c = wpS I (.set (.nm 4) (.bin .idx false (.var 2) (.var 3))) np { E with nx := KS I .nil np E Y } Y env c := s_cons
def r_l_open_7 : FSs := (.cons (.ret (.lst true (.cons (.var 4) (.cons (.bin .add false (.lit (.int 1)) (.bin .mul false (.lit (.int 101)) (.var 1))) (.cons (.bin .add false (.slc false (.var 2) (.cons (.var 3) .nil) .nil) (.slc false (.var 2) .nil (.cons (.var 3) .nil))) .nil))))) .nil)
theorem q_l_open_7 {I : CI} {np : Nat} {E : FEnds} {Y : EX} {env : En} {c : Cs} : wpSs I r_l_open_7 np E Y env c = wpS I (.ret (.lst true (.cons (.var 4) (.cons (.bin .add false (.lit (.int 1)) (.bin .mul false (.lit (.int 101)) (.var 1))) (.cons (.bin .add false (.slc false (.var 2) (.cons (.var 3) .nil) .nil) (.slc false (.var 2) .nil (.cons (.var 3) .nil))) .nil))))) np { E with nx := KS I .nil np E Y } Y env c := s_cons
def r_l_open_6 : FSs := (.cons (.ifs (.bop true (.cons (.val (.bin .ge false (.bin .idx false (.var 2) (.var 3)) (.bin .pow false (.lit (.int 10)) (.lit (.int 18))))) (.cons (.val (.bin .lt false (.var 1) (.bi .len false (.cons (.var 2) .nil)))) .nil))) r_l_open_1 .nil) r_l_open_7)
theorem q_l_open_6 {I : CI} {np : Nat} {E : FEnds} {Y : EX} {env : En} {c : Cs} : wpSs I r_l_open_6 np E Y env c = wpS I (.ifs (.bop true (.cons (.val (.bin .ge false (.bin .idx false (.var 2) (.var 3)) (.bin .pow false (.lit (.int 10)) (.lit (.int 18))))) (.cons (.val (.bin .lt false (.var 1) (.bi .len false (.cons (.var 2) .nil)))) .nil))) r_l_open_1 .nil) np { E with nx := KS I r_l_open_7 np E Y } Y env c := s_cons
def r_l_open_5 : FSs := (.cons (.set (.nm 4) (.lit (.int 0))) r_l_open_6)
theorem q_l_open_5 {I : CI} {np : Nat} {E : FEnds} {Y : EX} {env : En} {c : Cs} : wpSs I r_l_open_5 np E Y env c = wpS I (.set (.nm 4) (.lit (.int 0))) np { E with nx := KS I r_l_open_6 np E Y } Y env c := s_cons
def r_l_open_4 : FSs := (.cons (.set (.nm 3) (.bin .mod false (.var 1) (.bi .len false (.cons (.var 2) .nil)))) r_l_open_5)
theorem q_l_open_4 {I : CI} {np : Nat} {E : FEnds} {Y : EX} {env : En} {c : Cs} : wpSs I r_l_open_4 np E Y env c = wpS I (.set (.nm 3) (.bin .mod false (.var 1) (.bi .len false (.cons (.var 2) .nil)))) np { E with nx := KS I r_l_open_5 np E Y } Y env c := s_cons
def r_l_open_3 : FSs := (.cons (.ifs (.val (.bin .eq false (.var 2) (.lst false .nil))) r_l_open_0 .nil) r_l_open_4)
theorem q_l_open_3 {I : CI} {np : Nat} {E : FEnds} {Y : EX} {env : En} {c : Cs} : wpSs I r_l_open_3 np E Y env c = wpS I (.ifs (.val (.bin .eq false (.var 2) (.lst false .nil))) r_l_open_0 .nil) np { E with nx := KS I r_l_open_4 np E Y } Y env c := s_cons
def r_l_open_2 : FSs := (.cons (.setC 2 (.comp false false (.nm 5) (.ex (.slc false (.var 0) .nil (.cons (.lit (.int 63)) .nil))) .nil (.bi .abs false (.cons (.var 5) .nil)) [("_law_cell", 5)])) r_l_open_3)
theorem q_l_open_2 {I : CI} {np : Nat} {E : FEnds} {Y : EX} {env : En} {c : Cs} : wpSs I r_l_open_2 np E Y env c = wpS I (.setC 2 (.comp false false (.nm 5) (.ex (.slc false (.var 0) .nil (.cons (.lit (.int 63)) .nil))) .nil (.bi .abs false (.cons (.var 5) .nil)) [("_law_cell", 5)])) np { E with nx := KS I r_l_open_3 np E Y } Y env c := s_cons
def b_l_open : FSs := r_l_open_2
def d_l_open : DefT := ⟨.fn "_law_open", (top 9), "_law_open", ["_law_script", "_law_place", "_law_cells", "_law_at", "_law_digits", "_law_cell"], ["_law_script", "_law_place"], b_l_open⟩
/- l_raised: 0:k 1:number_here -/
def r_l_raised_0 : FSs := (.cons (.rais x_Wrong 0 (.cons (.var 1) .nil)) .nil)
theorem q_l_raised_0 {I : CI} {np : Nat} {E : FEnds} {Y : EX} {env : En} {c : Cs} : wpSs I r_l_raised_0 np E Y env c = wpS I (.rais x_Wrong 0 (.cons (.var 1) .nil)) np { E with nx := KS I .nil np E Y } Y env c := s_cons
def r_l_raised_1 : FSs := (.cons (.rais x_NotNow 0 (.cons (.var 1) .nil)) .nil)
theorem q_l_raised_1 {I : CI} {np : Nat} {E : FEnds} {Y : EX} {env : En} {c : Cs} : wpSs I r_l_raised_1 np E Y env c = wpS I (.rais x_NotNow 0 (.cons (.var 1) .nil)) np { E with nx := KS I .nil np E Y } Y env c := s_cons
def r_l_raised_2 : FSs := (.cons (.rais x_TooMany 0 (.cons (.var 1) .nil)) .nil)
theorem q_l_raised_2 {I : CI} {np : Nat} {E : FEnds} {Y : EX} {env : En} {c : Cs} : wpSs I r_l_raised_2 np E Y env c = wpS I (.rais x_TooMany 0 (.cons (.var 1) .nil)) np { E with nx := KS I .nil np E Y } Y env c := s_cons
def r_l_raised_3 : FSs := (.cons (.rais x_NoHour 0 .nil) .nil)
theorem q_l_raised_3 {I : CI} {np : Nat} {E : FEnds} {Y : EX} {env : En} {c : Cs} : wpSs I r_l_raised_3 np E Y env c = wpS I (.rais x_NoHour 0 .nil) np { E with nx := KS I .nil np E Y } Y env c := s_cons
def r_l_raised_4 : FSs := (.cons (.rais x_NoDeed 0 .nil) .nil)
theorem q_l_raised_4 {I : CI} {np : Nat} {E : FEnds} {Y : EX} {env : En} {c : Cs} : wpSs I r_l_raised_4 np E Y env c = wpS I (.rais x_NoDeed 0 .nil) np { E with nx := KS I .nil np E Y } Y env c := s_cons
def r_l_raised_10 : FSs := (.cons (.rais x_NoText 0 .nil) .nil)
theorem q_l_raised_10 {I : CI} {np : Nat} {E : FEnds} {Y : EX} {env : En} {c : Cs} : wpSs I r_l_raised_10 np E Y env c = wpS I (.rais x_NoText 0 .nil) np { E with nx := KS I .nil np E Y } Y env c := s_cons
def r_l_raised_9 : FSs := (.cons (.ifs (.val (.bin .eq false (.var 0) (.lit (.int 4)))) r_l_raised_4 .nil) r_l_raised_10)
theorem q_l_raised_9 {I : CI} {np : Nat} {E : FEnds} {Y : EX} {env : En} {c : Cs} : wpSs I r_l_raised_9 np E Y env c = wpS I (.ifs (.val (.bin .eq false (.var 0) (.lit (.int 4)))) r_l_raised_4 .nil) np { E with nx := KS I r_l_raised_10 np E Y } Y env c := s_cons
def r_l_raised_8 : FSs := (.cons (.ifs (.val (.bin .eq false (.var 0) (.lit (.int 3)))) r_l_raised_3 .nil) r_l_raised_9)
theorem q_l_raised_8 {I : CI} {np : Nat} {E : FEnds} {Y : EX} {env : En} {c : Cs} : wpSs I r_l_raised_8 np E Y env c = wpS I (.ifs (.val (.bin .eq false (.var 0) (.lit (.int 3)))) r_l_raised_3 .nil) np { E with nx := KS I r_l_raised_9 np E Y } Y env c := s_cons
def r_l_raised_7 : FSs := (.cons (.ifs (.val (.bin .eq false (.var 0) (.lit (.int 2)))) r_l_raised_2 .nil) r_l_raised_8)
theorem q_l_raised_7 {I : CI} {np : Nat} {E : FEnds} {Y : EX} {env : En} {c : Cs} : wpSs I r_l_raised_7 np E Y env c = wpS I (.ifs (.val (.bin .eq false (.var 0) (.lit (.int 2)))) r_l_raised_2 .nil) np { E with nx := KS I r_l_raised_8 np E Y } Y env c := s_cons
def r_l_raised_6 : FSs := (.cons (.ifs (.val (.bin .eq false (.var 0) (.lit (.int 1)))) r_l_raised_1 .nil) r_l_raised_7)
theorem q_l_raised_6 {I : CI} {np : Nat} {E : FEnds} {Y : EX} {env : En} {c : Cs} : wpSs I r_l_raised_6 np E Y env c = wpS I (.ifs (.val (.bin .eq false (.var 0) (.lit (.int 1)))) r_l_raised_1 .nil) np { E with nx := KS I r_l_raised_7 np E Y } Y env c := s_cons
def r_l_raised_5 : FSs := (.cons (.ifs (.val (.bin .eq false (.var 0) (.lit (.int 0)))) r_l_raised_0 .nil) r_l_raised_6)
theorem q_l_raised_5 {I : CI} {np : Nat} {E : FEnds} {Y : EX} {env : En} {c : Cs} : wpSs I r_l_raised_5 np E Y env c = wpS I (.ifs (.val (.bin .eq false (.var 0) (.lit (.int 0)))) r_l_raised_0 .nil) np { E with nx := KS I r_l_raised_6 np E Y } Y env c := s_cons
def b_l_raised : FSs := r_l_raised_5
def d_l_raised : DefT := ⟨.fn "_law_raised", (top 12), "_law_raised", ["_law_k", "_law_number_here"], ["_law_k", "_law_number_here"], b_l_raised⟩
/- l_number: 0:k 1:number_here 2:e -/
def r_l_number_0 : FSs := (.cons (.expr (.call i_l_raised (.cons (.var 0) (.cons (.var 1) .nil)))) .nil)
theorem q_l_number_0 {I : CI} {np : Nat} {E : FEnds} {Y : EX} {env : En} {c : Cs} : wpSs I r_l_number_0 np E Y env c = wpS I (.expr (.call i_l_raised (.cons (.var 0) (.cons (.var 1) .nil)))) np { E with nx := KS I .nil np E Y } Y env c := s_cons
def r_l_number_2 : FSs := (.cons (.ret (.lst false (.cons (.var 1) .nil))) .nil)
theorem q_l_number_2 {I : CI} {np : Nat} {E : FEnds} {Y : EX} {env : En} {c : Cs} : wpSs I r_l_number_2 np E Y env c = wpS I (.ret (.lst false (.cons (.var 1) .nil))) np { E with nx := KS I .nil np E Y } Y env c := s_cons
def r_l_number_1 : FSs := (.cons (.tryM r_l_number_0 [⟨some 2, x_Wrong, [.ret (.lsts [(.fld "at")])]⟩, ⟨some 2, x_NotNow, [.ret (.lsts [(.fld "at")])]⟩, ⟨some 2, x_TooMany, [.ret (.lsts [(.fld "limit")])]⟩, ⟨none, x_StintError, [.ret (.lsts [])]⟩]) r_l_number_2)
theorem q_l_number_1 {I : CI} {np : Nat} {E : FEnds} {Y : EX} {env : En} {c : Cs} : wpSs I r_l_number_1 np E Y env c = wpS I (.tryM r_l_number_0 [⟨some 2, x_Wrong, [.ret (.lsts [(.fld "at")])]⟩, ⟨some 2, x_NotNow, [.ret (.lsts [(.fld "at")])]⟩, ⟨some 2, x_TooMany, [.ret (.lsts [(.fld "limit")])]⟩, ⟨none, x_StintError, [.ret (.lsts [])]⟩]) np { E with nx := KS I r_l_number_2 np E Y } Y env c := s_cons
def b_l_number : FSs := r_l_number_1
def d_l_number : DefT := ⟨.fn "_law_number", (top 14), "_law_number", ["_law_k", "_law_number_here", "e"], ["_law_k", "_law_number_here"], b_l_number⟩
/- l_draw: 0:hand 1:many 2:got 3:cell 4:number_here -/
def r_l_draw_2 : FSs := (.cons (.ret (.var 2)) .nil)
theorem q_l_draw_2 {I : CI} {np : Nat} {E : FEnds} {Y : EX} {env : En} {c : Cs} : wpSs I r_l_draw_2 np E Y env c = wpS I (.ret (.var 2)) np { E with nx := KS I .nil np E Y } Y env c := s_cons
def r_l_draw_1 : FSs := (.cons (.setI (.var 0) (.lit (.int 0)) (.bin .fdiv false (.bin .idx false (.var 0) (.lit (.int 0))) (.var 1))) r_l_draw_2)
theorem q_l_draw_1 {I : CI} {np : Nat} {E : FEnds} {Y : EX} {env : En} {c : Cs} : wpSs I r_l_draw_1 np E Y env c = wpS I (.setI (.var 0) (.lit (.int 0)) (.bin .fdiv false (.bin .idx false (.var 0) (.lit (.int 0))) (.var 1))) np { E with nx := KS I r_l_draw_2 np E Y } Y env c := s_cons
def r_l_draw_0 : FSs := (.cons (.set (.nm 2) (.bin .mod false (.bin .idx false (.var 0) (.lit (.int 0))) (.var 1))) r_l_draw_1)
theorem q_l_draw_0 {I : CI} {np : Nat} {E : FEnds} {Y : EX} {env : En} {c : Cs} : wpSs I r_l_draw_0 np E Y env c = wpS I (.set (.nm 2) (.bin .mod false (.bin .idx false (.var 0) (.lit (.int 0))) (.var 1))) np { E with nx := KS I r_l_draw_1 np E Y } Y env c := s_cons
def r_l_draw_9 : FSs := (.cons (.ret (.bin .mod false (.bin .fdiv false (.bin .mod false (.bin .mul false (.var 4) (.var 4)) (.lit (.int 1000000007))) (.lit (.int 64))) (.var 1))) .nil)
theorem q_l_draw_9 {I : CI} {np : Nat} {E : FEnds} {Y : EX} {env : En} {c : Cs} : wpSs I r_l_draw_9 np E Y env c = wpS I (.ret (.bin .mod false (.bin .fdiv false (.bin .mod false (.bin .mul false (.var 4) (.var 4)) (.lit (.int 1000000007))) (.lit (.int 64))) (.var 1))) np { E with nx := KS I .nil np E Y } Y env c := s_cons
def r_l_draw_8 : FSs := (.cons (.set (.nm 4) (.bin .mod false (.bin .add false (.bin .mul false (.var 4) (.lit (.int 40503203))) (.lit (.int 12345))) (.lit (.int 2147483647)))) r_l_draw_9)
theorem q_l_draw_8 {I : CI} {np : Nat} {E : FEnds} {Y : EX} {env : En} {c : Cs} : wpSs I r_l_draw_8 np E Y env c = wpS I (.set (.nm 4) (.bin .mod false (.bin .add false (.bin .mul false (.var 4) (.lit (.int 40503203))) (.lit (.int 12345))) (.lit (.int 2147483647)))) np { E with nx := KS I r_l_draw_9 np E Y } Y env c := s_cons
def r_l_draw_7 : FSs := (.cons (.set (.nm 4) (.bin .mod false (.bin .add false (.bin .mul false (.var 4) (.var 4)) (.bin .idx false (.var 0) (.lit (.int 1)))) (.lit (.int 998244353)))) r_l_draw_8)
theorem q_l_draw_7 {I : CI} {np : Nat} {E : FEnds} {Y : EX} {env : En} {c : Cs} : wpSs I r_l_draw_7 np E Y env c = wpS I (.set (.nm 4) (.bin .mod false (.bin .add false (.bin .mul false (.var 4) (.var 4)) (.bin .idx false (.var 0) (.lit (.int 1)))) (.lit (.int 998244353)))) np { E with nx := KS I r_l_draw_8 np E Y } Y env c := s_cons
def r_l_draw_6 : FSs := (.cons (.set (.nm 4) (.bin .mod false (.bin .add false (.bin .add false (.bin .mul false (.var 3) (.lit (.int 48271))) (.bin .mul false (.bin .idx false (.var 0) (.lit (.int 1))) (.lit (.int 7368787)))) (.lit (.int 11))) (.lit (.int 998244353)))) r_l_draw_7)
theorem q_l_draw_6 {I : CI} {np : Nat} {E : FEnds} {Y : EX} {env : En} {c : Cs} : wpSs I r_l_draw_6 np E Y env c = wpS I (.set (.nm 4) (.bin .mod false (.bin .add false (.bin .add false (.bin .mul false (.var 3) (.lit (.int 48271))) (.bin .mul false (.bin .idx false (.var 0) (.lit (.int 1))) (.lit (.int 7368787)))) (.lit (.int 11))) (.lit (.int 998244353)))) np { E with nx := KS I r_l_draw_7 np E Y } Y env c := s_cons
def r_l_draw_5 : FSs := (.cons (.set (.nm 3) (.bin .mod false (.bin .idx false (.bin .idx false (.var 0) (.lit (.int 2))) (.bin .mod false (.bin .idx false (.var 0) (.lit (.int 1))) (.bi .len false (.cons (.bin .idx false (.var 0) (.lit (.int 2))) .nil)))) (.lit (.int 2147483647)))) r_l_draw_6)
theorem q_l_draw_5 {I : CI} {np : Nat} {E : FEnds} {Y : EX} {env : En} {c : Cs} : wpSs I r_l_draw_5 np E Y env c = wpS I (.set (.nm 3) (.bin .mod false (.bin .idx false (.bin .idx false (.var 0) (.lit (.int 2))) (.bin .mod false (.bin .idx false (.var 0) (.lit (.int 1))) (.bi .len false (.cons (.bin .idx false (.var 0) (.lit (.int 2))) .nil)))) (.lit (.int 2147483647)))) np { E with nx := KS I r_l_draw_6 np E Y } Y env c := s_cons
def r_l_draw_4 : FSs := (.cons (.augI .add (.var 0) (.lit (.int 1)) (.lit (.int 1))) r_l_draw_5)
theorem q_l_draw_4 {I : CI} {np : Nat} {E : FEnds} {Y : EX} {env : En} {c : Cs} : wpSs I r_l_draw_4 np E Y env c = wpS I (.augI .add (.var 0) (.lit (.int 1)) (.lit (.int 1))) np { E with nx := KS I r_l_draw_5 np E Y } Y env c := s_cons
def r_l_draw_3 : FSs := (.cons (.ifs (.val (.bin .gt false (.bin .idx false (.var 0) (.lit (.int 0))) (.lit (.int 0)))) r_l_draw_0 .nil) r_l_draw_4)
theorem q_l_draw_3 {I : CI} {np : Nat} {E : FEnds} {Y : EX} {env : En} {c : Cs} : wpSs I r_l_draw_3 np E Y env c = wpS I (.ifs (.val (.bin .gt false (.bin .idx false (.var 0) (.lit (.int 0))) (.lit (.int 0)))) r_l_draw_0 .nil) np { E with nx := KS I r_l_draw_4 np E Y } Y env c := s_cons
def b_l_draw : FSs := r_l_draw_3
def d_l_draw : DefT := ⟨.fn "_law_draw", (top 10), "_law_draw", ["_law_hand", "_law_many", "_law_got", "_law_cell", "_law_number_here"], ["_law_hand", "_law_many"], b_l_draw⟩
/- l_kinds: 0:k 1:number_here 2:e 3:some -/
def r_l_kinds_0 : FSs := (.cons (.expr (.call i_l_raised (.cons (.var 0) (.cons (.var 1) .nil)))) .nil)
theorem q_l_kinds_0 {I : CI} {np : Nat} {E : FEnds} {Y : EX} {env : En} {c : Cs} : wpSs I r_l_kinds_0 np E Y env c = wpS I (.expr (.call i_l_raised (.cons (.var 0) (.cons (.var 1) .nil)))) np { E with nx := KS I .nil np E Y } Y env c := s_cons
def r_l_kinds_2 : FSs := (.cons (.ret (.lst false .nil)) .nil)
theorem q_l_kinds_2 {I : CI} {np : Nat} {E : FEnds} {Y : EX} {env : En} {c : Cs} : wpSs I r_l_kinds_2 np E Y env c = wpS I (.ret (.lst false .nil)) np { E with nx := KS I .nil np E Y } Y env c := s_cons
def r_l_kinds_1 : FSs := (.cons (.try_ r_l_kinds_0 2 x_StintError [.two 3 [([some x_Wrong], false), ([some x_NotNow], false), ([some x_TooMany], false), ([some x_NoHour], false)] [([some x_NoDeed], false), ([some x_NoText], false), ([none], false)]]) r_l_kinds_2)
theorem q_l_kinds_1 {I : CI} {np : Nat} {E : FEnds} {Y : EX} {env : En} {c : Cs} : wpSs I r_l_kinds_1 np E Y env c = wpS I (.try_ r_l_kinds_0 2 x_StintError [.two 3 [([some x_Wrong], false), ([some x_NotNow], false), ([some x_TooMany], false), ([some x_NoHour], false)] [([some x_NoDeed], false), ([some x_NoText], false), ([none], false)]]) np { E with nx := KS I r_l_kinds_2 np E Y } Y env c := s_cons
def b_l_kinds : FSs := r_l_kinds_1
def d_l_kinds : DefT := ⟨.fn "_law_kinds", (top 13), "_law_kinds", ["_law_k", "_law_number_here", "e", "_law_some"], ["_law_k", "_law_number_here"], b_l_kinds⟩
/- l_far: 0:hand 1:bound 2:total 3:k -/
def r_l_far_0 : FSs := (.cons (.set (.nm 2) (.bin .add false (.bin .mul false (.var 2) (.lit (.int 1000003))) (.call i_l_draw (.cons (.var 0) (.cons (.lit (.int 1000003)) .nil))))) .nil)
theorem q_l_far_0 {I : CI} {np : Nat} {E : FEnds} {Y : EX} {env : En} {c : Cs} : wpSs I r_l_far_0 np E Y env c = wpS I (.set (.nm 2) (.bin .add false (.bin .mul false (.var 2) (.lit (.int 1000003))) (.call i_l_draw (.cons (.var 0) (.cons (.lit (.int 1000003)) .nil))))) np { E with nx := KS I .nil np E Y } Y env c := s_cons
def r_l_far_3 : FSs := (.cons (.ret (.bin .mod false (.var 2) (.var 1))) .nil)
theorem q_l_far_3 {I : CI} {np : Nat} {E : FEnds} {Y : EX} {env : En} {c : Cs} : wpSs I r_l_far_3 np E Y env c = wpS I (.ret (.bin .mod false (.var 2) (.var 1))) np { E with nx := KS I .nil np E Y } Y env c := s_cons
def r_l_far_2 : FSs := (.cons (.for_ false (.nm 3) (.rng1 (.lit (.int 11))) r_l_far_0) r_l_far_3)
theorem q_l_far_2 {I : CI} {np : Nat} {E : FEnds} {Y : EX} {env : En} {c : Cs} : wpSs I r_l_far_2 np E Y env c = wpS I (.for_ false (.nm 3) (.rng1 (.lit (.int 11))) r_l_far_0) np { E with nx := KS I r_l_far_3 np E Y } Y env c := s_cons
def r_l_far_1 : FSs := (.cons (.set (.nm 2) (.lit (.int 0))) r_l_far_2)
theorem q_l_far_1 {I : CI} {np : Nat} {E : FEnds} {Y : EX} {env : En} {c : Cs} : wpSs I r_l_far_1 np E Y env c = wpS I (.set (.nm 2) (.lit (.int 0))) np { E with nx := KS I r_l_far_2 np E Y } Y env c := s_cons
def b_l_far : FSs := r_l_far_1
def d_l_far : DefT := ⟨.fn "_law_far", (top 11), "_law_far", ["_law_hand", "_law_bound", "_law_total", "_law_k"], ["_law_hand", "_law_bound"], b_l_far⟩
/- law: 0:script 1:hand 2:k 3:number_here 4:found 5:place 6:one -/
def r_law_0 : FSs := (.cons (.set (.nm 3) (.bin .sub false (.call i_l_draw (.cons (.var 1) (.cons (.lit (.int 7)) .nil))) (.lit (.int 3)))) .nil)
theorem q_law_0 {I : CI} {np : Nat} {E : FEnds} {Y : EX} {env : En} {c : Cs} : wpSs I r_law_0 np E Y env c = wpS I (.set (.nm 3) (.bin .sub false (.call i_l_draw (.cons (.var 1) (.cons (.lit (.int 7)) .nil))) (.lit (.int 3)))) np { E with nx := KS I .nil np E Y } Y env c := s_cons
def r_law_1 : FSs := (.cons (.ret (.lit (.bl false))) .nil)
theorem q_law_1 {I : CI} {np : Nat} {E : FEnds} {Y : EX} {env : En} {c : Cs} : wpSs I r_law_1 np E Y env c = wpS I (.ret (.lit (.bl false))) np { E with nx := KS I .nil np E Y } Y env c := s_cons
def r_law_2 : FSs := (.cons (.ret (.lit (.bl false))) .nil)
theorem q_law_2 {I : CI} {np : Nat} {E : FEnds} {Y : EX} {env : En} {c : Cs} : wpSs I r_law_2 np E Y env c = wpS I (.ret (.lit (.bl false))) np { E with nx := KS I .nil np E Y } Y env c := s_cons
def r_law_7 : FSs := (.cons (.ifs (.bop false (.cons (.val (.bin .ne false (.var 4) (.slc false (.lst false (.cons (.var 3) .nil)) .nil (.cons (.bi .int false (.cons (.bin .lt false (.var 2) (.lit (.int 3))) .nil)) .nil)))) (.cons (.val (.bi .any false (.cons (.comp false false (.nm 6) (.ex (.var 4)) .nil (.isi (.var 6) [.bt "bool"] false) [("_law_one", 6)]) .nil))) .nil))) r_law_2 .nil) .nil)
theorem q_law_7 {I : CI} {np : Nat} {E : FEnds} {Y : EX} {env : En} {c : Cs} : wpSs I r_law_7 np E Y env c = wpS I (.ifs (.bop false (.cons (.val (.bin .ne false (.var 4) (.slc false (.lst false (.cons (.var 3) .nil)) .nil (.cons (.bi .int false (.cons (.bin .lt false (.var 2) (.lit (.int 3))) .nil)) .nil)))) (.cons (.val (.bi .any false (.cons (.comp false false (.nm 6) (.ex (.var 4)) .nil (.isi (.var 6) [.bt "bool"] false) [("_law_one", 6)]) .nil))) .nil))) r_law_2 .nil) np { E with nx := KS I .nil np E Y } Y env c := s_cons
def r_law_6 : FSs := (.cons (.set (.nm 4) (.call i_l_number (.cons (.var 2) (.cons (.var 3) .nil)))) r_law_7)
theorem q_law_6 {I : CI} {np : Nat} {E : FEnds} {Y : EX} {env : En} {c : Cs} : wpSs I r_law_6 np E Y env c = wpS I (.set (.nm 4) (.call i_l_number (.cons (.var 2) (.cons (.var 3) .nil)))) np { E with nx := KS I r_law_7 np E Y } Y env c := s_cons
def r_law_5 : FSs := (.cons (.ifs (.val (.bin .ne false (.call i_l_kinds (.cons (.var 2) (.cons (.var 3) .nil))) (.bin .add false (.comp false false (.nm 5) (.rng1 (.lit (.int 6))) .nil (.bin .eq false (.var 5) (.var 2)) [("_law_place", 5)]) (.lst false (.cons (.lit (.bl true)) .nil))))) r_law_1 .nil) r_law_6)
theorem q_law_5 {I : CI} {np : Nat} {E : FEnds} {Y : EX} {env : En} {c : Cs} : wpSs I r_law_5 np E Y env c = wpS I (.ifs (.val (.bin .ne false (.call i_l_kinds (.cons (.var 2) (.cons (.var 3) .nil))) (.bin .add false (.comp false false (.nm 5) (.rng1 (.lit (.int 6))) .nil (.bin .eq false (.var 5) (.var 2)) [("_law_place", 5)]) (.lst false (.cons (.lit (.bl true)) .nil))))) r_law_1 .nil) np { E with nx := KS I r_law_6 np E Y } Y env c := s_cons
def r_law_4 : FSs := (.cons (.ifs (.val (.bin .eq false (.call i_l_draw (.cons (.var 1) (.cons (.lit (.int 2)) .nil))) (.lit (.int 0)))) r_law_0 .nil) r_law_5)
theorem q_law_4 {I : CI} {np : Nat} {E : FEnds} {Y : EX} {env : En} {c : Cs} : wpSs I r_law_4 np E Y env c = wpS I (.ifs (.val (.bin .eq false (.call i_l_draw (.cons (.var 1) (.cons (.lit (.int 2)) .nil))) (.lit (.int 0)))) r_law_0 .nil) np { E with nx := KS I r_law_5 np E Y } Y env c := s_cons
def r_law_3 : FSs := (.cons (.set (.nm 3) (.bin .add false (.bin .sub false (.call i_l_far (.cons (.var 1) (.cons (.bin .sub false (.bin .mul false (.lit (.int 2)) (.bin .pow false (.lit (.int 10)) (.lit (.int 60)))) (.lit (.int 1))) .nil))) (.bin .pow false (.lit (.int 10)) (.lit (.int 60)))) (.lit (.int 1)))) r_law_4)
theorem q_law_3 {I : CI} {np : Nat} {E : FEnds} {Y : EX} {env : En} {c : Cs} : wpSs I r_law_3 np E Y env c = wpS I (.set (.nm 3) (.bin .add false (.bin .sub false (.call i_l_far (.cons (.var 1) (.cons (.bin .sub false (.bin .mul false (.lit (.int 2)) (.bin .pow false (.lit (.int 10)) (.lit (.int 60)))) (.lit (.int 1))) .nil))) (.bin .pow false (.lit (.int 10)) (.lit (.int 60)))) (.lit (.int 1)))) np { E with nx := KS I r_law_4 np E Y } Y env c := s_cons
def r_law_10 : FSs := (.cons (.ret (.lit (.bl true))) .nil)
theorem q_law_10 {I : CI} {np : Nat} {E : FEnds} {Y : EX} {env : En} {c : Cs} : wpSs I r_law_10 np E Y env c = wpS I (.ret (.lit (.bl true))) np { E with nx := KS I .nil np E Y } Y env c := s_cons
def r_law_9 : FSs := (.cons (.for_ false (.nm 2) (.rng1 (.lit (.int 6))) r_law_3) r_law_10)
theorem q_law_9 {I : CI} {np : Nat} {E : FEnds} {Y : EX} {env : En} {c : Cs} : wpSs I r_law_9 np E Y env c = wpS I (.for_ false (.nm 2) (.rng1 (.lit (.int 6))) r_law_3) np { E with nx := KS I r_law_10 np E Y } Y env c := s_cons
def r_law_8 : FSs := (.cons (.set (.nm 1) (.call i_l_open (.cons (.var 0) (.cons (.lit (.int 0)) .nil)))) r_law_9)
theorem q_law_8 {I : CI} {np : Nat} {E : FEnds} {Y : EX} {env : En} {c : Cs} : wpSs I r_law_8 np E Y env c = wpS I (.set (.nm 1) (.call i_l_open (.cons (.var 0) (.cons (.lit (.int 0)) .nil)))) np { E with nx := KS I r_law_9 np E Y } Y env c := s_cons
def b_law : FSs := r_law_8
def d_law : DefT := ⟨.fn "law", (top 15), "law", ["_law_script", "_law_hand", "_law_k", "_law_number_here", "_law_found", "_law_place", "_law_one"], ["_law_script"], b_law⟩
def tab : TabT := ⟨[d_l_open, d_l_raised, d_l_number, d_l_draw, d_l_kinds, d_l_far, d_law], [], [], [ex_StintError, ex_Wrong, ex_NotNow, ex_TooMany, ex_NoHour, ex_NoDeed, ex_NoText]⟩
end Lw
namespace Lw
open PySem F L2
abbrev R : PySem.W.OpenRow := PySem.W.OpenLaw.row PySem.Challenge.rw_stintwise_k19_refusals_apart
def nm0 : List PySem.Str := ("StintError" : PySem.Str) :: ("Wrong" : PySem.Str) :: ("NotNow" : PySem.Str) :: ("TooMany" : PySem.Str) :: ("NoHour" : PySem.Str) :: ("NoDeed" : PySem.Str) :: ("NoText" : PySem.Str) :: ("_law_open" : PySem.Str) :: ("_law_draw" : PySem.Str) :: ("_law_far" : PySem.Str) :: ("_law_raised" : PySem.Str) :: ("_law_kinds" : PySem.Str) :: ("_law_number" : PySem.Str) :: []
def nms : List PySem.Str := nm0
section
open PySem.W HandSHeadRun PySem.Calls PyProof.Rows
set_option maxHeartbeats 0 in
theorem run1 (w : World) (os : OsState) : (endF (stepQ (denQ tabQ) R.prog w) 3600 R.prog w os).map (fun s => (looksF R.prog (boot_heap w.params) s.abs, seenQ (PySem.W.view R.prog [15]) nms (importedModules R.prog.main.body) (fun s => xlAt (PySem.W.view R.prog [15]) [] s && recOk R.toRowW.records s) s.abs)) = some (true, openGood (PySem.W.view R.prog [15]) nms) := by kernel_rfl
set_option maxHeartbeats 0 in
theorem run2 (w : World) (os : OsState) : (endF (stepQ (denQ tabQ) R.prog w) 3600 R.prog w os).map (fun s => (obT 5 tab s).1) = some (true) := by kernel_rfl
set_option maxHeartbeats 0 in
theorem run3 (w : World) (os : OsState) : (endF (stepQ (denQ tabQ) R.prog w) 3600 R.prog w os).map (fun s => (obT 5 tab s).2) = some ((valT tab).2) := by kernel_rfl
theorem run (w : World) : RunEq R (PySem.W.view R.prog [15]) (hookT 5 tab) (obT 5 tab) 3600 nms w := run_of (run1 w) (run2 w) (run3 w)
end
end Lw
namespace Lw
open PySem F L2
local macro_rules | `(tactic| walk_at "fw") => `(tactic| try simp -implicitDefEqProofs only [wpDef, s_cons, s_nil, ks_nil, s_expr, s_set, s_setC, s_par, s_setI, s_trunc, F.truD_c, s_augI, s_setA, s_ifs, s_for, s_ret, s_retN, s_brk, s_cnt, s_pass, s_forget, s_rais, s_try, s_tryM,
    e_lit, e_con, e_neg, e_not, e_bin, e_bop, e_chain, e_ife, e_tup, e_lst, e_slc, e_attr, e_call, e_meth, e_make, e_bi, e_mt, e_isi, e_comp, e_frz, e_dct0, e_dct1, e_dct2, e_dget, e_srtI, e_rngE, e_zipE, e_minV, e_dctL, e_srtS, e_lenS, e_dupd, updW_c, updC_d, e_orL, i_items, a_nil, a_cons, bop_one, bop_and, bop_or,
    c_val, c_not, c_bop, cb_one, cb_and, cb_or, cs_nil, cs_one, i_ex, i_rng1, i_rng2, i_enum, i_zip, i_zip3, i_rng3, exA_s, exA_d, t_nm, t_tp, ts_nil, ts_cons,
    b_add, b_sub, b_mul, b_fdiv, b_mod, b_pow, b_lt, b_le, b_gt, b_ge, b_eq, b_ne, b_eqb, b_neb, b_is, b_isn, b_isb, b_isnb, e_rev, bi_sorted, srtA_s, srtA_n, srtK_i, srtK_n, lenA_s, lenA_n, F.bi_min1, F.bi_max1, inA_s, inA_n, inK_s, isN_non, isN_int, isN_bl, isN_str, isN_tup, isN_lst, isN_obj, isN_cell, b_idx, idxA_i, idxA_n, dget_s, getC_dct, getC_c, dctC_dct, dctC_lst, getS_dct, getR_dct, getL_dct, lstC_dct, setDC_l, tyC_dct, isM1_m1, cond_true, cond_false, isSomeO_some, dflt_0, dflt_1, gdC_dct,
    negK_int, notK_bl, chK2_bl, attK_obj, makK_non, bopK_bl, valK_bl, rngK_int, agK_int, onI_int, aug_add, aug_sub, getL_lst, getR_lst, getR_scr, getS_lst, getS_scr, getS_tup, gdOf_lst, gdOf_scr, gdOf_tup, onO_some,
    sIf_true, sIf_false, newL_f, newL_t, newD_f, newD_t, F.bi_len, bi_abs, bi_max, bi_min, bi_sum, bi_all, bi_any, bi_int, bi_intb, bi_list, bi_tuple, F.mt_app, F.mt_pop, F.mt_popI, F.mt_insI, F.b_innO, F.b_ne0, F.b_ltL, F.b_neC, F.b_eqO, F.mt_clear, allI_map, allB_map, slc_tup, slc_lst, slc_scr, slc_c, b_addl, b_addt, b_addcl, b_addlc, b_addcc, addO_some, b_rep, b_in, b_nin, b_innN, ty_non, ty_bl, ty_int, ty_str, ty_tup, ty_lst, ty_dct, ty_obj, ty_c, tyC_lst, tyC_obj, part0, part1, partN, atE, setE, Lt.d,
    v0, vS, idx0, idx1, idx2, idx3, idx4, idx5, idx6, sIf_dec, ix0, ix1, getL_c, getR_c, getS_c, lstC_lst, setD_c, gdOf_c, gdC_lst, attK_c, attC_obj, app_get0, app_get1, app_get2, app_set0, app_set1, app_set2, app_app, List.set_set, List.length_set, List.length_map,
    List.getElem?_cons_zero, List.getElem?_cons_succ, List.map_cons, List.map_nil, List.cons_append, List.nil_append, List.set_cons_zero, List.set_cons_succ, List.length_cons, List.length_nil, List.replicate_succ, List.replicate_zero, app_len0, app_len1, Nat.reduceAdd, Nat.reduceLT, Nat.reduceLeDiff, true_and, sIf_not, ts_bt, ts_cb, ts_bc, ts_cc, ti_non, ti_bool, ti_int, ti_str, ti_tuple, ti_list, ti_dict, String.reduceEq, if_true, if_false, decide_true, decide_false, Bool.or_false, Bool.false_or, Bool.or_true, Bool.true_or, Bool.not_true, Bool.not_false, Nat.reduceSub, reduceIte, List.any_cons, List.any_nil, wipeE, Int.cast_ofNat_Int, Int.reduceEq, Int.reduceLT, Int.reduceLE, s_augm, augM_int, b_eqs, b_nes, eq_self, int2_int, srtD_ints, setF_c, setFC_obj, app_get0e, app_set0e, app_get1e, app_set1e, allB_nil, allB_cons, allI_nil, allI_cons, Option.map_some, List.all_cons, List.all_nil, id, Bool.and_true, Bool.true_and, Bool.and_false, Bool.false_and, q_l_open_0, q_l_open_1, q_l_open_7, q_l_open_6, q_l_open_5, q_l_open_4, q_l_open_3, q_l_open_2, q_l_raised_0, q_l_raised_1, q_l_raised_2, q_l_raised_3, q_l_raised_4, q_l_raised_10, q_l_raised_9, q_l_raised_8, q_l_raised_7, q_l_raised_6, q_l_raised_5, q_l_number_0, q_l_number_2, q_l_number_1, q_l_draw_2, q_l_draw_1, q_l_draw_0, q_l_draw_9, q_l_draw_8, q_l_draw_7, q_l_draw_6, q_l_draw_5, q_l_draw_4, q_l_draw_3, q_l_kinds_0, q_l_kinds_2, q_l_kinds_1, q_l_far_0, q_l_far_3, q_l_far_2, q_l_far_1, q_law_0, q_law_1, q_law_2, q_law_7, q_law_6, q_law_5, q_law_4, q_law_3, q_law_10, q_law_9, q_law_8])
local macro_rules | `(tactic| walk_at "fh") => do
  let a := Lean.mkIdent `hc
  let b := Lean.mkIdent `hn
  `(tactic| try simp -implicitDefEqProofs only [$a:ident, $b:ident, set_get, app_getL, app_setL,
    wpDef, s_cons, s_nil, ks_nil, s_expr, s_set, s_setC, s_par, s_setI, s_trunc, F.truD_c, s_augI, s_setA, s_ifs, s_for, s_ret, s_retN, s_brk, s_cnt, s_pass, s_forget, s_rais, s_try, s_tryM,
    e_lit, e_con, e_neg, e_not, e_bin, e_bop, e_chain, e_ife, e_tup, e_lst, e_slc, e_attr, e_call, e_meth, e_make, e_bi, e_mt, e_isi, e_comp, e_frz, e_dct0, e_dct1, e_dct2, e_dget, e_srtI, e_rngE, e_zipE, e_minV, e_dctL, e_srtS, e_lenS, e_dupd, updW_c, updC_d, e_orL, i_items, a_nil, a_cons, bop_one, bop_and, bop_or,
    c_val, c_not, c_bop, cb_one, cb_and, cb_or, cs_nil, cs_one, i_ex, i_rng1, i_rng2, i_enum, i_zip, i_zip3, i_rng3, exA_s, exA_d, t_nm, t_tp, ts_nil, ts_cons,
    b_add, b_sub, b_mul, b_fdiv, b_mod, b_pow, b_lt, b_le, b_gt, b_ge, b_eq, b_ne, b_eqb, b_neb, b_is, b_isn, b_isb, b_isnb, e_rev, bi_sorted, srtA_s, srtA_n, srtK_i, srtK_n, lenA_s, lenA_n, F.bi_min1, F.bi_max1, inA_s, inA_n, inK_s, isN_non, isN_int, isN_bl, isN_str, isN_tup, isN_lst, isN_obj, isN_cell, b_idx, idxA_i, idxA_n, dget_s, getC_dct, getC_c, dctC_dct, dctC_lst, getS_dct, getR_dct, getL_dct, lstC_dct, setDC_l, tyC_dct, isM1_m1, cond_true, cond_false, isSomeO_some, dflt_0, dflt_1, gdC_dct,
    negK_int, notK_bl, chK2_bl, attK_obj, makK_non, bopK_bl, valK_bl, rngK_int, agK_int, onI_int, aug_add, aug_sub, getL_lst, getR_lst, getR_scr, getS_lst, getS_scr, getS_tup, gdOf_lst, gdOf_scr, gdOf_tup, onO_some,
    sIf_true, sIf_false, newL_f, newL_t, newD_f, newD_t, F.bi_len, bi_abs, bi_max, bi_min, bi_sum, bi_all, bi_any, bi_int, bi_intb, bi_list, bi_tuple, F.mt_app, F.mt_pop, F.mt_popI, F.mt_insI, F.b_innO, F.b_ne0, F.b_ltL, F.b_neC, F.b_eqO, F.mt_clear, allI_map, allB_map, slc_tup, slc_lst, slc_scr, slc_c, b_addl, b_addt, b_addcl, b_addlc, b_addcc, addO_some, b_rep, b_in, b_nin, b_innN, ty_non, ty_bl, ty_int, ty_str, ty_tup, ty_lst, ty_dct, ty_obj, ty_c, tyC_lst, tyC_obj, part0, part1, partN, atE, setE, Lt.d,
    v0, vS, idx0, idx1, idx2, idx3, idx4, idx5, idx6, sIf_dec, ix0, ix1, getL_c, getR_c, getS_c, lstC_lst, setD_c, gdOf_c, gdC_lst, attK_c, attC_obj, app_get0, app_get1, app_get2, app_set0, app_set1, app_set2, app_app, List.set_set, List.length_set, List.length_map,
    List.getElem?_cons_zero, List.getElem?_cons_succ, List.map_cons, List.map_nil, List.cons_append, List.nil_append, List.set_cons_zero, List.set_cons_succ, List.length_cons, List.length_nil, List.replicate_succ, List.replicate_zero, app_len0, app_len1, Nat.reduceAdd, Nat.reduceLT, Nat.reduceLeDiff, true_and, sIf_not, ts_bt, ts_cb, ts_bc, ts_cc, ti_non, ti_bool, ti_int, ti_str, ti_tuple, ti_list, ti_dict, String.reduceEq, if_true, if_false, decide_true, decide_false, Bool.or_false, Bool.false_or, Bool.or_true, Bool.true_or, Bool.not_true, Bool.not_false, Nat.reduceSub, reduceIte, List.any_cons, List.any_nil, wipeE, Int.cast_ofNat_Int, Int.reduceEq, Int.reduceLT, Int.reduceLE, s_augm, augM_int, b_eqs, b_nes, eq_self, int2_int, srtD_ints, setF_c, setFC_obj, app_get0e, app_set0e, app_get1e, app_set1e, allB_nil, allB_cons, allI_nil, allI_cons, Option.map_some, List.all_cons, List.all_nil, id, Bool.and_true, Bool.true_and, Bool.and_false, Bool.false_and, q_l_open_0, q_l_open_1, q_l_open_7, q_l_open_6, q_l_open_5, q_l_open_4, q_l_open_3, q_l_open_2, q_l_raised_0, q_l_raised_1, q_l_raised_2, q_l_raised_3, q_l_raised_4, q_l_raised_10, q_l_raised_9, q_l_raised_8, q_l_raised_7, q_l_raised_6, q_l_raised_5, q_l_number_0, q_l_number_2, q_l_number_1, q_l_draw_2, q_l_draw_1, q_l_draw_0, q_l_draw_9, q_l_draw_8, q_l_draw_7, q_l_draw_6, q_l_draw_5, q_l_draw_4, q_l_draw_3, q_l_kinds_0, q_l_kinds_2, q_l_kinds_1, q_l_far_0, q_l_far_3, q_l_far_2, q_l_far_1, q_law_0, q_law_1, q_law_2, q_law_7, q_law_6, q_law_5, q_law_4, q_law_3, q_law_10, q_law_9, q_law_8])
local macro_rules | `(tactic| walk_at "fd") => `(tactic| repeat ((with_reducible refine And.intro ?l ?_); (case l => first | decide | omega | exact mulOk_r (by omega) (by omega) | exact mulOk_l (by omega) (by omega))))
local macro_rules | `(tactic| walk_at "fn") => `(tactic| ((try dsimp only); rw [ks_run]; walk_at "fw"))
local macro_rules | `(tactic| walk_at "fm") => `(tactic| ((try dsimp only); rw [ks_run]; walk_at "fh"))
local macro_rules | `(tactic| walk_at "fz") => `(tactic| ((try dsimp only); walk_at "fh"; (try (rw [ks_run]; walk_at "fh"))))
/-- a hand -/
structure Hand where
  dg : Int
  cnt : Int
  cells : List Int
  ne : cells ≠ []
def Hand.c (h : Hand) : Cont := .lst [.int h.dg, .int h.cnt, .lst (h.cells.map D.int)]
theorem Hand.nc (h : Hand) : h.c.nc = true := by
  show (true && (true && (D.ncL _ && true))) = true
  rw [D.ncL_map (fun _ => rfl)]; rfl
def p_l_draw : Phi := fun as c Q _ => ∃ n h many, as = [.cell n, .int many] ∧ c[n]? = some (Hand.c h) ∧ 0 < many ∧ many.natAbs < 2 ^ 9000 ∧ ∀ r (h' : Hand), 0 ≤ r → r < many → Q (.int r) (c.set n h'.c)
def p_l_open : Phi := fun as c Q _ => ∃ (ns : List Int) (k : Int), as = [.scr (ns.map D.int), .int k] ∧ 0 ≤ k ∧ ∀ h : Hand, Q (.cell c.length) (c ++ [h.c])
def isB (P : Int → Bool) : D → Bool
  | .int i => P i
  | _ => false
def p_l_far : Phi := p_l_draw
def p_l_factor : Phi := fun as c Q _ => ∃ n h, as = [.cell n] ∧ c[n]? = some (Hand.c h) ∧ ∀ r (h' : Hand), 1 ≤ r → r ≤ 50000000000 → Q (.int r) (c.set n h'.c)
def kx : Nat → Nat
  | 0 => x_Wrong
  | 1 => x_NotNow
  | 2 => x_TooMany
  | 3 => x_NoHour
  | 4 => x_NoDeed
  | _ => x_NoText
def fx (k : Nat) (z : Int) : List D := if k < 3 then [.int z] else []
def kinds (k : Nat) : D := .lst [.bl (k == 0), .bl (k == 1), .bl (k == 2), .bl (k == 3), .bl (k == 4), .bl (k == 5), .bl true]
def p_l_raised : Phi := fun as c _ X => ∃ (k : Nat) (z : Int), as = [.int k, .int z] ∧ k < 6 ∧ X (kx k) (fx k z) c
def p_l_kinds : Phi := fun as c Q _ => ∃ (k : Nat) (z : Int), as = [.int k, .int z] ∧ k < 6 ∧ Q (kinds k) c
def p_l_number : Phi := fun as c Q _ => ∃ (k : Nat) (z : Int), as = [.int k, .int z] ∧ k < 6 ∧ Q (.lst (fx k z)) c
def p_law : Phi := fun as c Q _ => ∃ ns : List Int, as = [.scr (ns.map D.int)] ∧ ns.length ≤ 63 ∧ Q (.bl true) c
def phi : Nat → Phi := fun i => match i with
  | 0 => p_l_open
  | 1 => p_l_raised
  | 2 => p_l_number
  | 3 => p_l_draw
  | 4 => p_l_kinds
  | 5 => p_l_far
  | 6 => p_law
  | _ => fun _ _ _ _ => False
abbrev I0 : CI := tab.ci phi
theorem ph_l_open : I0.phi i_l_open = p_l_open := rfl
theorem ph_l_raised : I0.phi i_l_raised = p_l_raised := rfl
theorem ph_l_number : I0.phi i_l_number = p_l_number := rfl
theorem ph_l_draw : I0.phi i_l_draw = p_l_draw := rfl
theorem ph_l_kinds : I0.phi i_l_kinds = p_l_kinds := rfl
theorem ph_l_far : I0.phi i_l_far = p_l_far := rfl
theorem ph_law : I0.phi i_law = p_law := rfl
theorem w_l_draw : ∀ ds c Q X, ds.length = d_l_draw.ps.length → Wfc c → p_l_draw ds c Q X → wpDef I0 d_l_draw.N.length d_l_draw.body ds c Q X := by
  intro ds c Q X _ wf ⟨n, h, many, e, hc, h0, hb, k⟩
  subst e
  have hn := lt_of_get hc
  show wpDef I0 5 b_l_draw _ _ _ _
  unfold b_l_draw
  obtain ⟨dg, cnt, cells, ne⟩ := h
  simp only [Hand.c] at hc
  walk_at "fh"
  split
  · refine ⟨h0, ?_⟩
    walk_at "fm"
    refine ⟨⟨h0, hb⟩, ?_⟩
    walk_at "fm"
    exact ret_same (k _ ⟨_, _, _, ne⟩ (Int.emod_nonneg _ (by omega)) (Int.emod_lt_of_pos _ h0))
  · have hl : 0 < (cells.length : Int) := by
      have := List.length_pos_iff.mpr ne
      omega
    walk_at "fm"
    walk_at "fm"
    refine ⟨hl, idx_ints (Int.emod_nonneg _ (by omega)) (Int.emod_lt_of_pos _ hl) fun z _ => ?_⟩
    walk_at "fh"
    walk_at "fd"
    walk_at "fm"
    walk_at "fd"
    walk_at "fm"
    walk_at "fd"
    walk_at "fm"
    walk_at "fd"
    walk_at "fm"
    walk_at "fd"
    exact ret_same (k _ ⟨_, _, _, ne⟩ (Int.emod_nonneg _ (by omega)) (Int.emod_lt_of_pos _ h0))
theorem take_map63 {ns : List Int} : cutD (ns.map D.int) none (some 63) = (ns.take 63).map D.int := by
  rw [cutT (by decide), List.map_take]; rfl
theorem w_l_open : ∀ ds c Q X, ds.length = d_l_open.ps.length → Wfc c → p_l_open ds c Q X → wpDef I0 d_l_open.N.length d_l_open.body ds c Q X := by
  intro ds c Q X _ wf ⟨ns, k, e, h0, q⟩
  subst e
  show wpDef I0 6 b_l_open _ _ _ _
  unfold b_l_open
  walk_at "fw"
  rw [take_map63]
  refine comp_map D.int (fun x => D.int (if x < 0 then -x else x)) trivial (by rw [List.length_take]; omega) (fun x _ K k => ?_) ?_
  · walk_at "fw"
    exact k
  generalize hcs : (ns.take 63).map (fun x => if x < 0 then -x else x) = cs
  have ecs : (ns.take 63).map (fun x => D.int (if x < 0 then -x else x)) = cs.map D.int := by rw [← hcs, List.map_map]; rfl
  have hl : cs.length ≤ 63 := by rw [← hcs, List.length_map, List.length_take]; omega
  rw [ecs]
  walk_at "fn"
  refine b_eq_ip (.lst _) (.lst []) rfl rfl (show D.ipL 63 _ = true from D.ipL_ints) rfl fun r hr => ?_
  rw [map_int_nil] at hr
  walk_at "fw"
  rw [show ([D.int 0] : List D) = ([0] : List Int).map D.int from rfl]
  refine sIf_join (K := fun cs : List Int => KS _ _ _ _ _ [_, _, some (.lst (cs.map D.int)), _, _, _] _) ?_
  have hne : (if r = true then [0] else cs) ≠ [] := by
    cases r with
    | true => simp
    | false => simpa using hr
  have hl2 : (if r = true then [0] else cs).length ≤ 63 := by cases r <;> simp [hl]
  generalize (if r = true then [0] else cs) = zs at hne hl2
  have hz : 0 < (zs.length : Int) := by
    have := List.length_pos_iff.mpr hne
    omega
  have h1 := Int.emod_nonneg k (show (zs.length : Int) ≠ 0 by omega)
  have h2 := Int.emod_lt_of_pos k hz
  have fin : ∀ d, KS I0 (.cons (.ret (.lst true (.cons (.var 4) (.cons (.bin .add false (.lit (.int 1)) (.bin .mul false (.lit (.int 101)) (.var 1))) (.cons (.bin .add false (.slc false (.var 2) (.cons (.var 3) .nil) .nil) (.slc false (.var 2) .nil (.cons (.var 3) .nil))) .nil))))) .nil) c.length
      ⟨fun x c' => Ret I0.flds c.length Q .non c', fun d c' => Ret I0.flds c.length Q d c', fun x x_1 => False, fun x x_1 => False⟩ (fun k fs x c' => clean I0.flds c.length c' fun f c'' => X k (List.map f fs) c'')
      [some (.scr (ns.map D.int)), some (.int k), some (.lst (zs.map D.int)), some (.int (k % zs.length)), some (.int d), none] c := fun d => by
    walk_at "fn"
    rw [cutT h1, cutDr h1, ← List.map_drop, ← List.map_take, ← List.map_append]
    walk_at "fd"
    refine ⟨by simp only [List.length_map, List.length_drop, List.length_take]; omega, ret_same (q ⟨d, 1 + 101 * k, zs.drop (k % zs.length).toNat ++ zs.take (k % zs.length).toNat, ?_⟩)⟩
    intro z
    have := congrArg List.length z
    simp only [List.length_append, List.length_drop, List.length_take, List.length_nil] at this
    omega
  walk_at "fn"
  refine ⟨hz, ?_⟩
  walk_at "fn"
  walk_at "fn"
  refine idx_ints h1 h2 fun z hz => ?_
  walk_at "fw"
  walk_at "fd"
  split
  · split
    · refine idx_ints h1 h2 fun z hz => ?_
      walk_at "fw"
      exact fin _
    · exact fin _
  · exact fin _
theorem draw_ok {n : Nat} {h : Hand} {m : Int} {c : Cs} {Q : QE} {X : QX} (hc : c[n]? = some h.c) (h0 : 0 < m) (hb : m < 2 ^ 400) (k : ∀ r (h' : Hand), 0 ≤ r → r < m → Q (.int r) (c.set n h'.c)) : I0.phi i_l_draw [.cell n, .int m] c Q X :=
  ⟨n, h, m, rfl, hc, h0, small_bd (by omega) hb (by decide), k⟩
theorem dr_ok {n : Nat} {h : Hand} {m : Int} {c : Cs} {Q : QE} {X : QX} (hc : c[n]? = some h.c) (h0 : 0 < m) (hb : m < 1000000000000000000) (k : ∀ r (h' : Hand), 0 ≤ r → r < m → Q (.int r) (c.set n h'.c)) : I0.phi i_l_draw [.cell n, .int m] c Q X :=
  draw_ok hc h0 (Int.lt_trans hb (by decide)) k
theorem w_l_far : ∀ ds c Q X, ds.length = d_l_far.ps.length → Wfc c → p_l_far ds c Q X → wpDef I0 d_l_far.N.length d_l_far.body ds c Q X := by
  intro ds c Q X _ wf ⟨n, h, many, e, hc, h0, hb, k⟩
  subst e
  have hn := lt_of_get hc
  show wpDef I0 4 b_l_far _ _ _ _
  unfold b_l_far
  walk_at "fh"
  walk_at "fm"
  refine ⟨by unfold small; decide, ?_⟩
  refine for_rng (fun i e c' => ∃ (h : Hand) (t : Int) (o : Option D), e = [some (.cell n), some (.int many), some (.int t), o] ∧ c' = c.set n h.c) ⟨h, 0, none, rfl, ?_⟩ ?_ ?_
  · exact (set_self hc).symm
  · rintro i e c' _ ⟨h1, t, o, rfl, rfl⟩ E' hnx _ _ _
    walk_at "fh"
    walk_at "fd"
    refine ⟨n, h1, 1000003, rfl, set_get hn, by decide, by decide, fun r h2 r0 r1 => ?_⟩
    walk_at "fh"
    exact hnx _ _ (clean_0 (by simp) ⟨h2, _, _, rfl, rfl⟩)
  · rintro e c' ⟨h1, t, o, rfl, rfl⟩
    walk_at "fn"
    exact ⟨h0, ret_same (k _ h1 (Int.emod_nonneg _ (by omega)) (Int.emod_lt_of_pos _ h0))⟩
theorem fr_ok {n : Nat} {h : Hand} {m : Int} {c : Cs} {Q : QE} {X : QX} (hc : c[n]? = some h.c) (h0 : 0 < m) (hb : m < 1000000000000000000) (k : ∀ r (h' : Hand), 0 ≤ r → r < m → Q (.int r) (c.set n h'.c)) : I0.phi i_l_far [.cell n, .int m] c Q X :=
  ⟨n, h, m, rfl, hc, h0, small_bd (k := 400) (by omega) (Int.lt_trans hb (by decide)) (by decide), k⟩
/-- the store c but for the hand at n, and new cells without cells within -/
def Sh (c : Cs) (n : Nat) (h : Hand) (c' : Cs) : Prop := n < c.length ∧ ∃ ys : Cs, c' = c.set n h.c ++ ys ∧ ∀ y ∈ ys, y.nc = true ∧ (y.fz I0.flds).isSome = true
theorem Sh.start {c : Cs} {n : Nat} {h : Hand} (hc : c[n]? = some h.c) : Sh c n h c := ⟨lt_of_get hc, [], by rw [set_self hc, List.append_nil], fun _ h => (by cases h)⟩
theorem Sh.get {c c' : Cs} {n : Nat} {h : Hand} (s : Sh c n h c') : c'[n]? = some h.c := by
  obtain ⟨hn, ys, rfl, _⟩ := s
  exact get_app hn
theorem Sh.len {c c' : Cs} {n : Nat} {h : Hand} (s : Sh c n h c') : c.length ≤ c'.length := by
  obtain ⟨hn, ys, rfl, _⟩ := s
  simp
theorem Sh.put {c c' : Cs} {n : Nat} {h : Hand} (s : Sh c n h c') (h' : Hand) : Sh c n h' (c'.set n h'.c) := by
  obtain ⟨hn, ys, rfl, hy⟩ := s
  refine ⟨hn, ys, ?_, hy⟩
  rw [app_setL (by simpa using hn), List.set_set]
theorem Sh.setK {c c' : Cs} {n k : Nat} {h : Hand} {y : Cont} (s : Sh c n h c') (hk : c.length ≤ k) (hy : y.nc = true ∧ (y.fz I0.flds).isSome = true) : Sh c n h (c'.set k y) := by
  obtain ⟨hn, ys, rfl, hys⟩ := s
  refine ⟨hn, ys.set (k - c.length) y, ?_, fun z hz => ?_⟩
  · rw [List.set_append_right _ _ (by simpa using hk), List.length_set]
  · rcases List.mem_or_eq_of_mem_set hz with hz | rfl
    · exact hys z hz
    · exact hy
theorem Sh.app {c c' : Cs} {n : Nat} {h : Hand} {y : Cont} (s : Sh c n h c') (hy : y.nc = true ∧ (y.fz I0.flds).isSome = true) : Sh c n h (c' ++ [y]) := by
  obtain ⟨hn, ys, rfl, hys⟩ := s
  refine ⟨hn, ys ++ [y], by rw [List.append_assoc], fun z hz => ?_⟩
  rcases List.mem_append.mp hz with hz | hz
  · exact hys z hz
  · have : z = y := by simpa using hz
    subst this; exact hy
theorem ints_nc {xs : List Int} : (Cont.lst (xs.map D.int)).nc = true ∧ ((Cont.lst (xs.map D.int)).fz I0.flds).isSome = true := ⟨D.ncL_map (fun _ => rfl), rfl⟩
theorem sh_draw {c c' : Cs} {n : Nat} {h : Hand} {m : Int} {Q : QE} {X : QX} (s : Sh c n h c') (h0 : 0 < m) (hb : m < 1000000000000000000)
    (k : ∀ r (h' : Hand) c2, Sh c n h' c2 → (∀ j, j ≠ n → c2[j]? = c'[j]?) → c2.length = c'.length → 0 ≤ r → r < m → Q (.int r) c2) : I0.phi i_l_draw [.cell n, .int m] c' Q X :=
  dr_ok s.get h0 hb fun r h' r0 r1 => k r h' _ (s.put h') (fun j hj => List.getElem?_set_ne (Ne.symm hj)) (by simp) r0 r1
theorem Sh.ret {c c' : Cs} {n k : Nat} {h : Hand} {xs : List D} {Q : QE} (s : Sh c n h c') (wf : Wfc c) (hk : c.length ≤ k) (hc : c'[k]? = some (.lst xs)) (q : Q (.lst xs) (c.set n h.c)) : Ret I0.flds c.length Q (.cell k) c' := by
  obtain ⟨hn, ys, rfl, hys⟩ := s
  refine ret_ncsN (by simp) (wf.set h.nc) hys ?_
  have e : cleanR I0.flds c.length ys k = .lst xs := by
    obtain ⟨j, rfl⟩ : ∃ j, k = c.length + j := ⟨k - c.length, by omega⟩
    refine cleanR_ge (y := .lst xs) ?_ rfl
    rw [List.getElem?_append_right (by simp), List.length_set, Nat.add_sub_cancel_left] at hc
    exact hc
  show Q (cleanR I0.flds c.length ys k) _
  rw [e]; exact q
theorem w_l_raised : ∀ ds c Q X, ds.length = d_l_raised.ps.length → Wfc c → p_l_raised ds c Q X → wpDef I0 d_l_raised.N.length d_l_raised.body ds c Q X := by
  intro ds c Q X _ wf ⟨k, z, e, hk, q⟩
  subst e
  show wpDef I0 2 b_l_raised _ _ _ _
  unfold b_l_raised
  walk_at "fw"
  match k, hk, q with
  | 0, _, q =>
    walk_at "fw"
    exact clean_0 rfl q
  | 1, _, q =>
    walk_at "fw"
    walk_at "fn"
    exact clean_0 rfl q
  | 2, _, q =>
    walk_at "fw"
    walk_at "fn"
    walk_at "fn"
    exact clean_0 rfl q
  | 3, _, q =>
    walk_at "fw"
    walk_at "fn"
    walk_at "fn"
    walk_at "fn"
    trace_state
    exact clean_0 rfl q
  | 4, _, q =>
    walk_at "fw"
    walk_at "fn"
    walk_at "fn"
    walk_at "fn"
    walk_at "fn"
    exact clean_0 rfl q
  | 5, _, q =>
    walk_at "fw"
    walk_at "fn"
    walk_at "fn"
    walk_at "fn"
    walk_at "fn"
    walk_at "fn"
    exact clean_0 rfl q
theorem w_l_kinds : ∀ ds c Q X, ds.length = d_l_kinds.ps.length → Wfc c → p_l_kinds ds c Q X → wpDef I0 d_l_kinds.N.length d_l_kinds.body ds c Q X := by
  intro ds c Q X _ wf ⟨k, z, e, hk, q⟩
  subst e
  show wpDef I0 4 b_l_kinds _ _ _ _
  unfold b_l_kinds
  walk_at "fw"
  refine ⟨k, z, rfl, hk, ?_⟩
  match k, hk, q with
  | 0, _, q => exact And.intro ⟨by decide, by show 2 < 4; decide⟩ (ret_same q)
  | 1, _, q => exact And.intro ⟨by decide, by show 2 < 4; decide⟩ (ret_same q)
  | 2, _, q => exact And.intro ⟨by decide, by show 2 < 4; decide⟩ (ret_same q)
  | 3, _, q => exact And.intro ⟨by decide, by show 2 < 4; decide⟩ (ret_same q)
  | 4, _, q => exact And.intro ⟨by decide, by show 2 < 4; decide⟩ (ret_same q)
  | 5, _, q => exact And.intro ⟨by decide, by show 2 < 4; decide⟩ (ret_same q)
theorem w_l_number : ∀ ds c Q X, ds.length = d_l_number.ps.length → Wfc c → p_l_number ds c Q X → wpDef I0 d_l_number.N.length d_l_number.body ds c Q X := by
  intro ds c Q X _ wf ⟨k, z, e, hk, q⟩
  subst e
  show wpDef I0 3 b_l_number _ _ _ _
  unfold b_l_number
  walk_at "fw"
  refine ⟨k, z, rfl, hk, ?_⟩
  have ok : ∀ i, some 2 = some i → i < [some (D.int k), some (D.int z), none].length := fun i hi => by cases hi; exact (by decide : 2 < 3)
  have no : ∀ i, (none : Option Nat) = some i → i < [some (D.int k), some (D.int z), none].length := fun i hi => nomatch hi
  match k, hk, q, ok, no with
  | 0, _, q, ok, no => exact And.intro (by decide) (And.intro ok (ret_same q))
  | 1, _, q, ok, no => exact And.intro (by decide) (And.intro ok (And.intro ok (ret_same q)))
  | 2, _, q, ok, no => exact And.intro (by decide) (And.intro ok (And.intro ok (And.intro ok (ret_same q))))
  | 3, _, q, ok, no => exact And.intro (by decide) (And.intro ok (And.intro ok (And.intro ok (And.intro no (ret_same q)))))
  | 4, _, q, ok, no => exact And.intro (by decide) (And.intro ok (And.intro ok (And.intro ok (And.intro no (ret_same q)))))
  | 5, _, q, ok, no => exact And.intro (by decide) (And.intro ok (And.intro ok (And.intro ok (And.intro no (ret_same q)))))
theorem w_law : ∀ ds c Q X, ds.length = d_law.ps.length → Wfc c → p_law ds c Q X → wpDef I0 d_law.N.length d_law.body ds c Q X := by
  intro ds c Q X _ wf ⟨ns, e, hl, q⟩
  subst e
  show wpDef I0 7 b_law _ _ _ _
  unfold b_law
  walk_at "fw"
  refine ⟨ns, 0, rfl, by omega, fun h => ?_⟩
  walk_at "fn"
  refine ⟨by unfold small; decide, ?_⟩
  refine for_rng (fun i e c' => ∃ (h : Hand) (o2 o3 o4 o5 o6 : Option D), e = [some (.scr (ns.map D.int)), some (.cell c.length), o2, o3, o4, o5, o6] ∧ c' = c ++ [h.c]) ⟨h, none, none, none, none, none, rfl, rfl⟩ ?_ ?_
  · rintro i e c' hi ⟨h, o2, o3, o4, o5, o6, rfl, rfl⟩ E' hnx _ _ _
    have hi6 : i < 6 := hi
    walk_at "fw"
    walk_at "fd"
    simp only [Int.zero_add]
    have fin : ∀ (h : Hand) (z : Int), KS I0 r_law_5 (c.length + 1) E'
              (fun k fs x c' => clean I0.flds (List.length c) c' fun f c'' => X k (List.map f fs) c'')
              [some (D.scr (List.map D.int ns)), some (D.cell (List.length c)), some (D.int (↑i)), some (D.int z), o4, o5,
                o6] (c ++ [h.c]) := by
      intro h z
      walk_at "fn"
      refine ⟨i, z, rfl, hi6, ?_⟩
      walk_at "fw"
      refine ⟨by unfold small; decide, ?_⟩
      rw [show rngL 0 (Int.toNat 6) = [(0 : Int), 1, 2, 3, 4, 5].map D.int from rfl]
      refine F.comp_mapN D.int (fun j => D.bl (decide (j = (i : Int)))) trivial (by simp) (by simp) (fun x hx K k => k) ?_
      refine ⟨by simp, ?_⟩
      refine neV_eqD (r := false) ?_ ?_
      · match i, hi6 with
        | 0, _ => rfl
        | 1, _ => rfl
        | 2, _ => rfl
        | 3, _ => rfl
        | 4, _ => rfl
        | 5, _ => rfl
      walk_at "fw"
      walk_at "fn"
      refine ⟨i, z, rfl, hi6, ?_⟩
      walk_at "fw"
      walk_at "fn"
      obtain ⟨zs, ez, ec, el⟩ : ∃ zs : List Int, fx i z = zs.map D.int ∧ cutD [D.int z] none (some (if decide ((i : Int) < 3) = true then 1 else 0)) = zs.map D.int ∧ zs.length ≤ 1 := by
        by_cases h3 : i < 3
        · refine ⟨[z], by unfold fx; rw [if_pos h3]; rfl, ?_, by simp⟩
          rw [if_pos (decide_eq_true (by omega))]
          exact cut_take (n := 1)
        · refine ⟨[], by unfold fx; rw [if_neg h3]; rfl, ?_, by simp⟩
          rw [if_neg (by rw [decide_eq_false (by omega)]; decide)]
          exact cut_take (n := 0)
      rw [ez, ec]
      refine b_ne_ip _ _ view_lst view_lst (show D.ipL 63 _ = true from D.ipL_ints) (show D.ipL 63 _ = true from D.ipL_ints) fun r hr => ?_
      have hr1 : r = true := hr.mpr rfl
      subst hr1
      walk_at "fw"
      refine F.comp_mapN D.int (fun j => D.bl false) trivial (by simp) (by omega) (fun x hx K k => ⟨rfl, k⟩) ?_
      rw [show (zs.map fun _ => D.bl false) = (zs.map fun _ => false).map D.bl by rw [List.map_map]; rfl]
      walk_at "fw"
      rw [show (zs.map fun _ => false).any id = false by rw [List.any_map]; exact List.any_eq_false.mpr (fun _ _ h => Bool.false_ne_true h)]
      rw [sIf_false]
      exact hnx _ _ (clean_0 (by simp) ⟨h, _, _, _, _, _, by rw [map_id_en], rfl⟩)
    refine ⟨_, h, _, rfl, app_get0, by decide, by decide +kernel, fun r h1 r0 r1 => ?_⟩
    rw [app_set0]
    refine ⟨by decide, ?_⟩
    walk_at "fw"
    generalize r - 10 ^ Int.toNat 60 + 1 = z
    walk_at "fn"
    refine dr_ok app_get0 (by decide) (by decide) fun r2 h2 r20 r21 => ?_
    rw [app_set0]
    walk_at "fw"
    split
    · refine dr_ok app_get0 (by decide) (by decide) fun r3 h3 r30 r31 => ?_
      rw [app_set0]
      walk_at "fw"
      exact fin h3 _
    · exact fin h2 z
  · rintro e c' ⟨h, o2, o3, o4, o5, o6, rfl, rfl⟩
    walk_at "fn"
    exact ret_1 wf h.nc rfl q
theorem law_true (ns : List Int) (hl : ns.length ≤ 63) : phi 6 [.scr (ns.map D.int)] [] (fun d _ => d = .bl true) (fun _ _ _ => False) := ⟨ns, rfl, hl, rfl⟩
end Lw
namespace Lw
open PySem F L2
theorem D_l_open : DefOk tab phi 0 d_l_open := ⟨⟨rfl, rfl, rfl, by decide +kernel, rfl, by decide +kernel, by decide +kernel⟩, by decide +kernel, (fun _ _ _ _ _ _ us hl => match us, hl with | [_, _], _ => rfl), w_l_open⟩
theorem D_l_raised : DefOk tab phi 1 d_l_raised := ⟨⟨rfl, rfl, rfl, by decide +kernel, rfl, by decide +kernel, by decide +kernel⟩, by decide +kernel, (fun _ _ _ _ _ _ us hl => match us, hl with | [_, _], _ => rfl), w_l_raised⟩
theorem D_l_number : DefOk tab phi 2 d_l_number := ⟨⟨rfl, rfl, rfl, by decide +kernel, rfl, by decide +kernel, by decide +kernel⟩, by decide +kernel, (fun _ _ _ _ _ _ us hl => match us, hl with | [_, _], _ => rfl), w_l_number⟩
theorem D_l_draw : DefOk tab phi 3 d_l_draw := ⟨⟨rfl, rfl, rfl, by decide +kernel, rfl, by decide +kernel, by decide +kernel⟩, by decide +kernel, (fun _ _ _ _ _ _ us hl => match us, hl with | [_, _], _ => rfl), w_l_draw⟩
theorem D_l_kinds : DefOk tab phi 4 d_l_kinds := ⟨⟨rfl, rfl, rfl, by decide +kernel, rfl, by decide +kernel, by decide +kernel⟩, by decide +kernel, (fun _ _ _ _ _ _ us hl => match us, hl with | [_, _], _ => rfl), w_l_kinds⟩
theorem D_l_far : DefOk tab phi 5 d_l_far := ⟨⟨rfl, rfl, rfl, by decide +kernel, rfl, by decide +kernel, by decide +kernel⟩, by decide +kernel, (fun _ _ _ _ _ _ us hl => match us, hl with | [_, _], _ => rfl), w_l_far⟩
theorem D_law : DefOk tab phi 6 d_law := ⟨⟨rfl, rfl, rfl, by decide +kernel, rfl, by decide +kernel, by decide +kernel⟩, by decide +kernel, (fun _ _ _ _ _ _ us hl => match us, hl with | [_], _ => rfl), w_law⟩
theorem all_defs : ∀ (i : Nat) (d : DefT), tab.defs[i]? = some d → DefOk tab phi i d := fun i d h => by
  have hi : i < 7 := (List.getElem?_eq_some_iff.mp h).1
  match i, hi, h with
  | 0, _, h => cases h; exact D_l_open
  | 1, _, h => cases h; exact D_l_raised
  | 2, _, h => cases h; exact D_l_number
  | 3, _, h => cases h; exact D_l_draw
  | 4, _, h => cases h; exact D_l_kinds
  | 5, _, h => cases h; exact D_l_far
  | 6, _, h => cases h; exact D_law
  | i + 7, hi, _ => exact absurd hi (by omega)
theorem all_excs : ∀ e ∈ tab.excs, e.has = true → ExIni e := fun e he hh => by
  rcases List.mem_cons.mp he with rfl | he
  · exact absurd hh (by decide)
  rcases List.mem_cons.mp he with rfl | he
  · exact ⟨⟨rfl, rfl, rfl, by decide +kernel, rfl, by decide +kernel, by decide +kernel⟩, (fun _ _ _ _ _ _ us hl => match us, hl with | [_, _], _ => rfl), (fun f h => by cases h; decide +kernel), rfl, ⟨rfl, rfl⟩, ⟨.inl rfl, .inl rfl⟩⟩
  rcases List.mem_cons.mp he with rfl | he
  · exact ⟨⟨rfl, rfl, rfl, by decide +kernel, rfl, by decide +kernel, by decide +kernel⟩, (fun _ _ _ _ _ _ us hl => match us, hl with | [_, _], _ => rfl), (fun f h => by cases h; decide +kernel), rfl, ⟨rfl, rfl⟩, ⟨.inl rfl, .inl rfl⟩⟩
  rcases List.mem_cons.mp he with rfl | he
  · exact ⟨⟨rfl, rfl, rfl, by decide +kernel, rfl, by decide +kernel, by decide +kernel⟩, (fun _ _ _ _ _ _ us hl => match us, hl with | [_, _], _ => rfl), (fun f h => by cases h; decide +kernel), rfl, ⟨rfl, rfl⟩, ⟨.inl rfl, .inl rfl⟩⟩
  rcases List.mem_cons.mp he with rfl | he
  · exact absurd hh (by decide)
  rcases List.mem_cons.mp he with rfl | he
  · exact absurd hh (by decide)
  rcases List.mem_cons.mp he with rfl | he
  · exact absurd hh (by decide)
  cases he
end Lw
open PySem PySem.W PySem.Calls PyProof.Rows
set_option maxHeartbeats 0 in
theorem PySem.Challenge.cw_stintwise_k19_refusals_apart_holds : PySem.Challenge.rw_stintwise_k19_refusals_apart.Holds := by
  w_on; o_law
  refine HandSHeadRun.head_any (r := Lw.R) (q := view Lw.R.prog [15]) (H := F.hookT 5 Lw.tab) (ob := F.obT 5 Lw.tab) (M := 3600) (loose := Lw.nms) (d := HandSHeadRun.topDef Lw.R.prog 15) (kwd := []) (F.obT_eq 5 Lw.tab)
    (by kernel_rfl) (fun s => by kernel_rfl) Lw.run (by kernel_rfl) (by kernel_rfl) (by kernel_rfl) (by rfl) (by first | assumption | decide +kernel) (by decide +kernel) ⟨rfl, rfl, rfl, rfl, rfl, by decide +kernel⟩ ?hw ?hc
  case hw => w_witness2
  case hc =>
    refine F.law_end (l := PySem.Challenge.rw_stintwise_k19_refusals_apart) (n := 63) (k := 14) (x := "_law_script") rfl (by decide) (by kernel_rfl) ⟨rfl, by decide, by decide⟩ ?_
    intro w mg fa h Y G hm0
    obtain ⟨K, KX, c⟩ := Y
    have hm : mg ("law" : PySem.Str) = some (.ref fa) := by
      have e : (HandSHeadRun.topDef Lw.R.prog 15).name = ("law" : PySem.Str) := by kernel_rfl
      rw [← e]; exact hm0
    obtain ⟨fd, hb, hF⟩ := F.law_fd (w := w) (T := Lw.tab) (phi := Lw.phi) (f := 6) (x := "_law_script") KX G c (by decide +kernel) Lw.all_defs Lw.all_excs (d := Lw.d_law) rfl rfl rfl hm
    exact ⟨K, fd, F.spF (F.T_gi Lw.tab K mg w) 1 (Lw.phi 6), ⟨KX, hb⟩, fun H a ns hl only sq => F.script_ok only sq (Lw.law_true ns hl), fun base => hF _ base⟩
